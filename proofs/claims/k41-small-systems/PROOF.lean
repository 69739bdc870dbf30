import PyProof.Rows.All
import HandS.ForMost
import HandS.Evl
import HandS.Deep
import HandS.Nested
import HandS.AnyAll
import HandS.IsInst
import HandS.Wide
import HandS.TupSets
import KE.KDictKeyed
import KE.SortData
import HandS.SetBool
import HandS.Dict
import HandS.SetKeys
import HandS.Conv
import HandS.DictComp
import HandS.OwnEq
import HandS.TupLen
import HandS.TupLe
import HandS.EndTab
import PySem.Challenge.RW_parley_k41_small_systems
set_option Elab.async false
set_option autoImplicit false
set_option linter.all false
set_option maxRecDepth 100000
set_option maxHeartbeats 4000000
/-! Pl: a Hoare logic over HandS. A world is a pair (F, H): H what is tracked, F its frozen part (data that no one changes any more). -/
namespace Pl
open PySem L2
open GxR (TabG Tabbed)
open LamX (ExtN TabS CodeO)
open NdefX (NTab TabN TabsN NF FnO)

abbrev Ex := Evl.Ex
abbrev PD := PyData

/-! ### data -/
mutual
theorem dp_mono {K : PySem.W.Frag} {F F' : Hp} (e : Ex F F') : ∀ {v : V} {d : PD}, Dp K F v d → Dp K F' v d
  | _, _, .non => .non
  | _, _, .bl b => .bl b
  | _, _, .int i => .int i
  | _, _, .str x => .str x
  | _, _, .lst h a => .lst (Evl.ex_l e h) (dpAll_mono e a)
  | _, _, .tup h a => .tup (Evl.ex_t e h) (dpAll_mono e a)
theorem dpAll_mono {K : PySem.W.Frag} {F F' : Hp} (e : Ex F F') : ∀ {vs : List V} {ds : List PD}, DpAll K F vs ds → DpAll K F' vs ds
  | _, _, .nil => .nil
  | _, _, .cons h t => .cons (dp_mono e h) (dpAll_mono e t)
end
section
variable {K : PySem.W.Frag} {F : Hp} {vs ws : List V} {ds es : List PD} {v : V} {d : PD}
theorem dpAll_length : ∀ {vs : List V} {ds : List PD}, DpAll K F vs ds → vs.length = ds.length
  | _, _, .nil => rfl
  | _, _, .cons _ t => congrArg (· + 1) (dpAll_length t)
theorem dpAll_get : ∀ {vs : List V} {ds : List PD} {i : Nat} {d : PD}, DpAll K F vs ds → ds[i]? = some d → ∃ v, vs[i]? = some v ∧ Dp K F v d
  | _, _, _, _, .nil, e => by simp at e
  | _, _, 0, _, .cons h t, e => ⟨_, rfl, by simpa using (show _ = _ from Option.some.inj e) ▸ h⟩
  | _, _, i + 1, _, .cons h t, e => by
    obtain ⟨v, e1, e2⟩ := dpAll_get (i := i) t (by simpa using e)
    exact ⟨v, by simpa using e1, e2⟩
theorem dpAll_append : ∀ {vs ws : List V} {ds es : List PD}, DpAll K F vs ds → DpAll K F ws es → DpAll K F (vs ++ ws) (ds ++ es)
  | _, _, _, _, .nil, b => b
  | _, _, _, _, .cons h t, b => .cons h (dpAll_append t b)
theorem dpAll_one (h : Dp K F v d) : DpAll K F [v] [d] := .cons h .nil
theorem dpAll_set : ∀ {vs : List V} {ds : List PD} (i : Nat), DpAll K F vs ds → Dp K F v d → DpAll K F (vs.set i v) (ds.set i d)
  | _, _, _, .nil, _ => .nil
  | _, _, 0, .cons h t, q => .cons q t
  | _, _, i + 1, .cons h t, q => .cons h (dpAll_set i t q)
theorem dpAll_take : ∀ {vs : List V} {ds : List PD} (i : Nat), DpAll K F vs ds → DpAll K F (vs.take i) (ds.take i)
  | _, _, 0, _ => .nil
  | _, _, _ + 1, .nil => .nil
  | _, _, i + 1, .cons h t => .cons h (dpAll_take i t)
theorem dpAll_drop : ∀ {vs : List V} {ds : List PD} (i : Nat), DpAll K F vs ds → DpAll K F (vs.drop i) (ds.drop i)
  | _, _, 0, h => h
  | _, _, _ + 1, .nil => .nil
  | _, _, i + 1, .cons h t => dpAll_drop i t
theorem dp_int {i : Int} (h : Dp K F v (.int i)) : v = .int i := by cases h; rfl
theorem dp_str {x : Str} (h : Dp K F v (.str x)) : v = .str x := by cases h; rfl
theorem dp_bl {b : Bool} (h : Dp K F v (.bool b)) : v = .bl b := by cases h; rfl
theorem dp_non (h : Dp K F v .none) : v = .non := by cases h; rfl
theorem dp_lst (h : Dp K F v (.list ds)) : ∃ a xs, v = .ref a ∧ SqL K F a xs ∧ DpAll K F xs ds := by cases h with | lst h a => exact ⟨_, _, rfl, h, a⟩
theorem dp_tup (h : Dp K F v (.tuple ds)) : ∃ a xs, v = .ref a ∧ SqT K F a xs ∧ DpAll K F xs ds := by cases h with | tup h a => exact ⟨_, _, rfl, h, a⟩
theorem dpAll_ints : ∀ {vs : List V} {ns : List Int}, DpAll K F vs (ns.map PyData.int) → vs = ns.map V.int
  | _, [], .nil => rfl
  | _, n :: ns, .cons h t => by rw [dp_int h, dpAll_ints t]; rfl
theorem dpAll_bls : ∀ {vs : List V} {ns : List Bool}, DpAll K F vs (ns.map PyData.bool) → vs = ns.map V.bl
  | _, [], .nil => rfl
  | _, n :: ns, .cons h t => by rw [dp_bl h, dpAll_bls t]; rfl
theorem dpAll_strs : ∀ {vs : List V} {ns : List Str}, DpAll K F vs (ns.map PyData.str) → vs = ns.map V.str
  | _, [], .nil => rfl
  | _, n :: ns, .cons h t => by rw [dp_str h, dpAll_strs t]; rfl
end

/-! ### predicates on a value, on an object -/
/-- what is known of a value: kept as the frozen part grows -/
structure Rp where
  p : V → Hp → Prop
  mono : ∀ {v : V} {F F' : Hp}, Ex F F' → p v F → p v F'
/-- what is known of an owned object -/
structure Ct where
  p : HO → Hp → Prop
  mono : ∀ {o : HO} {F F' : Hp}, Ex F F' → p o F → p o F'
/-- what is known of the frozen part -/
structure Fp where
  p : Hp → Prop
  mono : ∀ {F F' : Hp}, Ex F F' → p F → p F'
def isD (K : PySem.W.Frag) (d : PD) : Rp := ⟨fun v F => Dp K F v d, fun e h => dp_mono e h⟩
def isV (x : V) : Rp := ⟨fun v _ => v = x, fun _ h => h⟩
abbrev isA (a : Addr) : Rp := isV (.ref a)
def ctL (K : PySem.W.Frag) (ds : List PD) : Ct := ⟨fun o F => ∃ xs, o = .lst xs ∧ DpAll K F xs ds, fun e ⟨xs, h, q⟩ => ⟨xs, h, dpAll_mono e q⟩⟩
def ctO (o : HO) : Ct := ⟨fun u _ => u = o, fun _ h => h⟩
def fpT : Fp := ⟨fun _ => True, fun _ h => h⟩
def Fp.and (a b : Fp) : Fp := ⟨fun F => a.p F ∧ b.p F, fun e h => ⟨a.mono e h.1, b.mono e h.2⟩⟩

/-! ### worlds -/
/-- the code objects' tables that the program may grow: of generator expressions, of lambdas -/
structure Tbs where
  g : List Addr
  n : List NTab
def TabM (F H : Hp) (P : Addr) (nm : Nat → Nat → Str) : Prop := ∃ ps : Array Value, H P = some (.tbl ps) ∧ TriplesOk ps.toList ∧ ∀ (pos : Pos) (cv : Value), codeAmong pos ps.toList = some cv → ∃ c, cv = .ref c ∧ F c = some (CodeO c (nm pos.line pos.col))
def Tbs.ok (T : Tbs) (F H : Hp) : Prop := (∀ P ∈ T.g, TabG H P) ∧ ∀ p ∈ T.n, TabM F H p.1 p.2
/-- a world -/
structure Wok (T : Tbs) (F H : Hp) : Prop where
  i : Ex F H
  nt : ∀ a ps, F a ≠ some (.tbl ps)
  tb : T.ok F H
/-- from world to world, no object of H changed but tables -/
structure Le (T : Tbs) (F H F' H' : Hp) : Prop where
  f : Ex F F'
  h : ExtN H H'
  n : ∀ a, F a = none → H a ≠ none → F' a = none
  d : ∀ a, H a ≠ none → H' a ≠ none
  w : Wok T F' H'
theorem Wok.le {T : Tbs} {F H : Hp} (w : Wok T F H) : Le T F H F H := ⟨Evl.Ex.refl _, ExtN.refl _, fun _ h _ => h, fun _ h => h, w⟩
theorem Le.trans {T : Tbs} {F H F1 H1 F2 H2 : Hp} (a : Le T F H F1 H1) (b : Le T F1 H1 F2 H2) : Le T F H F2 H2 :=
  ⟨a.f.trans b.f, a.h.trans b.h, fun x h q => b.n x (a.n x h q) (a.d x q), fun x h => b.d x (a.d x h), b.w⟩
theorem tabG_ext {H H' : Hp} {P : Addr} (e : Ex H H') (t : TabG H P) : TabG H' P := let ⟨ps, h, q⟩ := t; ⟨ps, e _ _ h, q⟩
theorem tabM_ext {F F' H H' : Hp} {P : Addr} {nm : Nat → Nat → Str} (f : Ex F F') (e : Ex H H') (t : TabM F H P nm) : TabM F' H' P nm := let ⟨ps, h, q, r⟩ := t; ⟨ps, e _ _ h, q, fun pos cv hc => let ⟨c, e1, e2⟩ := r pos cv hc; ⟨c, e1, f _ _ e2⟩⟩
theorem Tbs.ok_ext {T : Tbs} {F F' H H' : Hp} (f : Ex F F') (e : Ex H H') (t : T.ok F H) : T.ok F' H' := ⟨fun P hP => tabG_ext e (t.1 P hP), fun p hp => tabM_ext f e (t.2 p hp)⟩
theorem TabM.n {F H : Hp} {P : Addr} {nm : Nat → Nat → Str} (i : Ex F H) (t : TabM F H P nm) : TabN H P nm := let ⟨ps, h, q, r⟩ := t; ⟨ps, h, q, fun pos cv hc => let ⟨c, e1, e2⟩ := r pos cv hc; ⟨c, e1, i _ _ e2⟩⟩
theorem ex_ne {H H' : Hp} (e : Ex H H') {a : Addr} (h : H a ≠ none) : H' a ≠ none := by
  cases q : H a with
  | none => exact absurd q h
  | some o => rw [e a o q]; exact fun z => by cases z
theorem extN_ne {H H' : Hp} (e : ExtN H H') {a : Addr} {o : HO} (h : H a = some o) (n : ∀ ps, o ≠ .tbl ps) : H' a = some o := e a o h n
/-- no table among the new: H may only grow -/
theorem Le.of {T : Tbs} {F H F' H' : Hp} (w : Wok T F H) (f : Ex F F') (h : Ex H H') (n : ∀ a, F a = none → H a ≠ none → F' a = none) (i : Ex F' H') (nt : ∀ a ps, F' a ≠ some (.tbl ps)) : Le T F H F' H' :=
  ⟨f, ExtN.of h, n, fun _ q => ex_ne h q, ⟨i, nt, Tbs.ok_ext f h w.tb⟩⟩
theorem ex_upd {F H : Hp} {p : Addr} {o : HO} (e : Ex F H) : Ex (upd F p o) (upd H p o) := fun a u h => by
  by_cases ha : a = p
  · subst ha; rw [upd_same] at h ⊢; exact h
  · rw [upd_ne ha] at h ⊢; exact e a u h
theorem wok_none {T : Tbs} {F H : Hp} (w : Wok T F H) {p : Addr} (h : H p = none) : F p = none := Evl.fresh_back w.i h
/-- a new object, frozen at once -/
theorem Le.new {T : Tbs} {F H : Hp} (w : Wok T F H) {p : Addr} {o : HO} (hp : H p = none) (ho : ∀ ps, o ≠ .tbl ps) : Le T F H (upd F p o) (upd H p o) :=
  .of w (Evl.Ex.new (wok_none w hp)) (Evl.Ex.new hp) (fun a h q => by rw [upd_ne (fun z : a = p => q (by rw [z]; exact hp))]; exact h) (ex_upd w.i) fun a ps => by
    by_cases ha : a = p
    · subst ha; rw [upd_same]; intro z; exact ho ps (Option.some.inj z)
    · rw [upd_ne ha]; exact w.nt a ps
/-- a new object, not frozen -/
theorem Le.newH {T : Tbs} {F H : Hp} (w : Wok T F H) {p : Addr} {o : HO} (hp : H p = none) : Le T F H F (upd H p o) :=
  .of w (Evl.Ex.refl _) (Evl.Ex.new hp) (fun a h _ => h) (w.i.trans (Evl.Ex.new hp)) w.nt
/-- an object that stood unfrozen is frozen -/
theorem Wok.frz {T : Tbs} {F H : Hp} (w : Wok T F H) {p : Addr} {o : HO} (hF : F p = none) (hp : H p = some o) (ho : ∀ ps, o ≠ .tbl ps) : Wok T (upd F p o) H :=
  ⟨fun a u h => by
    by_cases ha : a = p
    · subst ha; rw [upd_same] at h; rw [hp]; exact h
    · rw [upd_ne ha] at h; exact w.i a u h, fun a ps => by
    by_cases ha : a = p
    · subst ha; rw [upd_same]; intro z; exact ho ps (Option.some.inj z)
    · rw [upd_ne ha]; exact w.nt a ps, Tbs.ok_ext (Evl.Ex.new hF) (Evl.Ex.refl H) w.tb⟩
theorem lst_nt (xs : List V) (ps : Array Value) : HO.lst xs ≠ .tbl ps := fun z => by cases z
theorem tup_nt (xs : List V) (ps : Array Value) : HO.tup xs ≠ .tbl ps := fun z => by cases z
theorem dK_nt (xs : List (Key × V)) (ps : Array Value) : HO.dK xs ≠ .tbl ps := fun z => by cases z

/-! ### contexts -/
structure Cn where
  T : Tbs
  enF : Hp
  enH : Hp
  ff : Fp
  sl : List (Option Rp)
  os : List (Addr × Ct)
structure Cn.ok (C : Cn) (σ : St) (F H : Hp) : Prop where
  w : Wok C.T F H
  len : σ.length = C.sl.length
  sl : ∀ (i : Nat) (R : Rp), C.sl[i]? = some (some R) → ∃ v, σ[i]? = some (some v) ∧ R.p v F
  os : ∀ q ∈ C.os, F q.1 = none ∧ C.enH q.1 = none ∧ ∃ o, H q.1 = some o ∧ (∀ ps, o ≠ .tbl ps) ∧ q.2.p o F
  nd : (C.os.map Prod.fst).Nodup
  ff : C.ff.p F
  en : Le C.T C.enF C.enH F H
theorem Cn.ok.le {C : Cn} {σ : St} {F H F' H' : Hp} (c : C.ok σ F H) (l : Le C.T F H F' H') : C.ok σ F' H' where
  w := l.w
  len := c.len
  sl := fun i R e => let ⟨v, h, q⟩ := c.sl i R e; ⟨v, h, R.mono l.f q⟩
  os := fun q hq => by
    obtain ⟨h1, h2, o, h3, h4, h5⟩ := c.os q hq
    exact ⟨l.n _ h1 (by rw [h3]; intro z; cases z), h2, o, l.h _ _ h3 h4, h4, q.2.mono l.f h5⟩
  nd := c.nd
  ff := C.ff.mono l.f c.ff
  en := c.en.trans l
/-- .. of a context as an assertion -/
def Cn.at (C : Cn) : St → Hp → Prop := fun σ H => ∃ F, C.ok σ F H
def Cn.set (C : Cn) (i : Nat) (R : Rp) : Cn := { C with sl := C.sl.set i (some R) }
def Cn.to (C : Cn) (sl : List (Option Rp)) (os : List (Addr × Ct)) : Cn := { C with sl := sl, os := os }
def Cn.plus (C : Cn) (f : Fp) : Cn := { C with ff := C.ff.and f }
theorem Cn.ok.set {C : Cn} {σ : St} {F H : Hp} (c : C.ok σ F H) {i : Nat} {R : Rp} {v : V} (hi : i < C.sl.length) (h : R.p v F) : (C.set i R).ok (σ.set i (some v)) F H where
  w := c.w
  len := by
    show (σ.set i (some v)).length = (C.sl.set i (some R)).length
    rw [List.length_set, List.length_set]; exact c.len
  sl := fun j R' e => by
    have e : (C.sl.set i (some R))[j]? = some (some R') := e
    by_cases hj : i = j
    · subst hj
      rw [List.getElem?_set_self hi] at e
      cases e
      exact ⟨v, List.getElem?_set_self (by rw [c.len]; exact hi), h⟩
    · rw [List.getElem?_set_ne hj] at e ⊢
      exact c.sl j R' e
  os := c.os
  nd := c.nd
  ff := c.ff
  en := c.en

/-! ### judgements -/
theorem PE.of {X : Cx} {e : Expr} {t t' : TE} (h : PE X e t) (k : ∀ σ H Q, t' σ H Q → t σ H Q) : PE X e t' := ⟨fun pins s σ H Q I q => h.run pins s σ H Q I (k σ H Q q)⟩
theorem PT.of {X : Cx} {e : Expr} {t t' : TT} (h : PT X e t) (k : ∀ σ H Q, t' σ H Q → t σ H Q) : PT X e t' := ⟨fun pins s σ H Q I q => h.run pins s σ H Q I (k σ H Q q)⟩
theorem PA.of {X : Cx} {e : List Expr} {t t' : TA} (h : PA X e t) (k : ∀ σ H Q, t' σ H Q → t σ H Q) : PA X e t' := ⟨fun pos pins s σ H Q I q => h.run pos pins s σ H Q I (k σ H Q q)⟩
theorem PS.of {X : Cx} {e : Stmt} {t t' : TS} (h : PS X e t) (k : ∀ D σ H, t' D σ H → t D σ H) : PS X e t' := ⟨fun pins s σ H Q I q => h.run pins s σ H Q I (k Q σ H q)⟩
theorem PSs.of {X : Cx} {e : List Stmt} {t t' : TS} (h : PSs X e t) (k : ∀ D σ H, t' D σ H → t D σ H) : PSs X e t' := ⟨fun pins s σ H Q I q => h.run pins s σ H Q I (k Q σ H q)⟩
def tE (C : Cn) (R : Rp) : TE := fun σ H Q => ∃ F, C.ok σ F H ∧ ∀ v F' H', Le C.T F H F' H' → R.p v F' → Q v H'
def tT (C : Cn) (b : Bool) : TT := fun σ H Q => ∃ F, C.ok σ F H ∧ ∀ F' H', Le C.T F H F' H' → Q b H'
/-- values that fit -/
inductive Fit (F : Hp) : List Rp → List V → Prop where
  | nil : Fit F [] []
  | cons {R : Rp} {v : V} {Rs : List Rp} {vs : List V} : R.p v F → Fit F Rs vs → Fit F (R :: Rs) (v :: vs)
theorem Fit.mono {F F' : Hp} (e : Ex F F') : ∀ {Rs : List Rp} {vs : List V}, Fit F Rs vs → Fit F' Rs vs
  | _, _, .nil => .nil
  | _, _, .cons h t => .cons (Rp.mono _ e h) (t.mono e)
theorem Fit.length {F : Hp} : ∀ {Rs : List Rp} {vs : List V}, Fit F Rs vs → vs.length = Rs.length
  | _, _, .nil => rfl
  | _, _, .cons _ t => congrArg (· + 1) t.length
def tA (C : Cn) (Rs : List Rp) : TA := fun σ H Q => ∃ F, C.ok σ F H ∧ ∀ vs F' H', Le C.T F H F' H' → Fit F' Rs vs → Q vs H'
abbrev Ev (X : Cx) (C : Cn) (e : Expr) (R : Rp) : Prop := PE X e (tE C R)
abbrev Et (X : Cx) (C : Cn) (e : Expr) (b : Bool) : Prop := PT X e (tT C b)
abbrev Ea (X : Cx) (C : Cn) (es : List Expr) (Rs : List Rp) : Prop := PA X es (tA C Rs)
/-- what a two-place operation on values makes -/
def Op2 (T : Tbs) (r : R2) (Ra Rb R : Rp) : Prop := ∀ x y F H, Wok T F H → Ra.p x F → Rb.p y F → ∀ Q : VK, (∀ v F' H', Le T F H F' H' → R.p v F' → Q v H') → r x y H Q
def Op1 (T : Tbs) (r : V → Hp → VK → Prop) (Ra R : Rp) : Prop := ∀ x F H, Wok T F H → Ra.p x F → ∀ Q : VK, (∀ v F' H', Le T F H F' H' → R.p v F' → Q v H') → r x H Q
def OpN (T : Tbs) (r : List V → Hp → VK → Prop) (Rs : List Rp) (R : Rp) : Prop := ∀ xs F H, Wok T F H → Fit F Rs xs → ∀ Q : VK, (∀ v F' H', Le T F H F' H' → R.p v F' → Q v H') → r xs H Q

section
variable {X : Cx} {C : Cn} {a b c e : Expr} {es : List Expr} {pos p : Pos} {R Ra Rb Rc : Rp} {Rs : List Rp} {i j : Int} {r r' : R2}
theorem run2 {σ : St} {F H : Hp} {Q : V → V → Hp → Prop} (c : C.ok σ F H) (k : ∀ x y F' H', Le C.T F H F' H' → Ra.p x F' → Rb.p y F' → Q x y H') : tE C Ra σ H fun x H1 => tE C Rb σ H1 fun y H2 => Q x y H2 :=
  ⟨F, c, fun x F1 H1 l1 h1 => ⟨F1, c.le l1, fun y F2 H2 l2 h2 => k x y F2 H2 (l1.trans l2) (Ra.mono l2.f h1) h2⟩⟩
theorem ev_of {t : TE} (h : PE X e t) (k : ∀ σ F H Q, C.ok σ F H → (∀ v F' H', Le C.T F H F' H' → R.p v F' → Q v H') → t σ H Q) : Ev X C e R := PE.of h fun σ H Q ⟨F, c, q⟩ => k σ F H Q c q
theorem ev_var {x : Str} {i : Nat} (hN : X.N[i]? = some x := by rfl) (hv : Vis X.env.scope x := by first | exact Or.inl rfl | exact Or.inr (Or.inl rfl) | exact Or.inr (Or.inr rfl)) (hs : C.sl[i]? = some (some R) := by rfl) (hd : (x == ("__debug__" : Str)) = false := by decide)
    (hcd : (x == ("__classdict__" : Str)) = false := by decide) : Ev X C (.Name x pos) R :=
  ev_of (pe_var (i := i) hN hv hd hcd) fun σ F H Q c q => let ⟨v, h1, h2⟩ := c.sl i R hs; ⟨v, h1, q v F H c.w.le h2⟩
theorem ev_int {i : Int} {j : Nat} : Ev X C (.Constant (.int i) j pos) (isD X.K (.int i)) := ev_of pe_int fun σ F H Q c q => q _ F H c.w.le (.int i)
theorem ev_bl {b : Bool} {j : Nat} : Ev X C (.Constant (.bool b) j pos) (isD X.K (.bool b)) := ev_of pe_bl fun σ F H Q c q => q _ F H c.w.le (.bl b)
theorem ev_non {j : Nat} : Ev X C (.Constant .none j pos) (isD X.K .none) := ev_of pe_non fun σ F H Q c q => q _ F H c.w.le .non
theorem ev_str {x : Str} {j : Nat} : Ev X C (.Constant (.str x) j pos) (isD X.K (.str x)) := ev_of pe_str fun σ F H Q c q => q _ F H c.w.le (.str x)
theorem ev_glob {x : Str} {v : V} {u : Value} (hg : Gl X x) (hm : X.mg x = some u) (r : RelV v u) (hR : ∀ F, R.p v F) (hd : (x == ("__debug__" : Str)) = false := by decide) : Ev X C (.Name x pos) R :=
  ev_of (pe_glob hg hm r hd) fun σ F H Q c q => q _ F H c.w.le (hR F)
theorem ev_bltn {x : Str} {v : V} {u : Value} (hg : Gl X x) (hm : X.mg x = none) (hv : bootBuiltins x = some u) (r : RelV v u) (hn : x ≠ "__name__" := by decide) (hd : (x == ("__debug__" : Str)) = false := by decide) : Ev X C (.Name x pos) (isV v) :=
  ev_of (pe_bltn hg hm hv r hn hd) fun σ F H Q c q => q _ F H c.w.le rfl
/-- weaker -/
theorem Ev.imp (h : Ev X C e Ra) (k : ∀ v F, Ra.p v F → R.p v F) : Ev X C e R := ev_of h fun σ F H Q c q => ⟨F, c, fun v F' H' l z => q v F' H' l (k v F' z)⟩
theorem ev_bin {op : Operator} (ho : OpR X (binaryOp op) r) (hr : Op2 C.T r Ra Rb R) (ha : Ev X C a Ra) (hb : Ev X C b Rb) : Ev X C (.BinOp a op b pos) R :=
  ev_of (pe_op ho ha hb) fun σ F H Q c q => run2 c fun x y F' H' l h1 h2 => hr x y F' H' l.w h1 h2 Q fun v F2 H2 l2 z => q v F2 H2 (l.trans l2) z
theorem ev_un {op : UnaryOp} {r : V → Hp → VK → Prop} (ho : UnR X (unaryOp op) r) (hr : Op1 C.T r Ra R) (ha : Ev X C a Ra) : Ev X C (.UnaryOp op a pos) R :=
  ev_of (pe_un ho ha) fun σ F H Q c q => ⟨F, c, fun x F' H' l h1 => hr x F' H' l.w h1 Q fun v F2 H2 l2 z => q v F2 H2 (l.trans l2) z⟩
theorem ev_cmp {op : CmpOp} (ho : OpR X (compareOp op) r) (hr : Op2 C.T r Ra Rb R) (ha : Ev X C a Ra) (hb : Ev X C b Rb) (hm : behindInMarks op b = false) : Ev X C (.Compare a [op] [b] pos) R :=
  ev_of (pe_cmpR ho ha hb hm) fun σ F H Q c q => run2 c fun x y F' H' l h1 h2 => hr x y F' H' l.w h1 h2 Q fun v F2 H2 l2 z => q v F2 H2 (l.trans l2) z
theorem et_cmp {op : CmpOp} {k : Bool} (ho : OpR X (compareOp op) r) (hr : Op2 C.T r Ra Rb (isD X.K (.bool k))) (ha : Ev X C a Ra) (hb : Ev X C b Rb) (hm : behindInMarks op b = false) : Et X C (.Compare a [op] [b] pos) k :=
  PT.of (pt_cmpR ho ha hb hm) fun σ H Q ⟨F, c, q⟩ => run2 c fun x y F' H' l h1 h2 => hr x y F' H' l.w h1 h2 _ fun v F2 H2 l2 z => ⟨k, dp_bl z, q F2 H2 (l.trans l2)⟩
theorem et_val {k : Bool} (h : Ev X C e (isD X.K (.bool k))) (he : ∀ whole, isTrue e X.env whole = (do let v ← whole; standAt e.pos; holding [v] (truthy v)) := by intro _; rfl) : Et X C e k :=
  PT.of (pt_val h he) fun σ H Q ⟨F, c, q⟩ => ⟨F, c, fun v F' H' l z => ⟨k, dp_bl z, q F' H' l⟩⟩
theorem et_is {b b' : Bool} (h : Et X C e b) (q : b = b') : Et X C e b' := q ▸ h
theorem et_not {b : Bool} (h : Et X C a b) : Et X C (.UnaryOp .Not a pos) (!b) := PT.of (pt_not h) fun σ H Q ⟨F, c, q⟩ => ⟨F, c, fun F' H' l => q F' H' l⟩
theorem ew_and1 {k : Bool} (ha : Et X C a k) : PW X (.BoolOp .And [a] pos) (tT C k) := pw_and1 ha
theorem ew_or1 {k : Bool} (ha : Et X C a k) : PW X (.BoolOp .Or [a] pos) (tT C k) := pw_or1 ha
theorem PW.of {e : Expr} {t t' : TT} (h : PW X e t) (k : ∀ σ H Q, t' σ H Q → t σ H Q) : PW X e t' := ⟨fun w pins s σ H Q I q => h.run w pins s σ H Q I (k σ H Q q)⟩
theorem pw_none {op : BoolOp} {e : Expr} : PW X e (fun _ _ _ => False) := ⟨fun _ _ _ _ _ _ _ h => h.elim⟩
theorem ew_and {k1 k2 : Bool} (ha : Et X C a k1) (hb : k1 = true → PW X (.BoolOp .And (b :: es) pos) (tT C k2)) : PW X (.BoolOp .And (a :: b :: es) pos) (tT C (k1 && k2)) := by
  cases k1 with
  | true => exact PW.of (pw_and ha (hb rfl)) fun σ H Q ⟨F, c, q⟩ => ⟨F, c, fun F' H' l => ⟨F', c.le l, fun F2 H2 l2 => q F2 H2 (l.trans l2)⟩⟩
  | false => exact PW.of (pw_and ha (pw_none (op := .And))) fun σ H Q ⟨F, c, q⟩ => ⟨F, c, fun F' H' l => q F' H' l⟩
theorem ew_or {k1 k2 : Bool} (ha : Et X C a k1) (hb : k1 = false → PW X (.BoolOp .Or (b :: es) pos) (tT C k2)) : PW X (.BoolOp .Or (a :: b :: es) pos) (tT C (k1 || k2)) := by
  cases k1 with
  | false => exact PW.of (pw_or ha (hb rfl)) fun σ H Q ⟨F, c, q⟩ => ⟨F, c, fun F' H' l => ⟨F', c.le l, fun F2 H2 l2 => q F2 H2 (l.trans l2)⟩⟩
  | true => exact PW.of (pw_or ha (pw_none (op := .Or))) fun σ H Q ⟨F, c, q⟩ => ⟨F, c, fun F' H' l => q F' H' l⟩
theorem et_and {k1 k2 : Bool} (ha : Et X C a k1) (hb : k1 = true → PW X (.BoolOp .And (b :: es) pos) (tT C k2)) : Et X C (.BoolOp .And (a :: b :: es) pos) (k1 && k2) := (ew_and ha hb).pt
theorem et_or {k1 k2 : Bool} (ha : Et X C a k1) (hb : k1 = false → PW X (.BoolOp .Or (b :: es) pos) (tT C k2)) : Et X C (.BoolOp .Or (a :: b :: es) pos) (k1 || k2) := (ew_or ha hb).pt
/-- arguments -/
theorem ea_nil : Ea X C [] [] := PA.of pa_nil fun σ H Q ⟨F, c, q⟩ => q [] F H c.w.le .nil
theorem ea_cons (ha : Ev X C a R) (hr : Ea X C es Rs) (hs : starEach (a :: es) X.env = (false, eval a X.env) :: starEach es X.env := by rfl) : Ea X C (a :: es) (R :: Rs) :=
  PA.of (pa_cons ha hr hs) fun σ H Q ⟨F, c, q⟩ => ⟨F, c, fun v F1 H1 l1 h1 => ⟨F1, c.le l1, fun vs F2 H2 l2 h2 => q _ F2 H2 (l1.trans l2) (.cons (R.mono l2.f h1) h2)⟩⟩
theorem fit_all {K : PySem.W.Frag} {F : Hp} : ∀ {ds : List PD} {vs : List V}, Fit F (ds.map (isD K)) vs → DpAll K F vs ds
  | [], _, .nil => .nil
  | d :: ds, _, .cons h t => .cons h (fit_all t)
end
end Pl

set_option Elab.async false
set_option autoImplicit false
set_option linter.all false
set_option maxRecDepth 100000
set_option maxHeartbeats 4000000
namespace Pl
open PySem L2
open GxR (TabG Tabbed)
open LamX (ExtN TabS CodeO)
open NdefX (NTab TabN TabsN NF FnO)

/-! ### numbers -/
section
variable {X : Cx} {C : Cn} {T : Tbs} {K : PySem.W.Frag} {a b c e : Expr} {es : List Expr} {pos p : Pos} {R Ra Rb Rc : Rp} {Rs : List Rp} {i j k : Int} {r r' : R2} {ds es' : List PD} {d d' : PD}
theorem op2_I0 {g : Int → Int → V} (hd : ∀ F, R.p (g i j) F) : Op2 T (rI0 g) (isD K (.int i)) (isD K (.int j)) R := fun x y F H w h1 h2 Q q =>
  ⟨i, j, dp_int h1, dp_int h2, q _ F H w.le (hd F)⟩
theorem op2_I {c : Int → Int → Prop} {g : Int → Int → V} (hc : c i j) (hd : ∀ F, R.p (g i j) F) : Op2 T (rI c g) (isD K (.int i)) (isD K (.int j)) R := fun x y F H w h1 h2 Q q =>
  ⟨i, j, dp_int h1, dp_int h2, hc, q _ F H w.le (hd F)⟩
theorem ev_addI (ha : Ev X C a (isD X.K (.int i))) (hb : Ev X C b (isD X.K (.int j))) : Ev X C (.BinOp a .Add b pos) (isD X.K (.int (i + j))) := ev_bin op_add (op2_I0 fun _ => .int _) ha hb
theorem ev_subI (ha : Ev X C a (isD X.K (.int i))) (hb : Ev X C b (isD X.K (.int j))) : Ev X C (.BinOp a .Sub b pos) (isD X.K (.int (i - j))) := ev_bin op_sub (op2_I0 fun _ => .int _) ha hb
theorem ev_mulI (hc : CMul i j) (ha : Ev X C a (isD X.K (.int i))) (hb : Ev X C b (isD X.K (.int j))) : Ev X C (.BinOp a .Mult b pos) (isD X.K (.int (i * j))) := ev_bin op_mul (op2_I hc fun _ => .int _) ha hb
theorem ev_divI (hc : CDiv i j) (ha : Ev X C a (isD X.K (.int i))) (hb : Ev X C b (isD X.K (.int j))) : Ev X C (.BinOp a .FloorDiv b pos) (isD X.K (.int (i / j))) := ev_bin op_fdiv (op2_I hc fun _ => .int _) ha hb
theorem ev_modI (hc : 0 < j) (ha : Ev X C a (isD X.K (.int i))) (hb : Ev X C b (isD X.K (.int j))) : Ev X C (.BinOp a .Mod b pos) (isD X.K (.int (i % j))) := ev_bin op_mod (op2_I hc fun _ => .int _) ha hb
theorem ev_powI (hc : CPow i j) (ha : Ev X C a (isD X.K (.int i))) (hb : Ev X C b (isD X.K (.int j))) : Ev X C (.BinOp a .Pow b pos) (isD X.K (.int (i ^ j.toNat))) := ev_bin op_pow (op2_I hc fun _ => .int _) ha hb
theorem ev_negI (ha : Ev X C a (isD X.K (.int i))) : Ev X C (.UnaryOp .USub a pos) (isD X.K (.int (-i))) := ev_un un_neg (fun x F H w h Q q => ⟨i, dp_int h, q _ F H w.le (.int _)⟩) ha
/-! ### comparisons -/
theorem et_ltI (ha : Ev X C a (isD X.K (.int i))) (hb : Ev X C b (isD X.K (.int j))) : Et X C (.Compare a [.Lt] [b] pos) (decide (i < j)) := et_cmp op_lt (op2_I0 fun _ => .bl _) ha hb (nomark _)
theorem et_leI (ha : Ev X C a (isD X.K (.int i))) (hb : Ev X C b (isD X.K (.int j))) : Et X C (.Compare a [.LtE] [b] pos) (decide (i ≤ j)) := et_cmp op_le (op2_I0 fun _ => .bl _) ha hb (nomark _)
theorem et_gtI (ha : Ev X C a (isD X.K (.int i))) (hb : Ev X C b (isD X.K (.int j))) : Et X C (.Compare a [.Gt] [b] pos) (decide (j < i)) := et_cmp op_gt (op2_I0 fun _ => .bl _) ha hb (nomark _)
theorem et_geI (ha : Ev X C a (isD X.K (.int i))) (hb : Ev X C b (isD X.K (.int j))) : Et X C (.Compare a [.GtE] [b] pos) (decide (j ≤ i)) := et_cmp op_ge (op2_I0 fun _ => .bl _) ha hb (nomark _)
theorem ev_ltI (ha : Ev X C a (isD X.K (.int i))) (hb : Ev X C b (isD X.K (.int j))) : Ev X C (.Compare a [.Lt] [b] pos) (isD X.K (.bool (decide (i < j)))) := ev_cmp op_lt (op2_I0 fun _ => .bl _) ha hb (nomark _)
theorem ev_leI (ha : Ev X C a (isD X.K (.int i))) (hb : Ev X C b (isD X.K (.int j))) : Ev X C (.Compare a [.LtE] [b] pos) (isD X.K (.bool (decide (i ≤ j)))) := ev_cmp op_le (op2_I0 fun _ => .bl _) ha hb (nomark _)
theorem ev_gtI (ha : Ev X C a (isD X.K (.int i))) (hb : Ev X C b (isD X.K (.int j))) : Ev X C (.Compare a [.Gt] [b] pos) (isD X.K (.bool (decide (j < i)))) := ev_cmp op_gt (op2_I0 fun _ => .bl _) ha hb (nomark _)
theorem ev_geI (ha : Ev X C a (isD X.K (.int i))) (hb : Ev X C b (isD X.K (.int j))) : Ev X C (.Compare a [.GtE] [b] pos) (isD X.K (.bool (decide (j ≤ i)))) := ev_cmp op_ge (op2_I0 fun _ => .bl _) ha hb (nomark _)
theorem dec_int_eq : decide (V.int i = V.int j) = decide (i = j) := by by_cases h : i = j <;> simp [h]
theorem dec_str_eq {x y : Str} : decide (V.str x = V.str y) = decide (x = y) := by by_cases h : x = y <;> simp [h]
theorem dec_bl_eq {x y : Bool} : decide (V.bl x = V.bl y) = decide (x = y) := by cases x <;> cases y <;> rfl
theorem op2_eqI : Op2 T rEq (isD K (.int i)) (isD K (.int j)) (isD K (.bool (decide (i = j)))) := fun x y F H w h1 h2 Q q => by
  rw [dp_int h1, dp_int h2]; exact ⟨rfl, by rw [dec_int_eq]; exact q _ F H w.le (.bl _)⟩
theorem op2_neI : Op2 T rNe (isD K (.int i)) (isD K (.int j)) (isD K (.bool (!decide (i = j)))) := fun x y F H w h1 h2 Q q => by
  rw [dp_int h1, dp_int h2]; exact ⟨rfl, by rw [dec_int_eq]; exact q _ F H w.le (.bl _)⟩
theorem op2_eqS {s t : Str} : Op2 T rEq (isD K (.str s)) (isD K (.str t)) (isD K (.bool (decide (s = t)))) := fun x y F H w h1 h2 Q q => by
  rw [dp_str h1, dp_str h2]; exact ⟨rfl, by rw [dec_str_eq]; exact q _ F H w.le (.bl _)⟩
theorem op2_neS {s t : Str} : Op2 T rNe (isD K (.str s)) (isD K (.str t)) (isD K (.bool (!decide (s = t)))) := fun x y F H w h1 h2 Q q => by
  rw [dp_str h1, dp_str h2]; exact ⟨rfl, by rw [dec_str_eq]; exact q _ F H w.le (.bl _)⟩
theorem op2_eqB {s t : Bool} : Op2 T rEq (isD K (.bool s)) (isD K (.bool t)) (isD K (.bool (decide (s = t)))) := fun x y F H w h1 h2 Q q => by
  rw [dp_bl h1, dp_bl h2]; exact ⟨rfl, by rw [dec_bl_eq]; exact q _ F H w.le (.bl _)⟩
theorem op2_neB {s t : Bool} : Op2 T rNe (isD K (.bool s)) (isD K (.bool t)) (isD K (.bool (!decide (s = t)))) := fun x y F H w h1 h2 Q q => by
  rw [dp_bl h1, dp_bl h2]; exact ⟨rfl, by rw [dec_bl_eq]; exact q _ F H w.le (.bl _)⟩
/-- what == of two predicates' values answers -/
structure EqQ (T : Tbs) (Ra Rb : Rp) (k : PySem.W.Frag) (b : Bool) : Prop where
  eq : Op2 T rEq Ra Rb (isD k (.bool b))
  ne : Op2 T rNe Ra Rb (isD k (.bool (!b)))
theorem eqI : EqQ T (isD K (.int i)) (isD K (.int j)) K (decide (i = j)) := ⟨op2_eqI, op2_neI⟩
theorem eqS {s t : Str} : EqQ T (isD K (.str s)) (isD K (.str t)) K (decide (s = t)) := ⟨op2_eqS, op2_neS⟩
theorem eqB {s t : Bool} : EqQ T (isD K (.bool s)) (isD K (.bool t)) K (decide (s = t)) := ⟨op2_eqB, op2_neB⟩
theorem et_eq {k : Bool} (h : EqQ C.T Ra Rb X.K k) (ha : Ev X C a Ra) (hb : Ev X C b Rb) : Et X C (.Compare a [.Eq] [b] pos) k := et_cmp op_eq h.eq ha hb (nomark _)
theorem et_ne {k : Bool} (h : EqQ C.T Ra Rb X.K k) (ha : Ev X C a Ra) (hb : Ev X C b Rb) : Et X C (.Compare a [.NotEq] [b] pos) (!k) := et_cmp op_ne h.ne ha hb (nomark _)
theorem ev_eq {k : Bool} (h : EqQ C.T Ra Rb X.K k) (ha : Ev X C a Ra) (hb : Ev X C b Rb) : Ev X C (.Compare a [.Eq] [b] pos) (isD X.K (.bool k)) := ev_cmp op_eq h.eq ha hb (nomark _)
theorem ev_ne {k : Bool} (h : EqQ C.T Ra Rb X.K k) (ha : Ev X C a Ra) (hb : Ev X C b Rb) : Ev X C (.Compare a [.NotEq] [b] pos) (isD X.K (.bool (!k))) := ev_cmp op_ne h.ne ha hb (nomark _)
/-- == of data of any depth -/
theorem dp_up {F H : Hp} {v : V} {d : PD} (w : Wok T F H) (h : Dp K F v d) : Dp K H v d := dp_mono w.i h
theorem op2_eqD (s1 : SeqAt.shaped d = true) (s2 : SeqAt.shaped d' = true) : Op2 T (rEqD K) (isD K d) (isD K d') (isD K (.bool (PyData.eqv d d'))) := fun x y F H w h1 h2 Q q =>
  ⟨d, d', dp_up w h1, dp_up w h2, s1, s2, q _ F H w.le (.bl _)⟩
theorem op2_neD (s1 : SeqAt.shaped d = true) (s2 : SeqAt.shaped d' = true) : Op2 T (rNeD K) (isD K d) (isD K d') (isD K (.bool (!PyData.eqv d d'))) := fun x y F H w h1 h2 Q q =>
  ⟨d, d', dp_up w h1, dp_up w h2, s1, s2, q _ F H w.le (.bl _)⟩
theorem et_eqD (hu : X.A.units + 64 < cLine) (s1 : SeqAt.shaped d = true) (s2 : SeqAt.shaped d' = true) (ha : Ev X C a (isD X.K d)) (hb : Ev X C b (isD X.K d')) : Et X C (.Compare a [.Eq] [b] pos) (PyData.eqv d d') := et_cmp (op_eqD hu) (op2_eqD s1 s2) ha hb (nomark _)
theorem et_neD (hu : X.A.units + 64 < cLine) (s1 : SeqAt.shaped d = true) (s2 : SeqAt.shaped d' = true) (ha : Ev X C a (isD X.K d)) (hb : Ev X C b (isD X.K d')) : Et X C (.Compare a [.NotEq] [b] pos) (!PyData.eqv d d') := et_cmp (op_neD hu) (op2_neD s1 s2) ha hb (nomark _)
theorem ev_eqD (hu : X.A.units + 64 < cLine) (s1 : SeqAt.shaped d = true) (s2 : SeqAt.shaped d' = true) (ha : Ev X C a (isD X.K d)) (hb : Ev X C b (isD X.K d')) : Ev X C (.Compare a [.Eq] [b] pos) (isD X.K (.bool (PyData.eqv d d'))) := ev_cmp (op_eqD hu) (op2_eqD s1 s2) ha hb (nomark _)
theorem ev_neD (hu : X.A.units + 64 < cLine) (s1 : SeqAt.shaped d = true) (s2 : SeqAt.shaped d' = true) (ha : Ev X C a (isD X.K d)) (hb : Ev X C b (isD X.K d')) : Ev X C (.Compare a [.NotEq] [b] pos) (isD X.K (.bool (!PyData.eqv d d'))) := ev_cmp (op_neD hu) (op2_neD s1 s2) ha hb (nomark _)
/-- is None -/
theorem et_isN {k : Bool} (hk : ∀ v F, Ra.p v F → decide (v = V.non) = k) (ha : Ev X C a Ra) {q : Nat} {p : Pos} : Et X C (.Compare a [.Is] [.Constant .none q p] pos) k :=
  et_cmp op_isN (fun x y F H w h1 h2 Q q => ⟨dp_non h2, by rw [hk x F h1]; exact q _ F H w.le (.bl _)⟩) ha ev_non (nomark _)
theorem et_notN {k : Bool} (hk : ∀ v F, Ra.p v F → decide (v = V.non) = k) (ha : Ev X C a Ra) {q : Nat} {p : Pos} : Et X C (.Compare a [.IsNot] [.Constant .none q p] pos) (!k) :=
  et_cmp op_notN (fun x y F H w h1 h2 Q q => ⟨dp_non h2, by rw [hk x F h1]; exact q _ F H w.le (.bl _)⟩) ha ev_non (nomark _)
theorem ev_isN {k : Bool} (hk : ∀ v F, Ra.p v F → decide (v = V.non) = k) (ha : Ev X C a Ra) {q : Nat} {p : Pos} : Ev X C (.Compare a [.Is] [.Constant .none q p] pos) (isD X.K (.bool k)) :=
  ev_cmp op_isN (fun x y F H w h1 h2 Q q => ⟨dp_non h2, by rw [hk x F h1]; exact q _ F H w.le (.bl _)⟩) ha ev_non (nomark _)
theorem nonD (h : d ≠ .none) : ∀ v F, (isD K d).p v F → decide (v = V.non) = false := fun v F z => by
  cases z <;> first | rfl | exact absurd rfl h
theorem nonN : ∀ v F, (isD K .none).p v F → decide (v = V.non) = true := fun v F z => by cases z; rfl
/-- a < b < c of ints -/
theorem et_chainI {op1 op2 : CmpOp} {g1 g2 : Int → Int → Bool} (o1 : OpR X (compareOp op1) (rI0 fun i j => .bl (g1 i j))) (o2 : OpR X (compareOp op2) (rI0 fun i j => .bl (g2 i j))) (ha : Ev X C a (isD X.K (.int i))) (hb : Ev X C b (isD X.K (.int j))) (hc : Ev X C c (isD X.K (.int k)))
    (h : PT X (.Compare a [op1, op2] [b, c] pos) (tTest (tChain (rI0 fun i j => .bl (g1 i j)) (rI0 fun i j => .bl (g2 i j)) (tE C (isD X.K (.int i))) (tE C (isD X.K (.int j))) (tE C (isD X.K (.int k))))) ) : Et X C (.Compare a [op1, op2] [b, c] pos) (g1 i j && g2 j k) := by
  refine PT.of h fun σ H Q ⟨F, cc, q⟩ => ⟨F, cc, fun x F1 H1 l1 h1 => ⟨F1, cc.le l1, fun y F2 H2 l2 h2 => ⟨i, j, dp_int h1, dp_int h2, g1 i j, rfl, ?_⟩⟩⟩
  cases hg : g1 i j with
  | true =>
    refine ⟨F2, (cc.le l1).le l2, fun z F3 H3 l3 h3 => ⟨j, k, dp_int h2, dp_int h3, g2 j k, rfl, ?_⟩⟩
    have := q F3 H3 ((l1.trans l2).trans l3)
    rw [hg, Bool.true_and] at this
    exact this
  | false =>
    have := q F2 H2 (l1.trans l2)
    rw [hg, Bool.false_and] at this
    exact ⟨false, rfl, this⟩
end

/-! ### sequences -/
section
variable {X : Cx} {C : Cn} {T : Tbs} {K : PySem.W.Frag} {a b c e : Expr} {es : List Expr} {pos p : Pos} {R Ra Rb Rc : Rp} {Rs : List Rp} {i j k : Int} {r r' : R2} {ds ds' : List PD} {d d' : PD} {F H : Hp} {v : V}
theorem atI_map {vs : List V} {ds : List PD} (h : DpAll K F vs ds) (e : atI ds i = some d) : ∃ v, atI vs i = some v ∧ Dp K F v d := by
  unfold atI at e ⊢
  rw [dpAll_length h]
  cases q : ixN ds.length i with
  | none => rw [q] at e; cases e
  | some j =>
    rw [q] at e
    exact dpAll_get h e
theorem sq_up {q : Addr} {xs : List V} (w : Wok T F H) (h : SqL K F q xs) : SqL K H q xs := Evl.ex_l w.i h
theorem st_up {q : Addr} {xs : List V} (w : Wok T F H) (h : SqT K F q xs) : SqT K H q xs := Evl.ex_t w.i h
/-- a[i] -/
theorem ev_ixL (h : atI ds i = some d) (ha : Ev X C a (isD X.K (.list ds))) (hb : Ev X C b (isD X.K (.int i))) (hs : PlainIx b := by exact fun _ _ => rfl) : Ev X C (.Subscript a b pos) (isD X.K d) :=
  ev_of (pe_ix ix_list ha hb hs) fun σ F H Q c q => run2 c fun x y F' H' l h1 h2 => by
    obtain ⟨p, xs, rfl, sq, al⟩ := dp_lst h1
    obtain ⟨v, e1, e2⟩ := atI_map al h
    exact ⟨p, xs, i, v, rfl, dp_int h2, sq_up l.w sq, e1, q v F' H' l e2⟩
theorem ev_ixT (h : atI ds i = some d) (ha : Ev X C a (isD X.K (.tuple ds))) (hb : Ev X C b (isD X.K (.int i))) (hs : PlainIx b := by exact fun _ _ => rfl) : Ev X C (.Subscript a b pos) (isD X.K d) :=
  ev_of (pe_ix ix_tup ha hb hs) fun σ F H Q c q => run2 c fun x y F' H' l h1 h2 => by
    obtain ⟨p, xs, rfl, sq, al⟩ := dp_tup h1
    obtain ⟨v, e1, e2⟩ := atI_map al h
    exact ⟨p, xs, i, v, rfl, dp_int h2, st_up l.w sq, e1, q v F' H' l e2⟩
/-- a[i] of a text -/
theorem ev_ixS {x : Str} {c : Nat} (hz : x.length ≤ sizeLine) (h : atI x.cps.toList i = some c) (ha : Ev X C a (isD X.K (.str x))) (hb : Ev X C b (isD X.K (.int i))) (hs : PlainIx b := by exact fun _ _ => rfl) : Ev X C (.Subscript a b pos) (isD X.K (.str ⟨#[c]⟩)) :=
  ev_of (pe_ix ix_str ha hb hs) fun σ F H Q cc q => run2 cc fun y z F' H' l h1 h2 => ⟨x, i, c, dp_str h1, dp_int h2, hz, h, q _ F' H' l (.str _)⟩
/-- (a, b, ..) -/
theorem ev_tup {k : Nat} (h : Ea X C es (ds.map (isD X.K))) (hz : ds.length ≤ 1000 := by first | decide | exact (by simp)) : Ev X C (.Tuple es k pos) (isD X.K (.tuple ds)) :=
  ev_of (pe_tup h) fun σ F H Q c q => ⟨F, c, fun vs F' H' l f => by
    have al := fit_all f
    refine ⟨by rw [dpAll_length al]; exact Nat.le_trans hz (by decide), fun p hp => q _ _ _ (l.trans (Le.new l.w hp (tup_nt vs))) ?_⟩
    exact .tup (SqT.of upd_same) (dpAll_mono (Evl.Ex.new (wok_none l.w hp)) al)⟩
/-- what makes a new list (or dict): not frozen yet -/
def tN (C : Cn) (ct : Ct) : TE := fun σ H Q => ∃ F, C.ok σ F H ∧ ∀ p o F' H', Le C.T F H F' H' → H p = none → F' p = none → H' p = some o → (∀ ps, o ≠ .tbl ps) → ct.p o F' → Q (.ref p) H'
abbrev En (X : Cx) (C : Cn) (e : Expr) (ct : Ct) : Prop := PE X e (tN C ct)
theorem en_of {t : TE} {ct : Ct} (h : PE X e t) (k : ∀ σ F H Q, C.ok σ F H → (∀ p o F' H', Le C.T F H F' H' → H p = none → F' p = none → H' p = some o → (∀ ps, o ≠ .tbl ps) → ct.p o F' → Q (.ref p) H') → t σ H Q) : En X C e ct := PE.of h fun σ H Q ⟨F, c, q⟩ => k σ F H Q c q
theorem Le.back {F' H' : Hp} (l : Le T F H F' H') {q : Addr} (h : H' q = none) : H q = none := Classical.byContradiction fun z => l.d q z h
/-- .. frozen -/
theorem Le.frz {F' H' : Hp} {q : Addr} {o : HO} (l : Le T F H F' H') (hp : H q = none) (hF : F' q = none) (ho : H' q = some o) (nt : ∀ ps, o ≠ .tbl ps) : Le T F H (upd F' q o) H' :=
  ⟨l.f.trans (Evl.Ex.new hF), l.h, fun a h z => by rw [upd_ne (fun y : a = q => z (by rw [y]; exact hp))]; exact l.n a h z, l.d, l.w.frz hF ho nt⟩
theorem ctL_frz {q : Addr} {o : HO} (hF : F q = none) (h : (ctL K ds).p o F) : Dp K (upd F q o) (.ref q) (.list ds) := by
  obtain ⟨xs, rfl, al⟩ := h
  exact .lst (SqL.of upd_same) (dpAll_mono (Evl.Ex.new hF) al)
theorem En.ev (h : En X C e (ctL X.K ds)) : Ev X C e (isD X.K (.list ds)) := PE.of h fun σ H Q ⟨F, c, q⟩ => ⟨F, c, fun p o F' H' l h1 h2 h3 nt ct => q _ (upd F' p o) H' (l.frz h1 h2 h3 nt) (ctL_frz h2 ct)⟩
/-- [a, b, ..] -/
theorem en_lst (h : Ea X C es (ds.map (isD X.K))) (hz : ds.length ≤ 1000 := by first | decide | exact (by simp)) : En X C (.List es pos) (ctL X.K ds) :=
  en_of (pe_lst h) fun σ F H Q c q => ⟨F, c, fun vs F' H' l f => by
    have al := fit_all f
    refine ⟨by rw [dpAll_length al]; exact Nat.le_trans hz (by decide), fun p hp => q p _ F' _ (l.trans (Le.newH l.w hp)) (l.back hp) (wok_none l.w hp) upd_same (lst_nt vs) ⟨vs, rfl, al⟩⟩⟩
end
end Pl

set_option Elab.async false
set_option autoImplicit false
set_option linter.all false
set_option maxRecDepth 100000
set_option maxHeartbeats 4000000
namespace Pl
open PySem L2
open GxR (TabG Tabbed)
open LamX (ExtN TabS CodeO)
open NdefX (NTab TabN TabsN NF FnO)

/-! ### statements -/
abbrev As := St → Hp → Prop
def Do (X : Cx) (ss : List Stmt) (A : As) (D : Ends) : Prop :=
  ∀ (pins : List (Addr × Obj)) (s : Shared) (σ : St) (H : Hp), Inv X pins σ H s → A σ H → wpAny (model X.prog X.w) X.A (execs ss X.env) (SP X pins D) X.xe s
def Do1 (X : Cx) (st : Stmt) (A : As) (D : Ends) : Prop :=
  ∀ (pins : List (Addr × Obj)) (s : Shared) (σ : St) (H : Hp), Inv X pins σ H s → A σ H → wpAny (model X.prog X.w) X.A (exec st X.env) (SP X pins D) X.xe s
section
variable {X : Cx} {A B M : As} {D : Ends} {ss rest : List Stmt} {st : Stmt}
theorem Do.pss (h : Do X ss A D) : PSs X ss (fun D' σ H => D' = D ∧ A σ H) := ⟨fun pins s σ H D' I ⟨e, q⟩ => e ▸ h pins s σ H I q⟩
theorem Do1.ps (h : Do1 X st A D) : PS X st (fun D' σ H => D' = D ∧ A σ H) := ⟨fun pins s σ H D' I ⟨e, q⟩ => e ▸ h pins s σ H I q⟩
theorem Do.of {t : TS} (h : PSs X ss t) (k : ∀ σ H, A σ H → t D σ H) : Do X ss A D := fun pins s σ H I q => h.run pins s σ H D I (k σ H q)
theorem Do1.of {t : TS} (h : PS X st t) (k : ∀ σ H, A σ H → t D σ H) : Do1 X st A D := fun pins s σ H I q => h.run pins s σ H D I (k σ H q)
/-- a weaker start -/
theorem Do.pre (h : Do X ss B D) (k : ∀ σ H, A σ H → B σ H) : Do X ss A D := fun pins s σ H I q => h pins s σ H I (k σ H q)
theorem Do.ex {α : Type} {A : α → As} (h : ∀ a, Do X ss (A a) D) : Do X ss (fun σ H => ∃ a, A a σ H) D := fun pins s σ H I ⟨a, q⟩ => h a pins s σ H I q
theorem Do.exP {P : Prop} {A : As} (h : P → Do X ss A D) : Do X ss (fun σ H => P ∧ A σ H) D := fun pins s σ H I ⟨a, q⟩ => h a pins s σ H I q
theorem Do.or (h1 : Do X ss A D) (h2 : Do X ss B D) : Do X ss (fun σ H => A σ H ∨ B σ H) D := fun pins s σ H I q => q.elim (h1 pins s σ H I) (h2 pins s σ H I)
theorem Do.no : Do X ss (fun _ _ => False) D := fun pins s σ H I q => q.elim
theorem do_nil (h : ∀ σ H, A σ H → D.nx σ H) : Do X [] A D := fun pins s σ H I q => wpAny_execs_nil ⟨σ, H, I, h σ H q⟩
theorem do_cons (h1 : Do1 X st A { D with nx := M }) (h2 : Do X rest M D) : Do X (st :: rest) A D := fun pins s σ H I q => by
  refine wpAny_execs_cons (thn (h1 pins s σ H I q) fun f s1 r => ?_)
  cases f with
  | next =>
    obtain ⟨σ', H', I', q⟩ := r
    exact h2 pins s1 σ' H' I' q
  | ret v => exact r
  | brk => exact r
  | cont => exact r
theorem do_brk {pos : Pos} (h : ∀ σ H, A σ H → D.bk σ H) : Do X (.Break pos :: rest) A D := do_cons (M := fun _ _ => False) (Do1.of ps_break h) Do.no
theorem do_cont {pos : Pos} (h : ∀ σ H, A σ H → D.ct σ H) : Do X (.Continue pos :: rest) A D := do_cons (M := fun _ _ => False) (Do1.of ps_continue h) Do.no
theorem do_pass {pos : Pos} (h : Do X rest A D) : Do X (.Pass pos :: rest) A D := do_cons (M := A) (Do1.of ps_pass fun _ _ q => q) h
end

section
variable {X : Cx} {C : Cn} {T : Tbs} {A M : As} {D : Ends} {e t iter tg : Expr} {rest body orelse : List Stmt} {pos p p1 p2 : Pos} {x : Str} {i : Nat} {R Ra : Rp} {Rs : List Rp} {ct : Ct} {ds : List PD} {d : PD} {l : Addr}
/-- x = e -/
theorem do_set (hN : X.N.Nodup) (hi : X.N[i]? = some x) (hx : Loc X.env.scope x) (he : Ev X C e R) (h : Do X rest (C.set i R).at D) (hl : i < C.sl.length := by first | decide | (simp <;> done) | exact (by decide))
    (hs : swapsWith e (some (.Name x p)) pos.line X.env = pure false := by rfl) (hf : X.fn x = true ∨ X.env.scope.names.lookup x = some .local := by first | exact .inl rfl | exact .inr rfl | assumption) : Do X (.Assign [.Name x p] e pos :: rest) C.at D :=
  do_cons (M := (C.set i R).at) (Do1.of (ps_set hN hi hx he hs hf) fun σ H ⟨F, c⟩ => ⟨F, c, fun v F' H' l h => ⟨F', (c.le l).set hl h⟩⟩) h
/-- one more owned object -/
def Cn.own (C : Cn) (i : Nat) (q : Addr) (ct : Ct) : Cn := { C with sl := C.sl.set i (some (isA q)), os := (q, ct) :: C.os }
theorem Cn.ok.own {σ : St} {F H F' H' : Hp} {q : Addr} {o : HO} (c : C.ok σ F H) (l : Le C.T F H F' H') (h1 : H q = none) (h2 : F' q = none) (h3 : H' q = some o) (nt : ∀ ps, o ≠ .tbl ps) (h4 : ct.p o F') (hi : i < C.sl.length) : (C.own i q ct).ok (σ.set i (some (.ref q))) F' H' := by
  have c' := (c.le l).set (R := isA q) (v := .ref q) hi rfl
  refine ⟨c'.w, c'.len, c'.sl, fun r hr => ?_, ?_, c'.ff, c'.en⟩
  · rcases List.mem_cons.mp hr with rfl | hr
    · exact ⟨h2, Classical.byContradiction fun z => c.en.d q z h1, o, h3, nt, h4⟩
    · exact c'.os r hr
  · refine List.nodup_cons.mpr ⟨fun z => ?_, c'.nd⟩
    obtain ⟨r, hr, e⟩ := List.mem_map.mp z
    obtain ⟨_, _, o', h5, _⟩ := c.os r hr
    rw [e, h1] at h5
    cases h5
/-- x = a new list (dict), owned by x -/
theorem do_own (hN : X.N.Nodup) (hi : X.N[i]? = some x) (hx : Loc X.env.scope x) (he : En X C e ct) (h : ∀ q, Do X rest (C.own i q ct).at D) (hl : i < C.sl.length := by first | decide | (simp <;> done) | exact (by decide))
    (hs : swapsWith e (some (.Name x p)) pos.line X.env = pure false := by rfl) (hf : X.fn x = true ∨ X.env.scope.names.lookup x = some .local := by first | exact .inl rfl | exact .inr rfl | assumption) : Do X (.Assign [.Name x p] e pos :: rest) C.at D :=
  do_cons (M := fun σ H => ∃ q, (C.own i q ct).at σ H) (Do1.of (ps_set hN hi hx he hs hf) fun σ H ⟨F, c⟩ => ⟨F, c, fun q o F' H' l h1 h2 h3 nt h4 => ⟨q, F', c.own l h1 h2 h3 nt h4 hl⟩⟩) (Do.ex h)
/-- an owned object's content changes -/
def putO (q : Addr) (ct : Ct) : List (Addr × Ct) → List (Addr × Ct)
  | [] => []
  | (a, c) :: r => if a = q then (a, ct) :: r else (a, c) :: putO q ct r
theorem putO_fst (q : Addr) (ct : Ct) : ∀ os : List (Addr × Ct), (putO q ct os).map Prod.fst = os.map Prod.fst
  | [] => rfl
  | (a, c) :: r => by
    unfold putO
    split
    · rfl
    · rw [List.map_cons, List.map_cons, putO_fst q ct r]
theorem mem_putO {q : Addr} {ct : Ct} : ∀ {os : List (Addr × Ct)} {r : Addr × Ct}, (os.map Prod.fst).Nodup → r ∈ putO q ct os → (r.1 = q ∧ r.2 = ct) ∨ (r ∈ os ∧ r.1 ≠ q)
  | (a, c) :: os, r, nd, h => by
    rw [List.map_cons] at nd
    obtain ⟨n1, n2⟩ := List.nodup_cons.mp nd
    unfold putO at h
    split at h
    · rename_i e
      rcases List.mem_cons.mp h with rfl | h
      · exact .inl ⟨e, rfl⟩
      · exact .inr ⟨List.mem_cons_of_mem _ h, fun z => n1 (by rw [e, ← z]; exact List.mem_map.mpr ⟨r, h, rfl⟩)⟩
    · rename_i e
      rcases List.mem_cons.mp h with rfl | h
      · exact .inr ⟨List.mem_cons_self, e⟩
      · rcases mem_putO n2 h with z | ⟨z, y⟩
        · exact .inl z
        · exact .inr ⟨List.mem_cons_of_mem _ z, y⟩
def Cn.put (C : Cn) (q : Addr) (ct : Ct) : Cn := { C with os := putO q ct C.os }
def findO (q : Addr) : List (Addr × Ct) → Option Ct
  | [] => none
  | (a, c) :: r => if a = q then some c else findO q r
theorem findO_mem {q : Addr} {ct : Ct} : ∀ {os : List (Addr × Ct)}, findO q os = some ct → (q, ct) ∈ os
  | (a, c) :: r, h => by
    unfold findO at h
    split at h
    · rename_i e; cases h; rw [e]; exact List.mem_cons_self
    · exact List.mem_cons_of_mem _ (findO_mem h)
theorem Le.mut {F H F0 H0 : Hp} {q : Addr} {o o' : HO} (l : Le T F0 H0 F H) (h1 : F q = none) (h2 : H0 q = none) (h3 : H q = some o) (nt : ∀ ps, o ≠ .tbl ps) (nt' : ∀ ps, o' ≠ .tbl ps) : Le T F0 H0 F (upd H q o') where
  f := l.f
  h := fun b u e n => by rw [upd_ne (ne_of_none e h2)]; exact l.h b u e n
  n := l.n
  d := fun b z => by
    by_cases hb : b = q
    · rw [hb, upd_same]; intro y; cases y
    · rw [upd_ne hb]; exact l.d b z
  w := by
    refine ⟨fun b u e => ?_, l.w.nt, ⟨fun P hP => ?_, fun p hp => ?_⟩⟩
    · rw [upd_ne (ne_of_none e h1)]; exact l.w.i b u e
    · obtain ⟨ps, e, q'⟩ := l.w.tb.1 P hP
      exact ⟨ps, by rw [upd_ne (fun z => nt ps (by rw [z, h3] at e; exact Option.some.inj e))]; exact e, q'⟩
    · obtain ⟨ps, e, q', r⟩ := l.w.tb.2 p hp
      exact ⟨ps, by rw [upd_ne (fun z => nt ps (by rw [z, h3] at e; exact Option.some.inj e))]; exact e, q', r⟩
theorem Cn.ok.put {σ : St} {F H F0 : Hp} {q : Addr} {o o' : HO} {ct' : Ct} (c : C.ok σ F H) (hm : (q, ct) ∈ C.os) (h3 : H q = some o) (nt' : ∀ ps, o' ≠ .tbl ps) (h : ct'.p o' F) : (C.put q ct').ok σ F (upd H q o') := by
  obtain ⟨a1, a2, o1, a3, a4, a5⟩ := c.os _ hm
  have a1 : F q = none := a1
  have a2 : C.enH q = none := a2
  have a3 : H q = some o1 := a3
  have l : Le C.T C.enF C.enH F (upd H q o') := c.en.mut a1 a2 a3 a4 nt'
  refine ⟨l.w, c.len, c.sl, fun r hr => ?_, ?_, c.ff, l⟩
  · rcases mem_putO c.nd hr with ⟨e1, e2⟩ | ⟨hr, ne⟩
    · exact ⟨by rw [e1]; exact a1, by rw [e1]; exact a2, o', by rw [e1, upd_same], nt', by rw [e2]; exact h⟩
    · obtain ⟨b1, b2, ob, b3, b4, b5⟩ := c.os r hr
      exact ⟨b1, b2, ob, by rw [upd_ne ne]; exact b3, b4, b5⟩
  · show ((putO q ct' C.os).map Prod.fst).Nodup
    rw [putO_fst]; exact c.nd
/-- l.append(e) -/
theorem do_app {o : Expr} {apos : Pos} (ho : Ev X C o (isA l)) (hf : findO l C.os = some (ctL X.K ds)) (he : Ev X C e (isD X.K d)) (hz : ds.length < 100000) (h : Do X rest (C.put l (ctL X.K (ds ++ [d]))).at D)
    (hbase : attributeBase o "append" X.env (eval o X.env) = eval o X.env := by rfl)
    (hfew : ((backTo p (starEach [e] X.env)).all (fun x => !x.1) && (backToKw p (keywordEach [] X.env)).all (fun x => x.1.isSome)
      && decide ([e].length + ([] : List Keyword).length + (if ([] : List Keyword).isEmpty then 0 else 1) < 30)) = true := by rfl)
    (hline : (apos.endLine == p.line) = true := by rfl) (hse : starEach [e] X.env = (false, eval e X.env) :: starEach [] X.env := by rfl) (hplain : (backTo p (starEach [] X.env)).any (·.1) = false := by rfl)
    (hs : swapsWith (.Call (.Attribute o "append" apos) [e] [] p) none pos.line X.env = pure false := by rfl) :
    Do X (.Expr (.Call (.Attribute o "append" apos) [e] [] p) pos :: rest) C.at D := by
  refine do_cons (M := (C.put l (ctL X.K (ds ++ [d]))).at) (Do1.of (ps_expr (pe_bm PySem.F.plainAttrs_list PySem.F.slot_list_append PySem.F.type_list_append mt_append ho (pa_cons he pa_nil hse) hbase hfew hline hse hplain) hs) fun σ H ⟨F, c⟩ => ?_) h
  have hm := findO_mem hf
  refine ⟨F, c, fun v F1 H1 l1 h1 => ?_⟩
  have h1 : v = .ref l := h1
  subst h1
  obtain ⟨_, _, o1, a3, _, xs, e1, al⟩ := (c.le l1).os _ hm
  have a3 : H1 l = some o1 := a3
  subst e1
  refine ⟨.inl ⟨rfl, xs, SqL.of a3⟩, F1, c.le l1, fun y F2 H2 l2 h2 => ?_⟩
  obtain ⟨_, _, o2, b3, _, ys, e2, al2⟩ := ((c.le l1).le l2).os _ hm
  have b3 : H2 l = some o2 := b3
  subst e2
  refine ⟨l, ys, y, rfl, rfl, b3, Nat.lt_of_lt_of_le (by rw [dpAll_length al2]; exact hz) (by decide), F2, ?_⟩
  exact ((c.le l1).le l2).put (F0 := F2) hm b3 (lst_nt _) ⟨_, rfl, dpAll_append al2 (dpAll_one h2)⟩
/-- return e -/
theorem do_ret (he : Ev X C e R) (h : ∀ σ v F' H', C.ok σ F' H' → R.p v F' → D.rt v H') : Do X (.Return (some e) pos :: rest) C.at D :=
  do_cons (M := fun _ _ => False) (Do1.of (ps_ret he) fun σ H ⟨F, c⟩ => ⟨F, c, fun v F' H' l z => h σ v F' H' (c.le l) z⟩) Do.no
/-- if t: body else: orelse -/
theorem do_if {b : Bool} (ht : Et X C t b) (h1 : b = true → Do X body C.at { D with nx := M }) (h2 : b = false → Do X orelse C.at { D with nx := M }) (h : Do X rest M D) : Do X (.If t body orelse pos :: rest) C.at D := by
  refine do_cons (M := M) ?_ h
  cases b with
  | true => exact Do1.of (ps_if ht (h1 rfl).pss (pss_never (sts := orelse))) fun σ H ⟨F, c⟩ => ⟨F, c, fun F' H' l => iteT ⟨rfl, F', c.le l⟩⟩
  | false => exact Do1.of (ps_if ht (pss_never (sts := body)) (h2 rfl).pss) fun σ H ⟨F, c⟩ => ⟨F, c, fun F' H' l => iteF ⟨rfl, F', c.le l⟩⟩
/-- if t: body, where body does not fall through -/
theorem do_ifr {b : Bool} (ht : Et X C t b) (h1 : b = true → Do X body C.at { D with nx := fun _ _ => False }) (h2 : b = false → Do X rest C.at D) : Do X (.If t body [] pos :: rest) C.at D := by
  refine do_if (M := fun σ H => b = false ∧ C.at σ H) ht (fun hb => ?_) (fun hb => do_nil fun σ H q => ⟨hb, q⟩) (Do.exP h2)
  intro pins s σ H I q
  refine thn (h1 hb pins s σ H I q) fun f s1 r => ?_
  cases f with
  | next => obtain ⟨_, _, _, q⟩ := r; exact q.elim
  | ret v => exact r
  | brk => exact r
  | cont => exact r
/-- e (a value that is dropped) -/
theorem do_drop (he : Ev X C e R) (h : Do X rest C.at D) (hs : swapsWith e none pos.line X.env = pure false := by rfl) : Do X (.Expr e pos :: rest) C.at D :=
  do_cons (M := C.at) (Do1.of (ps_expr he hs) fun σ H ⟨F, c⟩ => ⟨F, c, fun v F' H' l z => ⟨F', c.le l⟩⟩) h
/-- x += e on ints -/
theorem do_augI {a b : Int} {op : Operator} {f : Int → Int → Int} (ho : PIp X op (ipI f)) (hN : X.N.Nodup) (hi : X.N[i]? = some x) (hx : Loc X.env.scope x) (hs : C.sl[i]? = some (some (isD X.K (.int a)))) (he : Ev X C e (isD X.K (.int b)))
    (h : Do X rest (C.set i (isD X.K (.int (f a b)))).at D) (hf : X.fn x = true ∨ X.env.scope.names.lookup x = some .local := by first | exact .inl rfl | exact .inr rfl | assumption) : Do X (.AugAssign (.Name x p) op e pos :: rest) C.at D := by
  refine do_cons (M := (C.set i (isD X.K (.int (f a b)))).at) (Do1.of (ps_aug hN hi hx he ho hf) fun σ H ⟨F, c⟩ => ?_) h
  obtain ⟨v, e1, e2⟩ := c.sl i _ hs
  refine ⟨v, e1, F, c, fun y F1 H1 l1 h1 => ⟨a, b, dp_int e2, dp_int h1, F1, (c.le l1).set ?_ (.int _)⟩⟩
  exact (List.getElem?_eq_some_iff.mp hs).1
/-- a target -/
def tG (C : Cn) (R : Rp) (C' : Cn) (ws : List Nat) : TG := fun v σ H Q => ∃ F, C.ok σ F H ∧ R.p v F ∧ ∀ σ', C'.ok σ' F H → (∀ vs : List Nat, (∀ i ∈ ws, i ∈ vs) → wipe σ' vs = wipe σ vs) → Q σ' H
abbrev Tg (X : Cx) (C : Cn) (R : Rp) (tg : Expr) (C' : Cn) (ws : List Nat) : Prop := PG X tg (tG C R C' ws)
theorem wipe_get {σ : St} {j : Nat} : ∀ {vs : List Nat}, (wipe σ vs)[j]? = if j ∈ vs ∧ j < σ.length then some none else σ[j]?
  | [] => by simp [wipe]
  | v :: vs => by
    unfold wipe
    by_cases h : v = j
    · subst h
      rw [List.getElem?_set, wipe_length]
      by_cases hl : v < σ.length
      · simp [hl]
      · simp [hl, List.getElem?_eq_none (Nat.le_of_not_lt hl)]
    · rw [List.getElem?_set_ne h, wipe_get (vs := vs)]
      have : (j ∈ v :: vs) ↔ j ∈ vs := by simp [Ne.symm h]
      simp only [this]
theorem wipe_set {σ : St} {i : Nat} {v : Option V} {vs : List Nat} (h : i ∈ vs) : wipe (σ.set i v) vs = wipe σ vs := by
  refine List.ext_getElem? fun j => ?_
  rw [wipe_get, wipe_get, List.length_set]
  by_cases hj : j ∈ vs ∧ j < σ.length
  · rw [if_pos hj, if_pos hj]
  · rw [if_neg hj, if_neg hj]
    by_cases e : i = j
    · subst e
      have hl : σ.length ≤ i := Nat.le_of_not_lt fun z => hj ⟨h, z⟩
      rw [List.getElem?_eq_none hl, List.getElem?_eq_none (by rw [List.length_set]; exact hl)]
    · rw [List.getElem?_set_ne e]
theorem PG.of {tg : Expr} {g g' : TG} (h : PG X tg g) (k : ∀ v σ H Q, g' v σ H Q → g v σ H Q) : PG X tg g' := ⟨fun pins s σ H v u Q I r q => h.run pins s σ H v u Q I r (k v σ H Q q)⟩
theorem tg_name (hN : X.N.Nodup) (hi : X.N[i]? = some x) (hx : Loc X.env.scope x) (hl : i < C.sl.length := by first | decide | (simp <;> done)) (hf : X.fn x = true ∨ X.env.scope.names.lookup x = some .local := by first | exact .inl rfl | exact .inr rfl | assumption) : Tg X C R (.Name x pos) (C.set i R) [i] :=
  PG.of (pg_name hN hi hx hf) fun v σ H Q ⟨F, c, h, q⟩ => q _ (c.set hl h) fun vs hv => wipe_set (hv i List.mem_cons_self)
/-- targets, one after another -/
inductive Tgs (X : Cx) : Cn → List Rp → List Expr → Cn → List Nat → Prop where
  | nil {C : Cn} : Tgs X C [] [] C []
  | cons {C C1 C2 : Cn} {R : Rp} {Rs : List Rp} {e : Expr} {es : List Expr} {ws ws' : List Nat} : Tg X C R e C1 ws → (assignEach (e :: es) X.env).map (·.2) = assign e X.env :: (assignEach es X.env).map (·.2) → Tgs X C1 Rs es C2 ws' → Tgs X C (R :: Rs) (e :: es) C2 (ws ++ ws')
theorem Tgs.pgs {C C' : Cn} {Rs : List Rp} {es : List Expr} {ws : List Nat} (h : Tgs X C Rs es C' ws) : PGs X es (fun vs σ H Q => ∃ F, C.ok σ F H ∧ Fit F Rs vs ∧ ∀ σ', C'.ok σ' F H → (∀ vs : List Nat, (∀ i ∈ ws, i ∈ vs) → wipe σ' vs = wipe σ vs) → Q σ' H) := by
  induction h with
  | nil => exact ⟨fun pins s σ H vs us Q I r ⟨F, c, f, q⟩ => pgs_nil.run pins s σ H vs us Q I r ⟨by cases f; rfl, q σ c fun _ _ => rfl⟩⟩
  | @cons C C1 C2 R Rs e es ws ws' h1 hs _ ih =>
    refine ⟨fun pins s σ H vs us Q I r ⟨F, c, f, q⟩ => (pgs_cons h1 ih hs).run pins s σ H vs us Q I r ?_⟩
    cases f with
    | cons f1 f2 => exact ⟨_, _, rfl, F, c, f1, fun σ' c' k1 => ⟨F, c', f2, fun σ2 c2 k2 => q σ2 c2 fun vs hv => (k2 vs fun i hi => hv i (List.mem_append_right _ hi)).trans (k1 vs fun i hi => hv i (List.mem_append_left _ hi))⟩⟩
theorem all_fit {K : PySem.W.Frag} {F : Hp} : ∀ {ds : List PD} {vs : List V}, DpAll K F vs ds → Fit F (ds.map (isD K)) vs
  | [], _, .nil => .nil
  | d :: ds, _, .cons h t => .cons h (all_fit t)
theorem tg_tup {es : List Expr} {k : Nat} {C' : Cn} {ws : List Nat} (hc : X.calm = true) (h : Tgs X C (ds.map (isD X.K)) es C' ws) (hn : (assignEach es X.env).length = ds.length := by rfl) (hst : (assignEach es X.env).findIdx? (·.1) = none := by rfl) : Tg X C (isD X.K (.tuple ds)) (.Tuple es k pos) C' ws :=
  PG.of (pg_tup hc h.pgs hn hst) fun v σ H Q ⟨F, c, hv, q⟩ => by
    obtain ⟨a, xs, rfl, sq, al⟩ := dp_tup hv
    exact ⟨a, xs, rfl, st_up c.w sq, dpAll_length al, F, c, all_fit al, q⟩
/-- target = e -/
theorem do_asg {C' : Cn} {ws : List Nat} (he : Ev X C e R) (hg : Tg X C R tg C' ws) (h : Do X rest C'.at D) (hs : swapsWithSole [tg] e pos.line X.env = pure false := by rfl) (hw : swappedStores [tg] e X.env = pure none := by rfl)
    (h1 : (assignEach [tg] X.env).map (·.2) = [assign tg X.env] := by rfl) : Do X (.Assign [tg] e pos :: rest) C.at D :=
  do_cons (M := C'.at) (Do1.of (ps_asg he hg hs hw h1) fun σ H ⟨F, c⟩ => ⟨F, c, fun v F' H' l z => ⟨F', c.le l, z, fun σ' c' _ => ⟨F', c'⟩⟩⟩) h

/-! ### loops -/
/-- the iterator gives values as Rs says, while f holds -/
def ItW (T : Tbs) (J : It) (Rs : List Rp) (f : Fp) : Prop := ∀ i F H, Wok T F H → f.p F →
  (∀ R, Rs[i]? = some R → J.go i H ∧ ∀ v H', J.yld i H v H' → ∃ F', Le T F H F' H' ∧ R.p v F') ∧ (Rs[i]? = none → J.stop i H)
def Iv (X : Cx) (C : Cn) (tg iter : Expr) (Rs : List Rp) : Prop := ∃ wi, PI X tg iter wi ∧ ∀ σ F H, C.ok σ F H → ∀ G : It → Hp → Prop, (∀ (J : It) (f : Fp) F' H', Le C.T F H F' H' → ItW C.T J Rs f → f.p F' → G J H') → wi σ H G
theorem iv_list (h : Ev X C e (isD X.K (.list ds))) : Iv X C tg e (ds.map (isD X.K)) := by
  refine ⟨_, pi_list h, fun σ F H c G k => ⟨F, c, fun v F' H' l z => ?_⟩⟩
  obtain ⟨a, xs, rfl, sq, al⟩ := dp_lst z
  refine ⟨a, rfl, ⟨xs, sq_up l.w sq⟩, k _ ⟨fun F => SqL X.K F a xs ∧ DpAll X.K F xs ds, fun e q => ⟨Evl.ex_l e q.1, dpAll_mono e q.2⟩⟩ F' H' l (fun i F1 H1 w ⟨s1, a1⟩ => ⟨fun R hR => ?_, fun hn => ?_⟩) ⟨sq, al⟩⟩
  · rw [List.getElem?_map] at hR
    cases q : ds[i]? with
    | none => rw [q] at hR; cases hR
    | some d =>
      rw [q] at hR
      cases hR
      obtain ⟨v, e1, e2⟩ := dpAll_get a1 q
      exact ⟨⟨xs, v, sq_up w s1, e1⟩, fun x H2 ⟨e3, e4⟩ => ⟨F1, by rw [e3]; exact w.le, by
        have e5 := e4 xs (sq_up w s1)
        rw [e1] at e5
        rw [← Option.some.inj e5]; exact e2⟩⟩
  · refine ⟨xs, sq_up w s1, ?_⟩
    rw [dpAll_length a1]
    simpa using hn
theorem iv_tup (h : Ev X C e (isD X.K (.tuple ds))) : Iv X C tg e (ds.map (isD X.K)) := by
  refine ⟨_, pi_tup h, fun σ F H c G k => ⟨F, c, fun v F' H' l z => ?_⟩⟩
  obtain ⟨a, xs, rfl, sq, al⟩ := dp_tup z
  refine ⟨a, rfl, ⟨xs, st_up l.w sq⟩, k _ ⟨fun F => SqT X.K F a xs ∧ DpAll X.K F xs ds, fun e q => ⟨Evl.ex_t e q.1, dpAll_mono e q.2⟩⟩ F' H' l (fun i F1 H1 w ⟨s1, a1⟩ => ⟨fun R hR => ?_, fun hn => ?_⟩) ⟨sq, al⟩⟩
  · rw [List.getElem?_map] at hR
    cases q : ds[i]? with
    | none => rw [q] at hR; cases hR
    | some d =>
      rw [q] at hR
      cases hR
      obtain ⟨v, e1, e2⟩ := dpAll_get a1 q
      exact ⟨⟨xs, v, st_up w s1, e1⟩, fun x H2 ⟨e3, e4⟩ => ⟨F1, by rw [e3]; exact w.le, by
        have e5 := e4 xs (st_up w s1)
        rw [e1] at e5
        rw [← Option.some.inj e5]; exact e2⟩⟩
  · refine ⟨xs, st_up w s1, ?_⟩
    rw [dpAll_length a1]
    simpa using hn
def rngR (K : PySem.W.Frag) (lo : Int) (n : Nat) : List Rp := (List.range n).map fun (i : Nat) => isD K (.int (lo + (i : Int)))
theorem itw_rng {K : PySem.W.Frag} {lo : Int} {n : Nat} : ItW T (Itr lo n) (rngR K lo n) fpT := fun i F H w _ => by
  refine ⟨fun R hR => ?_, fun hn => ?_⟩
  · unfold rngR at hR
    rw [List.getElem?_map] at hR
    cases q : (List.range n)[i]? with
    | none => rw [q] at hR; cases hR
    | some j =>
      rw [q] at hR
      cases hR
      obtain ⟨h1, h2⟩ := List.getElem?_eq_some_iff.mp q
      rw [List.getElem_range] at h2
      rw [List.length_range] at h1
      subst h2
      exact ⟨h1, fun x H' ⟨e1, e2⟩ => ⟨F, by rw [e1]; exact w.le, by rw [e2]; exact .int _⟩⟩
  · show n ≤ i
    unfold rngR at hn
    simpa using hn
theorem iv_rng1 {n : Int} (ha : Ev X C e (isD X.K (.int n))) (hm : X.mg "range" = none) (h1 : -(2 ^ 62) ≤ n ∧ n < 2 ^ 62) (hg : Gl X "range" := by rfl) (hs : starEach [e] X.env = [(false, eval e X.env)] := by rfl) (hs2 : starEach [e] X.env = (false, eval e X.env) :: starEach [] X.env := by rfl) :
    Iv X C tg (.Call (.Name "range" p) [e] [] pos) (rngR X.K 0 n.toNat) := by
  refine ⟨_, pi_range1 hg hm (pa_cons ha pa_nil hs2) hs, fun σ F H c G k => ⟨F, c, fun v F' H' l z => ?_⟩⟩
  exact ⟨n, by rw [dp_int z], h1.1, h1.2, k _ fpT F' H' l itw_rng trivial⟩
theorem iv_rng2 {a : Expr} {m n : Int} (ha : Ev X C a (isD X.K (.int m))) (hb : Ev X C e (isD X.K (.int n))) (hm : X.mg "range" = none) (h1 : -(2 ^ 62) ≤ m ∧ m < 2 ^ 62 ∧ -(2 ^ 62) ≤ n ∧ n < 2 ^ 62) (hg : Gl X "range" := by rfl)
    (hs : starEach [a, e] X.env = [(false, eval a X.env), (false, eval e X.env)] := by rfl) (hs2 : starEach [e] X.env = [(false, eval e X.env)] := by rfl) (hs3 : starEach [a, e] X.env = (false, eval a X.env) :: starEach [e] X.env := by rfl) (hs4 : starEach [e] X.env = (false, eval e X.env) :: starEach [] X.env := by rfl) :
    Iv X C tg (.Call (.Name "range" p) [a, e] [] pos) (rngR X.K m (n - m).toNat) := by
  refine ⟨_, pi_range2 hg hm (pa_cons ha (pa_cons hb pa_nil hs4) hs3) hs hs2, fun σ F H c G k => run2 c fun v y F' H' l z1 z2 => ?_⟩
  exact ⟨m, n, by rw [dp_int z1, dp_int z2], h1, k _ fpT F' H' l itw_rng trivial⟩
theorem Cn.ok.plus {σ : St} {F H : Hp} {f : Fp} (c : C.ok σ F H) (h : f.p F) : (C.plus f).ok σ F H := ⟨c.w, c.len, c.sl, c.os, c.nd, ⟨c.ff, h⟩, c.en⟩
theorem Cn.ok.minus {σ : St} {F H : Hp} {f : Fp} {sl : List (Option Rp)} {os : List (Addr × Ct)} (c : ((C.plus f).to sl os).ok σ F H) : (C.to sl os).ok σ F H := ⟨c.w, c.len, c.sl, c.os, c.nd, c.ff.1, c.en⟩
/-- a loop's word: slots and owned objects at each turn -/
abbrev Lw := Nat → List (Option Rp) × List (Addr × Ct)
def Cn.lw (C : Cn) (J : Lw) (i : Nat) : Cn := C.to (J i).1 (J i).2
/-- for target in iter: body -/
theorem do_for (J : Lw) (hi : Iv X C tg iter Rs) (h0 : ∀ σ F H, C.ok σ F H → (C.lw J 0).ok σ F H)
    (hb : ∀ (i : Nat) (R : Rp) (f : Fp), Rs[i]? = some R → ∃ C' ws, Tg X ((C.plus f).lw J i) R tg C' ws ∧ Do X body C'.at { D with nx := ((C.plus f).lw J (i + 1)).at, ct := ((C.plus f).lw J (i + 1)).at, bk := M })
    (hM : ∀ σ H, (C.lw J Rs.length).at σ H → M σ H) (h : Do X rest M D) (hp : PassesOwn (model X.prog X.w) X.A X.env X.xe := by exact PassesOwn.never) (hc : X.calm = true := by rfl)
    (hs : ∀ x, foldedSetIterable iter X.env x = pure x := by intro _; rfl) : Do X (.For tg iter body [] pos :: rest) C.at D := by
  obtain ⟨wi, hpi, hw⟩ := hi
  refine do_cons (M := M) ?_ h
  have hpg : PG X tg (fun v σ H Q => ∃ (i : Nat) (R : Rp) (f : Fp), Rs[i]? = some R ∧ ∃ F, ((C.plus f).lw J i).ok σ F H ∧ R.p v F ∧ ∀ C' σ', (∃ ws, Tg X ((C.plus f).lw J i) R tg C' ws) → Do X body C'.at { D with nx := ((C.plus f).lw J (i + 1)).at, ct := ((C.plus f).lw J (i + 1)).at, bk := M } → C'.ok σ' F H → Q σ' H) :=
    ⟨fun pins s σ H v u Q I r ⟨i, R, f, hR, F, c, hv, q⟩ => by
      obtain ⟨C', ws, h1, h2⟩ := hb i R f hR
      exact h1.run pins s σ H v u Q I r ⟨F, c, hv, fun σ' c' _ => q C' σ' ⟨ws, h1⟩ h2 c'⟩⟩
  have hbd : PSs X body (fun D' σ H => ∃ A, Do X body A D' ∧ A σ H) := ⟨fun pins s σ H D' I ⟨A, h1, h2⟩ => h1 pins s σ H I h2⟩
  refine Do1.of (ps_for hp hc hpi hpg hbd hs) fun σ H ⟨F, c⟩ => hw σ F H c _ fun It f F1 H1 l itw hf => ?_
  refine ⟨fun i m σ H => m = Rs.length - i ∧ i ≤ Rs.length ∧ ∃ F, ((C.plus f).lw J i).ok σ F H, ⟨Rs.length, by simp, Nat.zero_le _, F1, ?_⟩, ?_⟩
  · have c1 := h0 σ F1 H1 (c.le l)
    exact ⟨c1.w, c1.len, c1.sl, c1.os, c1.nd, ⟨c1.ff, hf⟩, c1.en⟩
  · rintro i m σ2 H2 ⟨rfl, hle, F2, c2⟩
    have hf2 : f.p F2 := c2.ff.2
    obtain ⟨g1, g2⟩ := itw i F2 H2 c2.w hf2
    rcases Nat.lt_or_ge i Rs.length with hlt | hge
    · have e := List.getElem?_eq_getElem hlt
      obtain ⟨g3, g4⟩ := g1 _ e
      refine .inr ⟨g3, ((C.plus f).lw J (i + 1)).at, fun σ' H' ⟨F', c'⟩ => ⟨Rs.length - (i + 1), by omega, rfl, hlt, F', c'⟩, fun v H' y => ?_⟩
      obtain ⟨F', l', hv⟩ := g4 v H' y
      exact ⟨i, _, f, e, F', c2.le l', hv, fun C' σ' _ h2 c' => ⟨C'.at, h2, F', c'⟩⟩
    · have hi : i = Rs.length := Nat.le_antisymm hle hge
      subst hi
      exact .inl ⟨g2 (List.getElem?_eq_none (Nat.le_refl _)), hM σ2 H2 ⟨F2, c2.minus⟩⟩
/-- while t: body -/
theorem do_while {α : Type} (J : α → List (Option Rp) × List (Addr × Ct)) (m : α → Nat) (h0 : ∀ σ F H, C.ok σ F H → ∃ a, (C.to (J a).1 (J a).2).ok σ F H)
    (hb : ∀ a, ∃ b, Et X (C.to (J a).1 (J a).2) t b ∧ (b = true → Do X body (C.to (J a).1 (J a).2).at { D with nx := fun σ H => ∃ a', m a' < m a ∧ (C.to (J a').1 (J a').2).at σ H, ct := fun σ H => ∃ a', m a' < m a ∧ (C.to (J a').1 (J a').2).at σ H, bk := M }) ∧
      (b = false → ∀ σ H, (C.to (J a).1 (J a).2).at σ H → M σ H)) (h : Do X rest M D) (hp : PassesOwn (model X.prog X.w) X.A X.env X.xe := by exact PassesOwn.never) : Do X (.While t body [] pos :: rest) C.at D := by
  refine do_cons (M := M) ?_ h
  have hpt : PT X t (fun σ H Q => ∃ a, ∃ F, (C.to (J a).1 (J a).2).ok σ F H ∧ ∀ b F' H', (C.to (J a).1 (J a).2).ok σ F' H' → Et X (C.to (J a).1 (J a).2) t b → (b = true → Do X body (C.to (J a).1 (J a).2).at { D with nx := fun σ H => ∃ a', m a' < m a ∧ (C.to (J a').1 (J a').2).at σ H, ct := fun σ H => ∃ a', m a' < m a ∧ (C.to (J a').1 (J a').2).at σ H, bk := M }) →
      (b = false → ∀ σ H, (C.to (J a).1 (J a).2).at σ H → M σ H) → Q b H') := ⟨fun pins s σ H Q I ⟨a, F, c, q⟩ => by
    obtain ⟨b, h1, h2, h3⟩ := hb a
    exact h1.run pins s σ H Q I ⟨F, c, fun F' H' l => q b F' H' (c.le l) h1 h2 h3⟩⟩
  have hbd : PSs X body (fun D' σ H => ∃ A, Do X body A D' ∧ A σ H) := ⟨fun pins s σ H D' I ⟨A, h1, h2⟩ => h1 pins s σ H I h2⟩
  refine Do1.of (ps_while hp hpt hbd) fun σ H ⟨F, c⟩ => ?_
  refine ⟨fun k σ H => ∃ a, m a = k ∧ (C.to (J a).1 (J a).2).at σ H, ?_, ?_⟩
  · obtain ⟨a, q⟩ := h0 σ F H c
    exact ⟨m a, a, rfl, F, q⟩
  · rintro k σ2 H2 ⟨a, rfl, F2, c2⟩
    refine ⟨a, F2, c2, fun b F' H' c' _ h2 h3 => ?_⟩
    cases b with
    | true =>
      rw [if_pos rfl]
      exact ⟨fun σ H => ∃ a', m a' < m a ∧ (C.to (J a').1 (J a').2).at σ H, fun σ' H' ⟨a', q1, q2⟩ => ⟨m a', q1, a', rfl, q2⟩, _, h2 rfl, F', c'⟩
    | false =>
      rw [if_neg (by decide)]
      exact h3 rfl σ2 H' ⟨F', c'⟩
end
end Pl

set_option Elab.async false
set_option autoImplicit false
set_option linter.all false
set_option maxRecDepth 100000
set_option maxHeartbeats 4000000
namespace Pl
open PySem L2
open GxR (TabG Tabbed)
open LamX (ExtN TabS CodeO)
open NdefX (NTab TabN TabsN NF FnO)

/-! ### defs -/
/-- the promise of a def that changes nothing that stands -/
def Pu {α : Type} (T : Tbs) (pre : α → Prop) (Rs : α → List Rp) (R : α → Rp) : Sp := fun vs H Q _ =>
  ∃ a F, pre a ∧ Wok T F H ∧ Fit F (Rs a) vs ∧ ∀ v F' H', Le T F H F' H' → (R a).p v F' → Q v H'
/-- the def named x keeps the promise sp at level k -/
structure Df (P : Program) (w : World) (K : PySem.W.Frag) (mg : Str → Option Value) (base : Heap) (k : Nat) (x : Str) (sp : Sp) : Prop where
  ex : ∃ (f : Addr) (fd : FuncData) (ps : List Str), FnOk P w K mg base CX0 k f fd ps sp ∧ mg x = some (.ref f) ∧ PySem.W.keepIn K (.ref f) = true ∧ Binds K fd ps []
theorem Df.mono {P : Program} {w : World} {K : PySem.W.Frag} {mg : Str → Option Value} {base : Heap} {j k : Nat} {x : Str} {sp : Sp} (D : Df P w K mg base j x sp) (h : j ≤ k) : Df P w K mg base k x sp :=
  let ⟨f, fd, ps, F, a, b, c⟩ := D.ex; ⟨f, fd, ps, F.mono h, a, b, c⟩
section
variable {X : Cx} {C : Cn} {T : Tbs} {A M : As} {D : Ends} {e : Expr} {es : List Expr} {pos p p1 p2 : Pos} {x : Str} {k : Nat}
theorem ev_call {α : Type} {pre : α → Prop} {Rs : α → List Rp} {R : α → Rp} (d : Df X.prog X.w X.K X.mg X.base k x (Pu C.T pre Rs R)) (hr : Room k X.A) (a : α) (hp : pre a) (ha : Ea X C (e :: es) (Rs a)) (hg : Gl X x := by rfl)
    (hdb : (x == ("__debug__" : Str)) = false := by decide) (he : starEach (e :: es) X.env = (false, eval e X.env) :: starEach es X.env := by rfl) (hpl : (backTo pos (starEach es X.env)).any (·.1) = false := by rfl) : Ev X C (.Call (.Name x p) (e :: es) [] pos) (R a) := by
  obtain ⟨f, fd, ps, F, hm, hk, hb⟩ := d.ex
  refine ev_of (pe_call F hr hg hm hk hb .nil (pass0 (X := X)) ha hdb he hpl) fun σ Fr H Q c q => ⟨Fr, c, fun vs F' H' l f => ?_⟩
  show Pu C.T pre Rs R (vs ++ []) H' Q E0
  rw [List.append_nil]
  exact ⟨a, F', hp, l.w, f, fun v F2 H2 l2 h => q v F2 H2 (l.trans l2) h⟩
end
/-- the body of a def as a context -/
abbrev bodyX (P : Program) (w : World) (K : PySem.W.Frag) (mg : Str → Option Value) (base : Heap) (N : List Str) (qual : Str) (st : Stmt) (f : Addr) (cdv : Value) (A : Around) (outer : List Env) (s : Shared) (H : Hp) (E : XK) : Cx :=
  (cxOf CX0 P w K mg base N qual (defScope st) f cdv A outer s H E).nox
def slots (n : Nat) (Rs : List Rp) : List (Option Rp) := Rs.map some ++ List.replicate (n - Rs.length) none
theorem start_ok {T : Tbs} {N : List Str} {Rs : List Rp} {vs : List V} {F H H0 : Hp} {os : List (Addr × Ct)} (w : Wok T F H) (f : Fit F Rs vs) (l : Le T F H0 F H) (nd : (os.map Prod.fst).Nodup) (ho : ∀ q ∈ os, F q.1 = none ∧ H0 q.1 = none ∧ ∃ o, H q.1 = some o ∧ (∀ ps, o ≠ .tbl ps) ∧ q.2.p o F) : (Cn.mk T F H0 fpT (slots N.length Rs) os).ok (L2.start N vs) F H where
  w := w
  len := by
    unfold L2.start slots
    simp only [List.length_append, List.length_map, List.length_replicate]
    have := f.length
    omega
  sl := fun i R e => by
    have e : (slots N.length Rs)[i]? = some (some R) := e
    have fl := f.length
    have key : ∀ {Rs : List Rp} {vs : List V} {i : Nat} {R : Rp}, Fit F Rs vs → Rs[i]? = some R → ∃ v, vs[i]? = some v ∧ R.p v F := by
      intro Rs vs i R g
      induction g generalizing i with
      | nil => intro h; simp at h
      | cons h t ih =>
        intro q
        cases i with
        | zero => simp at q; subst q; exact ⟨_, rfl, h⟩
        | succ i => obtain ⟨v, a, b⟩ := ih (i := i) (by simpa using q); exact ⟨v, by simpa using a, b⟩
    unfold slots at e
    rcases Nat.lt_or_ge i Rs.length with h | h
    · rw [List.getElem?_append_left (by simpa using h), List.getElem?_map, List.getElem?_eq_getElem h] at e
      have e2 : Rs[i] = R := by simpa using e
      obtain ⟨v, a, b⟩ := key f (List.getElem?_eq_getElem h)
      refine ⟨v, ?_, e2 ▸ b⟩
      unfold L2.start
      rw [List.getElem?_append_left (by simpa [fl] using h), List.getElem?_map, a] <;> rfl
    · rw [List.getElem?_append_right (by simpa using h)] at e
      have := List.mem_of_getElem? e
      rw [List.mem_replicate] at this
      exact absurd this.2 (by simp)
  os := ho
  nd := nd
  ff := trivial
  en := l
section
variable {P : Program} {w : World} {K : PySem.W.Frag} {mg : Str → Option Value} {base : Heap}
/-- a def keeps the promise Pu -/
theorem df_pure {α : Type} {x qual : Str} {st : Stmt} {f : Addr} {fd : FuncData} {N ps : List Str} {k : Nat} {T : Tbs} (pre : α → Prop) (Rs : α → List Rp) (R : α → Rp) (Fn : Fun K x qual st f fd) (S : FnScope N ps (defScope st)) (hm : mg x = some (.ref f)) (hb : Binds K fd ps [])
    (hl : ∀ a, (Rs a).length = ps.length)
    (body : ∀ (cdv : Value) (A : Around) (outer : List Env) (s : Shared) (H F : Hp) (E : XK) (a : α) (D : Ends), Room k (A.deeper (PyProof.Rows.envOfC qual (defScope st) s.heap.objs.size f cdv)) → pre a →
      (∀ v F' H', Le T F H F' H' → (R a).p v F' → D.rt v H') → (∀ σ' F' H', Le T F H F' H' → (R a).p .non F' → D.nx σ' H') →
      Do (bodyX P w K mg base N qual st f cdv A outer s H E) (defBody st) (Cn.mk T F H fpT (slots N.length (Rs a)) []).at D) : Df P w K mg base (k + 1) x (Pu T pre Rs R) := by
  refine ⟨f, fd, ps, Fn.ok S (fun vs H Q E h => ?_) (fun cdv A outer s H vs Q E hr h => ?_), hm, Fn.kp, hb⟩
  · obtain ⟨a, F, _, _, h, _⟩ := h
    rw [h.length]; exact hl a
  · obtain ⟨a, F, hp, hw, hf, q⟩ := h
    refine ⟨_, (body cdv A outer s H F E a { nx := fun _ H' => Q .non H', rt := Q } hr hp q (fun σ' F' H' l z => q _ F' H' l z)).pss, rfl, F, start_ok hw hf hw.le List.nodup_nil (fun q hq => by cases hq)⟩
end

/-! ### objects -/
def isObj (C : Addr) (fs : List (Str × Rp)) : Rp := ⟨fun v F => ∃ p dx fv, v = .ref p ∧ F p = some (.ins C dx fv) ∧ fv.map Prod.fst = fs.map Prod.fst ∧ Fit F (fs.map Prod.snd) (fv.map Prod.snd),
  fun e ⟨p, dx, fv, h1, h2, h3, h4⟩ => ⟨p, dx, fv, h1, e _ _ h2, h3, h4.mono e⟩⟩
theorem fit_lookup {F : Hp} {f : Str} {R : Rp} : ∀ {fs : List (Str × Rp)} {fv : List (Str × V)}, fv.map Prod.fst = fs.map Prod.fst → Fit F (fs.map Prod.snd) (fv.map Prod.snd) → fs.lookup f = some R → ∃ v, fv.lookup f = some v ∧ R.p v F
  | [], _, _, _, h => by simp at h
  | (g, R') :: fs, [], e, _, _ => by simp at e
  | (g, R') :: fs, (g', v) :: fv, e, ft, h => by
    simp only [List.map_cons, List.cons.injEq] at e
    obtain ⟨e1, e2⟩ := e
    subst e1
    rw [List.map_cons, List.map_cons] at ft
    cases ft with
    | cons f1 f2 =>
      rw [List.lookup_cons] at h ⊢
      cases q : f == g' with
      | true =>
        have q' : f = g' := by simpa using q
        subst q'
        rw [beq_self_eq_true] at h
        simp only at h ⊢
        exact ⟨v, rfl, Option.some.inj h ▸ f1⟩
      | false =>
        rw [q] at h
        simp only at h ⊢
        exact fit_lookup e2 f2 h
theorem fit_lookup_none {f : Str} : ∀ {fs : List (Str × Rp)} {fv : List (Str × V)}, fv.map Prod.fst = fs.map Prod.fst → fs.lookup f = none → fv.lookup f = none
  | [], [], _, _ => rfl
  | [], _ :: _, e, _ => by simp at e
  | _ :: _, [], e, _ => by simp at e
  | (g, R') :: fs, (g', v) :: fv, e, h => by
    simp only [List.map_cons, List.cons.injEq] at e
    obtain ⟨e1, e2⟩ := e
    subst e1
    rw [List.lookup_cons] at h ⊢
    cases q : f == g' with
    | true =>
      have q' : f = g' := by simpa using q
      subst q'
      rw [beq_self_eq_true] at h
      cases h
    | false =>
      rw [q] at h
      simp only at h ⊢
      exact fit_lookup_none e2 h
section
variable {X : Cx} {C : Cn} {T : Tbs} {A M : As} {D : Ends} {e : Expr} {es : List Expr} {pos p p1 p2 apos : Pos} {x f m : Str} {k : Nat} {Cl : Addr} {fs : List (Str × Rp)} {R : Rp}
/-- e.f -/
theorem ev_fld (he : Ev X C e (isObj Cl fs)) (hc : Cls X.K Cl) (hn : NoAttr X.K Cl f) (hl : fs.lookup f = some R) (hb : attributeBase e f X.env (eval e X.env) = eval e X.env := by rfl) : Ev X C (.Attribute e f pos) R :=
  ev_of (pe_fld he hb) fun σ F H Q c q => ⟨F, c, fun v F' H' l ⟨a, dx, fv, h1, h2, h3, h4⟩ => by
    obtain ⟨z, e1, e2⟩ := fit_lookup h3 h4 hl
    exact ⟨a, Cl, dx, fv, z, h1, l.w.i _ _ h2, hc, hn, e1, q z F' H' l e2⟩⟩
/-- a method of the class at Cl -/
structure Mf (P : Program) (w : World) (K : PySem.W.Frag) (mg : Str → Option Value) (base : Heap) (k : Nat) (Cl : Addr) (m : Str) (sp : Sp) : Prop where
  ex : ∃ (f : Addr) (fd : FuncData) (ps : List Str), FnOk P w K mg base CX0 k f fd ps sp ∧ Meth K Cl m f ∧ Binds K fd ps []
theorem Mf.mono {P : Program} {w : World} {K : PySem.W.Frag} {mg : Str → Option Value} {base : Heap} {j k : Nat} {Cl : Addr} {m : Str} {sp : Sp} (D : Mf P w K mg base j Cl m sp) (h : j ≤ k) : Mf P w K mg base k Cl m sp :=
  let ⟨f, fd, ps, F, a, b⟩ := D.ex; ⟨f, fd, ps, F.mono h, a, b⟩
/-- o.m(e, ..) -/
theorem ev_meth {α : Type} {pre : α → Prop} {Rs : α → List Rp} {R : α → Rp} (d : Mf X.prog X.w X.K X.mg X.base k Cl m (Pu C.T pre (fun a => isObj Cl fs :: Rs a) R)) (hr : Room k X.A) (a : α) (hp : pre a) (hc : Cls X.K Cl) (hl : fs.lookup m = none) {o : Expr} (ho : Ev X C o (isObj Cl fs)) (ha : Ea X C (e :: es) (Rs a))
    {pl : Sem Bool} (hst : starEach (e :: es) X.env = (false, eval e X.env) :: starEach es X.env := by rfl) (hpl : (backTo pos (starEach es X.env)).any (·.1) = false := by rfl)
    (ht : eval (.Call (.Attribute o m apos) (e :: es) [] pos) X.env = (do
      let ov ← eval o X.env
      standAt apos.atName
      let (f, first) ← holding [ov] (getMethod ov m pl)
      callWith pos f first (backTo pos (starEach (e :: es) X.env)) (backToKw pos (keywordEach [] X.env))) := by rfl) : Ev X C (.Call (.Attribute o m apos) (e :: es) [] pos) (R a) := by
  obtain ⟨f, fd, ps, F, hm, hb⟩ := d.ex
  refine ev_of (pe_meth (pl := pl) ho hc hm F hr hb .nil (pass0 (X := X)) ha hst hpl ht) fun σ Fr H Q c q => ⟨Fr, c, fun v F' H' l ⟨z, dx, fv, h1, h2, h3, h4⟩ => ?_⟩
  subst h1
  refine ⟨z, dx, fv, rfl, l.w.i _ _ h2, fit_lookup_none h3 hl, F', c.le l, fun vs F2 H2 l2 ft => ?_⟩
  show Pu C.T pre (fun a => isObj Cl fs :: Rs a) R (V.ref z :: (vs ++ [])) H2 Q E0
  rw [List.append_nil]
  exact ⟨a, F2, hp, l2.w, .cons ((isObj Cl fs).mono l2.f ⟨z, dx, fv, rfl, h2, h3, h4⟩) ft, fun v F3 H3 l3 r => q v F3 H3 ((l.trans l2).trans l3) r⟩
end
end Pl

set_option Elab.async false
set_option autoImplicit false
set_option linter.all false
set_option maxRecDepth 100000
set_option maxHeartbeats 4000000
namespace Pl
open PySem L2
open GxR (TabG Tabbed)
open LamX (ExtN TabS CodeO)
open NdefX (NTab TabN TabsN NF FnO)

/-! ### built-ins by name -/
abbrev S1 (X : Cx) (e : Expr) : Prop := starEach [e] X.env = (false, eval e X.env) :: starEach [] X.env
section
variable {X : Cx} {C : Cn} {T : Tbs} {K : PySem.W.Frag} {a b c e : Expr} {es : List Expr} {pos p apos : Pos} {x : Str} {id Ty : String} {r : List V → Hp → VK → Prop} {R Ra Rb : Rp} {Rs : List Rp} {i j : Int} {ds ds' : List PD} {d d' : PD} {F H : Hp} {v : V} {ct : Ct}
theorem ev_callB (hc : CallR X (.builtin id) r) (hr : OpN C.T r Rs R) (hm : X.mg x = none) (hv : bootBuiltins x = some (.builtin id)) (ha : Ea X C (e :: es) Rs) (hg : Gl X x := by rfl) (hn : x ≠ "__name__" := by decide) (hdb : (x == ("__debug__" : Str)) = false := by decide)
    (he : starEach (e :: es) X.env = (false, eval e X.env) :: starEach es X.env := by rfl) (hpl : (backTo pos (starEach es X.env)).any (·.1) = false := by rfl) : Ev X C (.Call (.Name x p) (e :: es) [] pos) R :=
  ev_of (pe_callB hc hg hm hv ha hn hdb he hpl) fun σ F H Q c q => ⟨F, c, fun vs F' H' l f => hr vs F' H' l.w f Q fun v F2 H2 l2 z => q v F2 H2 (l.trans l2) z⟩
theorem ev_callT (hc : CallR X (.type Ty) r) (hr : OpN C.T r Rs R) (hm : X.mg x = none) (hv : bootBuiltins x = some (.type Ty)) (ha : Ea X C (e :: es) Rs) (hg : Gl X x := by rfl) (hn : x ≠ "__name__" := by decide) (hdb : (x == ("__debug__" : Str)) = false := by decide)
    (he : starEach (e :: es) X.env = (false, eval e X.env) :: starEach es X.env := by rfl) (hpl : (backTo pos (starEach es X.env)).any (·.1) = false := by rfl) : Ev X C (.Call (.Name x p) (e :: es) [] pos) R :=
  ev_of (pe_callTy hc hg hm hv ha hn hdb he hpl) fun σ F H Q c q => ⟨F, c, fun vs F' H' l f => hr vs F' H' l.w f Q fun v F2 H2 l2 z => q v F2 H2 (l.trans l2) z⟩
/-- .. that make a new object -/
def OpM (T : Tbs) (r : List V → Hp → VK → Prop) (Rs : List Rp) (ct : Ct) : Prop := ∀ xs F H, Wok T F H → Fit F Rs xs → ∀ Q : VK, (∀ p o F' H', Le T F H F' H' → H p = none → F' p = none → H' p = some o → (∀ ps, o ≠ .tbl ps) → ct.p o F' → Q (.ref p) H') → r xs H Q
theorem en_callB (hc : CallR X (.builtin id) r) (hr : OpM C.T r Rs ct) (hm : X.mg x = none) (hv : bootBuiltins x = some (.builtin id)) (ha : Ea X C (e :: es) Rs) (hg : Gl X x := by rfl) (hn : x ≠ "__name__" := by decide) (hdb : (x == ("__debug__" : Str)) = false := by decide)
    (he : starEach (e :: es) X.env = (false, eval e X.env) :: starEach es X.env := by rfl) (hpl : (backTo pos (starEach es X.env)).any (·.1) = false := by rfl) : En X C (.Call (.Name x p) (e :: es) [] pos) ct :=
  en_of (pe_callB hc hg hm hv ha hn hdb he hpl) fun σ F H Q c q => ⟨F, c, fun vs F' H' l f => hr vs F' H' l.w f Q fun p o F2 H2 l2 h1 h2 h3 nt z => q p o F2 H2 (l.trans l2) (l.back h1) h2 h3 nt z⟩
theorem en_callT (hc : CallR X (.type Ty) r) (hr : OpM C.T r Rs ct) (hm : X.mg x = none) (hv : bootBuiltins x = some (.type Ty)) (ha : Ea X C (e :: es) Rs) (hg : Gl X x := by rfl) (hn : x ≠ "__name__" := by decide) (hdb : (x == ("__debug__" : Str)) = false := by decide)
    (he : starEach (e :: es) X.env = (false, eval e X.env) :: starEach es X.env := by rfl) (hpl : (backTo pos (starEach es X.env)).any (·.1) = false := by rfl) : En X C (.Call (.Name x p) (e :: es) [] pos) ct :=
  en_of (pe_callTy hc hg hm hv ha hn hdb he hpl) fun σ F H Q c q => ⟨F, c, fun vs F' H' l f => hr vs F' H' l.w f Q fun p o F2 H2 l2 h1 h2 h3 nt z => q p o F2 H2 (l.trans l2) (l.back h1) h2 h3 nt z⟩
theorem fit1 {F : Hp} {R : Rp} {vs : List V} (f : Fit F [R] vs) : ∃ v, vs = [v] ∧ R.p v F := by cases f with | cons h t => cases t; exact ⟨_, rfl, h⟩
theorem fit2 {F : Hp} {R R' : Rp} {vs : List V} (f : Fit F [R, R'] vs) : ∃ v w, vs = [v, w] ∧ R.p v F ∧ R'.p w F := by cases f with | cons h t => obtain ⟨w, rfl, h'⟩ := fit1 t; exact ⟨_, _, rfl, h, h'⟩
theorem ea1 (h : Ev X C e R) (hs : S1 X e := by rfl) : Ea X C [e] [R] := ea_cons h ea_nil hs
/-- abs, int -/
theorem ev_abs (hm : X.mg "abs" = none) (h : Ev X C e (isD X.K (.int i))) (hg : Gl X "abs" := by rfl) (hse : S1 X e := by rfl) : Ev X C (.Call (.Name "abs" p) [e] [] pos) (isD X.K (.int (if i < 0 then -i else i))) :=
  ev_callB call_abs (fun xs F H w f Q q => by obtain ⟨v, rfl, h⟩ := fit1 f; exact ⟨i, by rw [dp_int h], q _ F H w.le (.int _)⟩) hm PyProof.Rows.boot_abs (ea1 h hse) hg (he := hse)
theorem ev_intI (hm : X.mg "int" = none) (h : Ev X C e (isD X.K (.int i))) (hg : Gl X "int" := by rfl) (hse : S1 X e := by rfl) : Ev X C (.Call (.Name "int" p) [e] [] pos) (isD X.K (.int i)) :=
  ev_callT call_int1 (fun xs F H w f Q q => by obtain ⟨v, rfl, h⟩ := fit1 f; exact .inl ⟨i, by rw [dp_int h], q _ F H w.le (.int _)⟩) hm PyProof.Rows.boot_int (ea1 h hse) hg (he := hse)
/-- len -/
theorem ev_lenL (hm : X.mg "len" = none) (h : Ev X C e (isD X.K (.list ds))) (hg : Gl X "len" := by rfl) (hse : S1 X e := by rfl) : Ev X C (.Call (.Name "len" p) [e] [] pos) (isD X.K (.int (ds.length : Int))) :=
  ev_callB call_len_seq (fun xs F H w f Q q => by
    obtain ⟨v, rfl, h⟩ := fit1 f
    obtain ⟨a, ys, rfl, sq, al⟩ := dp_lst h
    exact ⟨a, ys, rfl, .inl (sq_up w sq), by rw [dpAll_length al]; exact q _ F H w.le (.int _)⟩) hm PySem.boot_len (ea1 h hse) hg (he := hse)
theorem ev_lenT (hm : X.mg "len" = none) (h : Ev X C e (isD X.K (.tuple ds))) (hg : Gl X "len" := by rfl) (hse : S1 X e := by rfl) : Ev X C (.Call (.Name "len" p) [e] [] pos) (isD X.K (.int (ds.length : Int))) :=
  ev_callB call_len_seq (fun xs F H w f Q q => by
    obtain ⟨v, rfl, h⟩ := fit1 f
    obtain ⟨a, ys, rfl, sq, al⟩ := dp_tup h
    exact ⟨a, ys, rfl, .inr (st_up w sq), by rw [dpAll_length al]; exact q _ F H w.le (.int _)⟩) hm PySem.boot_len (ea1 h hse) hg (he := hse)
theorem ev_lenS {z : Str} (hz : z.length ≤ sizeLine) (hm : X.mg "len" = none) (h : Ev X C e (isD X.K (.str z))) (hg : Gl X "len" := by rfl) (hse : S1 X e := by rfl) : Ev X C (.Call (.Name "len" p) [e] [] pos) (isD X.K (.int (z.length : Int))) :=
  ev_callB call_len (fun xs F H w f Q q => by
    obtain ⟨v, rfl, h⟩ := fit1 f
    rw [dp_str h]
    exact ⟨.str z, z.length, rfl, ⟨hz, rfl⟩, q _ F H w.le (.int _)⟩) hm PySem.boot_len (ea1 h hse) hg (he := hse)
/-- list(..), tuple(..) -/
theorem opm_list {ys : List V} (h : DpAll K F ys ds) (w : Wok T F H) {Q : VK} (q : ∀ p o F' H', Le T F H F' H' → H p = none → F' p = none → H' p = some o → (∀ ps, o ≠ .tbl ps) → (ctL K ds).p o F' → Q (.ref p) H') : ∀ l, H l = none → Q (.ref l) (upd H l (.lst ys)) := fun l hl =>
  q l _ F _ (Le.newH w hl) hl (wok_none w hl) upd_same (lst_nt _) ⟨ys, rfl, h⟩
theorem en_listL (hm : X.mg "list" = none) (h : Ev X C e (isD X.K (.list ds))) (hg : Gl X "list" := by rfl) (hse : S1 X e := by rfl) : En X C (.Call (.Name "list" p) [e] [] pos) (ctL X.K ds) :=
  en_callT call_list_of (fun xs F H w f Q q => by
    obtain ⟨v, rfl, h⟩ := fit1 f
    obtain ⟨a, ys, rfl, sq, al⟩ := dp_lst h
    exact ⟨a, ys, rfl, .inl (sq_up w sq), opm_list al w q⟩) hm PyProof.Rows.boot_list (ea1 h hse) hg (he := hse)
theorem en_listT (hm : X.mg "list" = none) (h : Ev X C e (isD X.K (.tuple ds))) (hg : Gl X "list" := by rfl) (hse : S1 X e := by rfl) : En X C (.Call (.Name "list" p) [e] [] pos) (ctL X.K ds) :=
  en_callT call_list_of (fun xs F H w f Q q => by
    obtain ⟨v, rfl, h⟩ := fit1 f
    obtain ⟨a, ys, rfl, sq, al⟩ := dp_tup h
    exact ⟨a, ys, rfl, .inr (st_up w sq), opm_list al w q⟩) hm PyProof.Rows.boot_list (ea1 h hse) hg (he := hse)
theorem ev_tupL (hm : X.mg "tuple" = none) (h : Ev X C e (isD X.K (.list ds))) (hg : Gl X "tuple" := by rfl) (hse : S1 X e := by rfl) : Ev X C (.Call (.Name "tuple" p) [e] [] pos) (isD X.K (.tuple ds)) :=
  ev_callT call_tuple_of (fun xs F H w f Q q => by
    obtain ⟨v, rfl, h⟩ := fit1 f
    obtain ⟨a, ys, rfl, sq, al⟩ := dp_lst h
    exact ⟨a, ys, rfl, .inl ⟨sq_up w sq, fun l hl => q _ _ _ (Le.new w hl (tup_nt _)) (.tup (SqT.of upd_same) (dpAll_mono (Evl.Ex.new (wok_none w hl)) al))⟩⟩) hm PyProof.Rows.boot_tuple (ea1 h hse) hg (he := hse)
theorem ev_tupT (hm : X.mg "tuple" = none) (h : Ev X C e (isD X.K (.tuple ds))) (hg : Gl X "tuple" := by rfl) (hse : S1 X e := by rfl) : Ev X C (.Call (.Name "tuple" p) [e] [] pos) (isD X.K (.tuple ds)) :=
  ev_callT call_tuple_of (fun xs F H w f Q q => by
    obtain ⟨v, rfl, h⟩ := fit1 f
    obtain ⟨a, ys, rfl, sq, al⟩ := dp_tup (id h)
    exact ⟨a, ys, rfl, .inr ⟨st_up w sq, q _ F H w.le h⟩⟩) hm PyProof.Rows.boot_tuple (ea1 h hse) hg (he := hse)
/-- xs + ys, lists that are tracked -/
theorem opm_cat {ys zs : List V} : True := trivial
/-- in, not in: one sign in a text; data in a list, a tuple -/
theorem et_inS {c : Nat} {z : Str} (ha : Ev X C a (isD X.K (.str ⟨#[c]⟩))) (hb : Ev X C b (isD X.K (.str z))) (hm : behindInMarks .In b = false := by rfl) : Et X C (.Compare a [.In] [b] pos) (decide (c ∈ z.cps.toList)) :=
  et_cmp op_in_sign (fun x y F H w h1 h2 Q q => ⟨c, z, dp_str h1, dp_str h2, q _ F H w.le (.bl _)⟩) ha hb hm
theorem et_ninS {c : Nat} {z : Str} (ha : Ev X C a (isD X.K (.str ⟨#[c]⟩))) (hb : Ev X C b (isD X.K (.str z))) (hm : behindInMarks .NotIn b = false := by rfl) : Et X C (.Compare a [.NotIn] [b] pos) (!decide (c ∈ z.cps.toList)) :=
  et_cmp op_notIn_sign (fun x y F H w h1 h2 Q q => ⟨c, z, dp_str h1, dp_str h2, q _ F H w.le (.bl _)⟩) ha hb hm
theorem ev_inS {c : Nat} {z : Str} (ha : Ev X C a (isD X.K (.str ⟨#[c]⟩))) (hb : Ev X C b (isD X.K (.str z))) (hm : behindInMarks .In b = false := by rfl) : Ev X C (.Compare a [.In] [b] pos) (isD X.K (.bool (decide (c ∈ z.cps.toList)))) :=
  ev_cmp op_in_sign (fun x y F H w h1 h2 Q q => ⟨c, z, dp_str h1, dp_str h2, q _ F H w.le (.bl _)⟩) ha hb hm
/-- flat data -/
def flatD : PD → Bool
  | .none => true
  | .bool _ => true
  | .int _ => true
  | .str _ => true
  | _ => false
def toV : PD → V
  | .bool b => .bl b
  | .int i => .int i
  | .str x => .str x
  | _ => .non
theorem dp_flat (hd : flatD d = true) (h : Dp K F v d) : v = toV d ∧ flatV v = true := by
  cases h <;> first | exact ⟨rfl, rfl⟩ | cases hd
theorem dpAll_flat : ∀ {ds : List PD} {vs : List V}, ds.all flatD = true → DpAll K F vs ds → vs = ds.map toV ∧ vs.all flatV = true
  | [], _, _, .nil => ⟨rfl, rfl⟩
  | d :: ds, _, h, .cons h1 h2 => by
    rw [List.all_cons, Bool.and_eq_true] at h
    obtain ⟨e1, e2⟩ := dp_flat h.1 h1
    obtain ⟨e3, e4⟩ := dpAll_flat h.2 h2
    exact ⟨by rw [e1, e3]; rfl, by rw [List.all_cons, e2, e4]; rfl⟩
theorem op2_inF {neg : Bool} (hd : flatD d = true) (hs : ds.all flatD = true) {d' : PD} (hy : d' = .list ds ∨ d' = .tuple ds) : Op2 T (rIn K neg) (isD K d) (isD K d') (isD K (.bool (if neg then !inV (toV d) (ds.map toV) else inV (toV d) (ds.map toV)))) := fun x y F H w h1 h2 Q q => by
  obtain ⟨e1, e2⟩ := dp_flat hd h1
  rcases hy with rfl | rfl
  · obtain ⟨a, xs, rfl, sq, al⟩ := dp_lst h2
    obtain ⟨e3, e4⟩ := dpAll_flat hs al
    refine ⟨a, xs, rfl, .inl (sq_up w sq), e2, e4, ?_⟩
    rw [e1, e3]
    exact q _ F H w.le (.bl _)
  · obtain ⟨a, xs, rfl, sq, al⟩ := dp_tup h2
    obtain ⟨e3, e4⟩ := dpAll_flat hs al
    refine ⟨a, xs, rfl, .inr (st_up w sq), e2, e4, ?_⟩
    rw [e1, e3]
    exact q _ F H w.le (.bl _)
theorem et_inFL (hd : flatD d = true) (hs : ds.all flatD = true) (ha : Ev X C a (isD X.K d)) (hb : Ev X C b (isD X.K (.list ds))) (hm : behindInMarks .In b = false := by rfl) : Et X C (.Compare a [.In] [b] pos) (inV (toV d) (ds.map toV)) := et_cmp op_in_seq (op2_inF (neg := false) hd hs (.inl rfl)) ha hb hm
theorem et_inFT (hd : flatD d = true) (hs : ds.all flatD = true) (ha : Ev X C a (isD X.K d)) (hb : Ev X C b (isD X.K (.tuple ds))) (hm : behindInMarks .In b = false := by rfl) : Et X C (.Compare a [.In] [b] pos) (inV (toV d) (ds.map toV)) := et_cmp op_in_seq (op2_inF (neg := false) hd hs (.inr rfl)) ha hb hm
theorem et_ninFL (hd : flatD d = true) (hs : ds.all flatD = true) (ha : Ev X C a (isD X.K d)) (hb : Ev X C b (isD X.K (.list ds))) (hm : behindInMarks .NotIn b = false := by rfl) : Et X C (.Compare a [.NotIn] [b] pos) (!inV (toV d) (ds.map toV)) := et_cmp op_notIn_seq (op2_inF (neg := true) hd hs (.inl rfl)) ha hb hm
theorem et_ninFT (hd : flatD d = true) (hs : ds.all flatD = true) (ha : Ev X C a (isD X.K d)) (hb : Ev X C b (isD X.K (.tuple ds))) (hm : behindInMarks .NotIn b = false := by rfl) : Et X C (.Compare a [.NotIn] [b] pos) (!inV (toV d) (ds.map toV)) := et_cmp op_notIn_seq (op2_inF (neg := true) hd hs (.inr rfl)) ha hb hm
theorem ev_inFT (hd : flatD d = true) (hs : ds.all flatD = true) (ha : Ev X C a (isD X.K d)) (hb : Ev X C b (isD X.K (.tuple ds))) (hm : behindInMarks .In b = false := by rfl) : Ev X C (.Compare a [.In] [b] pos) (isD X.K (.bool (inV (toV d) (ds.map toV)))) := ev_cmp op_in_seq (op2_inF (neg := false) hd hs (.inr rfl)) ha hb hm
/-- data of any depth in a list -/
theorem et_ninD (hu : X.A.units + 65 < cLine) (s1 : SeqAt.shaped d = true) (s2 : SeqAt.shaped (.list ds) = true) (ha : Ev X C a (isD X.K d)) (hb : Ev X C b (isD X.K (.list ds))) (hm : behindInMarks .NotIn b = false := by rfl) : Et X C (.Compare a [.NotIn] [b] pos) (!ds.any fun z => PyData.eqv z d) :=
  et_cmp (op_notInD hu) (fun x y F H w h1 h2 Q q => ⟨d, ds, dp_up w h1, dp_up w h2, s1, s2, q _ F H w.le (.bl _)⟩) ha hb hm
/-- all(list of bools) -/
theorem ev_all {bs : List Bool} (hc : X.calm = true) (hm : X.mg "all" = none) (h : Ev X C e (isD X.K (.list (bs.map PyData.bool)))) (hg : Gl X "all" := by rfl) (hse : S1 X e := by rfl) : Ev X C (.Call (.Name "all" p) [e] [] pos) (isD X.K (.bool (bs.all fun b => b))) :=
  ev_callB (cr_all hc) (fun xs F H w f Q q => by
    obtain ⟨v, rfl, h⟩ := fit1 f
    obtain ⟨a, ys, rfl, sq, al⟩ := dp_lst h
    exact ⟨a, bs, rfl, by rw [← dpAll_bls al]; exact sq_up w sq, q _ F H w.le (.bl _)⟩) hm PyProof.Rows.boot_all (ea1 h hse) hg (he := hse)
/-! ### isinstance with a built-in class -/
def tyD : PD → String
  | .none => "NoneType"
  | .bool _ => "bool"
  | .int _ => "int"
  | .str _ => "str"
  | .list _ => "list"
  | .tuple _ => "tuple"
  | .dict _ => "dict"
theorem tyX_sqL {q : Addr} {xs : List V} (h : SqL K H q xs) : TyX K H (.ref q) (.type "list") := by
  rcases h with (h | ⟨o, h⟩) | ⟨o, its, n, h, c, _⟩
  · exact .base (.lst h)
  · exact .base (.frz h)
  · exact .kList h c
theorem tyX_sqT {q : Addr} {xs : List V} (h : SqT K H q xs) : TyX K H (.ref q) (.type "tuple") := by
  rcases h with (h | ⟨o, h⟩) | ⟨o, its, n, h, c, _⟩
  · exact .base (.tup h)
  · exact .fTuple h
  · exact .kTuple h c
theorem tyX_d (h : Dp K H v d) : TyX K H v (.type (tyD d)) := by
  cases h with
  | non => exact .base .non
  | bl b => exact .base (.bl b)
  | int i => exact .base (.int i)
  | str x => exact .base (.str x)
  | lst h _ => exact tyX_sqL h
  | tup h _ => exact tyX_sqT h
theorem ev_isi {n : String} {k : Bool} (hk : kitB (tyD d) n = some k) (hm : X.mg "isinstance" = none) (ha : Ev X C a (isD X.K d)) (hb : Ev X C b (isV (.ty n))) (hg : Gl X "isinstance" := by rfl) (hs : starEach [a, b] X.env = (false, eval a X.env) :: starEach [b] X.env := by rfl)
    (hs2 : starEach [b] X.env = (false, eval b X.env) :: starEach [] X.env := by rfl) (hpl : (backTo pos (starEach [b] X.env)).any (·.1) = false := by rfl) : Ev X C (.Call (.Name "isinstance" p) [a, b] [] pos) (isD X.K (.bool k)) :=
  ev_callB call_isi (Rs := [isD X.K d, isV (.ty n)]) (fun xs F H w f Q q => by
    obtain ⟨v, u, rfl, h1, h2⟩ := fit2 f
    have h2 : u = .ty n := h2
    subst h2
    exact ⟨v, .ty n, _, _, k, rfl, .ty n, tyX_d (dp_up w h1), kit_ty hk, q _ F H w.le (.bl _)⟩) hm PyProof.Rows.boot_isinstance (ea_cons ha (ea_cons hb ea_nil hs2) hs) hg (he := hs) (hpl := hpl)
end
end Pl

set_option Elab.async false
set_option autoImplicit false
set_option linter.all false
set_option maxRecDepth 100000
set_option maxHeartbeats 4000000
namespace Pl
open PySem PySem.Spec PyProof.Rows L2
open GxR (TabG Tabbed)
open LamX (ExtN TabS CodeO)
open NdefX (NTab TabN TabsN NF FnO)

/-! ### sets of tuples, the keys of any kind that stands in the heap -/
/-- what a set asks of its members' kind besides -/
structure Hx (P : Program) (w : World) {Kt : Type} [DecidableEq Kt] (knd : HeapKind P w Kt) : Prop where
  st : knd.Stays
  hb : ∀ {A : Around} {E : Value → Shared → Prop} {s : Shared} {k : Kt} {b : Addr} {Q : Bool → Shared → Prop}, knd.is s.heap k b → (∀ r, Q r s) → wpAny (model P w) A (hashByValue 8 (.ref b)) Q E s
  oc : ∀ {A : Around} {E : Value → Shared → Prop} {s : Shared} {k : Kt} {b : Addr} {Q : Bool → Shared → Prop}, knd.is s.heap k b → Q false s → wpAny (model P w) A (ofAClassStatement 8 (.ref b)) Q E s
section
variable {P : Program} {w : World} {A : Around} {E : Value → Shared → Prop} {s : Shared}
theorem hb_leaf (n : Nat) (k : NestedKey) (v : Value) (h : Heap) (x : NestedIs h k v) (hv : ∀ a, v ≠ .ref a) : ∃ r, hashByValue n v = pure r := by
  cases x with
  | none => exact ⟨true, by cases n <;> rfl⟩
  | bool _ => exact ⟨true, by cases n <;> rfl⟩
  | int i t => exact ⟨true, by cases n <;> rfl⟩
  | text x t => exact ⟨false, by cases n <;> rfl⟩
  | tup _ _ _ _ => exact absurd rfl (hv _)
theorem hb_key : ∀ (n : Nat) (k : NestedKey) (v : Value) (s : Shared) (Q : Bool → Shared → Prop), NestedIs s.heap k v → (∀ r, Q r s) → wpAny (model P w) A (hashByValue n v) Q E s := by
  intro n
  induction n with
  | zero =>
    intro k v s Q x h
    by_cases hv : ∀ a, v ≠ .ref a
    · obtain ⟨r, e⟩ := hb_leaf 0 k v _ x hv
      rw [e]; exact wpAny_pure (h r)
    · obtain ⟨a, rfl⟩ : ∃ a, v = .ref a := Classical.byContradiction fun z => hv fun a e => z ⟨a, e⟩
      exact wpAny_pure (h false)
  | succ n ih =>
    intro k v s Q x h
    by_cases hv : ∀ a, v ≠ .ref a
    · obtain ⟨r, e⟩ := hb_leaf (n + 1) k v _ x hv
      rw [e]; exact wpAny_pure (h r)
    · obtain ⟨a, rfl⟩ : ∃ a, v = .ref a := Classical.byContradiction fun z => hv fun a e => z ⟨a, e⟩
      cases x with
      | @tup _ o vs m ks hg hc hd hk =>
        unfold hashByValue
        refine wpAny_bind (wpAny_specialOf (show s.TypeIs (.ref a) "tuple" from ⟨o, hg, hc⟩) F.slot_tuple_hash.lookup ?_)
        show wpAny _ _ (seqItems? (.ref a) >>= _) _ _ s
        refine wpAny_bind (wpAny_seqItems hg hd ?_)
        refine wpAny_bind ?_
        show wpAny _ _ (forIn vs _ _) _ _ s
        rw [← Array.forIn_toList]
        have all : ∀ (ks : List NestedKey) (us : List Value), NestedAll s.heap ks us → ∀ u ∈ us, ∃ k', NestedIs s.heap k' u := by
          intro ks us z
          induction us generalizing ks with
          | nil => intro u hu; cases hu
          | cons u us ih2 =>
            intro u' hu'
            cases z with
            | cons z1 z2 =>
              rcases List.mem_cons.mp hu' with rfl | hu'
              · exact ⟨_, z1⟩
              · exact ih2 _ z2 u' hu'
        refine wpAny_forIn_list _ (fun rest r s' => s' = s ∧ ∀ u ∈ rest, ∃ k', NestedIs s.heap k' u) _ ?_ ?_ _ _ ⟨rfl, all _ _ hk⟩
        · rintro u rest r s' ⟨rfl, hall⟩
          obtain ⟨k', z⟩ := hall u List.mem_cons_self
          refine wpAny_bind (ih k' u s' _ z fun b => ?_)
          cases b with
          | true =>
            simp only [Bool.not_true, Bool.false_eq_true, if_false]
            exact wpAny_pure ⟨rfl, fun u hu' => hall u (List.mem_cons_of_mem _ hu')⟩
          | false =>
            simp only [Bool.not_false, if_true]
            exact wpAny_pure (wpAny_pure (h false))
        · rintro ⟨r1, r2⟩ s' ⟨rfl, _⟩
          cases r1 with
          | none => exact wpAny_pure (h true)
          | some b => exact wpAny_pure (h b)
theorem oc_key : ∀ (n : Nat) (k : NestedKey) (v : Value) (s : Shared) (Q : Bool → Shared → Prop), NestedIs s.heap k v → k.depth ≤ n → Q false s → wpAny (model P w) A (ofAClassStatement n v) Q E s := by
  intro n
  induction n with
  | zero =>
    intro k v s Q x hd h
    cases x with
    | none => exact wpAny_pure h
    | bool _ => exact wpAny_pure h
    | int i t => exact wpAny_pure h
    | text x t => exact wpAny_pure h
    | tup _ _ _ _ => simp [NestedKey.depth] at hd
  | succ n ih =>
    intro k v s Q x hd h
    cases x with
    | none => exact wpAny_pure h
    | bool _ => exact wpAny_pure h
    | int i t => exact wpAny_pure h
    | text x t => exact wpAny_pure h
    | @tup a o vs m ks hg hc hdt hk =>
      unfold ofAClassStatement
      refine wpAny_bind (wpAny_typeOf (show s.TypeIs (.ref a) "tuple" from ⟨o, hg, hc⟩) ?_)
      dsimp only
      have e : (("tuple" : String) == "tuple") = true := by decide
      simp only [e, if_true]
      refine wpAny_bind (wpAny_pure ?_)
      simp only [Bool.not_true, Bool.false_eq_true, if_false]
      show wpAny _ _ (seqItems? (.ref a) >>= _) _ _ s
      refine wpAny_bind (wpAny_seqItems hg hdt ?_)
      dsimp only
      refine wpAny_bind ?_
      show wpAny _ _ (forIn vs _ _) _ _ s
      rw [← Array.forIn_toList]
      have all : ∀ (ks : List NestedKey) (us : List Value), NestedAll s.heap ks us → NestedKey.depthAll ks ≤ n → ∀ u ∈ us, ∃ k', NestedIs s.heap k' u ∧ k'.depth ≤ n := by
        intro ks us z
        induction us generalizing ks with
        | nil => intro _ u hu; cases hu
        | cons u us ih2 =>
          intro hn u' hu'
          cases z with
          | cons z1 z2 =>
            simp only [NestedKey.depthAll] at hn
            rcases List.mem_cons.mp hu' with rfl | hu'
            · exact ⟨_, z1, by omega⟩
            · exact ih2 _ z2 (by omega) u' hu'
      have hd' : NestedKey.depthAll ks ≤ n := by simp only [NestedKey.depth] at hd; omega
      refine wpAny_forIn_list _ (fun rest r s' => r.1 = none ∧ s' = s ∧ ∀ u ∈ rest, ∃ k', NestedIs s.heap k' u ∧ k'.depth ≤ n) _ ?_ ?_ _ _ ⟨rfl, rfl, all _ _ hk hd'⟩
      · rintro u rest r s' ⟨hr, rfl, hall⟩
        obtain ⟨k', z, zd⟩ := hall u List.mem_cons_self
        refine wpAny_bind (ih k' u s' _ z zd ?_)
        simp only [Bool.false_eq_true, if_false]
        exact wpAny_pure ⟨rfl, rfl, fun u hu' => hall u (List.mem_cons_of_mem _ hu')⟩
      · rintro ⟨r1, r2⟩ s' ⟨hr, rfl, _⟩
        simp only at hr
        subst hr
        exact wpAny_pure h
theorem hx_nested : Hx P w (nestedKind P w) where
  st := nestedKind_stays
  hb := fun hk h => hb_key 8 _ _ _ _ hk.1 h
  oc := fun hk h => oc_key 8 _ _ _ _ hk.1 hk.2 h

variable {Kt : Type} [DecidableEq Kt] {knd : HeapKind P w Kt}
theorem sb_is (hx : Hx P w knd) {h h' : Heap} {k : Kt} {a b : Addr} {o : Obj} {es : Array (Int × Value)} {ep : Nat} {t : SetTable} (hb : knd.is h k b) (ho : h.get? a = some o) (hd : o.data = .set es ep t) (hs : Heap.SameBut a h h') : knd.is h' k b :=
  hx.st.stays (fun c ob vs n q1 q2 => (hs.2 c (fun e => by subst e; rw [ho] at q1; cases q1; rw [hd] at q2; cases q2)).trans q1) hb
theorem keep_is (hx : Hx P w knd) {h h' : Heap} {k : Kt} {b : Addr} (hb : knd.is h k b) (hk : ∀ c o, h.get? c = some o → h'.get? c = some o) : knd.is h' k b := hx.st.stays (fun c ob vs n q1 _ => hk c ob q1) hb
/-- a search among such shows nothing -/
theorem seen_k (hx : Hx P w knd) {k : Kt} {b : Addr} {Q : Bool → Shared → Prop} (hk : knd.is s.heap k b) {ys : List Value} (hy : ∀ y ∈ ys, ∃ k' c, y = Value.ref c ∧ knd.is s.heap k' c) (h : Q false s) : wpAny (model P w) A (searchCouldBeSeen (.ref b) ys) Q E s := by
  unfold searchCouldBeSeen
  refine wpAny_bind ?_
  refine wpAny_forIn_list _ (fun rest r s' => r.1 = none ∧ s' = s ∧ ∀ y ∈ rest, ∃ k' c, y = Value.ref c ∧ knd.is s.heap k' c) _ ?_ ?_ _ _ ⟨rfl, rfl, hy⟩
  · rintro v rest r s' ⟨hr, rfl, hall⟩
    obtain ⟨k', c, rfl, hc⟩ := hall v List.mem_cons_self
    have rest' : ∀ y ∈ rest, ∃ k' c, y = Value.ref c ∧ knd.is s'.heap k' c := fun u hu' => hall u (List.mem_cons_of_mem _ hu')
    dsimp only
    by_cases hv : (b == c || (carriedByValue (.ref b) && carriedByValue (.ref c))) = true
    · exact wp_if_pos hv (wpAny_pure ⟨rfl, rfl, rest'⟩)
    · refine wp_if_neg hv ?_
      refine wpAny_bind (knd.quiet hk ?_)
      simp only [Bool.not_true, Bool.false_eq_true, if_false]
      refine wpAny_bind (knd.quiet hc ?_)
      simp only [Bool.not_true, Bool.false_eq_true, if_false]
      refine wpAny_bind (hx.oc hk ?_)
      simp only [Bool.false_eq_true, if_false]
      refine wpAny_bind (hx.oc hc ?_)
      simp only [Bool.false_eq_true, if_false]
      exact wpAny_pure ⟨rfl, rfl, rest'⟩
  · rintro ⟨r1, r2⟩ s' ⟨hr, rfl, _⟩
    simp only at hr
    subst hr
    exact wpAny_pure h

/-! ### the set -/
variable (knd) in
def rowsK (L : List (Addr × Kt)) : List (Int × Value) := L.map fun p => (knd.hash p.2, Value.ref p.1)
variable (knd) in
/-- at a stands a set of the members L, in the order of their slots -/
structure SetK (h : Heap) (a : Addr) (L : List (Addr × Kt)) (es : Array (Int × Value)) (ep : Nat) (t : SetTable) : Prop where
  ob : ∃ o, h.get? a = some o ∧ o.ExactSet ∧ o.data = .set es ep t
  rows : es.toList = rowsK knd L
  tab : TabOk t (L.map fun p => knd.hash p.2)
  nd : (L.map (·.2)).Nodup
  tup : ∀ p ∈ L, knd.is h p.2 p.1
  led : w.params.followText "set-order" = true ∨ t.led = true
  room : L.length * 5 < t.mask * 3
  few : L.length < 64
variable {a : Addr} {L : List (Addr × Kt)} {es : Array (Int × Value)} {ep : Nat} {t : SetTable}
theorem rowsK_len : (rowsK knd L).length = L.length := by unfold rowsK; rw [List.length_map]
theorem size_of (h : es.toList = rowsK knd L) : es.size = L.length := by rw [← Array.length_toList, h, rowsK_len]
theorem entry_of (hr : es.toList = rowsK knd L) {i : Nat} {p : Addr × Kt} (h : L[i]? = some p) : es[i]? = some (knd.hash p.2, Value.ref p.1) := by
  rw [← Array.getElem?_toList, hr]
  unfold rowsK
  rw [List.getElem?_map, h] <;> rfl
theorem fits_of (T : TabOk t (L.map fun p => knd.hash p.2)) (hr : es.toList = rowsK knd L) (hroom : L.length * 5 < t.mask * 3) : t.fits es.size = true := by
  have h1 := T.sz
  rw [List.length_map] at h1
  have h2 := size_of hr
  unfold SetTable.fits SetTable.fill
  rw [T.dm, Bool.and_eq_true, beq_iff_eq, decide_eq_true_eq]
  show t.place.size = es.size ∧ t.place.size + 0 ≤ t.mask
  omega
theorem SetK.fits (R : SetK knd s.heap a L es ep t) : t.fits es.size = true := fits_of R.tab R.rows R.room
theorem SetK.gw (R : SetK knd s.heap a L es ep t) : ¬ t.gaveWay = true := by
  unfold SetTable.gaveWay
  rw [mask_odd R.tab.mok]
  decide

/-- the search from the c-th step of the way on -/
theorem searchK (hX : Hx P w knd) (R : SetK knd s.heap a L es ep t) {x : Addr} {k : Kt} (hx : knd.is s.heap k x) (hu : knd.room A) {N : Nat} (hNf : N < 10 * SetTable.turns t.mask)
    (hN : way t.mask (knd.hash k) N ∉ t.place.toList) (hNb : ∀ c, c < N → way t.mask (knd.hash k) c ∈ t.place.toList) {Q : SetFound → Shared → Prop}
    (hin : k ∈ L.map (·.2) → Q (.there none) s) (hout : k ∉ L.map (·.2) → Q (.free (way t.mask (knd.hash k) N) false) s) :
    ∀ (f c : Nat) (stand : Option SetTable.Probe), stand.getD (t.probeStart (knd.hash k)) = nth t.mask (runAt t.mask (SetTable.bits (knd.hash k) % (t.mask + 1)) (SetTable.bits (knd.hash k))) c → c ≤ N → N - c < f →
      (∀ (i : Nat) p, L[i]? = some p → p.2 = k → ∃ c', c ≤ c' ∧ c' < N ∧ t.place.toList[i]? = some (way t.mask (knd.hash k) c')) →
      wpAny (model P w) A (setSearchFrom a (.ref x) (knd.hash k) true f stand) Q E s := by
  generalize hst0 : runAt t.mask (SetTable.bits (knd.hash k) % (t.mask + 1)) (SetTable.bits (knd.hash k)) = p0
  have hway : ∀ q, (nth t.mask p0 q).j = way t.mask (knd.hash k) q := fun q => by rw [← hst0] <;> rfl
  have hdum : ∀ q, (nth t.mask p0 q).dummy = none := by
    have key : ∀ (n : Nat) (p : SetTable.Probe), p.dummy = none → (nth t.mask p n).dummy = none := by
      intro n
      induction n with
      | zero => intro p h; exact h
      | succ n ih =>
        intro p h
        refine ih (adv t.mask p) ?_
        unfold adv
        split <;> exact h
    intro q
    rw [← hst0]
    exact key q _ rfl
  intro f
  induction f with
  | zero => intro c stand _ _ hf; exact absurd hf (Nat.not_lt_zero _)
  | succ f ih =>
    intro c stand hst hc hf hre
    obtain ⟨o, ho, hex, hd⟩ := R.ob
    rw [setSearchFrom_succ]
    refine wpAny_bind (wpAny_setState_of ho hd R.fits ?_)
    dsimp only
    refine wp_if_neg R.gw ?_
    try refine wpAny_bind (wpAny_pure ?_)
    have sh : ∀ q, nth t.mask (nth t.mask p0 c) q = nth t.mask p0 (c + q) := fun q => (nth_add t.mask c _ q).symm
    have e1 : ∀ q, (nth t.mask (nth t.mask p0 c) q).j = way t.mask (knd.hash k) (c + q) := fun q => (congrArg SetTable.Probe.j (sh q)).trans (hway _)
    have hcN : c + (N - c) = N := by omega
    have spec := go_spec t R.tab.ris R.tab.dm (fun i => (es[i]?.map (·.1)).getD 0) (knd.hash k) (10 * SetTable.turns t.mask) (N - c) _ (hdum c) (by omega)
      (fun q hq => by rw [e1] <;> exact hNb (c + q) (by omega)) (by rw [e1, hcN] <;> exact hN)
    have hashAt : ∀ (i : Nat) p, L[i]? = some p → (fun i => (es[i]?.map (·.1)).getD 0) i = knd.hash p.2 := fun i p hp => by
      show (es[i]?.map (·.1)).getD 0 = _
      rw [entry_of R.rows hp] <;> rfl
    rcases spec with ⟨q, i, hq, hi, hh, hno, hpr⟩ | ⟨hno, hpr⟩
    · have hpr' : t.probe (fun i => (es[i]?.map (·.1)).getD 0) (knd.hash k) (stand.getD (t.probeStart (knd.hash k))) = some (.candidate (way t.mask (knd.hash k) (c + q)) i (nth t.mask p0 (c + (q + 1)))) := by
        rw [hst, ← e1, ← sh]
        exact hpr
      rw [hpr']
      dsimp only
      rw [e1] at hi
      have hil : i < L.length := by
        have h1 : i < t.place.toList.length := (List.getElem?_eq_some_iff.mp hi).1
        have h2 := R.tab.sz
        rw [List.length_map] at h2
        rw [Array.length_toList] at h1
        omega
      have hp : L[i]? = some L[i] := List.getElem?_eq_getElem hil
      generalize hpe : L[i] = p at hp
      have hmem : p ∈ L := List.mem_of_getElem? hp
      have hpt := R.tup p hmem
      have rest : wpAny (model P w) A (searchRest a (.ref x) (knd.hash k) true f es t (way t.mask (knd.hash k) (c + q)) i (nth t.mask p0 (c + (q + 1)))) Q E s := by
        unfold searchRest
        rw [entry_of R.rows hp]
        dsimp only
        refine wpAny_bind (wpAny_holding (knd.eqBool hu hpt hx ?_))
        refine wpAny_bind (wpAny_setState_of ho hd R.fits ?_)
        dsimp only
        by_cases hkk : p.2 = k
        · exact wp_if_pos (by simp [hkk]) (wpAny_pure (hin (List.mem_map.mpr ⟨p, hmem, hkk⟩)))
        · refine wp_if_neg (by simp [hkk]) ?_
          try refine wpAny_bind (wpAny_pure ?_)
          rw [sameMem]
          dsimp only
          have hsl : t.slot (way t.mask (knd.hash k) (c + q)) = .live i := slot_live R.tab.ris hi
          simp only [if_true, hsl, entry_of R.rows hp]
          refine wpAny_bind (wpAny_isSame_ref_self (wpAny_bind (wpAny_pure ?_)))
          simp only [if_true]
          refine wp_if_neg (by simp [hkk]) ?_
          refine ih (c + (q + 1)) _ rfl (by omega) (by omega) fun i0 p0' h0 hk0 => ?_
          obtain ⟨c', a1, a2, a3⟩ := hre i0 p0' h0 hk0
          refine ⟨c', ?_, a2, a3⟩
          rcases Nat.lt_or_ge c' (c + q) with z | z
          · exfalso
            exact hno (c' - c) i0 (by omega) (by rw [e1, show c + (c' - c) = c' by omega]; exact a3) ((hashAt i0 p0' h0).trans (congrArg knd.hash hk0))
          · rcases Nat.lt_or_ge (c + q) c' with y | y
            · omega
            · exfalso
              have ec : c' = c + q := Nat.le_antisymm y z
              rw [ec] at a3
              have s0 := slot_live R.tab.ris a3
              rw [hsl] at s0
              injection s0 with s0
              rw [← s0, hp] at h0
              exact hkk ((congrArg Prod.snd (Option.some.inj h0)).trans hk0)
      by_cases hl : t.led = true
      · refine wp_if_neg (by simp [hl]) ?_
        try refine wpAny_bind (wpAny_pure ?_)
        exact rest
      · refine wp_if_pos (by simp [hl]) ?_
        refine wpAny_bind (seen_k hX hx (fun y hy => ?_) ?_)
        · obtain ⟨e, he, ee⟩ := List.mem_map.mp hy
          have he1 : e ∈ es ∧ e.1 = knd.hash k := by simpa using he
          have he2 : e ∈ es.toList := by simpa using he1.1
          rw [R.rows] at he2
          obtain ⟨p2, hp2, e2⟩ := List.mem_map.mp he2
          exact ⟨p2.2, p2.1, by rw [← ee, ← e2], R.tup p2 hp2⟩
        · refine wp_if_neg (by decide) ?_
          try refine wpAny_bind (wpAny_pure ?_)
          exact rest
    · have hpr' : t.probe (fun i => (es[i]?.map (·.1)).getD 0) (knd.hash k) (stand.getD (t.probeStart (knd.hash k))) = some (.empty (way t.mask (knd.hash k) N) none) := by
        have e2 : way t.mask (knd.hash k) N = (nth t.mask (nth t.mask p0 c) (N - c)).j := by rw [e1, hcN]
        rw [hst, e2]
        exact hpr
      rw [hpr']
      dsimp only
      refine wpAny_pure (hout fun hm => ?_)
      obtain ⟨p1, h0, hk0⟩ := List.mem_map.mp hm
      obtain ⟨i0, hi0, e0⟩ := List.getElem_of_mem h0
      have h00 : L[i0]? = some p1 := by rw [List.getElem?_eq_getElem hi0, e0]
      obtain ⟨c', a1, a2, a3⟩ := hre i0 p1 h00 hk0
      exact hno (c' - c) i0 (by omega) (by rw [e1, show c + (c' - c) = c' by omega]; exact a3) ((hashAt i0 p1 h00).trans (congrArg knd.hash hk0))
/-- the search as adding asks for it -/
theorem search0 (hX : Hx P w knd) (R : SetK knd s.heap a L es ep t) {x : Addr} {k : Kt} (hx : knd.is s.heap k x) (hu : knd.room A) {Q : SetFound → Shared → Prop} (hin : k ∈ L.map (·.2) → Q (.there none) s)
    (hout : ∀ N, k ∉ L.map (·.2) → way t.mask (knd.hash k) N ∉ t.place.toList → (∀ c, c < N → way t.mask (knd.hash k) c ∈ t.place.toList) → Q (.free (way t.mask (knd.hash k) N) false) s) : wpAny (model P w) A (setSearch a (.ref x) (knd.hash k) true) Q E s := by
  have hroom := R.room
  obtain ⟨N, hNf, hN, hNb⟩ := R.tab.first (by rw [List.length_map]; omega) (knd.hash k)
  have hbig : N < 100000 := by
    have : 10 * SetTable.turns t.mask ≤ 1420 := by
      unfold SetTable.turns
      rcases R.tab.mok with e | e | e <;> omega
    omega
  unfold setSearch
  refine searchK hX R hx hu hNf hN hNb hin (fun hn => hout N hn hN hNb) 100000 0 none rfl (Nat.zero_le _) (by omega) fun i p hp hk => ?_
  have hi : (L.map fun p => knd.hash p.2)[i]? = some (knd.hash k) := by rw [List.getElem?_map, hp, ← hk] <;> rfl
  have hil : i < t.place.toList.length := by
    have h1 : i < L.length := (List.getElem?_eq_some_iff.mp hp).1
    have h2 := R.tab.sz
    rw [List.length_map] at h2
    rw [Array.length_toList]
    omega
  have hj := List.getElem?_eq_getElem hil
  obtain ⟨c, hc, e⟩ := R.tab.before hN hi hj
  exact ⟨c, Nat.zero_le _, hc, by rw [hj, e]⟩
theorem rowsK_put (L : List (Addr × Kt)) (p : Nat) (x : Addr) (k : Kt) : rowsK knd (L.take p ++ (x, k) :: L.drop p) = (rowsK knd L).take p ++ (knd.hash k, Value.ref x) :: (rowsK knd L).drop p := by
  unfold rowsK
  rw [List.map_append, List.map_cons, List.map_take, List.map_drop]
theorem orderK (L : List (Addr × Kt)) (es : Array (Int × Value)) (order : Array Nat) (hr : es.toList = rowsK knd L) (hp : order.toList.Perm (List.range L.length)) :
    ∃ L2, (order.filterMap (es[·]?)).toList = rowsK knd L2 ∧ L2.Perm L ∧ (L2.map fun p => knd.hash p.2) = order.toList.map fun i => (es.map (·.1)).getD i 0 := by
  have hsz := size_of hr
  have ent : ∀ i (h : i < L.length), es[i]? = some (knd.hash (L[i]).2, Value.ref (L[i]).1) := fun i h => entry_of hr (List.getElem?_eq_getElem h)
  have key : ∀ l : List Nat, (∀ i ∈ l, i < L.length) → ∃ L2 : List (Addr × Kt), l.filterMap (fun i => es[i]?) = rowsK knd L2 ∧ L2 = l.filterMap (fun i => L[i]?) ∧ (L2.map fun p => knd.hash p.2) = l.map fun i => (es.map (·.1)).getD i 0 := by
    intro l
    induction l with
    | nil => intro _; exact ⟨[], rfl, rfl, rfl⟩
    | cons i l ih =>
      intro hl
      have hi := hl i List.mem_cons_self
      obtain ⟨L2, e1, e2, e3⟩ := ih fun j hj => hl j (List.mem_cons_of_mem _ hj)
      refine ⟨L[i] :: L2, ?_, ?_, ?_⟩
      · rw [List.filterMap_cons_some (ent i hi), e1] <;> rfl
      · rw [List.filterMap_cons_some (List.getElem?_eq_getElem hi), e2]
      · rw [List.map_cons, List.map_cons, e3]
        have e4 : (es.map (·.1)).getD i 0 = knd.hash (L[i]).2 := by
          have e5 : (es.map (·.1))[i]? = some (knd.hash (L[i]).2) := by rw [Array.getElem?_map, ent i hi] <;> rfl
          simp [Array.getD_eq_getD_getElem?, e5]
        rw [e4]
  obtain ⟨L2, e1, e2, e3⟩ := key order.toList fun i hi => List.mem_range.mp (hp.mem_iff.mp hi)
  refine ⟨L2, by first | (rw [Array.toList_filterMap]; exact e1) | simpa using e1, ?_, e3⟩
  have h1 : L2.Perm ((List.range L.length).filterMap fun i => L[i]?) := by
    rw [e2]
    exact hp.filterMap _
  have h2 : (List.range L.length).filterMap (fun i => L[i]?) = L := by
    have key2 : ∀ n, n ≤ L.length → (List.range n).filterMap (fun i => L[i]?) = L.take n := by
      intro n
      induction n with
      | zero => intro _; rfl
      | succ n ih =>
        intro hn
        rw [List.range_succ, List.filterMap_append, ih (Nat.le_of_lt hn), List.take_succ, List.getElem?_eq_getElem hn]
        rw [List.filterMap_cons_some (List.getElem?_eq_getElem hn)] <;> rfl
    rw [key2 L.length (Nat.le_refl _), List.take_length]
  rw [h2] at h1
  exact h1
/-- the table laid anew, larger -/
theorem relayK (hX : Hx P w knd) {o : Obj} (ho : s.heap.get? a = some o) (hex : o.ExactSet) (hd : o.data = .set es ep t) (hrows : es.toList = rowsK knd L) (hsz : t.place.size = es.size) (hdm : t.dummies = #[]) (hfl : es.size ≤ t.mask)
    (nd : (L.map (·.2)).Nodup) (tup : ∀ p ∈ L, knd.is s.heap p.2 p.1) (ld : w.params.followText "set-order" = true ∨ t.led = true) (few : L.length < 64) {wanted M : Nat}
    (hw : SetTable.sizeAbove wanted - 1 = M) (hM : MaskOk M) (hw2 : SetTable.sizeAbove wanted ≤ 128) (hn : L.length * 5 < M * 3) {Q : Unit → Shared → Prop}
    (hQ : ∀ h' L' es' ep' t', Heap.SameBut a s.heap h' → SetK knd h' a L' es' ep' t' → L'.Perm L → Q () { s with heap := h' }) : wpAny (model P w) A (setRelay a wanted) Q E s := by
  have hsl := size_of hrows
  have hfits : t.fits es.size = true := by
    unfold SetTable.fits SetTable.fill
    rw [hdm, Bool.and_eq_true, beq_iff_eq, decide_eq_true_eq]
    show t.place.size = es.size ∧ t.place.size + 0 ≤ t.mask
    omega
  obtain ⟨t', order, e, hp, T, em, el, ep', ed⟩ := relaid_ok t (hs := es.map (·.1)) (wanted := wanted) hw hM (by rw [Array.size_map, hsl]; omega)
  rw [Array.size_map, hsl] at hp
  obtain ⟨L2, r1, r2, r3⟩ := orderK L es order hrows hp
  rw [← r3] at T
  have hs2 : (order.filterMap (es[·]?)).size = es.size := by rw [size_of r1, r2.length_eq, hsl]
  rw [setRelay_eq]
  refine wpAny_bind (wpAny_setState_of ho hd hfits ?_)
  dsimp only
  refine wp_if_neg (by rw [sizeLine_eq]; omega) ?_
  try refine wpAny_bind (wpAny_pure ?_)
  rw [e]
  dsimp only
  refine wpAny_bind ?_
  refine wp_if_neg (by rw [hs2]; simp) ?_
  try refine wpAny_bind (wpAny_pure ?_)
  refine wpAny_pure ?_
  dsimp only
  refine wpAny_storeSet_of ho hd ?_ (by rw [hs2, hsl, sizeLine_eq]; omega)
  have sb : Heap.SameBut a s.heap (s.heap.update a (Obj.putSet (order.filterMap (es[·]?)) t')) := Heap.SameBut.update ..
  refine hQ _ L2 (order.filterMap (es[·]?)) (ep + 1) t' sb ?_ r2
  refine ⟨⟨_, store_at ho hd, ⟨hex.1, hex.2.1, hex.2.2⟩, rfl⟩, r1, T, ?_, fun p hpm => sb_is hX (tup p (r2.mem_iff.mp hpm)) ho hd sb, by rw [el]; exact ld, ?_, by rw [r2.length_eq]; exact few⟩
  · exact (r2.map (·.2)).nodup_iff.mpr nd
  · rw [r2.length_eq, em]
    exact hn
/-- adding -/
theorem addK (hX : Hx P w knd) (R : SetK knd s.heap a L es ep t) {x : Addr} {k : Kt} (hx : knd.is s.heap k x) (hu : knd.room A) (hfew : L.length + 1 < 64) {Q : Bool → Shared → Prop}
    (hQ : ∀ b h' L' es' ep' t', Heap.SameBut a s.heap h' → SetK knd h' a L' es' ep' t' → (k ∈ L.map (·.2) → L' = L) → (k ∉ L.map (·.2) → L'.Perm ((x, k) :: L)) → Q b { s with heap := h' }) :
    wpAny (model P w) A (setAddHashed a (.ref x) (knd.hash k)) Q E s := by
  obtain ⟨o, ho, hex, hd⟩ := R.ob
  have hsl := size_of R.rows
  have hroom := R.room
  unfold setAddHashed
  refine wpAny_holding ?_
  rw [show (100000 : Nat) = 99999 + 1 from rfl, setAddHashedIn_succ]
  refine wpAny_bind (wpAny_setState_of ho hd R.fits ?_)
  dsimp only
  refine wp_if_neg (by simp [byScan, Value.scannable]) ?_
  try refine wpAny_bind (wpAny_pure ?_)
  refine wpAny_bind (search0 hX R hx hu (fun hm => ?_) fun N hm hN hb => ?_)
  · dsimp only
    exact wpAny_pure (hQ false s.heap L es ep t (Heap.SameBut.refl a s.heap) R (fun _ => rfl) fun z => absurd hm z)
  · dsimp only
    refine wpAny_bind (wpAny_setState_of ho hd R.fits ?_)
    dsimp only
    obtain ⟨q1, q2, q3, q4, q5, q6, q7, q8, q9⟩ := R.tab.put hN hb
    generalize hpt : t.put (way t.mask (knd.hash k) N) = pt at q1 q3 q4 q5 q6 q7 q8 q9 ⊢
    obtain ⟨t1, p⟩ := pt
    dsimp only at q1 q3 q4 q5 q6 q7 q8 q9 ⊢
    subst q1
    have hin : (SetTable.insertAt es (SetTable.below t.place (way t.mask (knd.hash k) N)) (knd.hash k, Value.ref x)).toList = rowsK knd (L.take (SetTable.below t.place (way t.mask (knd.hash k) N)) ++ (x, k) :: L.drop (SetTable.below t.place (way t.mask (knd.hash k) N))) := by
      rw [SetTable.toList_insertAt, rowsK_put, R.rows]
    generalize hpp : SetTable.below t.place (way t.mask (knd.hash k) N) = p at q2 q3 hin ⊢
    have pm := put_perm L p (x, k)
    have hlen : (L.take p ++ (x, k) :: L.drop p).length = L.length + 1 := pm.length_eq
    have hhs : (L.take p ++ (x, k) :: L.drop p).map (fun p => knd.hash p.2) = (L.map fun p => knd.hash p.2).take p ++ knd.hash k :: (L.map fun p => knd.hash p.2).drop p := by
      rw [List.map_append, List.map_cons, List.map_take, List.map_drop]
    rw [← hhs] at q3
    have nd1 : ((L.take p ++ (x, k) :: L.drop p).map (·.2)).Nodup := by
      refine (pm.map (·.2)).nodup_iff.mpr ?_
      rw [List.map_cons]
      exact List.nodup_cons.mpr ⟨hm, R.nd⟩
    have hes : (SetTable.insertAt es p (knd.hash k, Value.ref x)).size = L.length + 1 := by rw [size_of hin, hlen]
    generalize SetTable.insertAt es p (knd.hash k, Value.ref x) = es1 at hin hes ⊢
    generalize L.take p ++ (x, k) :: L.drop p = L1 at pm hlen q3 nd1 hin
    have fin : ∀ tq : SetTable, TabOk tq (L1.map fun p => knd.hash p.2) → tq.mask = t.mask → tq.led = t.led → tq.tooFull = t1.tooFull → 
        wpAny (model P w) A (do storeSet a es1 tq; if (!false && tq.tooFull) = true then do setRelay a (SetTable.grown (es.size + 1)); pure true else pure true) Q E s := by
      intro tq T1 em el ef
      refine wpAny_bind (wpAny_storeSet_of ho hd ?_ (by rw [hes, sizeLine_eq]; omega))
      have sb : Heap.SameBut a s.heap (s.heap.update a (Obj.putSet es1 tq)) := Heap.SameBut.update ..
      have ho1 := store_at (es' := es1) (t' := tq) ho hd
      generalize s.heap.update a (Obj.putSet es1 tq) = h1 at sb ho1 ⊢
      have tup1 : ∀ p ∈ L1, knd.is h1 p.2 p.1 := fun p hp => by
        rcases List.mem_cons.mp (pm.mem_iff.mp hp) with e | hp
        · rw [e]; exact sb_is hX hx ho hd sb
        · exact sb_is hX (R.tup p hp) ho hd sb
      have ld1 : w.params.followText "set-order" = true ∨ tq.led = true := by rw [el]; exact R.led
      by_cases hf : t1.tooFull = true
      · first
          | (refine wpAny_bind ?_; refine wp_if_pos (by simp [ef, hf]) ?_)
          | (refine wp_if_pos (by simp [ef, hf]) ?_; refine wpAny_bind ?_)
        have hfull : (L.length + 1) * 5 ≥ t1.mask * 3 := by
          have h := hf
          unfold SetTable.tooFull at h
          rw [decide_eq_true_eq, q9, List.length_map] at h
          exact h
        rw [hsl]
        have hsz1 : tq.place.size = es1.size := by
          have h := T1.sz
          rw [List.length_map, hlen] at h
          rw [h, hes]
        have cases2 : (t.mask = 7 ∧ L.length = 4) ∨ (t.mask = 31 ∧ L.length = 18) := by
          rcases R.tab.mok with e | e | e
          · left; rw [q4, e] at hfull; rw [e] at hroom; exact ⟨e, by omega⟩
          · right; rw [q4, e] at hfull; rw [e] at hroom; exact ⟨e, by omega⟩
          · exfalso; rw [q4, e] at hfull; omega
        have go : ∀ M, SetTable.sizeAbove (SetTable.grown (L.length + 1)) - 1 = M → MaskOk M → SetTable.sizeAbove (SetTable.grown (L.length + 1)) ≤ 128 → (L.length + 1) * 5 < M * 3 →
            wpAny (model P w) A (setRelay a (SetTable.grown (L.length + 1))) (fun _ s' => wpAny (model P w) A (pure true) Q E s') E { s with heap := h1 } := fun M h1' h2' h3' h4' => by
          refine relayK hX (s := { s with heap := h1 }) ho1 ⟨hex.1, hex.2.1, hex.2.2⟩ rfl hin hsz1 T1.dm (by rw [hes, em]; rcases cases2 with ⟨e, e2⟩ | ⟨e, e2⟩ <;> omega) nd1 tup1 ld1 (by rw [hlen]; exact hfew) h1' h2' h3' (by rw [hlen]; exact h4') ?_
          intro h2 L2 es2 ep2 t2 sb2 R2 pm2
          exact wpAny_pure (hQ true h2 L2 es2 ep2 t2 (sb.trans sb2) R2 (fun z => absurd z hm) fun _ => pm2.trans pm)
        rcases cases2 with ⟨_, e2⟩ | ⟨_, e2⟩
        · exact go 31 (by rw [e2, size_20]) (.inr (.inl rfl)) (by rw [e2, size_20]; decide) (by omega)
        · exact go 127 (by rw [e2, size_76]) (.inr (.inr rfl)) (by rw [e2, size_76]; decide) (by omega)
      · first
          | refine wp_if_neg (by simp [ef, hf]) ?_
          | (refine wpAny_bind ?_; refine wp_if_neg (by simp [ef, hf]) ?_; refine wpAny_pure ?_)
        refine wpAny_pure (hQ true h1 L1 es1 (ep + 1) tq sb ⟨⟨_, ho1, ⟨hex.1, hex.2.1, hex.2.2⟩, rfl⟩, hin, T1, nd1, tup1, ld1, ?_, by rw [hlen]; exact hfew⟩ (fun z => absurd z hm) fun _ => pm)
        have h := hf
        unfold SetTable.tooFull at h
        rw [decide_eq_true_eq, q9, List.length_map] at h
        rw [hlen, em, ← q4]
        omega
    have e0 : ∀ b : Bool, TabOk { t1 with plain := b } (L1.map fun p => knd.hash p.2) := fun b => ⟨q3.ris, q3.dm, q3.sz, q3.mok, q3.bd, q3.reach⟩
    by_cases hpl : t1.plain = true
    · rw [if_pos hpl]
      refine wpAny_bind (hX.hb hx fun r => ?_)
      cases r with
      | true => exact fin t1 q3 q4 q5 rfl
      | false => exact fin { t1 with plain := false } (e0 false) q4 q5 rfl
    · rw [if_neg hpl]
      refine wpAny_bind (wpAny_pure ?_)
      exact fin t1 q3 q4 q5 rfl
end
end Pl

set_option Elab.async false
set_option autoImplicit false
set_option linter.all false
set_option maxRecDepth 100000
set_option maxHeartbeats 4000000
namespace Pl
open PySem PySem.Spec PyProof.Rows L2
open PySem.W (EachIs AllAlike Sortable alike dataLe)
open GxR (TabG Tabbed)
open LamX (ExtN TabS CodeO)
open NdefX (NTab TabN TabsN NF FnO)

/-! ### sorted of data -/
/-- Python's order of alike data -/
def ple (x y : PD) : Bool := dataLe false (fun d : PD => d) x y
def srt (ds : List PD) : List PD := ds.mergeSort ple
theorem map_id' {ds : List PD} : ds.map (fun d : PD => d) = ds := by simp
/-- a value's V, and what it is known for -/
def VD (K : PySem.W.Frag) (F : Hp) (u : Value) (d : PD) : Prop := ∃ x : V, RelV x u ∧ Dp K F x d
section
variable {K : PySem.W.Frag} {F H : Hp}
theorem each_of_all : ∀ {xs : List V} {us : List Value} {ds : List PD}, DpAll K F xs ds → Vals xs us → EachIs (VD K F) us ds
  | _, _, _, .nil, .nil => .nil
  | _, _, _, .cons h t, .cons r s => .cons ⟨_, r, h⟩ (each_of_all t s)
theorem all_of_each : ∀ {us : List Value} {ds : List PD}, EachIs (VD K F) us ds → ∃ xs, Vals xs us ∧ DpAll K F xs ds
  | _, _, .nil => ⟨[], .nil, .nil⟩
  | _, _, .cons ⟨x, r, h⟩ t => let ⟨xs, a, b⟩ := all_of_each t; ⟨x :: xs, .cons r a, .cons h b⟩
end
section
variable {X : Cx} {pins : List (Addr × Obj)} {σ : L2.St} {F H : Hp} {s : Shared}
theorem vd_reads (I : Inv X pins σ H s) (e : Ex F H) {u : Value} {d : PD} (h : VD X.K F u d) : ∃ as, Reads s.heap u d as := let ⟨x, r, q⟩ := h; Dp.reads I d x u (dp_mono e q) r
theorem each_reads (I : Inv X pins σ H s) (e : Ex F H) {us : List Value} {ds : List PD} (h : EachIs (VD X.K F) us ds) : EachIs (fun v b => ∃ as, Reads s.heap v b as) us ds := h.mono fun _ _ q => vd_reads I e q
/-- what sorting asks of the items -/
structure Sb (ds : List PD) : Prop where
  al : AllAlike ds
  so : Sortable ds
  dp : ∀ d ∈ ds, d.depth ≤ 50
  sz : ds.length ≤ 1000000
def rSorted (K : PySem.W.Frag) : List V → Hp → VK → Prop := fun vs H Q => ∃ (a : Addr) (xs : List V) (F : Hp) (ds : List PD), vs = [.ref a] ∧ Ex F H ∧ SqL K F a xs ∧ DpAll K F xs ds ∧ Sb ds ∧
  ∀ (p : Addr) (ys : List V), H p = none → DpAll K F ys (srt ds) → Q (.ref p) (upd H p (.lst ys))
theorem cr_sortedD (hu : X.A.units + 64 < cLine) : CallR X (.builtin "sorted") (rSorted X.K) := by
  intro pins s σ H vs us Q I r h
  obtain ⟨a, xs, F, ds, rfl, e, hs, al, sb, q⟩ := h
  obtain ⟨its, rv, hl, hz⟩ := I.list (Evl.ex_l e hs)
  rw [Vals.ref1 r]
  have ea := each_of_all al rv
  refine PySem.W.sorted_data (β := PD) (enc := fun d => d) hl.isList ea (each_reads I e ea) (by rw [map_id']; exact sb.al) (by rw [map_id']; exact sb.so) (Nat.le_trans sb.sz (by rw [sizeLine_eq]; decide)) (fun b hb => by have := sb.dp b hb; omega) fun out ho he => ?_
  obtain ⟨ys, hv, ha⟩ := all_of_each he
  obtain ⟨ep, he'⟩ := PyProof.Rows.sortedAll_at s.heap its out.toArray
  have hlen : ys.length ≤ sizeLine := by
    rw [dpAll_length ha, List.length_mergeSort]
    exact Nat.le_trans sb.sz (by rw [sizeLine_eq]; decide)
  exact ⟨.ref _, upd H (s.heap.objs.size + 1) (.lst ys), I.laid (t' := s.toks) (fun _ _ => PyProof.Rows.sortedAll_old) (Nat.le_succ _) ⟨hlen, out, ep, hv, by simpa using he'⟩, rfl, q _ ys (I.hok.fresh (Nat.le_succ _)) ha⟩
end
section
variable {X : Cx} {C : Cn} {T : Tbs} {K : PySem.W.Frag} {e : Expr} {pos p : Pos} {ds : List PD}
theorem en_sortedL (sb : Sb ds) (hu : X.A.units + 64 < cLine) (hm : X.mg "sorted" = none) (h : Ev X C e (isD X.K (.list ds))) (hg : Gl X "sorted" := by rfl) (hse : S1 X e := by rfl) : En X C (.Call (.Name "sorted" p) [e] [] pos) (ctL X.K (srt ds)) :=
  en_callB (cr_sortedD hu) (fun xs F H w f Q q => by
    obtain ⟨v, rfl, h⟩ := fit1 f
    obtain ⟨a, ys, rfl, sq, al⟩ := dp_lst h
    exact ⟨a, ys, F, ds, rfl, w.i, sq, al, sb, fun p zs hp hz => q p _ F _ (Le.newH w hp) hp (wok_none w hp) upd_same (lst_nt _) ⟨zs, rfl, hz⟩⟩) hm PyProof.Rows.boot_sorted (ea1 h hse) hg (he := hse)
end

/-! ### keys of data -/
mutual
def nk : PD → NestedKey
  | .none => .none
  | .bool b => .num (if b = true then 1 else 0)
  | .int i => .num i
  | .str x => .text x
  | .tuple ds => .tup (nks ds)
  | .list _ => .none
  | .dict _ => .none
def nks : List PD → List NestedKey
  | [] => []
  | d :: ds => nk d :: nks ds
end
mutual
/-- ints, texts and tuples of such, nested -/
def keyD : PD → Bool
  | .int _ => true
  | .str _ => true
  | .tuple ds => keyDs ds
  | _ => false
def keyDs : List PD → Bool
  | [] => true
  | d :: ds => keyD d && keyDs ds
end
mutual
theorem nk_inj : ∀ (x y : PD), keyD x = true → keyD y = true → nk x = nk y → x = y
  | .int i, y, _, h2, h => by
    cases y <;> simp_all [keyD, nk]
  | .str i, y, _, h2, h => by
    cases y <;> simp_all [keyD, nk]
  | .tuple ds, y, h1, h2, h => by
    cases y with
    | tuple es =>
      simp only [keyD] at h1 h2
      simp only [nk, NestedKey.tup.injEq] at h
      rw [nks_inj ds es h1 h2 h]
    | _ => simp_all [keyD, nk]
  | .none, _, h1, _, _ => by simp [keyD] at h1
  | .bool _, _, h1, _, _ => by simp [keyD] at h1
  | .list _, _, h1, _, _ => by simp [keyD] at h1
  | .dict _, _, h1, _, _ => by simp [keyD] at h1
theorem nks_inj : ∀ (x y : List PD), keyDs x = true → keyDs y = true → nks x = nks y → x = y
  | [], [], _, _, _ => rfl
  | [], _ :: _, _, _, h => by simp [nks] at h
  | _ :: _, [], _, _, h => by simp [nks] at h
  | a :: x, b :: y, h1, h2, h => by
    simp only [keyDs, Bool.and_eq_true] at h1 h2
    simp only [nks, List.cons.injEq] at h
    rw [nk_inj a b h1.1 h2.1 h.1, nks_inj x y h1.2 h2.2 h.2]
end
section
variable {X : Cx} {pins : List (Addr × Obj)} {σ : L2.St} {H : Hp} {s : Shared}
mutual
theorem dp_nested (I : Inv X pins σ H s) : ∀ (d : PD) (v : V) (u : Value), Dp X.K H v d → RelV v u → keyD d = true → NestedIs s.heap (nk d) u
  | .int i, _, _, h, r, _ => by
    cases h
    obtain ⟨t, rfl⟩ := r
    exact .int i t
  | .str x, _, _, h, r, _ => by
    cases h
    obtain ⟨t, rfl⟩ := r
    exact .text x t
  | .tuple ds, _, _, h, r, k => by
    obtain ⟨a, xs, rfl, sq, al⟩ := dp_tup h
    cases r
    obtain ⟨its, rv, ⟨o, ho, hc, n, hd⟩, _⟩ := I.tuple sq
    exact .tup ho hc hd (by simpa using dpAll_nested I ds xs its al rv (by simpa [keyD] using k))
  | .none, _, _, _, _, k => by simp [keyD] at k
  | .bool _, _, _, _, _, k => by simp [keyD] at k
  | .list _, _, _, _, _, k => by simp [keyD] at k
  | .dict _, _, _, _, _, k => by simp [keyD] at k
theorem dpAll_nested (I : Inv X pins σ H s) : ∀ (ds : List PD) (vs : List V) (us : List Value), DpAll X.K H vs ds → Vals vs us → keyDs ds = true → NestedAll s.heap (nks ds) us
  | [], _, _, h, r, _ => by
    cases h
    cases r
    exact .nil
  | d :: ds, _, _, h, r, k => by
    cases h with
    | cons h1 h2 =>
      cases r with
      | cons r1 r2 =>
        simp only [keyDs, Bool.and_eq_true] at k
        exact .cons (dp_nested I d _ _ h1 r1 k.1) (dpAll_nested I ds _ _ h2 r2 k.2)
end
end
mutual
theorem nk_depth : ∀ d : PD, (nk d).depth ≤ d.depth
  | .none => by simp [nk, NestedKey.depth]
  | .bool _ => by simp [nk, NestedKey.depth]
  | .int _ => by simp [nk, NestedKey.depth]
  | .str _ => by simp [nk, NestedKey.depth]
  | .tuple ds => by simp only [nk, NestedKey.depth, PyData.depth]; have := nks_depth ds; omega
  | .list _ => by simp [nk, NestedKey.depth]
  | .dict _ => by simp [nk, NestedKey.depth]
theorem nks_depth : ∀ ds : List PD, NestedKey.depthAll (nks ds) ≤ PyData.depthAll ds
  | [] => by simp [nks, NestedKey.depthAll]
  | d :: ds => by simp only [nks, NestedKey.depthAll, PyData.depthAll]; have := nk_depth d; have := nks_depth ds; omega
end
end Pl

set_option Elab.async false
set_option autoImplicit false
set_option linter.all false
set_option maxRecDepth 100000
set_option maxHeartbeats 4000000
namespace Pl
open PySem PySem.Spec PyProof.Rows L2
open PySem.W (EachIs AllAlike Sortable alike alikeAll dataLe dataLt keyToks keyToksAll)
open GxR (TabG Tabbed)
open LamX (ExtN TabS CodeO)
open NdefX (NTab TabN TabsN NF FnO)

/-! ### the order of data -/
theorem ple_eq (x y : PD) : ple x y = !dataLt y x := rfl
theorem ple_total (x y : PD) : ple x y = true ∨ ple y x = true := (PySem.W.sortLe_total (PyProof.Rows.listOrd PyProof.Rows.itemOrd) false (fun d : PD => keyToks d)).total x y
theorem ple_trans {x y z : PD} (a : ple x y = true) (b : ple y z = true) : ple x z = true := (PySem.W.sortLe_total (PyProof.Rows.listOrd PyProof.Rows.itemOrd) false (fun d : PD => keyToks d)).trans x y z a b
mutual
theorem eqv_eq : ∀ (x y : PD), keyD x = true → keyD y = true → PyData.eqv x y = true → x = y
  | .int i, y, _, h2, h => by
    cases y <;> simp_all [keyD, PyData.eqv]
  | .str i, y, _, h2, h => by
    cases y <;> simp_all [keyD, PyData.eqv]
  | .tuple ds, y, h1, h2, h => by
    cases y with
    | tuple es =>
      simp only [keyD] at h1 h2
      simp only [PyData.eqv] at h
      rw [eqvAll_eq ds es h1 h2 h]
    | _ => simp_all [keyD, PyData.eqv]
  | .none, _, h1, _, _ => by simp [keyD] at h1
  | .bool _, _, h1, _, _ => by simp [keyD] at h1
  | .list _, _, h1, _, _ => by simp [keyD] at h1
  | .dict _, _, h1, _, _ => by simp [keyD] at h1
theorem eqvAll_eq : ∀ (x y : List PD), keyDs x = true → keyDs y = true → PyData.eqvAll x y = true → x = y
  | [], [], _, _, _ => rfl
  | [], _ :: _, _, _, h => by simp [PyData.eqvAll] at h
  | _ :: _, [], _, _, h => by simp [PyData.eqvAll] at h
  | a :: x, b :: y, h1, h2, h => by
    simp only [keyDs, Bool.and_eq_true] at h1 h2
    simp only [PyData.eqvAll, Bool.and_eq_true] at h
    rw [eqv_eq a b h1.1 h2.1 h.1, eqvAll_eq x y h1.2 h2.2 h.2]
end
theorem ple_antisymm {x y : PD} (al : alike x y = true) (kx : keyD x = true) (ky : keyD y = true) (a : ple x y = true) (b : ple y x = true) : x = y := by
  refine eqv_eq x y kx ky (Classical.byContradiction fun z => ?_)
  have z : PyData.eqv x y = false := by simpa using z
  have a' : dataLt y x = false := by simpa [ple_eq] using a
  have b' : dataLt x y = false := by simpa [ple_eq] using b
  have e : keyToks x = keyToks y := (PyProof.Rows.listOrd PyProof.Rows.itemOrd).total _ _ b' a'
  have h := (PySem.W.toks_eqv x y al).2 z
  have h1 := h [] [.inl 0]
  have h2 := h [] []
  rw [e, PySem.W.lex_pre] at h1 h2
  rw [← h2] at h1
  exact absurd h1 (by decide)
theorem perm_sorted_eq {α : Type} {le : α → α → Bool} : ∀ {l m : List α}, l.Perm m → l.Pairwise (fun a b => le a b = true) → m.Pairwise (fun a b => le a b = true) → (∀ x ∈ l, ∀ y ∈ l, le x y = true → le y x = true → x = y) → l = m
  | [], m, p, _, _, _ => by rw [List.nil_perm.mp p]
  | a :: l, [], p, _, _, _ => by have := p.length_eq; simp at this
  | a :: l, b :: m, p, h1, h2, an => by
    obtain ⟨h3, h4⟩ := List.pairwise_cons.mp h1
    obtain ⟨h5, h6⟩ := List.pairwise_cons.mp h2
    have hab : a = b := by
      rcases List.mem_cons.mp (p.mem_iff.mp List.mem_cons_self) with e | hm
      · exact e
      · rcases List.mem_cons.mp (p.mem_iff.mpr (List.mem_cons_self (a := b) (l := m))) with e | hm'
        · exact e.symm
        · exact an a List.mem_cons_self b (List.mem_cons_of_mem _ hm') (h3 b hm') (h5 a hm)
    subst hab
    rw [perm_sorted_eq (List.Perm.cons_inv p) h4 h6 fun x hx y hy => an x (List.mem_cons_of_mem _ hx) y (List.mem_cons_of_mem _ hy)]
theorem srt_perm_self (ds : List PD) : (srt ds).Perm ds := List.mergeSort_perm ds ple
theorem srt_sorted (ds : List PD) : (srt ds).Pairwise (fun a b => ple a b = true) := PySem.W.sort_pairwise (PySem.W.sortLe_total (PyProof.Rows.listOrd PyProof.Rows.itemOrd) false (fun d : PD => keyToks d)) ds
/-- alike keys: equal sorts of the same members -/
structure Ks (ds : List PD) : Prop where
  al : AllAlike ds
  ky : ∀ d ∈ ds, keyD d = true
theorem srt_congr {ds es : List PD} (k : Ks ds) (p : ds.Perm es) : srt ds = srt es := by
  refine perm_sorted_eq (((srt_perm_self ds).trans p).trans (srt_perm_self es).symm) (srt_sorted ds) (srt_sorted es) fun x hx y hy a b => ?_
  have hx' := (srt_perm_self ds).mem_iff.mp hx
  have hy' := (srt_perm_self ds).mem_iff.mp hy
  exact ple_antisymm (k.al x hx' y hy') (k.ky x hx') (k.ky y hy') a b
theorem nodup_mem_perm {α : Type} {l m : List α} (h1 : l.Nodup) (h2 : m.Nodup) (h : ∀ x, x ∈ l ↔ x ∈ m) : l.Perm m := (List.perm_ext_iff_of_nodup h1 h2).mpr h
end Pl

set_option Elab.async false
set_option autoImplicit false
set_option linter.all false
set_option maxRecDepth 100000
set_option maxHeartbeats 4000000
namespace Pl
open PySem PySem.Spec PyProof.Rows L2
open PySem.W (EachIs AllAlike Sortable alike alikeAll dataLe dataLt keyToks keyToksAll)
open GxR (TabG Tabbed)
open LamX (ExtN TabS CodeO)
open NdefX (NTab TabN TabsN NF FnO)

section
variable {P : Program} {w : World} {A : Around} {E : Value → Shared → Prop} {s : Shared} {Kt : Type} [DecidableEq Kt] {knd : HeapKind P w Kt}
/-- what the set has got from the first i items -/
structure GotK (ks : List (Addr × Kt)) (i : Nat) (L : List (Addr × Kt)) : Prop where
  sub : ∀ p ∈ L, p ∈ ks.take i
  all : ∀ p ∈ ks.take i, p.2 ∈ L.map (·.2)
  len : L.length ≤ i
theorem GotK.zero (ks : List (Addr × Kt)) : GotK ks 0 [] := ⟨fun p h => (by cases h), fun p h => (by simp at h), Nat.le_refl _⟩
theorem GotK.same {ks L : List (Addr × Kt)} {i : Nat} {x : Addr × Kt} (g : GotK ks i L) (h : ks[i]? = some x) (hm : x.2 ∈ L.map (·.2)) : GotK ks (i + 1) L := by
  refine ⟨fun p hp => by rw [take_next h]; exact List.mem_append_left _ (g.sub p hp), fun p hp => ?_, Nat.le_succ_of_le g.len⟩
  rw [take_next h] at hp
  rcases List.mem_append.mp hp with z | z
  · exact g.all p z
  · rw [List.mem_singleton.mp z]; exact hm
theorem GotK.more {ks L L' : List (Addr × Kt)} {i : Nat} {x : Addr × Kt} (g : GotK ks i L) (h : ks[i]? = some x) (pm : L'.Perm (x :: L)) : GotK ks (i + 1) L' := by
  refine ⟨fun p hp => ?_, fun p hp => ?_, by rw [pm.length_eq, List.length_cons]; exact Nat.succ_le_succ g.len⟩
  · rw [take_next h]
    rcases List.mem_cons.mp (pm.mem_iff.mp hp) with e | z
    · rw [e]; exact List.mem_append_right _ (List.mem_singleton.mpr rfl)
    · exact List.mem_append_left _ (g.sub p z)
  · rw [(pm.map (·.2)).mem_iff, List.map_cons]
    rw [take_next h] at hp
    rcases List.mem_append.mp hp with z | z
    · exact List.mem_cons_of_mem _ (g.all p z)
    · rw [List.mem_singleton.mp z]; exact List.mem_cons_self
theorem SetK.keep {h h' : Heap} {a : Addr} {L : List (Addr × Kt)} {es : Array (Int × Value)} {ep : Nat} {t : SetTable} (R : SetK knd h a L es ep t) (ha : ∀ o, h.get? a = some o → h'.get? a = some o) (ht : ∀ p ∈ L, knd.is h' p.2 p.1) : SetK knd h' a L es ep t := by
  obtain ⟨o, ho, r⟩ := R.ob
  exact ⟨⟨o, ha o ho, r⟩, R.rows, R.tab, R.nd, ht, R.led, R.room, R.few⟩
abbrev newSetO (w : World) : Obj := { cls := .type "set", dict := none, data := .set #[] 0 (.fresh 0 0 (!w.params.followText "set-order")) }
theorem setK_fresh {h : Heap} {a : Addr} (ho : h.get? a = some (newSetO w)) : SetK knd h a [] #[] 0 (.fresh 0 0 (!w.params.followText "set-order")) where
  ob := ⟨_, ho, ⟨rfl, rfl, rfl⟩, rfl⟩
  rows := rfl
  tab := ⟨List.Pairwise.nil, rfl, rfl, .inl rfl, fun x hx => (by cases hx), fun i h j hi => (by simp at hi)⟩
  nd := List.nodup_nil
  tup := fun p hp => (by cases hp)
  led := by
    show _ ∨ (!w.params.followText "set-order") = true
    cases w.params.followText "set-order"
    · exact .inr rfl
    · exact .inl rfl
  room := by
    show 0 * 5 < 7 * 3
    decide
  few := by
    show 0 < 64
    decide
/-- set.update's loop -/
theorem set_updK (hX : Hx P w knd) {I : Addr} {fp wr : List Addr} {G : Array GenState → Array GenState → Prop} {n : Nat} {Pv : Nat → Value → Prop} {St : Nat → Shared → Prop} {R : Result → Shared → Prop}
    (W : WalksS P w A.in1 I fp wr G n Pv St) (S : Addr) (hSf : S ∉ fp) (ks : List (Addr × Kt)) (hn : n = ks.length) (hfew : ks.length < 64) (hval : ∀ i v, Pv i v → ∃ p, ks[i]? = some p ∧ v = .ref p.1)
    (h0 : Heap) (hk : ∀ p ∈ ks, knd.is h0 p.2 p.1) (hS0 : h0.get? S = none) (hw0 : ∀ b ∈ wr, h0.get? b = none) (hu : knd.room A.in1) :
    ∀ (k i : Nat) (s : Shared), n - i = k → i ≤ n → St i s → (∀ b o, h0.get? b = some o → s.heap.get? b = some o) → (∃ L es ep t, SetK knd s.heap S L es ep t ∧ GotK ks i L) →
      (∀ s' L es ep t, Moved (S :: wr) G s s' → SetK knd s'.heap S L es ep t → GotK ks n L → (∀ b o, h0.get? b = some o → s'.heap.get? b = some o) → R (.ok (.ret .none)) s') →
      codeAny (model P w) A (.builtin "set.update.loop" ⟨[.ref S, .ref I], []⟩) R s := by
  have hSw : S ∉ wr := fun h => hSf (W.sub _ h)
  have hsub : ∀ b ∈ wr, b ∈ S :: wr := fun b hb => List.mem_cons_of_mem _ hb
  have keepM : ∀ {s s' : Shared}, Moved wr G s s' → (∀ b o, h0.get? b = some o → s.heap.get? b = some o) → ∀ b o, h0.get? b = some o → s'.heap.get? b = some o := fun hm hkp b o e =>
    hm.heap b o (fun hb => by rw [hw0 b hb] at e; cases e) (hkp b o e)
  intro k
  induction k with
  | zero =>
    intro i s hk' hi hst hkp ⟨L, es, ep, t, hS, g⟩ hR
    have hin : i = n := by omega
    subst hin
    refine codeAny_builtin F.entry_set_update_loop ?_
    rw [Around.under_plainId F.plain_set_update_loop _]
    show wpAny _ A.in1 (pyNext (.ref I) >>= _) _ _ s
    refine wpAny_bind (W.done s _ _ hst fun s' hm => ?_)
    show wpAny _ A.in1 (ret Value.none) _ _ s'
    have hkp' := keepM hm hkp
    have sub : ∀ p ∈ L, p ∈ ks := fun p hp => List.mem_of_mem_take (g.sub p hp)
    exact wpAny_pure (hR s' L es ep t (hm.mono hsub) (hS.keep (fun o e => hm.heap S o hSw e) fun p hp => keep_is hX (hk p (sub p hp)) hkp') g hkp')
  | succ k ih =>
    intro i s hk' hi hst hkp ⟨L, es, ep, t, hS, g⟩ hR
    have hlt : i < n := by omega
    refine codeAny_builtin F.entry_set_update_loop ?_
    rw [Around.under_plainId F.plain_set_update_loop _]
    show wpAny _ A.in1 (pyNext (.ref I) >>= _) _ _ s
    refine wpAny_bind (W.item i s _ _ hlt hst fun v s' hP hst' hm => ?_)
    obtain ⟨p, hp, rfl⟩ := hval i v hP
    have hkp' := keepM hm hkp
    have sub : ∀ p ∈ L, p ∈ ks := fun p hp => List.mem_of_mem_take (g.sub p hp)
    have hS' : SetK knd s'.heap S L es ep t := hS.keep (fun o e => hm.heap S o hSw e) fun q hq => keep_is hX (hk q (sub q hq)) hkp'
    have hx : knd.is s'.heap p.2 p.1 := keep_is hX (hk p (List.mem_of_getElem? hp)) hkp'
    show wpAny _ A.in1 (holding [Value.ref p.1] (setAdd S (.ref p.1)) >>= _) _ _ s'
    refine wpAny_bind (wpAny_holding ?_)
    unfold setAdd
    refine wpAny_holding ?_
    refine wpAny_bind (knd.pyHash hu hx ?_)
    refine addK (s := { s' with toks := s'.toks + knd.draws p.2 }) hX hS' hx hu (by have := g.len; omega) fun b h' L' es' ep' t' hsb hS2 c1 c2 => ?_
    have g' : GotK ks (i + 1) L' := by
      rcases Classical.em (p.2 ∈ L.map (·.2)) with c | c
      · rw [c1 c]; exact g.same hp c
      · exact g.more hp (c2 c)
    have hkp2 : ∀ b o, h0.get? b = some o → h'.get? b = some o := fun b o e => (hsb.2 b (fun z => by rw [z, hS0] at e; cases e)).trans (hkp' b o e)
    refine wpAny_pure ⟨plainId_quiet F.plain_set_update_loop _, ih (i + 1) _ (by omega) hlt (W.frame _ s' _ _ hst' (Nat.le_add_right _ _) fun b hb o e => ?_) hkp2 ⟨L', es', ep', t', hS2, g'⟩ fun s'' L2 es2 ep2 t2 hm'' hS'' g'' hkp'' => ?_⟩
    · rw [hsb.2 b (fun h : b = S => hSf (by rw [← h]; exact hb))]; exact e
    · refine hR s'' L2 es2 ep2 t2 (Moved.trans W.gtrans ((hm.mono hsub).then_heap (Nat.le_add_right _ _) fun b o hb e => ?_) hm'') hS'' g'' hkp''
      rw [hsb.2 b (fun h : b = S => hb (by rw [h]; exact List.mem_cons_self))]; exact e
set_option maxHeartbeats 8000000 in
/-- set(xs) -/
theorem call_setK (hX : Hx P w knd) {l : Addr} {items : Array Value} (ks : List (Addr × Kt)) {Q : Value → Shared → Prop} (hh : A.handled = none) (hl : s.heap.IsList l items) (hit : items.toList = ks.map fun p => Value.ref p.1)
    (hk : ∀ p ∈ ks, knd.is s.heap p.2 p.1) (hfew : ks.length < 64) (hu : ∀ A' : Around, A'.units ≤ A.units + 8 → knd.room A')
    (h : ∀ (h' : Heap) (tk : Nat) L es ep t, SetK knd h' s.heap.objs.size L es ep t → GotK ks ks.length L → (∀ b o, s.heap.get? b = some o → h'.get? b = some o) → Q (.ref s.heap.objs.size) { s with heap := h', toks := tk }) :
    wpAny (model P w) A (call (.type "set") [.ref l]) Q E s := by
  have hisz : items.size = ks.length := by
    have q := congrArg List.length hit
    rw [Array.length_toList, List.length_map] at q
    exact q
  obtain ⟨c, tl, hmro⟩ := F.called_set.mro
  have hmade := F.called_set.made
  have hsub := F.called_set.sub
  refine wpAny_call (codeAny_of_tree ?_)
  show wpAny _ _ (callAny (.type "set") _) _ _ _
  refine wpAny_pure ⟨Code.quiet_builtin _ (by decide +kernel), codeAny_builtin F.entry_type_call ?_⟩
  rw [Around.under_plain (weight_type_call_type "set" [.ref l] []) rfl]
  have h1 := F.called_set.notType
  have h2 := F.called_set.canCreate
  have hct := F.typeCall_set_1 (.ref l)
  repeat (any_goals (first | assumption | wp_step))
  refine codeAny_mono (code_set_led1 (.ref l) (E := E) (Q₁ := fun obj s₁ => obj = .ref s.heap.objs.size ∧ s₁ = { s with heap := s.heap.push (newSetO w) }) ⟨rfl, rfl⟩) fun r s₁ hr => ?_
  cases r with
  | error e => exact hr
  | ok fl =>
    cases fl with
    | ret obj =>
      obtain ⟨rfl, rfl⟩ := hr
      have hS : (s.heap.push (newSetO w)).get? s.heap.objs.size = some (newSetO w) := Heap.get?_push_size _ rfl
      have hT : Shared.TypeIs { s with heap := s.heap.push (newSetO w) } (.ref s.heap.objs.size) "set" := ⟨_, hS, rfl⟩
      have hli := F.called_set.init.lookup
      have hbi := F.called_set.init.bind (.ref s.heap.objs.size)
      repeat (any_goals (first | assumption | wp_step))
      refine codeAny_mono (codeAny_call_builtin (R := wants (fun r s₂ => r = .none ∧ ∃ h' tk L es ep t, s₂ = { s with heap := h', toks := tk } ∧ SetK knd h' s.heap.objs.size L es ep t ∧ GotK ks ks.length L ∧
          (∀ b o, s.heap.get? b = some o → h'.get? b = some o)) E) F.called_set.init.plain F.entry_set_init (check_set_init_1 hT ?_)) fun r₂ s₂ hr₂ => ?_
      · obtain ⟨ol, hol, hcl, nl, hdl⟩ := hl
        obtain ⟨ocls, odict, odata, oslots⟩ := ol
        simp only at hcl hdl
        subst hcl; subst hdl
        have hol' : (s.heap.push (newSetO w)).get? l = some { cls := .type "list", dict := odict, data := .seq items nl, slots := oslots } := Heap.get?_push_of_some _ hol
        have hsls := F.sub_list_set
        have hslf := F.sub_list_frozenset
        have hne : (Value.type "list" == Value.type "dict") = false := by decide
        have hl1 : (s.heap.push (newSetO w)).IsList l items := ⟨_, hol', rfl, nl, rfl⟩
        unfold Builtin.«set.__init__» noKeywords Builtin.Frozenset.updateFrom
        generalize hPI : pyIter = PI
        wp_walk
        subst hPI
        refine wpAny_pyIter_list hl1 ?_
        refine wpAny_bind (wpAny_runValue ?_)
        have hlS : l < s.heap.objs.size := Heap.lt_size hol
        have hh3 : A.in1.in1.in1.handled = none := by simp [hh]
        have hneI : l ≠ (s.heap.push (newSetO w)).objs.size := by
          rw [Heap.size_push]; exact Nat.ne_of_lt (Nat.lt_succ_of_lt hlS)
        have hSf : s.heap.objs.size ∉ [(s.heap.push (newSetO w)).objs.size, l] := by
          rw [Heap.size_push]; simp only [List.mem_cons, List.mem_singleton, List.not_mem_nil, or_false, not_or]
          exact ⟨Nat.ne_of_lt (Nat.lt_succ_self _), Nat.ne_of_gt hlS⟩
        have hval : ∀ (i : Nat) (v : Value), items[i]? = some v → ∃ p, ks[i]? = some p ∧ v = .ref p.1 := fun i v hv => by
          have q : items.toList[i]? = some v := by rw [Array.getElem?_toList]; exact hv
          rw [hit, List.getElem?_map] at q
          cases hq : ks[i]? with
          | none => rw [hq] at q; cases q
          | some p =>
            rw [hq] at q
            exact ⟨p, rfl, (Option.some.inj q).symm⟩
        have none_of : ∀ b, s.heap.objs.size ≤ b → s.heap.get? b = none := fun b hb => by
          cases q : s.heap.get? b with
          | none => rfl
          | some o => exact absurd (Nat.lt_of_lt_of_le (Heap.lt_size q) hb) (Nat.lt_irrefl _)
        refine set_updK hX ((Walks.list hh3 _ l hneI items).toS) s.heap.objs.size
          hSf ks hisz hfew hval s.heap hk (none_of _ (Nat.le_refl _)) (fun b hb => none_of b (by
            rw [List.mem_singleton.mp hb, Heap.size_push]
            exact Nat.le_succ _)) (hu _ (by simp only [Around.in1_units] <;> omega)) (items.size - 0) 0 _ (by omega) (Nat.zero_le _)
          ⟨⟨_, Heap.get?_push_size _ rfl, rfl, rfl⟩, (hl1.push _)⟩ (fun b o e => Heap.get?_push_of_some _ (Heap.get?_push_of_some _ e)) ?hS0 ?hR
        case hS0 =>
          have hget : ((s.heap.push (newSetO w)).push { cls := .type "list_iterator", data := .fields #[.ref l, .int 0 0] }).get? s.heap.objs.size = some (newSetO w) := Heap.get?_push_of_some _ hS
          exact ⟨[], #[], 0, _, setK_fresh hget, GotK.zero ks⟩
        case hR =>
          intro s' L es ep t hm hS' g' hkp
          obtain ⟨h', g2, d', tk', os'⟩ := s'
          have eg : g2 = s.gens := hm.gens
          have ed : d' = s.drawn := hm.drawn
          have eo : os' = s.os := hm.os
          subst eg; subst ed; subst eo
          show wpAny _ _ _ _ _ _
          refine wpAny_pure ?_
          show wpAny _ _ (ret Value.none) _ _ _
          rw [hisz] at g'
          exact wpAny_pure ⟨rfl, h', tk', L, es, ep, t, rfl, hS', g', hkp⟩
      · cases r₂ with
        | error e => exact hr₂
        | ok fl₂ =>
          cases fl₂ with
          | ret r =>
            obtain ⟨rfl, h', tk, L, es, ep, t, rfl, hS', g', hk'⟩ := hr₂
            repeat (any_goals (first | assumption | wp_step))
            exact h _ _ _ _ _ _ hS' g' hk'
          | _ => exact hr₂.elim
    | _ => exact hr.elim
end
end Pl

set_option Elab.async false
set_option autoImplicit false
set_option linter.all false
set_option maxRecDepth 100000
set_option maxHeartbeats 4000000
namespace Pl
open PySem PySem.Spec PyProof.Rows L2
open PySem.W (sortingHeap sortingHeap_old EachIs AllAlike Sortable alike alikeAll dataLe dataLt keyToks keyToksAll)
open GxR (TabG Tabbed)
open LamX (ExtN TabS CodeO)
open NdefX (NTab TabN TabsN NF FnO)

/-- the set at a, without the tuples themselves -/
def SetK0 {P : Program} {w : World} {Kt : Type} [DecidableEq Kt] (knd : HeapKind P w Kt) (h : Heap) (a : Addr) (L : List (Addr × Kt)) : Prop :=
  ∃ (es : Array (Int × Value)) (ep : Nat) (t : SetTable), (∃ o, h.get? a = some o ∧ o.ExactSet ∧ o.data = .set es ep t) ∧ es.toList = rowsK knd L ∧ TabOk t (L.map fun p => knd.hash p.2) ∧ (L.map (·.2)).Nodup ∧ (w.params.followText "set-order" = true ∨ t.led = true) ∧ L.length * 5 < t.mask * 3 ∧ L.length < 64
def SetKO (P : Program) (w : World) (a : Addr) (L : List (Addr × NestedKey)) : HO := .ext fun h => SetK0 (nestedKind P w) h a L
theorem setKO_nt (P : Program) (w : World) (a : Addr) (L : List (Addr × NestedKey)) (ps : Array Value) : SetKO P w a L ≠ .tbl ps := fun z => by
  unfold SetKO at z
  cases z
section
variable {P : Program} {w : World} {Kt : Type} [DecidableEq Kt] {knd : HeapKind P w Kt} {h : Heap} {a : Addr} {L : List (Addr × Kt)} {es : Array (Int × Value)} {ep : Nat} {t : SetTable}
theorem SetK.k0 (R : SetK knd h a L es ep t) : SetK0 knd h a L := ⟨es, ep, t, R.ob, R.rows, R.tab, R.nd, R.led, R.room, R.few⟩
theorem SetK0.full (R : SetK0 knd h a L) (ht : ∀ p ∈ L, knd.is h p.2 p.1) : ∃ es ep t, SetK knd h a L es ep t := by
  obtain ⟨es, ep, t, h1, h2, h3, h4, h5, h6, h7⟩ := R
  exact ⟨es, ep, t, h1, h2, h3, h4, ht, h5, h6, h7⟩
end
theorem setKO_new {P : Program} {w : World} {H : Hp} {h : Heap} {a : Addr} {L : List (Addr × NestedKey)} (R : SetK0 (nestedKind P w) h a L) : ObjOk P w H h a (SetKO P w a L) := by
  have ⟨es, ep, t, ⟨o, ho, r⟩, q⟩ := R
  refine ⟨R, ⟨o, ho⟩, fun h1 h2 p k => ?_⟩
  have ⟨es', ep', t', ⟨o', ho', r'⟩, q'⟩ := p
  exact ⟨es', ep', t', ⟨o', k o' ho', r'⟩, q'⟩

/-- the members as data -/
def KD (d : PD) : Prop := keyD d = true ∧ d.depth ≤ 8 ∧ ∃ ds, d = .tuple ds
abbrev Mt (K : PySem.W.Frag) (F : Hp) : List (Addr × NestedKey) → List PD → Prop := Paired fun p d => Dp K F (.ref p.1) d ∧ nk d = p.2 ∧ KD d
theorem Mt.mono {K : PySem.W.Frag} {F F' : Hp} (e : Ex F F') {L : List (Addr × NestedKey)} {ds : List PD} (m : Mt K F L ds)   : Mt K F' L ds := L2.Paired.mapP m fun _ _ q => ⟨dp_mono e q.1, q.2⟩
def isSet (P : Program) (w : World) (K : PySem.W.Frag) (S : List PD) : Rp := ⟨fun v F => ∃ a L es, v = .ref a ∧ F a = some (SetKO P w a L) ∧ es.Perm S ∧ Mt K F L es,
  fun e ⟨a, L, es, h1, h2, h3, h4⟩ => ⟨a, L, es, h1, e _ _ h2, h3, Mt.mono e h4⟩⟩
theorem paired_keys {K : PySem.W.Frag} {F : Hp} : ∀ {L : List (Addr × NestedKey)} {es : List PD}, Mt K F L es → es.map nk = L.map (·.2)
  | [], [], .nil => rfl
  | p :: L, d :: es, .cons h t => by rw [List.map_cons, List.map_cons, h.2.1, paired_keys t]
theorem paired_kd {K : PySem.W.Frag} {F : Hp} : ∀ {L : List (Addr × NestedKey)} {es : List PD}, Mt K F L es → ∀ d ∈ es, KD d
  | [], [], .nil, _, h => by cases h
  | p :: L, d :: es, .cons h t, x, hx => by
    rcases List.mem_cons.mp hx with rfl | hx
    · exact h.2.2
    · exact paired_kd t x hx
theorem each_perm {α β : Type} {R : α → β → Prop} {l m : List α} (p : l.Perm m) : ∀ {es : List β}, EachIs R m es → ∃ es', EachIs R l es' ∧ es'.Perm es := by
  induction p with
  | nil => intro es h; exact ⟨es, h, .refl _⟩
  | cons x _ ih =>
    intro es h
    cases h with
    | cons a b =>
      obtain ⟨e', c, d⟩ := ih b
      exact ⟨_, .cons a c, d.cons _⟩
  | swap x y l =>
    intro es h
    cases h with
    | cons a b =>
      cases b with
      | cons c d => exact ⟨_, .cons c (.cons a d), .swap _ _ _⟩
  | trans _ _ ih1 ih2 =>
    intro es h
    obtain ⟨e1, a, b⟩ := ih2 h
    obtain ⟨e2, c, d⟩ := ih1 a
    exact ⟨e2, c, d.trans b⟩
theorem mt_each {K : PySem.W.Frag} {F : Hp} : ∀ {L : List (Addr × NestedKey)} {es : List PD}, Mt K F L es → EachIs (VD K F) (L.map fun p => Value.ref p.1) es
  | [], [], .nil => .nil
  | p :: L, d :: es, .cons h t => .cons ⟨.ref p.1, rfl, h.1⟩ (mt_each t)
/-- the members out of a list of data -/
theorem mt_of {K : PySem.W.Frag} {F : Hp} {ks : List (Addr × NestedKey)} {ds : List PD} (m : Mt K F ks ds) : ∀ {L : List (Addr × NestedKey)}, (∀ p ∈ L, p ∈ ks) → ∃ es, Mt K F L es ∧ ∀ d ∈ es, d ∈ ds := by
  have one : ∀ {ks : List (Addr × NestedKey)} {ds : List PD}, Mt K F ks ds → ∀ p ∈ ks, ∃ d ∈ ds, Dp K F (.ref p.1) d ∧ nk d = p.2 ∧ KD d := by
    intro ks ds m
    induction m with
    | nil => intro p hp; cases hp
    | cons h t ih =>
      intro p hp
      rcases List.mem_cons.mp hp with rfl | hp
      · exact ⟨_, List.mem_cons_self, h⟩
      · obtain ⟨d, hd, q⟩ := ih p hp
        exact ⟨d, List.mem_cons_of_mem _ hd, q⟩
  intro L
  induction L with
  | nil => intro _; exact ⟨[], .nil, fun d hd => by cases hd⟩
  | cons p L ih =>
    intro hs
    obtain ⟨es, h1, h2⟩ := ih fun q hq => hs q (List.mem_cons_of_mem _ hq)
    obtain ⟨d, hd, q⟩ := one m p (hs p List.mem_cons_self)
    refine ⟨d :: es, .cons q h1, fun x hx => ?_⟩
    rcases List.mem_cons.mp hx with rfl | hx
    · exact hd
    · exact h2 x hx
theorem mt_perm {K : PySem.W.Frag} {F : Hp} {L ks : List (Addr × NestedKey)} {es ds S : List PD} (m : Mt K F L es) (mk : Mt K F ks ds) (nd : (L.map (·.2)).Nodup) (sub : ∀ d ∈ es, d ∈ ds) (all : ∀ p ∈ ks, p.2 ∈ L.map (·.2)) (hS : S.Nodup) (hm : ∀ d, d ∈ S ↔ d ∈ ds) : es.Perm S := by
  have e := paired_keys m
  have nde : es.Nodup := by
    rw [← e] at nd
    exact nodup_of_map nd
  refine nodup_mem_perm nde hS fun d => ⟨fun h => (hm d).mpr (sub d h), fun h => ?_⟩
  have hd := (hm d).mp h
  have k : nk d ∈ ks.map (·.2) := by rw [← paired_keys mk]; exact List.mem_map.mpr ⟨d, hd, rfl⟩
  obtain ⟨p, hp, ep⟩ := List.mem_map.mp k
  have k2 := all p hp
  rw [ep, ← e] at k2
  obtain ⟨d', hd', e'⟩ := List.mem_map.mp k2
  rw [← nk_inj d' d (paired_kd m d' hd').1 (paired_kd mk d hd).1 e']
  exact hd'
def addrV : V → Addr
  | .ref a => a
  | _ => 0
theorem keys_of {K : PySem.W.Frag} {F : Hp} : ∀ {vs : List V} {ds : List PD}, DpAll K F vs ds → (∀ d ∈ ds, KD d) → ∃ ks, Mt K F ks ds ∧ vs = ks.map fun p => V.ref p.1
  | [], [], .nil, _ => ⟨[], .nil, rfl⟩
  | v :: vs, d :: ds, .cons h t, hk => by
    obtain ⟨ks, m, e⟩ := keys_of t fun x hx => hk x (List.mem_cons_of_mem _ hx)
    obtain ⟨k1, k2, es, rfl⟩ := hk d List.mem_cons_self
    obtain ⟨a, xs, rfl, sq, al⟩ := dp_tup (id h)
    exact ⟨(a, nk (.tuple es)) :: ks, .cons ⟨h, rfl, k1, k2, es, rfl⟩ m, by rw [e]; rfl⟩
theorem refs_vals : ∀ {ks : List (Addr × NestedKey)} {us : List Value}, Vals (ks.map fun p => V.ref p.1) us → us = ks.map fun p => Value.ref p.1
  | [], _, .nil => rfl
  | p :: ks, _, .cons r t => by
    cases r
    rw [refs_vals t] <;> rfl
section
variable {X : Cx} {pins : List (Addr × Obj)} {σ : L2.St} {F H : Hp} {s : Shared}
theorem mt_is (I : Inv X pins σ H s) (e : Ex F H) : ∀ {L : List (Addr × NestedKey)} {es : List PD}, Mt X.K F L es → ∀ p ∈ L, (nestedKind X.prog X.w).is s.heap p.2 p.1
  | [], [], .nil, _, h => by cases h
  | q :: L, d :: es, .cons h t, p, hp => by
    rcases List.mem_cons.mp hp with rfl | hp
    · obtain ⟨h1, h2, h3, h4, _⟩ := h
      rw [← h2]
      exact ⟨dp_nested I d (.ref p.1) (.ref p.1) (dp_mono e h1) rfl h3, Nat.le_trans (nk_depth d) h4⟩
    · exact mt_is I e t p hp
def rSetOfD (P : Program) (w : World) (K : PySem.W.Frag) : List V → Hp → VK → Prop := fun xs H Q => ∃ (l : Addr) (vs : List V) (F : Hp) (ds : List PD), xs = [V.ref l] ∧ Ex F H ∧ SqL K F l vs ∧ DpAll K F vs ds ∧ (∀ d ∈ ds, KD d) ∧ ds.length < 64 ∧
  ∀ a L es, H a = none → Mt K F L es → (L.map (·.2)).Nodup → (∀ S : List PD, S.Nodup → (∀ d, d ∈ S ↔ d ∈ ds) → es.Perm S) → Q (.ref a) (upd H a (SetKO P w a L))
theorem cr_setOfD (hc : X.calm = true) (hu : X.A.units + 64 < cLine) : CallR X (.type "set") (rSetOfD X.prog X.w X.K) := by
  intro pins s σ H xs us Q I r h
  obtain ⟨l, vs, F, ds, rfl, e, hl, al, hk, hf, q⟩ := h
  rw [Vals.ref1 r]
  obtain ⟨its, rv, pl, hz⟩ := I.list (Evl.ex_l e hl)
  obtain ⟨ks, mk, rfl⟩ := keys_of al hk
  have hn : H s.heap.objs.size = none := I.hok.fresh (Nat.le_refl _)
  have hlen : ks.length < 64 := by
    have := dpAll_length al
    rw [List.length_map] at this
    omega
  refine call_setK (P := X.prog) (w := X.w) hx_nested ks (I.ok.hd hc) pl.isList (by simpa using refs_vals rv) (mt_is I e mk) hlen (fun A' hA => by show A'.units + 8 < cLine; omega) fun h' tk L es ep t R g k => ?_
  obtain ⟨ed, m, sub⟩ := mt_of mk (L := L) fun p hp => List.mem_of_mem_take (g.sub p hp)
  refine ⟨.ref s.heap.objs.size, upd H s.heap.objs.size (SetKO X.prog X.w s.heap.objs.size L), I.laid (t' := tk) k (Nat.le_refl _) (setKO_new R.k0), rfl, q _ L ed hn m R.nd fun S h1 h2 => ?_⟩
  exact mt_perm m mk R.nd sub (fun p hp => g.all p (by rw [List.take_length]; exact hp)) h1 h2
end
section
variable {X : Cx} {C : Cn} {T : Tbs} {K : PySem.W.Frag} {e : Expr} {pos p : Pos} {ds S : List PD}
/-- set(xs), tuples -/
theorem ev_setL (hk : ∀ d ∈ ds, KD d) (h64 : ds.length < 64) (hS : S.Nodup) (hm' : ∀ d, d ∈ S ↔ d ∈ ds) (hc : X.calm = true) (hu : X.A.units + 64 < cLine) (hm : X.mg "set" = none) (h : Ev X C e (isD X.K (.list ds))) (hg : Gl X "set" := by rfl) (hse : S1 X e := by rfl) : Ev X C (.Call (.Name "set" p) [e] [] pos) (isSet X.prog X.w X.K S) :=
  ev_callT (cr_setOfD hc hu) (fun xs F H w f Q q => by
    obtain ⟨v, rfl, h⟩ := fit1 f
    obtain ⟨l, vs, rfl, sq, al⟩ := dp_lst h
    refine ⟨l, vs, F, ds, rfl, w.i, sq, al, hk, h64, fun a L es ha m nd pm => q _ _ _ (Le.new w ha (setKO_nt _ _ _ _)) ?_⟩
    exact ⟨a, L, es, rfl, upd_same, pm S hS hm', Mt.mono (Evl.Ex.new (wok_none w ha)) m⟩) hm PyProof.Rows.boot_set (ea1 h hse) hg (he := hse)
end

/-! ### sorted(set) -/
section
variable {X : Cx} {pins : List (Addr × Obj)} {σ : L2.St} {F H : Hp} {s : Shared}
/-- list.sort of a new list of data -/
theorem sort_newD {P : Program} {w : World} {A : Around} {E : Value → Shared → Prop} {s s0 : Shared} {a : Addr} {n : Nat} {vs : List Value} {ds : List PD} {R : Value → PD → Prop} {Q : Value → Shared → Prop} (ho : s.heap.get? a = some (seqObj "list" vs.toArray n)) (e : EachIs R vs ds)
    (er : EachIs (fun v b => ∃ as, Reads s0.heap v b as) vs ds) (kp : ∀ b o, s0.heap.get? b = some o → s.heap.get? b = some o) (ha : s0.heap.get? a = none) (sb : Sb ds) (hu : A.units + 60 < cLine)
    (h : ∀ out, out.length = ds.length → EachIs R out (srt ds) → Q .none { s with heap := sortedHeap s.heap a vs (List.toArray out) }) : wpAny (model P w) A (call (.builtin "list.sort") [.ref a]) Q E s := by
  have er' : EachIs (fun v b => ∃ as, Reads (sortingHeap s.heap a vs) v b as) vs ds := er.mono fun _ _ ⟨as, r⟩ => ⟨as, PyProof.Rows.Reads.keeps (fun b o q => sortingHeap_old (fun z => by rw [z, ha] at q; cases q) (kp b o q)) r⟩
  have hal : AllAlike (ds.map fun d : PD => d) := by rw [map_id']; exact sb.al
  refine wpAny_call_entry slot_list_sort ⟨_, ho, rfl⟩ entry_list_sort (PySem.W.list_sort_vals (κ := PySem.W.dataKind (sortingHeap s.heap a vs) (ds.map fun d : PD => d)) ho
    (PySem.W.SortsAt.data (s := { s with heap := sortingHeap s.heap a vs }) (PySem.W.each_map (R := fun v d => ∃ as, Reads (sortingHeap s.heap a vs) v d as) (fun d : PD => d) er') hal (by rw [map_id']; exact sb.so) (PySem.W.bound_map (A := A.in1) (fun b hb => by have := sb.dp b hb; show A.units + 1 + b.depth < cLine; omega))) (by rw [e.length]; exact Nat.le_trans sb.sz (by rw [sizeLine_eq]; decide)) ⟨.none, rfl, ?_⟩) (args_list_sort _)
  exact h _ (by rw [PySem.W.sortVals_length false rfl]; exact e.length) (PySem.W.sortVals_data false e er' hal)
end
end Pl

set_option Elab.async false
set_option autoImplicit false
set_option linter.all false
set_option maxRecDepth 100000
set_option maxHeartbeats 4000000
namespace Pl
open PySem PySem.Spec PyProof.Rows L2
open PySem.W (sortingHeap sortingHeap_old EachIs AllAlike Sortable alike alikeAll dataLe dataLt keyToks keyToksAll)
open GxR (TabG Tabbed)
open LamX (ExtN TabS CodeO)
open NdefX (NTab TabN TabsN NF FnO)
open PpSet (newSet_ok compLoopS_any codeAny_compStart_set eval_SetComp)

/-! ### set comprehensions: what the new set is (Z), what adding makes (Ad) -/
section
variable {X : Cx}
def tScG (Z : Addr → HO) (Ad : V → Addr → Hp → (Hp → Prop) → Prop) (wi : TI) (g : TG) (tt : TT) (te : TE) (vs : List Nat) : TE := fun σ H Q => wi σ H fun J H1 => ∀ D, H1 D = none → ∃ W : Nat → Nat → Hp → Prop, (∃ m, W 0 m (upd H1 D (Z D))) ∧ ∀ i m H, W i m H →
  (J.stop i H ∧ Q (.ref D) H) ∨ (J.go i H ∧ ∃ Nx : Hp → Prop, (∀ H', Nx H' → ∃ m', m' < m ∧ W (i + 1) m' H') ∧ ∀ x H', J.yld i H x H' → g x (wipe σ vs) H' fun σ2 H2 => wipe σ2 vs = wipe σ vs ∧ tt σ2 H2 fun b H3 =>
    if b = true then te σ2 H3 fun y H4 => Ad y D H4 Nx else Nx H3)
theorem scG_core {pins : List (Addr × Obj)} {s : Shared} {σ : L2.St} {H : Hp} {Q : VK} {elt tg iter : Expr} {ifs : List Expr} {scope : Scope} {own : List (PySem.Str × Nat)} {pos pos' : Pos} {wi : TI} {g : TG} {tt : TT} {te : TE} {use : Option (Value → Sem Unit)} {Qf : Value → Shared → Prop}
    (Z : Addr → HO) (Ad : V → Addr → Hp → (Hp → Prop) → Prop) (hZ : ∀ (P : Program) (w : World) (H : Hp) (h : Heap), ObjOk X.prog X.w H (h.push (newSetO X.w)) h.objs.size (Z h.objs.size))
    (hAd : ∀ (Y : Cx) (pins : List (Addr × Obj)) (σ : L2.St) (H : Hp) (s : Shared) (y : V) (u : Value) (D : Addr) (Nx : Hp → Prop), Y.prog = X.prog → Y.w = X.w → Y.K = X.K → Y.A = X.A → Inv Y pins σ H s → RelV y u → Ad y D H Nx → wpAny (model Y.prog Y.w) Y.A (call (.builtin "set.add") [.ref D, u]) (fun _ s' => ∃ H', Inv Y pins σ H' s' ∧ Nx H') (fun _ _ => False) s)
    (hc : X.calm = true) (hN : X.N.Nodup) (I : Inv X pins σ H s) (hi : PI X tg iter wi) (ok : BlkOk X.N X.env.scope scope own)
    (hg : ∀ (s : Shared) (H : Hp) (C : Addr) (cl : List (PySem.Str × Addr)) (fp : List Addr), PG (X.blk s H scope (compEnvC scope cl C X.env) fp) tg g) (ht : ∀ (s : Shared) (H : Hp) (C : Addr) (cl : List (PySem.Str × Addr)) (fp : List Addr), PTs (X.blk s H scope (compEnvC scope cl C X.env) fp) ifs tt)
    (he : ∀ (s : Shared) (H : Hp) (C : Addr) (cl : List (PySem.Str × Addr)) (fp : List Addr), PE (X.blk s H scope (compEnvC scope cl C X.env) fp) elt te) (hs : ∀ x, foldedSetIterable iter X.env x = pure x)
    (h : tScG Z Ad wi g tt te (own.map (·.2)) σ H Q)
    (hRR : ∀ D C s' m H', Inv X pins σ H' s' → Q (.ref D) H' → s'.heap.Ns C m → FpOk X pins H' C → compPost (model X.prog X.w) X.A X.xe use Qf (.ref D) C (.ok .next) s') :
    wpAny (model X.prog X.w) X.A (comprehension (.SetComp elt [⟨tg, iter, ifs, 0⟩] scope pos) scope X.env pos' (newSet (.type "set")) false (eval iter X.env) use) Qf X.xe s := by
  have hfree : ∀ y ∈ scope.names, y.2 = .free → ∃ c, X.env.cells.lookup y.1 = some c := fun y hy e => by
    rcases ok.free y hy e with k | k
    · exact I.ok.has _ (.inl k)
    · exact I.ok.has _ (.inr k)
  refine wpAny_comprehension_free (use := use) rfl hs (closure_ok hfree) ok.kind (fun y hy e => by rw [ok.uniq y hy, e])
    (thn (hi.run pins s σ H _ I h) fun xv s1 hx => thn hx fun itv s2 h2 => ?_)
  obtain ⟨it, fp, tn, J, H2, e, I2, T, st2, f2, q⟩ := h2
  subst e
  refine newSet_ok (newEnv_comp ?_)
  generalize hD : s2.heap.objs.size = D
  have hDn : H2 D = none := I2.hok.fresh (Nat.le_of_eq hD)
  obtain ⟨W, ⟨m0, w0⟩, turn⟩ := q D hDn
  -- the new list
  generalize hs3 : ({ s2 with heap := s2.heap.push (newSetO X.w) } : Shared) = s3
  have I3 : Inv X pins σ (upd H2 D (Z D)) s3 := by
    rw [← hs3]
    refine I2.laid (t' := s2.toks) (fun b o e => Heap.get?_push_of_some _ e) (Nat.le_of_eq hD) ?_
    rw [← hD]
    exact hZ X.prog X.w _ _
  have h3 : s3.heap = s2.heap.push (newSetO X.w) := by rw [← hs3]
  have sz : ∀ b ∈ fp, b < s2.heap.objs.size := fun b hb => by
    obtain ⟨o, e, _⟩ := T.obj _ _ st2 b hb
    exact Heap.lt_size e
  have f3 : ∀ b ∈ fp, FpOk X pins (upd H2 D (Z D)) b ∧ b < s3.heap.objs.size := fun b hb => by
    have hlt := sz b hb
    refine ⟨⟨?_, (f2 b hb).2⟩, by rw [h3, Heap.size_push]; exact Nat.lt_succ_of_lt hlt⟩
    rw [upd_ne (by rw [← hD]; exact Nat.ne_of_lt hlt)]
    exact (f2 b hb).1
  have st3 : tn 0 s3.heap := T.keep _ _ _ st2 fun b _ o e => by rw [h3]; exact Heap.get?_push_of_some _ e
  have I4 := block_start I3 ok hN f3
  have pg := hg s3 (upd H2 D (Z D)) s3.heap.objs.size (cellsFrom (s3.heap.objs.size + 1) scope.names (cloFrom X.env.cells scope.names [])) fp
  have pt := ht s3 (upd H2 D (Z D)) s3.heap.objs.size (cellsFrom (s3.heap.objs.size + 1) scope.names (cloFrom X.env.cells scope.names [])) fp
  have pe := he s3 (upd H2 D (Z D)) s3.heap.objs.size (cellsFrom (s3.heap.objs.size + 1) scope.names (cloFrom X.env.cells scope.names [])) fp
  show codeAny _ _ (.compStart (.SetComp elt [⟨tg, iter, ifs, 0⟩] scope pos) 0 (.ref it) (.ref D) (compEnvC scope (cellsFrom (s3.heap.objs.size + 1) scope.names (cloFrom X.env.cells scope.names [])) s3.heap.objs.size X.env)) (compPost (model X.prog X.w) X.A X.xe use Qf (.ref D) s3.heap.objs.size) { s3 with heap := pushCells (s3.heap.push { cls := .type "dict", data := .dict #[] }) scope.names }
  have nfp : ∀ b ∈ fp, (upd H2 D (Z D)) b = none := fun b hb => (f3 b hb).1.1
  generalize hce : compEnvC scope (cellsFrom (s3.heap.objs.size + 1) scope.names (cloFrom X.env.cells scope.names [])) s3.heap.objs.size X.env = ce at I4 pg pt pe ⊢
  have cL : ce.locals = s3.heap.objs.size := by subst hce; rfl
  generalize hH3 : upd H2 D (Z D) = H3 at I3 I4 pg pt pe w0 nfp f3
  generalize hs4 : ({ s3 with heap := pushCells (s3.heap.push { cls := .type "dict", data := .dict #[] }) scope.names } : Shared) = s4 at I4 ⊢
  have st4 : tn 0 s4.heap := T.keep _ _ _ st3 fun b _ o e => by rw [← hs4]; exact pushCells_keeps _ _ _ _ (Heap.get?_push_of_some _ e)
  have stat : ∀ {σ' : L2.St} {H' : Hp} {s' : Shared}, Inv (X.blk s3 H3 scope ce fp) [] σ' H' s' → (∀ b ∈ fp, H' b = none) → ∀ b ∈ fp, FpOk (X.blk s3 H3 scope ce fp) [] H' b := fun {σ' H' s'} I' hn b hb =>
    ⟨hn b hb, (I'.ok.exf b hb).1, I'.ok.exfs b hb, .inl hb, fun x c e => (I'.ok.exf b hb).2 x c e, fun p hp => absurd (show p ∈ ([] : List (Addr × Obj)) ++ [] from hp) (by simp)⟩
  have loop : codeAny (model X.prog X.w) X.A (.compLoop (.SetComp elt [⟨tg, iter, ifs, 0⟩] scope pos) 0 (.ref it) (.ref D) ce) (compPost (model X.prog X.w) X.A X.xe use Qf (.ref D) s3.heap.objs.size) s4 := by
    refine compLoopS_any (fun n s' => ∃ i H', Inv (X.blk s3 H3 scope ce fp) [] (wipe σ (own.map (·.2))) H' s' ∧ tn i s'.heap ∧ (∀ b ∈ fp, H' b = none) ∧ W i n H') ?_ m0 ⟨0, H3, I4, st4, nfp, w0⟩
    rintro n s5 ⟨i, H5, I5, st5, n5, w5⟩
    rcases turn i n H5 w5 with ⟨stop, qq⟩ | ⟨go, Nx, hNx, step⟩
    · have td := T.done (X.blk s3 H3 scope ce fp) rfl rfl rfl hc i [] s5 _ H5 (fun _ _ => False) I5 (stat I5 n5) st5 stop
      refine thnF td fun r s6 ⟨hr, I6⟩ => ?_
      subst hr
      -- back in the def's context
      have I7 : Inv X pins σ H5 s6 := I3.call' (ch := fp) I6.os I6.base I6.hok I6.bare fun b hb => ⟨(f3 b hb).1.2.2.2.1, (f3 b hb).1.2.1, (f3 b hb).1.2.2.2.2.1, (f3 b hb).1.2.2.2.2.2⟩
      have nC : H5 s3.heap.objs.size = none := by
        have z : H5 ce.locals = none := I6.free
        rw [cL] at z
        exact z
      obtain ⟨m, hn, _⟩ := I6.loc
      have hn : s6.heap.Ns ce.locals m := hn
      rw [cL] at hn
      exact hRR D s3.heap.objs.size s6 m H5 I7 qq hn (I3.fpOk (Nat.le_refl _) nC)
    · have ti := T.item (X.blk s3 H3 scope ce fp) rfl rfl rfl hc i [] s5 _ H5 (fun _ _ => False) I5 (stat I5 n5) st5 go
      refine thnF ti fun r s6 ⟨u, hr, h6⟩ => ?_
      subst hr
      refine thnF h6 fun _ s7 ⟨x, H7, I7, r7, y7, st7, n7⟩ => ?_
      have I7' := I7.pinned (stat I7 n7) (T.obj _ _ st7)
      refine thnF (pg.run _ s7 _ H7 x u _ I7' r7 (step x H7 y7)) fun _ s8 ⟨σ8, H8, I8, hw8, q8⟩ => ?_
      refine thnF (pt.run _ s8 σ8 H8 _ I8 q8) fun b s9 ⟨H9, I9, q9⟩ => ?_
      -- the turn's end
      have fin : ∀ {s' : Shared} {H' : Hp}, Inv (X.blk s3 H3 scope ce fp) ([] ++ pinsAt fp s7.heap) σ8 H' s' → Nx H' → ∃ m, m < n ∧ ∃ i H', Inv (X.blk s3 H3 scope ce fp) [] (wipe σ (own.map (·.2))) H' s' ∧ tn i s'.heap ∧ (∀ b ∈ fp, H' b = none) ∧ W i m H' := fun {s' H'} I' nx => by
        obtain ⟨m', hm, w'⟩ := hNx H' nx
        have pin' : ∀ b ∈ fp, ∀ o, s7.heap.get? b = some o → s'.heap.get? b = some o ∧ H' b = none := fun b hb o e =>
          let z := I'.pin (b, o) (List.mem_append_right _ (List.mem_append_right _ (mem_pinsAt hb e)))
          ⟨z.1, z.2.1⟩
        have hl : (wipe σ (own.map (·.2))).length = σ8.length := by rw [← hw8, wipe_length]
        refine ⟨m', hm, i + 1, H', (I'.unpinned (pins := [])).weak hl (fun j v e => ?_), T.keep _ _ _ st7 fun b hb o e => (pin' b hb o e).1, fun b hb => ?_, w'⟩
        · rw [← hw8] at e
          exact (wipe_some e).1
        · obtain ⟨o, e, _⟩ := T.obj _ _ st7 b hb
          exact (pin' b hb o e).2
      cases b with
      | false =>
        simp only [Bool.false_eq_true, if_false] at q9 ⊢
        exact fin I9 q9
      | true =>
        simp only [if_true] at q9 ⊢
        refine thnF (pe.run _ s9 σ8 H9 _ I9 q9) fun z s10 ⟨yv, H10, I10, r10, nx⟩ => ?_
        exact wpAny_mono (hAd (X.blk s3 H3 scope ce fp) _ _ H10 s10 yv z D Nx rfl rfl rfl rfl I10 r10 nx) (fun _ s11 ⟨H11, I11, q11⟩ => fin I11 q11) fun _ _ q => q.elim
  exact codeAny_compStart_set loop (T.self X.A 0 _ _ _ st4 loop)
/-- as a value -/
theorem pe_scG {elt tg iter : Expr} {ifs : List Expr} {scope : Scope} {own : List (PySem.Str × Nat)} {pos : Pos} {wi : TI} {g : TG} {tt : TT} {te : TE} (Z : Addr → HO) (Ad : V → Addr → Hp → (Hp → Prop) → Prop) (hZ : ∀ (P : Program) (w : World) (H : Hp) (h : Heap), ObjOk X.prog X.w H (h.push (newSetO X.w)) h.objs.size (Z h.objs.size))
    (hAd : ∀ (Y : Cx) (pins : List (Addr × Obj)) (σ : L2.St) (H : Hp) (s : Shared) (y : V) (u : Value) (D : Addr) (Nx : Hp → Prop), Y.prog = X.prog → Y.w = X.w → Y.K = X.K → Y.A = X.A → Inv Y pins σ H s → RelV y u → Ad y D H Nx → wpAny (model Y.prog Y.w) Y.A (call (.builtin "set.add") [.ref D, u]) (fun _ s' => ∃ H', Inv Y pins σ H' s' ∧ Nx H') (fun _ _ => False) s)
    (hc : X.calm = true) (hN : X.N.Nodup) (hi : PI X tg iter wi) (ok : BlkOk X.N X.env.scope scope own)
    (hg : ∀ (s : Shared) (H : Hp) (C : Addr) (cl : List (PySem.Str × Addr)) (fp : List Addr), PG (X.blk s H scope (compEnvC scope cl C X.env) fp) tg g) (ht : ∀ (s : Shared) (H : Hp) (C : Addr) (cl : List (PySem.Str × Addr)) (fp : List Addr), PTs (X.blk s H scope (compEnvC scope cl C X.env) fp) ifs tt)
    (he : ∀ (s : Shared) (H : Hp) (C : Addr) (cl : List (PySem.Str × Addr)) (fp : List Addr), PE (X.blk s H scope (compEnvC scope cl C X.env) fp) elt te) (hs : ∀ x, foldedSetIterable iter X.env x = pure x := by intro _; rfl) :
    PE X (.SetComp elt [⟨tg, iter, ifs, 0⟩] scope pos) (tScG Z Ad wi g tt te (own.map (·.2))) := by
  refine ⟨fun pins s σ H Q I h => ?_⟩
  rw [eval_SetComp]
  refine scG_core Z Ad hZ hAd hc hN I hi ok hg ht he hs h fun D C s' m H' I' q hn f => ⟨m, hn, fun h2 sb => ?_⟩
  obtain ⟨f0, f1, f2, f3, f4, f5⟩ := f
  exact ⟨.ref D, H', I'.turned (t' := s'.toks) (fun b o hb e => (sb.2 b hb).trans e) f0 f1 f3 f4 f5, rfl, q⟩
/-- name = {..} on one line, the name a local -/
theorem ps_setScG {i : Nat} {y : PySem.Str} {py : Pos} {elt tg iter : Expr} {ifs : List Expr} {scope : Scope} {own : List (PySem.Str × Nat)} {pos spos : Pos} {wi : TI} {g : TG} {tt : TT} {te : TE} (Z : Addr → HO) (Ad : V → Addr → Hp → (Hp → Prop) → Prop) (hZ : ∀ (P : Program) (w : World) (H : Hp) (h : Heap), ObjOk X.prog X.w H (h.push (newSetO X.w)) h.objs.size (Z h.objs.size))
    (hAd : ∀ (Y : Cx) (pins : List (Addr × Obj)) (σ : L2.St) (H : Hp) (s : Shared) (y : V) (u : Value) (D : Addr) (Nx : Hp → Prop), Y.prog = X.prog → Y.w = X.w → Y.K = X.K → Y.A = X.A → Inv Y pins σ H s → RelV y u → Ad y D H Nx → wpAny (model Y.prog Y.w) Y.A (call (.builtin "set.add") [.ref D, u]) (fun _ s' => ∃ H', Inv Y pins σ H' s' ∧ Nx H') (fun _ _ => False) s)
    (hc : X.calm = true) (hN : X.N.Nodup) (hy : X.N[i]? = some y) (hyl : X.env.scope.names.lookup y = some .local)
    (hsw : swapsWith (.SetComp elt [⟨tg, iter, ifs, 0⟩] scope pos) (some (.Name y py)) spos.line X.env = pure true) (hi : PI X tg iter wi) (ok : BlkOk X.N X.env.scope scope own)
    (hg : ∀ (s : Shared) (H : Hp) (C : Addr) (cl : List (PySem.Str × Addr)) (fp : List Addr), PG (X.blk s H scope (compEnvC scope cl C X.env) fp) tg g) (ht : ∀ (s : Shared) (H : Hp) (C : Addr) (cl : List (PySem.Str × Addr)) (fp : List Addr), PTs (X.blk s H scope (compEnvC scope cl C X.env) fp) ifs tt)
    (he : ∀ (s : Shared) (H : Hp) (C : Addr) (cl : List (PySem.Str × Addr)) (fp : List Addr), PE (X.blk s H scope (compEnvC scope cl C X.env) fp) elt te) (hs : ∀ x, foldedSetIterable iter X.env x = pure x := by intro _; rfl) :
    PS X (.Assign [.Name y py] (.SetComp elt [⟨tg, iter, ifs, 0⟩] scope pos) spos) (tAsg (tScG Z Ad wi g tt te (own.map (·.2))) (gName i)) := by
  refine ⟨fun pins s σ H D I h => ?_⟩
  rw [exec_Assign_Name_used _ _ _ _ hsw]
  refine wpAny_bind (wpAny_standAt (wpAny_bind ?_))
  show wpAny _ X.A (do let _ ← comprehension (.SetComp elt [⟨tg, iter, ifs, 0⟩] scope pos) scope X.env (firstIterPos [⟨tg, iter, ifs, 0⟩] pos) (newSet (.type "set")) false (eval iter X.env) (some (assign (.Name y py) X.env))) _ _ s
  have h : tScG Z Ad wi g tt te (own.map (·.2)) σ H (fun x H1 => gName i x σ H1 D.nx) := h
  refine wpAny_bind (thn (scG_core (Qf := fun _ s' => SP X pins D .next s') Z Ad hZ hAd hc hN I hi ok hg ht he hs h fun L C s' m H' I' q hn f => ?_) fun _ s' hq => wpAny_pure (wpAny_pure hq))
  show wpAny _ _ (assign (.Name y py) X.env (.ref L)) _ _ _
  refine wpAny_assign_Name (store_ok2 (v := V.ref L) I' hN hy (.inl hyl) rfl (fun s2 I2 ⟨a, sb, ha⟩ => ?_) (.inr hyl))
  obtain ⟨f0, f1, f2, f3, f4, f5⟩ := f
  have haC : C ≠ a := by
    rcases ha with z | z
    · rw [z]; exact f1
    · exact fun e => f4 y a z e.symm
  refine ⟨m, hn.sameBut sb haC, fun h3 sb3 => ?_⟩
  exact ⟨_, H', I2.turned (t' := s2.toks) (fun b o hb e => (sb3.2 b hb).trans e) f0 f1 f3 f4 f5, q⟩
end

/-! ### add, of tuples -/
section
variable {P : Program} {w : World} {A : Around} {E : Value → Shared → Prop} {s : Shared} {Kt : Type} [DecidableEq Kt] {knd : HeapKind P w Kt}
theorem call_addK (hX : Hx P w knd) {a x : Addr} {L : List (Addr × Kt)} {es : Array (Int × Value)} {ep : Nat} {t : SetTable} {k : Kt} (R : SetK knd s.heap a L es ep t) (hx : knd.is s.heap k x) (hu : knd.room A.in1) (hfew : L.length + 1 < 64) {Q : Value → Shared → Prop}
    (hQ : ∀ h' L' es' ep' t', Heap.SameBut a s.heap h' → SetK knd h' a L' es' ep' t' → (k ∈ L.map (·.2) → L' = L) → (k ∉ L.map (·.2) → L'.Perm ((x, k) :: L)) → ∀ tk, Q .none { s with heap := h', toks := tk }) :
    wpAny (model P w) A (call (.builtin "set.add") [.ref a, .ref x]) Q E s := by
  have hT : s.TypeIs (.ref a) "set" := by
    obtain ⟨o, ho, hex, hd⟩ := R.ob
    exact ⟨o, ho, hex.1⟩
  refine wpAny_call_entry F.slot_set_add hT F.entry_set_add ?_ (F.args_set_add_2 _ _)
  unfold Builtin.«set.add» Builtin.Frozenset.oneOther
  simp only [List.isEmpty_nil, bind_assoc]
  unfold Builtin.Frozenset.addrOf setAdd
  refine wpAny_bind (wpAny_pure ?_)
  try dsimp only
  refine wpAny_bind (wpAny_pure ?_)
  try dsimp only
  refine wpAny_bind ?_
  refine wpAny_holding ?_
  refine wpAny_bind (knd.pyHash hu hx ?_)
  refine addK (s := { s with toks := s.toks + knd.draws k }) hX R hx hu hfew fun b h' L' es' ep' t' sb R' c1 c2 => ?_
  show wpAny _ _ (ret Value.none) _ _ _
  exact wpAny_pure ⟨_, rfl, hQ h' L' es' ep' t' sb R' c1 c2 _⟩
end
section
variable {X : Cx}
theorem setK_fresh0 (P : Program) (w : World) (h : Heap) (H : Hp) : ObjOk P w H (h.push (newSetO w)) h.objs.size (SetKO P w h.objs.size []) :=
  setKO_new (setK_fresh (knd := nestedKind P w) (Heap.get?_push_size _ rfl)).k0
/-- adding a tuple of the key nk d -/
def AdK (P : Program) (w : World) (K : PySem.W.Frag) : V → Addr → Hp → (Hp → Prop) → Prop := fun y D H Nx => ∃ (F : Hp) (d : PD) (L : List (Addr × NestedKey)) (es : List PD) (x : Addr), y = .ref x ∧ Ex F H ∧ Dp K F y d ∧ KD d ∧ H D = some (SetKO P w D L) ∧ Mt K F L es ∧ L.length + 1 < 64 ∧
  ∀ L', (nk d ∈ L.map (·.2) → L' = L) → (nk d ∉ L.map (·.2) → L'.Perm ((x, nk d) :: L)) → Nx (upd H D (SetKO P w D L'))
theorem adK_ok (hu : X.A.units + 64 < cLine) (Y : Cx) (pins : List (Addr × Obj)) (σ : L2.St) (H : Hp) (s : Shared) (y : V) (u : Value) (D : Addr) (Nx : Hp → Prop) (hP : Y.prog = X.prog) (hw : Y.w = X.w) (hK : Y.K = X.K) (hA : Y.A = X.A) (I : Inv Y pins σ H s) (r : RelV y u) (h : AdK X.prog X.w X.K y D H Nx) :
    wpAny (model Y.prog Y.w) Y.A (call (.builtin "set.add") [.ref D, u]) (fun _ s' => ∃ H', Inv Y pins σ H' s' ∧ Nx H') (fun _ _ => False) s := by
  rw [← hP, ← hw, ← hK] at h
  obtain ⟨F, d, L, es, x, rfl, e, hd, kd, hD, m, few, q⟩ := h
  cases r
  have R0 : SetK0 (nestedKind Y.prog Y.w) s.heap D L := (I.hok D _ hD).1
  obtain ⟨es', ep, t, R⟩ := R0.full (mt_is I e m)
  have hx : (nestedKind Y.prog Y.w).is s.heap (nk d) x := ⟨dp_nested I d (.ref x) (.ref x) (dp_mono e hd) rfl kd.1, Nat.le_trans (nk_depth d) kd.2.1⟩
  refine call_addK hx_nested R hx (show Y.A.units + 1 + 8 < cLine by rw [hA]; omega) few fun h' L' es2 ep2 t2 sb R2 c1 c2 tk => ?_
  have he : ∃ o, h'.get? D = some o := let ⟨o, ho, _⟩ := R2.ob; ⟨o, ho⟩
  exact ⟨_, I.write (e := D) (t' := tk) (by rw [hD]; trivial) (.inl rfl) (fun b o hb ho => (sb.2 b hb).trans ho) he (setKO_new R2.k0), q L' c1 c2⟩
end
end Pl

set_option Elab.async false
set_option autoImplicit false
set_option linter.all false
set_option maxRecDepth 100000
set_option maxHeartbeats 4000000
namespace Pl
open PySem L2
open GxR (TabG Tabbed)
open LamX (ExtN TabS CodeO)
open NdefX (NTab TabN TabsN NF FnO)

/-! ### comprehensions -/
def wipeL (sl : List (Option Rp)) : List Nat → List (Option Rp)
  | [] => sl
  | v :: vs => (wipeL sl vs).set v none
theorem wipeL_length (sl : List (Option Rp)) : ∀ vs : List Nat, (wipeL sl vs).length = sl.length
  | [] => rfl
  | v :: vs => by unfold wipeL; rw [List.length_set, wipeL_length sl vs]
theorem wipeL_get {sl : List (Option Rp)} {j : Nat} {R : Rp} : ∀ {vs : List Nat}, (wipeL sl vs)[j]? = some (some R) → j ∉ vs ∧ sl[j]? = some (some R)
  | [], h => ⟨by simp, h⟩
  | v :: vs, h => by
    unfold wipeL at h
    by_cases e : v = j
    · subst e
      rw [List.getElem?_set] at h
      split at h
      · split at h <;> simp_all
      · simp_all
    · rw [List.getElem?_set_ne e] at h
      obtain ⟨h1, h2⟩ := wipeL_get h
      exact ⟨by simp only [List.mem_cons, not_or]; exact ⟨fun z => e z.symm, h1⟩, h2⟩
def Cn.wipe (C : Cn) (vs : List Nat) : Cn := { C with sl := wipeL C.sl vs }
theorem Cn.ok.wipe {C : Cn} {σ : St} {F H : Hp} (c : C.ok σ F H) (vs : List Nat) : (C.wipe vs).ok (L2.wipe σ vs) F H where
  w := c.w
  len := by
    show (L2.wipe σ vs).length = (wipeL C.sl vs).length
    rw [wipe_length, wipeL_length]; exact c.len
  sl := fun i R e => by
    obtain ⟨h1, h2⟩ := wipeL_get (show (wipeL C.sl vs)[i]? = some (some R) from e)
    obtain ⟨v, h3, h4⟩ := c.sl i R h2
    exact ⟨v, by rw [wipe_get, if_neg (fun z => h1 z.1)]; exact h3, h4⟩
  os := c.os
  nd := c.nd
  ff := c.ff
  en := c.en
abbrev Blk (X : Cx) (scope : Scope) (J : Cx → Prop) : Prop := ∀ (s : Shared) (H : Hp) (Ca : Addr) (cl : List (Str × Addr)) (fp : List Addr), J (X.blk s H scope (compEnvC scope cl Ca X.env) fp)
section
variable {X : Cx} {C : Cn} {T : Tbs} {e elt tg iter t : Expr} {pos p spos py : Pos} {R : Rp} {Rs : List Rp} {ds : List PD} {scope : Scope} {own : List (Str × Nat)} {x : Str} {i : Nat}
/-- the reading's pieces -/
def cG (C : Cn) (vs : List Nat) (Rs : List Rp) (Tn : Nat → Rp → Fp → Cn → Prop) : TG := fun v σ H Q => ∃ (i : Nat) (R : Rp) (f : Fp), Rs[i]? = some R ∧ ∃ F, (((C.plus f).wipe vs).ok σ F H) ∧ R.p v F ∧ ∀ C' σ', Tn i R f C' → C'.ok σ' F H → L2.wipe σ' vs = L2.wipe σ vs → Q σ' H
abbrev Ets (X : Cx) (C : Cn) (ifs : List Expr) (b : Bool) : Prop := PTs X ifs (tT C b)
theorem PTs.of {ifs : List Expr} {u u' : TT} (h : PTs X ifs u) (k : ∀ σ H Q, u' σ H Q → u σ H Q) : PTs X ifs u' := ⟨fun pins s σ H Q I q => h.run pins s σ H Q I (k σ H Q q)⟩
theorem ets_nil : Ets X C [] true := PTs.of pts_nil fun σ H Q ⟨F, c, q⟩ => q F H c.w.le
theorem ets_one {b : Bool} (h : Et X C t b) : Ets X C [t] b := pts_one h
/-- what a block's turn is: the item's slots C', the test's answer, the element -/
def Turn1 (X : Cx) (C : Cn) (scope : Scope) (vs : List Nat) (tg : Expr) (ifs : List Expr) (elt : Expr) (R : Rp) (f : Fp) (b : Bool) (Re : Rp) : Prop :=
  ∃ C' ws, (∀ j ∈ ws, j ∈ vs) ∧ C'.T = C.T ∧ Blk X scope fun Y => Tg Y ((C.plus f).wipe vs) R tg C' ws ∧ Ets Y C' ifs b ∧ (b = true → Ev Y C' elt Re)
/-- the readings of a block all of whose turns are told -/
theorem blk_pieces {ifs : List Expr} {vs : List Nat} (kp : Nat → Bool) (Re : Nat → Rp) (hb : ∀ (i : Nat) (R : Rp) (f : Fp), Rs[i]? = some R → Turn1 X C scope vs tg ifs elt R f (kp i) (Re i)) :
    ∃ (g : TG) (tt : TT) (te : TE), (Blk X scope fun Y => PG Y tg g) ∧ (Blk X scope fun Y => PTs Y ifs tt) ∧ (Blk X scope fun Y => PE Y elt te) ∧
      ∀ (i : Nat) (R : Rp) (f : Fp) (σ : St) (F H : Hp) (v : V) (k : St → Hp → (Bool → Hp → Prop) → Prop), Rs[i]? = some R → ((C.plus f).wipe vs).ok σ F H → R.p v F →
        ∀ (Kn : Hp → Prop) (Ky : V → Hp → Prop), (kp i = false → ∀ F' H', Le C.T F H F' H' → Kn H') → (kp i = true → ∀ y F' H', Le C.T F H F' H' → (Re i).p y F' → Ky y H') →
          g v σ H fun σ2 H2 => L2.wipe σ2 vs = L2.wipe σ vs ∧ tt σ2 H2 fun b H3 => if b = true then te σ2 H3 Ky else Kn H3 := by
  let Tn : Nat → Cn → Prop := fun i C' => C'.T = C.T ∧ Blk X scope fun Y => Ets Y C' ifs (kp i) ∧ (kp i = true → Ev Y C' elt (Re i))
  have hpg : Blk X scope fun Y => PG Y tg (cG C vs Rs fun i _ _ C' => Tn i C') := fun s H Ca cl fp => ⟨fun pins s σ H v u Q I r ⟨i, R, f, hR, F, c, hv, q⟩ => by
    obtain ⟨C', ws, h1, hT, h2⟩ := hb i R f hR
    exact (h2 _ _ Ca cl fp).1.run pins s σ H v u Q I r ⟨F, c, hv, fun σ' c' k => q C' σ' ⟨hT, fun s H Ca cl fp => (h2 s H Ca cl fp).2⟩ c' (k _ h1)⟩⟩
  have hpt : Blk X scope fun Y => PTs Y ifs (fun σ H Q => ∃ i C', Tn i C' ∧ tT C' (kp i) σ H Q) := fun s H Ca cl fp => ⟨fun pins s σ H Q I ⟨i, C', ⟨_, h1⟩, h2⟩ => (h1 _ _ Ca cl fp).1.run pins s σ H Q I h2⟩
  have hpe : Blk X scope fun Y => PE Y elt (fun σ H Q => ∃ i C', kp i = true ∧ Tn i C' ∧ tE C' (Re i) σ H Q) := fun s H Ca cl fp => ⟨fun pins s σ H Q I ⟨i, C', h0, ⟨_, h1⟩, h2⟩ => ((h1 _ _ Ca cl fp).2 h0).run pins s σ H Q I h2⟩
  refine ⟨_, _, _, hpg, hpt, hpe, fun i R f σ F H v k hR c hv Kn Ky hn hy => ⟨i, R, f, hR, F, c, hv, fun C' σ' hT c' hw => ⟨hw, i, C', hT, F, c', fun F2 H2 l2 => ?_⟩⟩⟩
  have l2 : Le C.T F H F2 H2 := hT.1 ▸ l2
  cases hk : kp i with
  | false => exact iteF (hn hk F2 H2 l2)
  | true => exact iteT ⟨i, C', hk, hT, F2, c'.le (hT.1.symm ▸ l2), fun y F3 H3 l3 h3 => hy hk y F3 H3 (l2.trans (hT.1 ▸ l3)) h3⟩
/-- the made items -/
def made (n : Nat) (kp : Nat → Bool) (g : Nat → PD) : List PD := (List.range n).filterMap fun i => if kp i = true then some (g i) else none
theorem made_zero (kp : Nat → Bool) (g : Nat → PD) : made 0 kp g = [] := rfl
theorem made_no {i : Nat} {kp : Nat → Bool} {g : Nat → PD} (h : kp i = false) : made (i + 1) kp g = made i kp g := by
  unfold made
  rw [List.range_succ, List.filterMap_append]
  simp [h]
theorem made_yes {i : Nat} {kp : Nat → Bool} {g : Nat → PD} (h : kp i = true) : made (i + 1) kp g = made i kp g ++ [g i] := by
  unfold made
  rw [List.range_succ, List.filterMap_append]
  simp [h]
theorem made_len (n : Nat) (kp : Nat → Bool) (g : Nat → PD) : (made n kp g).length ≤ n := by
  unfold made
  have := List.length_filterMap_le (fun i => if kp i = true then some (g i) else none) (List.range n)
  rwa [List.length_range] at this
theorem made_all (n : Nat) (g : Nat → PD) : made n (fun _ => true) g = (List.range n).map g := by
  unfold made
  simp
/-- an object of the block's own is stored to: the context stays -/
theorem Cn.ok.own_mut {σ : St} {F H F0 H0 : Hp} {D : Addr} {o o' : HO} {Cc : Cn} (c : Cc.ok σ F H) (c0 : Cc.ok σ F0 H0) (f : F D = none) (hD0 : H0 D = none) (hD : H D = some o) (nt : ∀ ps, o ≠ .tbl ps) (nt' : ∀ ps, o' ≠ .tbl ps) : Cc.ok σ F (upd H D o') := by
  have l5 : Le Cc.T Cc.enF Cc.enH F (upd H D o') := c.en.mut (T := Cc.T) f (Classical.byContradiction fun z => c0.en.d D z hD0) hD nt nt'
  refine ⟨l5.w, c.len, c.sl, fun r hr => ?_, c.nd, c.ff, l5⟩
  obtain ⟨b1, b2, ob, b3, b4, b5⟩ := c.os r hr
  refine ⟨b1, b2, ob, ?_, b4, b5⟩
  rw [upd_ne (fun z => ?_)]
  · exact b3
  · obtain ⟨_, _, o1, b6, _⟩ := c0.os r hr
    rw [z, hD0] at b6
    cases b6
/-- the reading of [elt for tg in iter if ..] -/
theorem lc_read {wi : TI} {vs : List Nat} (kp : Nat → Bool) (g : Nat → PD) (hw : ∀ σ F H, C.ok σ F H → ∀ G : It → Hp → Prop, (∀ (J : It) (f : Fp) F' H', Le C.T F H F' H' → ItW C.T J Rs f → f.p F' → G J H') → wi σ H G) (hz : Rs.length ≤ 100000)
    {gg : TG} {tt : TT} {te : TE} (hk : ∀ (i : Nat) (R : Rp) (f : Fp) (σ : St) (F H : Hp) (v : V) (k : St → Hp → (Bool → Hp → Prop) → Prop), Rs[i]? = some R → ((C.plus f).wipe vs).ok σ F H → R.p v F →
        ∀ (Kn : Hp → Prop) (Ky : V → Hp → Prop), (kp i = false → ∀ F' H', Le C.T F H F' H' → Kn H') → (kp i = true → ∀ y F' H', Le C.T F H F' H' → (isD X.K (g i)).p y F' → Ky y H') →
          gg v σ H fun σ2 H2 => L2.wipe σ2 vs = L2.wipe σ vs ∧ tt σ2 H2 fun b H3 => if b = true then te σ2 H3 Ky else Kn H3)
    (σ : St) (F H : Hp) (Q : VK) (c : C.ok σ F H) (q : ∀ p o F' H', Le C.T F H F' H' → H p = none → F' p = none → H' p = some o → (∀ ps, o ≠ .tbl ps) → (ctL X.K (made Rs.length kp g)).p o F' → Q (.ref p) H') : tLc wi gg tt te vs σ H Q := by
  refine hw σ F H c _ fun It f F1 H1 l itw hf => fun D hD => ?_
  have c1 := c.le l
  have w1 := Le.newH (o := .lst []) l.w hD
  refine ⟨fun i m H => m = Rs.length - i ∧ i ≤ Rs.length ∧ ∃ F, (C.plus f).ok σ F H ∧ F D = none ∧ Le C.T F1 H1 F H ∧ ∃ vs, H D = some (.lst vs) ∧ DpAll X.K F vs (made i kp g), ⟨Rs.length, by simp, Nat.zero_le _, F1, ((c1.le w1).plus hf), wok_none l.w hD, w1, [], upd_same, .nil⟩, ?_⟩
  rintro i m H2 ⟨rfl, hle, F2, c2, hFD, l2, us, hHD, al⟩
  obtain ⟨g1, g2⟩ := itw i F2 H2 c2.w c2.ff.2
  rcases Nat.lt_or_ge i Rs.length with hlt | hge
  · have e := List.getElem?_eq_getElem hlt
    obtain ⟨g3, g4⟩ := g1 _ e
    refine .inr ⟨g3, fun H' => ∃ F', (C.plus f).ok σ F' H' ∧ F' D = none ∧ Le C.T F1 H1 F' H' ∧ ∃ vs, H' D = some (.lst vs) ∧ DpAll X.K F' vs (made (i + 1) kp g), fun H' q' => ⟨Rs.length - (i + 1), by omega, rfl, hlt, q'⟩, fun v H' y => ?_⟩
    obtain ⟨F3, l3, hv⟩ := g4 v H' y
    have c3 := c2.le l3
    have hD3 : H' D = some (.lst us) := l3.h _ _ hHD (lst_nt _)
    have f3 : F3 D = none := l3.n D hFD (by rw [hHD]; intro z; cases z)
    have fin : ∀ σ2, L2.wipe σ2 vs = L2.wipe (L2.wipe σ vs) vs → L2.wipe σ2 vs = L2.wipe σ vs := fun σ2 h => by
      rw [h]
      refine List.ext_getElem? fun j => ?_
      rw [wipe_get, wipe_get, wipe_length]
      by_cases hj : j ∈ vs ∧ j < σ.length
      · rw [if_pos hj, if_pos hj]
      · rw [if_neg hj, if_neg hj]
    have hk' := hk i _ f (L2.wipe σ vs) F3 H' v (fun _ _ _ => True) e (c3.wipe vs) hv (fun H' => ∃ F', (C.plus f).ok σ F' H' ∧ F' D = none ∧ Le C.T F1 H1 F' H' ∧ ∃ vs, H' D = some (.lst vs) ∧ DpAll X.K F' vs (made (i + 1) kp g))
      (fun y H4 => ∃ acc, H4 D = some (.lst acc) ∧ acc.length < sizeLine ∧ ∃ F', (C.plus f).ok σ F' (upd H4 D (.lst (acc ++ [y]))) ∧ F' D = none ∧ Le C.T F1 H1 F' (upd H4 D (.lst (acc ++ [y]))) ∧ ∃ vs, upd H4 D (.lst (acc ++ [y])) D = some (.lst vs) ∧ DpAll X.K F' vs (made (i + 1) kp g)) ?_ ?_
    · have e2 : L2.wipe (L2.wipe σ vs) vs = L2.wipe σ vs := fin _ rfl
      rw [e2] at hk'
      exact hk'
    · intro hf F4 H4 l4
      refine ⟨F4, c3.le l4, l4.n D f3 (by rw [hD3]; intro z; cases z), (l2.trans l3).trans l4, us, l4.h _ _ hD3 (lst_nt _), ?_⟩
      rw [made_no hf]
      exact dpAll_mono (l3.f.trans l4.f) al
    · intro hy y F4 H4 l4 h4
      have hD4 : H4 D = some (.lst us) := l4.h _ _ hD3 (lst_nt _)
      have f4 : F4 D = none := l4.n D f3 (by rw [hD3]; intro z; cases z)
      have lu : us.length ≤ i := by rw [dpAll_length al]; exact made_len _ _ _
      refine ⟨us, hD4, Nat.lt_of_le_of_lt (by omega) (by rw [sizeLine_eq]; decide : 100000 < sizeLine), F4, ?_, f4, ?_, us ++ [y], upd_same, ?_⟩
      · exact (c3.le l4).own_mut (Cc := C.plus f) (c1.plus hf) f4 hD hD4 (lst_nt _) (lst_nt _)
      · exact ((l2.trans l3).trans l4).mut (T := C.T) f4 hD hD4 (lst_nt _) (lst_nt _)
      · rw [made_yes hy]
        exact dpAll_append (dpAll_mono (l3.f.trans l4.f) al) (dpAll_one h4)
  · have hi : i = Rs.length := Nat.le_antisymm hle hge
    subst hi
    exact .inl ⟨g2 (List.getElem?_eq_none (Nat.le_refl _)), q D _ F2 H2 (l.trans l2) (l.back hD) hFD hHD (lst_nt _) ⟨us, rfl, al⟩⟩
/-- [elt for tg in iter if ..] -/
theorem en_lc {ifs : List Expr} (kp : Nat → Bool) (g : Nat → PD) (hi : Iv X C tg iter Rs) (ok : BlkOk X.N X.env.scope scope own) (hz : Rs.length ≤ 100000)
    (hb : ∀ (i : Nat) (R : Rp) (f : Fp), Rs[i]? = some R → Turn1 X C scope (own.map (·.2)) tg ifs elt R f (kp i) (isD X.K (g i))) (hN : X.N.Nodup) (hc : X.calm = true := by rfl) (hs : ∀ x, foldedSetIterable iter X.env x = pure x := by intro _; rfl) :
    En X C (.ListComp elt [⟨tg, iter, ifs, 0⟩] scope pos) (ctL X.K (made Rs.length kp g)) := by
  obtain ⟨wi, hpi, hw⟩ := hi
  obtain ⟨gg, tt, te, p1, p2, p3, hk⟩ := blk_pieces kp (fun i => isD X.K (g i)) hb
  have h : PE X (.ListComp elt [⟨tg, iter, ifs, 0⟩] scope pos) (tLc wi gg tt te (own.map (·.2))) := pe_lc hc hN hpi ok p1 p2 p3 hs
  exact en_of h fun σ F H Q c q => lc_read kp g hw hz hk σ F H Q c q
/-- x = [elt for tg in iter if ..] -/
theorem do_setLc {A : As} {D : Ends} {rest : List Stmt} {ifs : List Expr} (kp : Nat → Bool) (g : Nat → PD) (hi : Iv X C tg iter Rs) (ok : BlkOk X.N X.env.scope scope own) (hz : Rs.length ≤ 100000)
    (hb : ∀ (i : Nat) (R : Rp) (f : Fp), Rs[i]? = some R → Turn1 X C scope (own.map (·.2)) tg ifs elt R f (kp i) (isD X.K (g i))) (hN : X.N.Nodup) (hy : X.N[i]? = some x) (hyl : X.env.scope.names.lookup x = some .local)
    (hsw : swapsWith (.ListComp elt [⟨tg, iter, ifs, 0⟩] scope pos) (some (.Name x py)) spos.line X.env = pure true) (hl : i < C.sl.length) (h : ∀ q, Do X rest (C.own i q (ctL X.K (made Rs.length kp g))).at D)
    (hc : X.calm = true := by rfl) (hs : ∀ x, foldedSetIterable iter X.env x = pure x := by intro _; rfl) : Do X (.Assign [.Name x py] (.ListComp elt [⟨tg, iter, ifs, 0⟩] scope pos) spos :: rest) C.at D := by
  obtain ⟨wi, hpi, hw⟩ := hi
  obtain ⟨gg, tt, te, p1, p2, p3, hk⟩ := blk_pieces kp (fun i => isD X.K (g i)) hb
  refine do_cons (M := fun σ H => ∃ q, (C.own i q (ctL X.K (made Rs.length kp g))).at σ H) (Do1.of (ps_setLc hc hN hy hyl hsw hpi ok p1 p2 p3 hs) fun σ H ⟨F, c⟩ => ?_) (Do.ex h)
  exact lc_read kp g hw hz hk σ F H _ c fun p o F' H' l h1 h2 h3 nt h4 => ⟨p, F', c.own l h1 h2 h3 nt h4 hl⟩
end
end Pl

set_option Elab.async false
set_option autoImplicit false
set_option linter.all false
set_option maxRecDepth 100000
set_option maxHeartbeats 4000000
namespace Pl
open PySem PySem.Spec PyProof.Rows L2
open GxR (TabG Tabbed)
open LamX (ExtN TabS CodeO)
open NdefX (NTab TabN TabsN NF FnO)

/-! ### dicts as data -/
abbrev Kvs := List (PD × PD)
open Classical in
noncomputable def dget (kvs : Kvs) (k : PD) : Option PD := (kvs.find? fun q => decide (q.1 = k)).map (·.2)
open Classical in
noncomputable def dput (kvs : Kvs) (k v : PD) : Kvs := if (dget kvs k).isSome then kvs.map (fun q => if q.1 = k then (q.1, v) else q) else kvs ++ [(k, v)]
theorem dget_nil (k : PD) : dget [] k = none := rfl
theorem dget_cons (q : PD × PD) (r : Kvs) (k : PD) : dget (q :: r) k = (open Classical in if q.1 = k then some q.2 else dget r k) := by
  unfold dget
  by_cases h : q.1 = k
  · simp [List.find?_cons, h]
  · simp [List.find?_cons, h]
theorem dput_old {kvs : Kvs} {k v u : PD} (h : dget kvs k = some u) : dput kvs k v = kvs.map (fun q => open Classical in if q.1 = k then (q.1, v) else q) := by unfold dput; rw [h]; rfl
theorem dput_new {kvs : Kvs} {k v : PD} (h : dget kvs k = none) : dput kvs k v = kvs ++ [(k, v)] := by unfold dput; rw [h]; rfl
theorem dput_len (kvs : Kvs) (k v : PD) : (dput kvs k v).length ≤ kvs.length + 1 := by
  unfold dput
  split
  · rw [List.length_map]; omega
  · simp
/-- keys that are ints or texts -/
def keyI : Key → PD → Prop
  | .inl i, d => d = .int i
  | .inr x, d => d = .str x
theorem keyI_v {K : PySem.W.Frag} {F : Hp} {k : Key} {d : PD} {v : V} (h : keyI k d) (q : Dp K F v d) : v = kV k := by
  cases k with
  | inl i => cases h; exact dp_int q
  | inr x => cases h; exact dp_str q
theorem keyI_inj {k j : Key} {d e : PD} (h : keyI k d) (g : keyI j e) : k = j ↔ d = e := by
  cases k <;> cases j <;> cases h <;> cases g <;> simp
def OptR (K : PySem.W.Frag) (F : Hp) : Option V → Option PD → Prop
  | some v, some d => Dp K F v d
  | none, none => True
  | _, _ => False
theorem optR_isSome {K : PySem.W.Frag} {F : Hp} {o : Option V} {u : Option PD} (h : OptR K F o u) : o.isSome = u.isSome := by cases o <;> cases u <;> first | rfl | cases h
theorem optR_some {K : PySem.W.Frag} {F : Hp} {o : Option V} {d : PD} (h : OptR K F o (some d)) : ∃ v, o = some v ∧ Dp K F v d := by
  cases o with
  | none => cases h
  | some v => exact ⟨v, rfl, h⟩
abbrev PI1 (K : PySem.W.Frag) (F : Hp) : List (Key × V) → Kvs → Prop := Paired fun r q => keyI r.1 q.1 ∧ Dp K F r.2 q.2
theorem pi1_mono {K : PySem.W.Frag} {F F' : Hp} (e : Ex F F') {kv : List (Key × V)} {kvs : Kvs} (h : PI1 K F kv kvs) : PI1 K F' kv kvs := L2.Paired.mapP h fun _ _ q => ⟨q.1, dp_mono e q.2⟩
theorem pi1_get {K : PySem.W.Frag} {F : Hp} {k : Key} {d : PD} (hk : keyI k d) : ∀ {kv : List (Key × V)} {kvs : Kvs}, PI1 K F kv kvs → OptR K F (valV kv k) (dget kvs d)
  | [], [], .nil => trivial
  | p :: kv, q :: kvs, .cons h t => by
    rw [dget_cons]
    by_cases e : p.1 = k
    · rw [valV_pos e, if_pos ((keyI_inj h.1 hk).mp e)]
      exact h.2
    · rw [valV_neg e, if_neg (fun z => e ((keyI_inj h.1 hk).mpr z))]
      exact pi1_get hk t
theorem pi1_len {K : PySem.W.Frag} {F : Hp} {kv : List (Key × V)} {kvs : Kvs} (h : PI1 K F kv kvs) : kv.length = kvs.length := Paired.length h
theorem paired_append {α β : Type} {R : α → β → Prop} : ∀ {l1 : List α} {m1 : List β} {l2 : List α} {m2 : List β}, Paired R l1 m1 → Paired R l2 m2 → Paired R (l1 ++ l2) (m1 ++ m2)
  | _, _, _, _, .nil, h => h
  | _, _, _, _, .cons a b, h => .cons a (paired_append b h)
theorem paired_map {α β : Type} {R R' : α → β → Prop} {f : α → α} {g : β → β} (hf : ∀ a b, R a b → R' (f a) (g b)) : ∀ {l : List α} {m : List β}, Paired R l m → Paired R' (l.map f) (m.map g)
  | _, _, .nil => .nil
  | _, _, .cons a b => .cons (hf _ _ a) (paired_map hf b)
theorem pi1_put {K : PySem.W.Frag} {F : Hp} {k : Key} {d v' : PD} {v : V} (hk : keyI k d) (hv : Dp K F v v') {kv : List (Key × V)} {kvs : Kvs} (h : PI1 K F kv kvs) : PI1 K F (putK kv k v) (dput kvs d v') := by
  have g := pi1_get hk h
  cases e : valV kv k with
  | none =>
    rw [e] at g
    cases e2 : dget kvs d with
    | some u => rw [e2] at g; cases g
    | none =>
      rw [putK_new v e, dput_new e2]
      exact paired_append h (.cons ⟨hk, hv⟩ .nil)
  | some u =>
    rw [e] at g
    cases e2 : dget kvs d with
    | none => rw [e2] at g; cases g
    | some u' =>
      rw [dput_old e2]
      have e3 : putK kv k v = kv.map fun p => if p.1 = k then (p.1, v) else p := by
        have z : (kv.any fun kv => decide (kv.1 = k)) = true := by rw [valV_any, e] <;> rfl
        unfold putK
        rw [if_pos z]
      rw [e3]
      refine paired_map (R := fun r q => keyI r.1 q.1 ∧ Dp K F r.2 q.2) (fun a b r => ?_) h
      by_cases hp : a.1 = k
      · rw [if_pos hp, if_pos ((keyI_inj r.1 hk).mp hp)]
        exact ⟨r.1, hv⟩
      · rw [if_neg hp, if_neg (fun z => hp ((keyI_inj r.1 hk).mpr z))]
        exact r
/-- an owned dict, its keys ints or texts -/
def ctDI (K : PySem.W.Frag) (kvs : Kvs) : Ct := ⟨fun o F => ∃ kv, o = .dK kv ∧ PI1 K F kv kvs, fun e ⟨kv, h, q⟩ => ⟨kv, h, pi1_mono e q⟩⟩

/-! ### dicts whose keys are tuples of any depth -/
abbrev RawN := List (NestedKey × Addr × V)
def relN (r : NestedKey × Addr × V) (q : NestedKey × Addr × Value) : Prop := r.1 = q.1 ∧ r.2.1 = q.2.1 ∧ RelV r.2.2 q.2.2
def DictN0 (P : Program) (w : World) (h : Heap) (d : Addr) (raw : RawN) : Prop := (d == sysModules) = false ∧ raw.length ≤ sizeLine ∧ ∃ xs : List (NestedKey × Addr × Value), Paired relN raw xs ∧ ∃ o es ep, h.get? d = some o ∧ o.ExactDict ∧ o.data = .dict es ep ∧ es.toList = xs.map (entryOfKey (nestedKind P w)) ∧ (xs.map (·.1)).Nodup
def DictNO (P : Program) (w : World) (d : Addr) (raw : RawN) : HO := .ext fun h => DictN0 P w h d raw
theorem dictNO_nt (P : Program) (w : World) (a : Addr) (L : RawN) (ps : Array Value) : DictNO P w a L ≠ .tbl ps := fun z => by
  unfold DictNO at z
  cases z
theorem dictNO_new {P : Program} {w : World} {H : Hp} {h : Heap} {d : Addr} {raw : RawN} (R : DictN0 P w h d raw) : ObjOk P w H h d (DictNO P w d raw) := by
  have ⟨_, _, xs, _, o, es, ep, ho, _⟩ := R
  refine ⟨R, ⟨o, ho⟩, fun h1 h2 p k => ?_⟩
  have ⟨a1, a2, xs', a3, o', es', ep', ho', r⟩ := p
  exact ⟨a1, a2, xs', a3, o', es', ep', k o' ho', r⟩
abbrev PN1 (K : PySem.W.Frag) (F : Hp) : RawN → Kvs → Prop := Paired fun r q => nk q.1 = r.1 ∧ KD q.1 ∧ Dp K F (.ref r.2.1) q.1 ∧ Dp K F r.2.2 q.2
theorem pn1_mono {K : PySem.W.Frag} {F F' : Hp} (e : Ex F F') {kv : RawN} {kvs : Kvs} (h : PN1 K F kv kvs) : PN1 K F' kv kvs := L2.Paired.mapP h fun _ _ q => ⟨q.1, q.2.1, dp_mono e q.2.2.1, dp_mono e q.2.2.2⟩
/-- an owned dict at d, its keys tuples -/
def ctDN (P : Program) (w : World) (K : PySem.W.Frag) (d : Addr) (kvs : Kvs) : Ct := ⟨fun o F => ∃ raw, o = DictNO P w d raw ∧ PN1 K F raw kvs, fun e ⟨raw, h, q⟩ => ⟨raw, h, pn1_mono e q⟩⟩
section
variable {X : Cx} {pins : List (Addr × Obj)} {σ : L2.St} {F H : Hp} {s : Shared}
/-- what a raw list and a heap's list of entries say, both -/
theorem pn1_full (I : Inv X pins σ H s) (e : Ex F H) : ∀ {raw : RawN} {kvs : Kvs} {xs : List (NestedKey × Addr × Value)}, PN1 X.K F raw kvs → Paired relN raw xs → ∀ x ∈ xs, (nestedKind X.prog X.w).is s.heap x.1 x.2.1
  | [], [], [], .nil, .nil, _, h => by cases h
  | r :: raw, q :: kvs, x :: xs, .cons h t, .cons g u, y, hy => by
    rcases List.mem_cons.mp hy with rfl | hy
    · obtain ⟨h1, h2, h3, h4⟩ := h
      obtain ⟨g1, g2, g3⟩ := g
      rw [← g1, ← g2, ← h1]
      exact ⟨dp_nested I q.1 (.ref r.2.1) (.ref r.2.1) (dp_mono e h3) rfl h2.1, Nat.le_trans (nk_depth _) h2.2.1⟩
    · exact pn1_full I e t u y hy
theorem nk_eq_iff {a b : PD} (ha : KD a) (hb : KD b) : nk a = nk b ↔ a = b := ⟨nk_inj a b ha.1 hb.1, fun h => by rw [h]⟩
theorem pn1_get {K : PySem.W.Frag} {d0 : PD} (hk : KD d0) : ∀ {raw : RawN} {kvs : Kvs} {xs : List (NestedKey × Addr × Value)}, PN1 K F raw kvs → Paired relN raw xs →
    (atKey xs (nk d0) = none ∧ dget kvs d0 = none) ∨ ∃ a u v d, atKey xs (nk d0) = some (a, u) ∧ dget kvs d0 = some d ∧ RelV v u ∧ Dp K F v d
  | [], [], [], .nil, .nil => .inl ⟨rfl, rfl⟩
  | r :: raw, q :: kvs, x :: xs, .cons h t, .cons g u => by
    obtain ⟨h1, h2, h3, h4⟩ := h
    obtain ⟨g1, g2, g3⟩ := g
    rw [dget_cons]
    by_cases e : q.1 = d0
    · have ek : x.1 = nk d0 := by rw [← g1, ← h1, e]
      refine .inr ⟨x.2.1, x.2.2, r.2.2, q.2, ?_, by rw [if_pos e], g3, h4⟩
      unfold atKey
      simp [List.find?_cons, ek]
    · have ek : ¬ x.1 = nk d0 := by
        rw [← g1, ← h1]
        exact fun z => e ((nk_eq_iff h2 hk).mp z)
      have e2 : atKey (x :: xs) (nk d0) = atKey xs (nk d0) := by
        unfold atKey
        simp [List.find?_cons, ek]
      rw [e2, if_neg e]
      exact pn1_get hk t u
theorem atKey_nk {P : Program} {w : World} {xs : List (NestedKey × Addr × Value)} {k : NestedKey} : True := trivial
/-- raw lists behind a store -/
def rput (raw : RawN) (k : NestedKey) (a : Addr) (v : V) : RawN := if raw.any (fun r => decide (r.1 = k)) = true then raw.map (fun r => if r.1 = k then (r.1, r.2.1, v) else r) else raw ++ [(k, a, v)]
theorem rel_any : ∀ {raw : RawN} {xs : List (NestedKey × Addr × Value)} (k : NestedKey), Paired relN raw xs → (raw.any fun r => decide (r.1 = k)) = (atKey xs k).isSome
  | [], [], _, .nil => rfl
  | r :: raw, x :: xs, k, .cons h t => by
    rw [List.any_cons, rel_any k t]
    unfold atKey
    by_cases e : x.1 = k
    · simp [List.find?_cons, h.1, e]
    · simp [List.find?_cons, h.1, e]
theorem rel_put {raw : RawN} {xs : List (NestedKey × Addr × Value)} {k : NestedKey} {a : Addr} {v : V} {u : Value} (h : Paired relN raw xs) (r : RelV v u) : Paired relN (rput raw k a v) (storedH xs k a u) := by
  unfold rput storedH
  rw [rel_any k h]
  cases e : (atKey xs k).isSome with
  | false => exact paired_append h (.cons ⟨rfl, rfl, r⟩ .nil)
  | true =>
    rw [if_pos rfl, if_pos rfl]
    refine paired_map (R := relN) (fun p q g => ?_) h
    obtain ⟨g1, g2, g3⟩ := g
    unfold putAt
    by_cases e2 : p.1 = k
    · rw [if_pos e2, if_pos (by rw [← g1]; exact e2)]
      exact ⟨g1, g2, r⟩
    · rw [if_neg e2, if_neg (by rw [← g1]; exact e2)]
      exact ⟨g1, g2, g3⟩
theorem pn1_any {K : PySem.W.Frag} {d0 : PD} (hk : KD d0) : ∀ {raw : RawN} {kvs : Kvs}, PN1 K F raw kvs → (raw.any fun r => decide (r.1 = nk d0)) = (dget kvs d0).isSome
  | [], [], .nil => rfl
  | r :: raw, q :: kvs, .cons h t => by
    rw [List.any_cons, dget_cons, pn1_any hk t]
    by_cases e : q.1 = d0
    · rw [if_pos e, show decide (r.1 = nk d0) = true from decide_eq_true (by rw [← h.1, e])] <;> rfl
    · rw [if_neg e, show decide (r.1 = nk d0) = false from decide_eq_false (by rw [← h.1]; exact fun z => e ((nk_eq_iff h.2.1 hk).mp z))] <;> rfl
theorem pn1_put {K : PySem.W.Frag} {d0 v' : PD} {a : Addr} {v : V} (hk : KD d0) (ha : Dp K F (.ref a) d0) (hv : Dp K F v v') {raw : RawN} {kvs : Kvs} (h : PN1 K F raw kvs) : PN1 K F (rput raw (nk d0) a v) (dput kvs d0 v') := by
  have e0 := pn1_any hk h
  unfold rput
  rw [e0]
  cases e2 : dget kvs d0 with
  | none =>
    rw [dput_new e2]
    exact paired_append h (.cons ⟨rfl, hk, ha, hv⟩ .nil)
  | some u =>
    rw [dput_old e2]
    show PN1 K F (if true = true then _ else _) _
    rw [if_pos rfl]
    refine paired_map (R := fun r q => nk q.1 = r.1 ∧ KD q.1 ∧ Dp K F (.ref r.2.1) q.1 ∧ Dp K F r.2.2 q.2) (fun p q g => ?_) h
    obtain ⟨g1, g2, g3, g4⟩ := g
    by_cases e : q.1 = d0
    · rw [if_pos e, if_pos (by rw [← g1, e])]
      exact ⟨g1, g2, g3, hv⟩
    · rw [if_neg e, if_neg (by rw [← g1]; exact fun z => e ((nk_eq_iff g2 hk).mp z))]
      exact ⟨g1, g2, g3, g4⟩
/-- what stands behind an object that is such a dict -/
theorem dn_of (I : Inv X pins σ H s) (e : Ex F H) {d : Addr} {raw : RawN} {kvs : Kvs} (h : H d = some (DictNO X.prog X.w d raw)) (m : PN1 X.K F raw kvs) : (d == sysModules) = false ∧ raw.length ≤ sizeLine ∧ ∃ xs, Paired relN raw xs ∧ s.heap.DictOfH (nestedKind X.prog X.w) d xs := by
  obtain ⟨a1, a2, xs, a3, o, es, ep, ho, hx, hd, he, nd⟩ := (show DictN0 X.prog X.w s.heap d raw from (I.hok d _ h).1)
  exact ⟨a1, a2, xs, a3, o, es, ep, ho, hx, hd, he, pn1_full I e m a3, nd⟩
theorem dn_put (I : Inv X pins σ H s) {d : Addr} {raw raw' : RawN} {xs : List (NestedKey × Addr × Value)} {h' : Heap} {t' : Nat} (h : H d = some (DictNO X.prog X.w d raw)) (hsm : (d == sysModules) = false) (hz : raw'.length ≤ sizeLine) (r : Paired relN raw' xs) (D : h'.DictOfH (nestedKind X.prog X.w) d xs) (sb : Heap.SameBut d s.heap h') :
    Inv X pins σ (upd H d (DictNO X.prog X.w d raw')) { s with heap := h', toks := t' } := by
  obtain ⟨o, es, ep, ho, hx, hd, he, hi, nd⟩ := D
  exact I.write (e := d) (t' := t') (by rw [h]; trivial) (.inl rfl) (fun b u hb q => (sb.2 b hb).trans q) ⟨o, ho⟩ (dictNO_new ⟨hsm, hz, xs, r, o, es, ep, ho, hx, hd, he, nd⟩)
theorem rput_len (raw : RawN) (k : NestedKey) (a : Addr) (v : V) : (rput raw k a v).length ≤ raw.length + 1 := by
  unfold rput
  split
  · rw [List.length_map]; omega
  · simp
end
/-! ### rules on owned dicts -/
def KeyI (k : PD) : Prop := ∃ j, keyI j k
theorem keyI_int (i : Int) : KeyI (.int i) := ⟨.inl i, rfl⟩
theorem keyI_str (x : Str) : KeyI (.str x) := ⟨.inr x, rfl⟩
theorem Cn.ok.at {C : Cn} {σ : L2.St} {F H : Hp} (c : C.ok σ F H) {d : Addr} {ct : Ct} (hf : findO d C.os = some ct) : ∃ o, H d = some o ∧ ct.p o F := let ⟨_, _, o, h, _, q⟩ := c.os _ (findO_mem hf); ⟨o, h, q⟩
section
variable {X : Cx} {C : Cn} {D : Ends} {o i e : Expr} {rest : List Stmt} {pos pos' : Pos} {d : Addr} {kvs : Kvs} {k v : PD}
theorem dgetI_at {σ : L2.St} {F H : Hp} {y : V} (c : C.ok σ F H) (hf : findO d C.os = some (ctDI X.K kvs)) (hk : KeyI k) (hy : Dp X.K F y k) : ∃ o, DGet H d y o ∧ OptR X.K F o (dget kvs k) := by
  obtain ⟨ob, h1, kv, rfl, m⟩ := c.at hf
  obtain ⟨j, hj⟩ := hk
  exact ⟨_, keyI_v hj hy ▸ DGet.k h1, pi1_get hj m⟩
/-- d[k], in, not in; keys ints or texts -/
theorem ev_dgetI (hu : X.A.units + 64 < cLine) (hf : findO d C.os = some (ctDI X.K kvs)) (hk : KeyI k) (hg : dget kvs k = some v) (ho : Ev X C o (isA d)) (hi : Ev X C i (isD X.K k)) (hs : NoSl i := by exact fun _ _ => rfl) : Ev X C (.Subscript o i pos) (isD X.K v) :=
  ev_of (pe_dget (by omega) ho hi hs) fun σ F H Q c q => run2 c fun x y F' H' l h1 h2 => by
    obtain ⟨o', g, r⟩ := dgetI_at (c.le l) hf hk h2
    rw [hg] at r
    obtain ⟨v', rfl, hv⟩ := optR_some r
    exact ⟨d, v', h1, g, q v' F' H' l hv⟩
theorem et_inI (hu : X.A.units + 64 < cLine) (hf : findO d C.os = some (ctDI X.K kvs)) (hk : KeyI k) (hi : Ev X C i (isD X.K k)) (ho : Ev X C o (isA d)) (hm : behindInMarks .In o = false := by rfl) : Et X C (.Compare i [.In] [o] pos) (dget kvs k).isSome :=
  PT.of (pt_cmp (pc_din (by omega) hi ho) hm) fun σ H Q ⟨F, c, q⟩ => run2 c fun y x F' H' l h1 h2 => by
    obtain ⟨o', g, r⟩ := dgetI_at (c.le l) hf hk h1
    exact ⟨d, o', h2, g, _, rfl, by rw [optR_isSome r]; exact q F' H' l⟩
theorem et_ninI (hu : X.A.units + 64 < cLine) (hf : findO d C.os = some (ctDI X.K kvs)) (hk : KeyI k) (hi : Ev X C i (isD X.K k)) (ho : Ev X C o (isA d)) (hm : behindInMarks .NotIn o = false := by rfl) : Et X C (.Compare i [.NotIn] [o] pos) (!(dget kvs k).isSome) :=
  PT.of (pt_cmp (pc_dnotin (by omega) hi ho) hm) fun σ H Q ⟨F, c, q⟩ => run2 c fun y x F' H' l h1 h2 => by
    obtain ⟨o', g, r⟩ := dgetI_at (c.le l) hf hk h1
    exact ⟨d, o', h2, g, _, rfl, by rw [optR_isSome r]; exact q F' H' l⟩
theorem run3 {Ra Rb Rc : Rp} {σ : L2.St} {F H : Hp} {Q : V → V → V → Hp → Prop} (c : C.ok σ F H) (k : ∀ x y z F' H', Le C.T F H F' H' → Ra.p x F' → Rb.p y F' → Rc.p z F' → Q x y z H') : tE C Ra σ H fun x H1 => tE C Rb σ H1 fun y H2 => tE C Rc σ H2 fun z H3 => Q x y z H3 :=
  ⟨F, c, fun x F1 H1 l1 h1 => ⟨F1, c.le l1, fun y F2 H2 l2 h2 => ⟨F2, (c.le l1).le l2, fun z F3 H3 l3 h3 => k x y z F3 H3 ((l1.trans l2).trans l3) (Ra.mono (l2.f.trans l3.f) h1) (Rb.mono l3.f h2) h3⟩⟩⟩
/-- d[k] = v -/
theorem do_dputI (hu : X.A.units + 64 < cLine) (hf : findO d C.os = some (ctDI X.K kvs)) (hk : KeyI k) (hz : kvs.length < 100000) (ho : Ev X C o (isA d)) (hi : Ev X C i (isD X.K k)) (he : Ev X C e (isD X.K v)) (h : Do X rest (C.put d (ctDI X.K (dput kvs k v))).at D)
    (hs : swapsWith e (some (.Subscript o i pos')) pos.line X.env = pure false := by rfl) : Do X (.Assign [.Subscript o i pos'] e pos :: rest) C.at D :=
  do_cons (M := (C.put d (ctDI X.K (dput kvs k v))).at) (Do1.of (ps_dput (by omega) ho hi he hs) fun σ H ⟨F, c⟩ => run3 c fun z x y F' H' l h1 h2 h3 => by
    obtain ⟨ob, g1, kv, rfl, m⟩ := (c.le l).at hf
    obtain ⟨j, hj⟩ := hk
    have hzk : kv.length < sizeLine := Nat.lt_of_lt_of_le (by rw [pi1_len m]; exact hz) (by rw [sizeLine_eq]; decide)
    exact ⟨d, _, h2, keyI_v hj h3 ▸ DPut.k g1 hzk, F', (c.le l).put (F0 := F') (findO_mem hf) g1 (dK_nt _) ⟨_, rfl, pi1_put hj h1 m⟩⟩) h
/-- {} -/
theorem en_dictI : En X C (.Dict [] [] pos) (ctDI X.K []) := en_of pe_dnewK fun σ F H Q c q => fun p hp => q p _ F _ (Le.newH c.w hp) hp (wok_none c.w hp) upd_same (dK_nt _) ⟨[], rfl, .nil⟩
end

/-! ### .. whose keys are tuples -/
section
variable {X : Cx} {C : Cn} {D : Ends} {o i e : Expr} {rest : List Stmt} {pos pos' apos cpos : Pos} {d : Addr} {kvs : Kvs} {k v : PD}
/-- {}, to hold tuples as keys: its content speaks of its place -/
theorem do_ownN {x : Str} {n : Nat} {p : Pos} (hN : X.N.Nodup) (hi : X.N[n]? = some x) (hx : Loc X.env.scope x) (h : ∀ q, Do X rest (C.own n q (ctDN X.prog X.w X.K q [])).at D) (hl : n < C.sl.length := by first | decide | (simp <;> done) | exact (by decide))
    (hf : X.fn x = true ∨ X.env.scope.names.lookup x = some .local := by first | exact .inl rfl | exact .inr rfl | assumption) (hs : swapsWith (.Dict [] [] p) (some (.Name x pos')) pos.line X.env = pure false := by rfl) : Do X (.Assign [.Name x pos'] (.Dict [] [] p) pos :: rest) C.at D := by
  have hd : PE X (.Dict [] [] p) (fun _ H Q => ∀ q, H q = none → Q (.ref q) (upd H q (DictNO X.prog X.w q []))) := ⟨fun pins s σ H Q I h =>
    wpAny_Dict_empty ⟨.ref s.heap.objs.size, _, I.laid (a := s.heap.objs.size) (o := DictNO X.prog X.w s.heap.objs.size []) (t' := s.toks) (fun _ _ q => Heap.get?_push_of_some _ q) (Nat.le_refl _)
      (dictNO_new ⟨beq_eq_false_iff_ne.mpr (Ne.symm (Nat.ne_of_lt I.big)), Nat.zero_le _, [], .nil, _, #[], 0, Heap.get?_push_size _ rfl, ⟨rfl, rfl, rfl⟩, rfl, rfl, List.nodup_nil⟩), rfl, h _ (I.hok.fresh (Nat.le_refl _))⟩⟩
  exact do_cons (M := fun σ H => ∃ q, (C.own n q (ctDN X.prog X.w X.K q [])).at σ H) (Do1.of (ps_set hN hi hx hd hs hf) fun σ H ⟨F, c⟩ => fun q hq => ⟨q, F, c.own (Le.newH c.w hq) hq (wok_none c.w hq) upd_same (dictNO_nt _ _ _ _) ⟨[], rfl, .nil⟩ hl⟩) (Do.ex h)
theorem ev_dgetN (hu : X.A.units + 64 < cLine) (hf : findO d C.os = some (ctDN X.prog X.w X.K d kvs)) (hk : KD k) (hg : dget kvs k = some v) (ho : Ev X C o (isA d)) (hi : Ev X C i (isD X.K k)) (hs : NoSl i := by exact fun _ _ => rfl) : Ev X C (.Subscript o i pos) (isD X.K v) := by
  refine ⟨fun pins s σ H Q I ⟨F, c, q⟩ => ?_⟩
  refine subD_of PySem.F.slot_dict_getitem.lookup hs (thn (ho.run pins s σ H (fun x H1 => x = .ref d ∧ ∃ F1, C.ok σ F1 H1 ∧ Le C.T F H F1 H1) I ⟨F, c, fun x F1 H1 l h => ⟨h, F1, c.le l, l⟩⟩) fun u s1 ⟨x, H1, I1, rx, e1, F1, c1, l1⟩ => ?_)
  subst e1
  obtain rfl : u = Value.ref d := rx
  refine thn (hi.run pins s1 σ H1 (fun y H2 => ∃ F2, C.ok σ F2 H2 ∧ Le C.T F1 H1 F2 H2 ∧ Dp X.K F2 y k) I1 ⟨F1, c1, fun y F2 H2 l h => ⟨F2, c1.le l, l, h⟩⟩) fun iv s2 ⟨y, H2, I2, ry, F2, c2, l2, hy⟩ => ?_
  obtain ⟨ob, h3, raw, rfl, m⟩ := c2.at hf
  obtain ⟨a1, a2, xs, a3, Dh⟩ := dn_of I2 c2.w.i h3 m
  obtain ⟨k1, k2, ks, rfl⟩ := hk
  obtain ⟨a, vs, rfl, sq, al⟩ := dp_tup (id hy)
  cases ry
  have hx : (nestedKind X.prog X.w).is s2.heap (nk (.tuple ks)) a := ⟨dp_nested I2 (.tuple ks) (.ref a) (.ref a) (dp_mono c2.w.i hy) rfl k1, Nat.le_trans (nk_depth _) k2⟩
  refine ⟨Dh.typeIs, ?_⟩
  rcases pn1_get (K := X.K) (F := F2) ⟨k1, k2, ks, rfl⟩ m a3 with ⟨_, e2⟩ | ⟨a', u', v', d', e1, e2, e3, e4⟩
  · rw [hg] at e2; cases e2
  · rw [hg] at e2
    cases e2
    exact wpAny_getItem_heap (show X.A.units + 1 + 8 < cLine by omega) hx Dh e1 ⟨v', H2, I2.tok _, e3, q v' F2 H2 (l1.trans l2) e4⟩
theorem et_ninN (hu : X.A.units + 64 < cLine) (hf : findO d C.os = some (ctDN X.prog X.w X.K d kvs)) (hk : KD k) (hi : Ev X C i (isD X.K k)) (ho : Ev X C o (isA d)) (hm : behindInMarks .NotIn o = false := by rfl) : Et X C (.Compare i [.NotIn] [o] pos) (!(dget kvs k).isSome) := by
  refine PT.of (t := tTest (tE C (isD X.K (.bool (!(dget kvs k).isSome))))) (pt_cmp ⟨fun pins s σ H Q I ⟨F, c, q⟩ => ?_⟩ hm) fun σ H Q ⟨F, c, q⟩ => ⟨F, c, fun v F' H' l z => ⟨_, dp_bl z, q F' H' l⟩⟩
  refine thn (hi.run pins s σ H (fun y H1 => ∃ F1, C.ok σ F1 H1 ∧ Le C.T F H F1 H1 ∧ Dp X.K F1 y k) I ⟨F, c, fun y F1 H1 l h => ⟨F1, c.le l, l, h⟩⟩) fun iv s1 ⟨y, H1, I1, ry, F1, c1, l1, hy⟩ => ?_
  refine thn (ho.run pins s1 σ H1 (fun x H2 => x = .ref d ∧ ∃ F2, C.ok σ F2 H2 ∧ Le C.T F1 H1 F2 H2) I1 ⟨F1, c1, fun x F2 H2 l h => ⟨h, F2, c1.le l, l⟩⟩) fun u s2 ⟨x, H2, I2, rx, e1, F2, c2, l2⟩ => ?_
  subst e1
  obtain rfl : u = Value.ref d := rx
  obtain ⟨ob, h3, raw, rfl, m⟩ := c2.at hf
  obtain ⟨a1, a2, xs, a3, Dh⟩ := dn_of I2 c2.w.i h3 m
  obtain ⟨k1, k2, ks, rfl⟩ := hk
  have hy := dp_mono l2.f hy
  obtain ⟨a, vs, rfl, sq, al⟩ := dp_tup (id hy)
  cases ry
  have hx : (nestedKind X.prog X.w).is s2.heap (nk (.tuple ks)) a := ⟨dp_nested I2 (.tuple ks) (.ref a) (.ref a) (dp_mono c2.w.i hy) rfl k1, Nat.le_trans (nk_depth _) k2⟩
  have es : (atKey xs (nk (.tuple ks))).isSome = (dget kvs (.tuple ks)).isSome := by
    rcases pn1_get (K := X.K) (F := F2) ⟨k1, k2, ks, rfl⟩ m a3 with ⟨e1, e2⟩ | ⟨a', u', v', d', e1, e2, _, _⟩
    · rw [e1, e2]; rfl
    · rw [e1, e2]; rfl
  show wpAny _ _ (do return Value.bool (!(← contains (.ref d) (.ref a)))) _ _ s2
  refine wpAny_bind (wpAny_contains_heap (show X.A.units + 1 + 8 < cLine by omega) hx a1 Dh (wpAny_pure ?_))
  rw [es]
  exact ⟨.bl _, H2, I2.tok _, rfl, q _ F2 H2 (l1.trans l2) (.bl _)⟩
theorem do_dputN (hu : X.A.units + 64 < cLine) (hf : findO d C.os = some (ctDN X.prog X.w X.K d kvs)) (hk : KD k) (hz : kvs.length < 100000) (ho : Ev X C o (isA d)) (hi : Ev X C i (isD X.K k)) (he : Ev X C e (isD X.K v)) (h : Do X rest (C.put d (ctDN X.prog X.w X.K d (dput kvs k v))).at D)
    (hs : swapsWith e (some (.Subscript o i pos')) pos.line X.env = pure false := by rfl) : Do X (.Assign [.Subscript o i pos'] e pos :: rest) C.at D := by
  refine do_cons (M := (C.put d (ctDN X.prog X.w X.K d (dput kvs k v))).at) (fun pins s σ H I ⟨F, c⟩ => ?_) h
  refine wpAny_Assign_Subscript ?_ hs
  refine thn (he.run pins s σ H (fun y H1 => ∃ F1, C.ok σ F1 H1 ∧ Le C.T F H F1 H1 ∧ Dp X.K F1 y v) I ⟨F, c, fun y F1 H1 l h => ⟨F1, c.le l, l, h⟩⟩) fun rv s1 ⟨z, H1, I1, rz, F1, c1, l1, hz1⟩ => ?_
  refine thn (ho.run pins s1 σ H1 (fun x H2 => x = .ref d ∧ ∃ F2, C.ok σ F2 H2 ∧ Le C.T F1 H1 F2 H2) I1 ⟨F1, c1, fun x F2 H2 l h => ⟨h, F2, c1.le l, l⟩⟩) fun u s2 ⟨x, H2, I2, rx, e1, F2, c2, l2⟩ => ?_
  subst e1
  obtain rfl : u = Value.ref d := rx
  refine thn (hi.run pins s2 σ H2 (fun y H3 => ∃ F3, C.ok σ F3 H3 ∧ Le C.T F2 H2 F3 H3 ∧ Dp X.K F3 y k) I2 ⟨F2, c2, fun y F3 H3 l h => ⟨F3, c2.le l, l, h⟩⟩) fun iv s3 ⟨y, H3, I3, ry, F3, c3, l3, hy⟩ => ?_
  have hv3 := dp_mono (l2.f.trans l3.f) hz1
  obtain ⟨ob, h3, raw, rfl, m⟩ := c3.at hf
  obtain ⟨a1, a2, xs, a3, Dh⟩ := dn_of I3 c3.w.i h3 m
  obtain ⟨k1, k2, ks, rfl⟩ := hk
  obtain ⟨a, vs, rfl, sq, al⟩ := dp_tup (id hy)
  cases ry
  have hx : (nestedKind X.prog X.w).is s3.heap (nk (.tuple ks)) a := ⟨dp_nested I3 (.tuple ks) (.ref a) (.ref a) (dp_mono c3.w.i hy) rfl k1, Nat.le_trans (nk_depth _) k2⟩
  have hlen : raw.length < 100000 := by rw [Paired.length m]; exact hz
  refine wpAny_setItem_heap (show X.A.units + 1 + 8 < cLine by omega) hx Dh (fun h' D' sb => ?_) (by rw [← Paired.length a3]; exact a2)
  have l3' : (rput raw (nk (.tuple ks)) a z).length ≤ sizeLine := Nat.le_trans (rput_len _ _ _ _) (by rw [sizeLine_eq]; omega)
  exact ⟨σ, _, dn_put I3 h3 a1 l3' (rel_put a3 rz) D' sb, F3, c3.put (F0 := F3) (findO_mem hf) h3 (dictNO_nt _ _ _ _) ⟨_, rfl, pn1_put ⟨k1, k2, ks, rfl⟩ hy hv3 m⟩⟩
end
end Pl

set_option Elab.async false
set_option autoImplicit false
set_option linter.all false
set_option maxRecDepth 100000
set_option maxHeartbeats 4000000
namespace Pl
open PySem PySem.Spec PyProof.Rows L2
open PySem.W (sortingHeap sortingHeap_old EachIs AllAlike Sortable alike alikeAll dataLe dataLt keyToks keyToksAll)
open GxR (TabG Tabbed)
open LamX (ExtN TabS CodeO)
open NdefX (NTab TabN TabsN NF FnO)

/-! ### sorted(set) -/
theorem Sb.perm {ds es : List PD} (s : Sb ds) (p : es.Perm ds) : Sb es where
  al := fun x hx y hy => s.al x (p.mem_iff.mp hx) y (p.mem_iff.mp hy)
  so := s.so.imp (fun h x hx => h x (p.mem_iff.mp hx)) (fun h x hx => h x (p.mem_iff.mp hx))
  dp := fun d hd => s.dp d (p.mem_iff.mp hd)
  sz := by rw [p.length_eq]; exact s.sz
theorem Ks.perm {ds es : List PD} (s : Ks ds) (p : es.Perm ds) : Ks es := ⟨fun x hx y hy => s.al x (p.mem_iff.mp hx) y (p.mem_iff.mp hy), fun d hd => s.ky d (p.mem_iff.mp hd)⟩
section
variable {X : Cx} {pins : List (Addr × Obj)} {σ : L2.St} {F H : Hp} {s : Shared}
def rSortedS (P : Program) (w : World) (K : PySem.W.Frag) : List V → Hp → VK → Prop := fun vs H Q => ∃ (a : Addr) (L : List (Addr × NestedKey)) (F : Hp) (es : List PD), vs = [.ref a] ∧ Ex F H ∧ H a = some (SetKO P w a L) ∧ Mt K F L es ∧ Sb es ∧
  ∀ (p : Addr) (ys : List V) (es' : List PD), H p = none → es'.Perm es → DpAll K F ys (srt es') → Q (.ref p) (upd H p (.lst ys))
theorem cr_sortedS (hc : X.calm = true) (hu : X.A.units + 64 < cLine) : CallR X (.builtin "sorted") (rSortedS X.prog X.w X.K) := by
  intro pins s σ H vs us Q I r h
  obtain ⟨a, L, F, es, rfl, e, ha, m, sb, q⟩ := h
  rw [Vals.ref1 r]
  obtain ⟨es', ep, t, R⟩ := SetK0.full (show SetK0 (nestedKind X.prog X.w) s.heap a L from (I.hok a _ ha).1) (mt_is I e m)
  have hsz := size_of R.rows
  have hfew := R.few
  obtain ⟨o, ho, hex, hd⟩ := R.ob
  refine Calls.call_function_entry kind_sorted plain_sorted entry_sorted (args_sorted1 _) ?_
  unfold Builtin.«sorted»
  refine wpAny_bind (m := checkCount "sorted" 1 1 _) (wpAny_pure ?_)
  refine wpAny_bind (collect_set (A := X.A.in1) (I.ok.hd hc) ⟨o, ho, hex.1, hd⟩ R.fits (by unfold scanBound; omega) R.tab.ris R.led fun s1 vs k1 hz g1 o1 pm => ?_)
  have hes : es'.toList.map (·.2) = L.map fun q => Value.ref q.1 := by
    rw [R.rows]
    unfold rowsK
    rw [List.map_map] <;> rfl
  rw [hes] at pm
  obtain ⟨ds, ed, pd⟩ := each_perm pm (mt_each m)
  have hvl : vs.length ≤ sizeLine := by rw [pm.length_eq, List.length_map, sizeLine_eq]; omega
  refine wpAny_bind (wpAny_newList ?_ hvl)
  have hoL : (s1.heap.push (seqObj "list" vs.toArray 0)).get? s1.heap.objs.size = some (seqObj "list" vs.toArray 0) := Heap.get?_push_size _ rfl
  have hnone : s.heap.get? s1.heap.objs.size = none := Heap.get?_none_of_le hz
  refine wpAny_bind (wpAny_holding (sort_newD (s0 := s) (s := { s1 with heap := s1.heap.push (seqObj "list" vs.toArray 0) }) hoL ed (each_reads I e ed) (fun b u q => Heap.get?_push_of_some _ (k1 b u q)) hnone (sb.perm pd) (show X.A.units + 1 + 60 < cLine by omega) fun out hl he => ?_))
  obtain ⟨c, hcg⟩ := sortedHeap_at (vs := vs) (out := out.toArray) hoL
  obtain ⟨ys, hv, hal⟩ := all_of_each he
  have kp : ∀ b u, s.heap.get? b = some u → (sortedHeap (s1.heap.push (seqObj "list" vs.toArray 0)) s1.heap.objs.size vs out.toArray).get? b = some u := fun b u eb => by
    have q := k1 b u eb
    have hlt := Heap.lt_size q
    rw [sortedHeap_old (Nat.ne_of_lt hlt) (by rw [size_push']; exact Nat.lt_succ_of_lt hlt)]
    exact Heap.get?_push_of_some _ q
  have hn : H s1.heap.objs.size = none := I.hok.fresh hz
  have hlen : ys.length ≤ sizeLine := by
    have := dpAll_length hal
    rw [this, (srt_perm_self ds).length_eq, ← ed.length]
    exact hvl
  have J : Inv X pins σ (upd H s1.heap.objs.size (.lst ys)) { s with heap := sortedHeap (s1.heap.push (seqObj "list" vs.toArray 0)) s1.heap.objs.size vs out.toArray, gens := s1.gens, drawn := s1.drawn, toks := s1.toks } :=
    I.call (ch := []) (Un.laid kp hz hn) (I.hok.laid kp hz ⟨hlen, out, c, hv, by simpa using hcg⟩) (by rw [g1]; exact I.bare) (fun _ z => nomatch z)
  have e2 : ({ s1 with heap := sortedHeap (s1.heap.push (seqObj "list" vs.toArray 0)) s1.heap.objs.size vs out.toArray } : Shared) = { s with heap := sortedHeap (s1.heap.push (seqObj "list" vs.toArray 0)) s1.heap.objs.size vs out.toArray, gens := s1.gens, drawn := s1.drawn, toks := s1.toks } := by
    cases s1
    cases s
    cases o1
    rfl
  refine wpAny_pure ⟨_, rfl, ?_⟩
  show EP X pins σ Q (.ref s1.heap.objs.size) ({ s1 with heap := sortedHeap (s1.heap.push (seqObj "list" vs.toArray 0)) s1.heap.objs.size vs out.toArray } : Shared)
  rw [e2]
  exact ⟨.ref s1.heap.objs.size, _, J, rfl, q _ ys ds hn pd hal⟩
end
section
variable {X : Cx} {C : Cn} {A : As} {D : Ends} {e elt tg iter : Expr} {rest : List Stmt} {pos p spos py p2 q : Pos} {S : List PD} {Rs : List Rp} {scope : Scope} {own : List (Str × Nat)} {x : Str} {i : Nat} {ns : List Int}
theorem en_sortedS (ks : Ks S) (sb : Sb S) (hc : X.calm = true) (hu : X.A.units + 64 < cLine) (hm : X.mg "sorted" = none) (h : Ev X C e (isSet X.prog X.w X.K S)) (hg : Gl X "sorted" := by rfl) (hse : S1 X e := by rfl) : En X C (.Call (.Name "sorted" p) [e] [] pos) (ctL X.K (srt S)) :=
  en_callB (cr_sortedS hc hu) (fun xs F H w f Q q => by
    obtain ⟨v, rfl, a, L, es, rfl, h1, h2, h3⟩ := fit1 f
    refine ⟨a, L, F, es, rfl, w.i, w.i _ _ h1, h3, sb.perm h2, fun p ys es' hp hp' al => q p _ F _ (Le.newH w hp) hp (wok_none w hp) upd_same (lst_nt _) ⟨ys, rfl, ?_⟩⟩
    rw [← srt_congr (ks.perm (hp'.trans h2)) (hp'.trans h2)]
    exact al) hm PyProof.Rows.boot_sorted (ea1 h hse) hg (he := hse)
/-- the reading of {elt for tg in iter if ..}, of tuples -/
theorem sc_read {wi : TI} {vs : List Nat} (kp : Nat → Bool) (g : Nat → PD) (hw : ∀ σ F H, C.ok σ F H → ∀ G : L2.It → Hp → Prop, (∀ (J : L2.It) (f : Fp) F' H', Le C.T F H F' H' → ItW C.T J Rs f → f.p F' → G J H') → wi σ H G) (hz : Rs.length < 63) (hk0 : ∀ i, i < Rs.length → kp i = true → KD (g i))
    {gg : TG} {tt : TT} {te : TE} (hk : ∀ (i : Nat) (R : Rp) (f : Fp) (σ : L2.St) (F H : Hp) (v : V) (k : L2.St → Hp → (Bool → Hp → Prop) → Prop), Rs[i]? = some R → ((C.plus f).wipe vs).ok σ F H → R.p v F →
        ∀ (Kn : Hp → Prop) (Ky : V → Hp → Prop), (kp i = false → ∀ F' H', Le C.T F H F' H' → Kn H') → (kp i = true → ∀ y F' H', Le C.T F H F' H' → (isD X.K (g i)).p y F' → Ky y H') →
          gg v σ H fun σ2 H2 => L2.wipe σ2 vs = L2.wipe σ vs ∧ tt σ2 H2 fun b H3 => if b = true then te σ2 H3 Ky else Kn H3)
    (hS : S.Nodup) (hm : ∀ d, d ∈ S ↔ d ∈ made Rs.length kp g)
    (σ : L2.St) (F H : Hp) (Q : VK) (c : C.ok σ F H) (q : ∀ v F' H', Le C.T F H F' H' → (isSet X.prog X.w X.K S).p v F' → Q v H') : tScG (fun D => SetKO X.prog X.w D []) (AdK X.prog X.w X.K) wi gg tt te vs σ H Q := by
  refine hw σ F H c _ fun It f F1 H1 l itw hf => fun D hD => ?_
  have c1 := c.le l
  have w1 := Le.newH (o := SetKO X.prog X.w D []) l.w hD
  -- what the set holds behind i turns
  let Wn : Nat → Hp → Hp → Prop := fun i F H => ∃ L es, H D = some (SetKO X.prog X.w D L) ∧ Mt X.K F L es ∧ (L.map (·.2)).Nodup ∧ L.length ≤ i ∧ ∀ d, d ∈ es ↔ d ∈ made i kp g
  refine ⟨fun i m H => m = Rs.length - i ∧ i ≤ Rs.length ∧ ∃ F, (C.plus f).ok σ F H ∧ F D = none ∧ Le C.T F1 H1 F H ∧ Wn i F H, ⟨Rs.length, by simp, Nat.zero_le _, F1, ((c1.le w1).plus hf), wok_none l.w hD, w1, [], [], upd_same, .nil, List.nodup_nil, Nat.le_refl _, fun d => by simp [made_zero]⟩, ?_⟩
  rintro i m H2 ⟨rfl, hle, F2, c2, hFD, l2, L, es, hHD, mt, nd, hlen, hmem⟩
  obtain ⟨g1, g2⟩ := itw i F2 H2 c2.w c2.ff.2
  rcases Nat.lt_or_ge i Rs.length with hlt | hge
  · have e := List.getElem?_eq_getElem hlt
    obtain ⟨g3, g4⟩ := g1 _ e
    refine .inr ⟨g3, fun H' => ∃ F', (C.plus f).ok σ F' H' ∧ F' D = none ∧ Le C.T F1 H1 F' H' ∧ Wn (i + 1) F' H', fun H' q' => ⟨Rs.length - (i + 1), by omega, rfl, hlt, q'⟩, fun v H' y => ?_⟩
    obtain ⟨F3, l3, hv⟩ := g4 v H' y
    have c3 := c2.le l3
    have hD3 : H' D = some (SetKO X.prog X.w D L) := l3.h _ _ hHD (setKO_nt _ _ _ _)
    have f3 : F3 D = none := l3.n D hFD (by rw [hHD]; intro z; cases z)
    have e2 : L2.wipe (L2.wipe σ vs) vs = L2.wipe σ vs := by
      refine List.ext_getElem? fun j => ?_
      rw [wipe_get, wipe_get, wipe_length]
      by_cases hj : j ∈ vs ∧ j < σ.length
      · rw [if_pos hj, if_pos hj]
      · rw [if_neg hj, if_neg hj]
    have hk' := hk i _ f (L2.wipe σ vs) F3 H' v (fun _ _ _ => True) e (c3.wipe vs) hv (fun H' => ∃ F', (C.plus f).ok σ F' H' ∧ F' D = none ∧ Le C.T F1 H1 F' H' ∧ Wn (i + 1) F' H')
      (fun y H4 => AdK X.prog X.w X.K y D H4 fun H' => ∃ F', (C.plus f).ok σ F' H' ∧ F' D = none ∧ Le C.T F1 H1 F' H' ∧ Wn (i + 1) F' H') ?_ ?_
    · rw [e2] at hk'
      exact hk'
    · intro hf F4 H4 l4
      refine ⟨F4, c3.le l4, l4.n D f3 (by rw [hD3]; intro z; cases z), (l2.trans l3).trans l4, L, es, l4.h _ _ hD3 (setKO_nt _ _ _ _), Mt.mono (l3.f.trans l4.f) mt, nd, Nat.le_succ_of_le hlen, fun d => ?_⟩
      rw [made_no hf]
      exact hmem d
    · intro hy y F4 H4 l4 h4
      have hD4 : H4 D = some (SetKO X.prog X.w D L) := l4.h _ _ hD3 (setKO_nt _ _ _ _)
      have f4 : F4 D = none := l4.n D f3 (by rw [hD3]; intro z; cases z)
      have kd := hk0 i hlt hy
      have m4 := Mt.mono (l3.f.trans l4.f) mt
      obtain ⟨ds', edt⟩ := kd.2.2
      obtain ⟨x, xs, rfl, _, _⟩ := dp_tup (edt ▸ (show Dp X.K F4 y (g i) from h4))
      have h4 : Dp X.K F4 (.ref x) (g i) := h4
      refine ⟨F4, g i, L, es, x, rfl, l4.w.i, h4, kd, hD4, m4, by omega, fun L' k1 k2 => ?_⟩
      have em := paired_keys m4
      refine ⟨F4, (c3.le l4).own_mut (Cc := C.plus f) (c1.plus hf) f4 hD hD4 (setKO_nt _ _ _ _) (setKO_nt _ _ _ _), f4, ((l2.trans l3).trans l4).mut (T := C.T) f4 hD hD4 (setKO_nt _ _ _ _) (setKO_nt _ _ _ _), ?_⟩
      rcases Classical.em (nk (g i) ∈ L.map (·.2)) with hin | hin
      · refine ⟨L', es, upd_same, (k1 hin).symm ▸ m4, (k1 hin).symm ▸ nd, by rw [k1 hin]; omega, fun d => ?_⟩
        rw [made_yes hy, List.mem_append, List.mem_singleton, hmem d]
        refine ⟨.inl, fun h => h.elim id fun h => ?_⟩
        rw [← em] at hin
        obtain ⟨d', hd', e'⟩ := List.mem_map.mp hin
        rw [h, ← nk_inj d' (g i) (paired_kd m4 d' hd').1 kd.1 e']
        exact (hmem d').mp hd'
      · have pm := k2 hin
        have m5 : Mt X.K F4 ((x, nk (g i)) :: L) (g i :: es) := .cons ⟨h4, rfl, kd⟩ m4
        -- along the permutation
        have perm_mt : ∀ {L1 L2 : List (Addr × NestedKey)}, L1.Perm L2 → ∀ {es : List PD}, Mt X.K F4 L2 es → ∃ es', Mt X.K F4 L1 es' ∧ es'.Perm es := by
          intro L1 L2 p
          induction p with
          | nil => intro es h; exact ⟨es, h, .refl _⟩
          | cons x _ ih =>
            intro es h
            cases h with
            | cons a b =>
              obtain ⟨e', c, d⟩ := ih b
              exact ⟨_, .cons a c, d.cons _⟩
          | swap x y l =>
            intro es h
            cases h with
            | cons a b =>
              cases b with
              | cons c d => exact ⟨_, .cons c (.cons a d), .swap _ _ _⟩
          | trans _ _ ih1 ih2 =>
            intro es h
            obtain ⟨e1, a, b⟩ := ih2 h
            obtain ⟨e2, c, d⟩ := ih1 a
            exact ⟨e2, c, d.trans b⟩
        obtain ⟨es', m6, p6⟩ := perm_mt pm m5
        refine ⟨L', es', upd_same, m6, ?_, by rw [pm.length_eq, List.length_cons]; omega, fun d => ?_⟩
        · refine (pm.map (·.2)).nodup_iff.mpr ?_
          rw [List.map_cons]
          exact List.nodup_cons.mpr ⟨hin, nd⟩
        · rw [p6.mem_iff, List.mem_cons, hmem d, made_yes hy, List.mem_append, List.mem_singleton]
          exact or_comm
  · have hi : i = Rs.length := Nat.le_antisymm hle hge
    subst hi
    have l3 : Le C.T F H F2 H2 := l.trans l2
    refine .inl ⟨g2 (List.getElem?_eq_none (Nat.le_refl _)), q _ (upd F2 D (SetKO X.prog X.w D L)) H2 (l3.frz (l.back hD) hFD hHD (setKO_nt _ _ _ _)) ⟨D, L, es, rfl, upd_same, ?_, Mt.mono (Evl.Ex.new hFD) mt⟩⟩
    have em := paired_keys mt
    have nde : es.Nodup := by
      rw [← em] at nd
      exact nodup_of_map nd
    exact nodup_mem_perm nde hS fun d => by rw [hmem d, hm d]
/-- x = {elt for tg in iter if ..}, of tuples -/
theorem do_setSc {ifs : List Expr} (kp : Nat → Bool) (g : Nat → PD) (hS : S.Nodup) (hm : ∀ d, d ∈ S ↔ d ∈ made Rs.length kp g) (hi : Iv X C tg iter Rs) (ok : BlkOk X.N X.env.scope scope own) (hz : Rs.length < 63) (hk0 : ∀ i, i < Rs.length → kp i = true → KD (g i))
    (hb : ∀ (i : Nat) (R : Rp) (f : Fp), Rs[i]? = some R → Turn1 X C scope (own.map (·.2)) tg ifs elt R f (kp i) (isD X.K (g i))) (hN : X.N.Nodup) (hy : X.N[i]? = some x) (hyl : X.env.scope.names.lookup x = some .local)
    (hsw : swapsWith (.SetComp elt [⟨tg, iter, ifs, 0⟩] scope pos) (some (.Name x py)) spos.line X.env = pure true) (hl : i < C.sl.length) (hu : X.A.units + 64 < cLine) (h : Do X rest (C.set i (isSet X.prog X.w X.K S)).at D)
    (hc : X.calm = true := by rfl) (hs : ∀ x, foldedSetIterable iter X.env x = pure x := by intro _; rfl) : Do X (.Assign [.Name x py] (.SetComp elt [⟨tg, iter, ifs, 0⟩] scope pos) spos :: rest) C.at D := by
  obtain ⟨wi, hpi, hw⟩ := hi
  obtain ⟨gg, tt, te, p1, p2, p3, hk⟩ := blk_pieces kp (fun i => isD X.K (g i)) hb
  refine do_cons (M := (C.set i (isSet X.prog X.w X.K S)).at) (Do1.of (ps_setScG (fun D => SetKO X.prog X.w D []) (AdK X.prog X.w X.K) (fun P w H h => setK_fresh0 X.prog X.w h H) (adK_ok hu) hc hN hy hyl hsw hpi ok p1 p2 p3 hs) fun σ H ⟨F, c⟩ => ?_) h
  exact sc_read kp g hw hz hk0 hk hS hm σ F H _ c fun v F' H' l z => ⟨F', (c.le l).set hl z⟩
/-! ### len(set(ints)) -/
def ddI (ns : List Int) : List Int := ns.foldl step_dedup []
theorem firstMet_all (ns : List Int) : firstMet (fun i => ns.getD i 0) ns.length = ddI ns := by
  unfold firstMet ddI
  congr 1
  refine List.ext_getElem? fun j => ?_
  rw [List.getElem?_map]
  by_cases h : j < ns.length
  · rw [List.getElem?_range h]
    simp [h]
  · rw [List.getElem?_eq_none (by simpa using h), List.getElem?_eq_none (by omega)] <;> rfl
theorem ev_lenSetI (hz : ns.length < 4000) (hc : X.calm = true) (hm : X.mg "len" = none) (hm2 : X.mg "set" = none) (h : Ev X C e (isD X.K (.list (ns.map PyData.int)))) (hg : Gl X "len" := by rfl) (hg2 : Gl X "set" := by rfl) (na : S1 X e := by rfl) :
    Ev X C (.Call (.Name "len" p) [.Call (.Name "set" p2) [e] [] q] [] pos) (isD X.K (.int ((ddI ns).length : Int))) := by
  have hP : PE X (.Call (.Name "len" p) [.Call (.Name "set" p2) [e] [] q] [] pos) (fun σ H Q => tE C (isD X.K (.list (ns.map PyData.int))) σ H fun x H1 => ∃ l, x = V.ref l ∧ SqL X.K H1 l (ns.map V.int) ∧ Q (.int ((ddI ns).length : Int)) H1) := by
    refine ⟨fun pins s σ H Q I h0 => ?_⟩
    refine Call_ (ld_blt I hg hm PySem.boot_len ?_)
    refine PyProof.Rows.callWith_builtin1 (PyProof.Rows.args_cons ?_ rfl) rfl rfl
    refine Call_ (ld_blt I hg2 hm2 PyProof.Rows.boot_set ?_)
    refine PyProof.Rows.callWith_type1 (PyProof.Rows.args_cons (thn (h.run pins s σ H _ I h0) fun v s1 ⟨x, H1, I1, r1, q1⟩ => PyProof.Rows.args_nil ?_) na) na rfl
    obtain ⟨l, rfl, hq, q1⟩ := q1
    cases r1
    obtain ⟨its, r, pl, hzl⟩ := I1.list hq
    have hl : its.toArray.size = ns.length := by rw [List.size_toArray, ← r.length, List.length_map]
    refine call_set_list (I1.ok.hd hc) pl.isList (ns := ns) (by simpa using r.ints) (by unfold scanBound; omega) fun h' tk hS hk => ?_
    rw [hl, firstMet_all] at hS
    refine PyProof.Rows.args_nil ?_
    obtain ⟨o, es, ep, t, ho, hex, hd, _, _, _, hf, hn⟩ := hS
    have I2 : Inv X pins σ H1 { s1 with heap := h', toks := tk } := I1.kept fun b o e => hk b o (Heap.lt_size e) e
    have hdl : (ddI ns).length ≤ ns.length := by rw [← firstMet_all]; exact firstMet_length_le _ _
    refine call_len_set ho hex hd hf (by rw [hn] <;> omega) ⟨.int ((ddI ns).length : Int), H1, I2.tok _, ⟨_, by rw [hn]⟩, q1⟩
  refine PE.of hP fun σ H Q ⟨F, c, q⟩ => ⟨F, c, fun v F' H' l z => ?_⟩
  obtain ⟨a, xs, rfl, sq, al⟩ := dp_lst z
  exact ⟨a, rfl, by rw [← dpAll_ints al]; exact sq_up l.w sq, q _ F' H' l (.int _)⟩
end
end Pl

set_option Elab.async false
set_option autoImplicit false
set_option linter.all false
set_option maxRecDepth 100000
set_option maxHeartbeats 4000000
namespace Pl
open PySem PySem.Spec PyProof.Rows L2
open GxR (TabG Tabbed)
open LamX (ExtN TabS CodeO TabB)
open NdefX (NTab TabN TabsN NF FnO NScope CellsAt startF envF ncx Caps)

/-! ### functions as values: what one promises at a state, and at all later ones -/
structure Ctr where
  β : Type
  pre : β → Prop
  Rs : β → List Rp
  R : β → Rp
structure FnC (P : Program) (w : World) (K : PySem.W.Frag) (mg : Str → Option Value) (base : Heap) (T : Tbs) (k : Nat) (c : Ctr) (f : Addr) (F H : Hp) (s : Shared) : Prop where
  obj : PySem.W.FnAt f s.heap
  free : H f = none
  run : ∀ (fs : List Addr) (A : Around) (outer : List Env) (s1 : Shared) (F1 H1 : Hp) (us : List Value) (vs : List V) (b : c.β) (Q : VK), Room k A → Env0 P w K mg base A outer s1 H1 → Un fs [] H H1 s.heap s1.heap → Le T F H F1 H1 → c.pre b → Vals vs us → Fit F1 (c.Rs b) vs →
    (∀ v F2 H2, Le T F1 H1 F2 H2 → (c.R b).p v F2 → Q v H2) → codeAny (model P w) A (.call (.ref f) ⟨us, []⟩) (CR CX0 outer P w H1 s1 Q E0) s1
theorem un_more {fs fs' ex : List Addr} {H H' : Hp} {h h' : Heap} (u : Un fs ex H H' h h') (s : ∀ b ∈ fs, b ∈ fs') : Un fs' ex H H' h h' where
  keep := fun b o e n hb hx => u.keep b o e n (fun z => hb (s b z)) hx
  slot := fun b o e n hb hx => u.any e n hx
  free := u.free
  there := u.there
  tups := u.tups
  frzs := u.frzs
  tbls := u.tbls
theorem fnAt_un {fs : List Addr} {H H1 : Hp} {h h1 : Heap} {f : Addr} (u : Un fs [] H H1 h h1) (n : H f = none) (o : PySem.W.FnAt f h) : PySem.W.FnAt f h1 := by
  obtain ⟨oc, od, fd, sl, e⟩ := o
  obtain ⟨sl', e'⟩ := u.any e n (by simp)
  exact ⟨oc, od, fd, sl', e'⟩
theorem fnAt_free {fs : List Addr} {H H1 : Hp} {h h1 : Heap} {f : Addr} (u : Un fs [] H H1 h h1) (n : H f = none) (o : PySem.W.FnAt f h) : H1 f = none := by
  obtain ⟨oc, od, fd, sl, e⟩ := o
  exact u.free _ _ e n (by simp)
section
variable {P : Program} {w : World} {K : PySem.W.Frag} {mg : Str → Option Value} {base : Heap} {T : Tbs} {k j : Nat} {c : Ctr} {f : Addr} {F H F1 H1 : Hp} {s s1 : Shared}
theorem FnC.mono (h : FnC P w K mg base T k c f F H s) {fs : List Addr} (u : Un fs [] H H1 s.heap s1.heap) (l : Le T F H F1 H1) : FnC P w K mg base T k c f F1 H1 s1 where
  obj := fnAt_un u h.free h.obj
  free := fnAt_free u h.free h.obj
  run := fun fs' A outer s2 F2 H2 us vs b Q hr e0 u2 l2 hp r ft q =>
    h.run (fs ++ fs') A outer s2 F2 H2 us vs b Q hr e0 ((un_more u fun b z => List.mem_append_left _ z).trans (un_more u2 fun b z => List.mem_append_right _ z)) (l.trans l2) hp r ft q
theorem FnC.up (h : FnC P w K mg base T j c f F H s) (hk : j ≤ k) : FnC P w K mg base T k c f F H s := ⟨h.obj, h.free, fun fs A outer s1 F1 H1 us vs b Q hr => h.run fs A outer s1 F1 H1 us vs b Q (hr.mono hk)⟩
end
section
variable {X : Cx} {C : Cn} {T : Tbs} {A M : As} {D : Ends} {e : Expr} {es : List Expr} {pos p p1 p2 : Pos} {x : Str} {k i : Nat} {f : Addr} {ct : Ctr}
/-- f(e, ..), f a name that holds a function value -/
theorem ev_callF (hF : FnC X.prog X.w X.K X.mg X.base C.T k ct f C.enF C.enH X.s_0) (hen : C.enH = X.H_0) (hex : X.ex = []) (hr : Room k X.A) (b : ct.β) (hb : ct.pre b) (i : Nat) (hs : C.sl[i]? = some (some (isA f))) (ha : Ea X C (e :: es) (ct.Rs b)) (hN : X.N[i]? = some x := by rfl)
    (hv : Vis X.env.scope x := by first | exact Or.inl rfl | exact Or.inr (Or.inl rfl) | exact Or.inr (Or.inr rfl)) (hd : (x == ("__debug__" : Str)) = false := by decide) (hcd : (x == ("__classdict__" : Str)) = false := by decide)
    (he : starEach (e :: es) X.env = (false, eval e X.env) :: starEach es X.env := by rfl) (hpl : (backTo pos (starEach es X.env)).any (·.1) = false := by rfl) : Ev X C (.Call (.Name x p) (e :: es) [] pos) (ct.R b) := by
  refine ⟨fun pins s σ H Q I h => ?_⟩
  obtain ⟨F, c, q⟩ := h
  obtain ⟨v0, h1, h2⟩ := c.sl i _ hs
  have h2 : v0 = .ref f := h2
  subst h2
  refine wpAny_Call_Name_kw (thn ((pe_var (pos := p) hN hv hd hcd).run pins s σ H (fun v H1 => v = .ref f ∧ H1 = H) I ⟨.ref f, h1, rfl, rfl⟩) fun u s1 ⟨v, H1, I1, r1, q1⟩ => ?_)
  obtain ⟨ev, eH⟩ := q1
  subst ev
  rw [eH] at I1
  obtain rfl : u = Value.ref f := r1
  have un1 : Un X.fs [] X.H_0 H X.s_0.heap s1.heap := hex ▸ I1.base
  have hfr : X.H_0 f = none := hen ▸ hF.free
  refine PySem.W.callWith_F (first := []) (fnAt_un un1 hfr hF.obj) (thn (ha.run pos pins s1 σ H (fun vs H2 => ∃ F2, Le C.T F H F2 H2 ∧ Fit F2 (ct.Rs b) vs) I1 ⟨F, c, fun vs F' H' l ft => ⟨F', l, ft⟩⟩) fun us s2 ⟨vs, H2, I2, r, F2, l, ft⟩ => ?_) he hpl
  have un2 : Un X.fs [] X.H_0 H2 X.s_0.heap s2.heap := hex ▸ I2.base
  refine ⟨fnAt_un un2 hfr hF.obj, ?_⟩
  show wpAny _ _ (call (.ref f) us) _ _ _
  refine wpAny_call (codeAny_mono (hF.run X.fs X.A X.stack s2 F2 H2 us vs b Q hr I2.env0 (hen ▸ un2) (c.le l).en hb r ft fun v F3 H3 l3 z => q v F3 H3 (l.trans l3) z) fun r s' hq => ?_)
  cases r with
  | error e => exact hq.elim
  | ok fl =>
    cases fl with
    | ret u => exact I2.after hq
    | next => exact False.elim hq
    | brk => exact False.elim hq
    | cont => exact False.elim hq
/-! ### arguments, the last one a function -/
/-- what the arguments make, told of the very state -/
def Xa (X : Cx) (C : Cn) (es : List Expr) (G : List V → Hp → Hp → Shared → Prop) : Prop :=
  ∀ (pos : Pos) (pins : List (Addr × Obj)) (s : Shared) (σ : L2.St) (F H : Hp), Inv X pins σ H s → C.ok σ F H →
    wpAny (model X.prog X.w) X.A (spliced (backTo pos (starEach es X.env))) (fun us s' => ∃ vs F' H', Inv X pins σ H' s' ∧ Le C.T F H F' H' ∧ Vals vs us ∧ G vs F' H' s') X.xe s
theorem xa_nil : Xa X C [] fun vs _ _ _ => vs = [] := fun pos pins s σ F H I c => Calls.spliced_nil ⟨[], F, H, I, c.w.le, .nil, rfl⟩
theorem xa_cons {R : Rp} {G : List V → Hp → Hp → Shared → Prop} (ha : Ev X C e R) (hr : Xa X C es G) (hs : starEach (e :: es) X.env = (false, eval e X.env) :: starEach es X.env := by rfl) : Xa X C (e :: es) fun vs F H s => ∃ v ws, vs = v :: ws ∧ R.p v F ∧ G ws F H s := by
  intro pos pins s σ F H I c
  rw [hs]
  show wpAny _ _ (spliced ((false, eval e X.env) :: backTo pos (starEach es X.env))) _ _ s
  refine Calls.spliced_cons (thn (ha.run pins s σ H (fun v H1 => ∃ F1, Le C.T F H F1 H1 ∧ R.p v F1) I ⟨F, c, fun v F' H' l z => ⟨F', l, z⟩⟩) fun u s1 ⟨v, H1, I1, r1, F1, l1, z1⟩ => ?_)
  exact thn (hr pos pins s1 σ F1 H1 I1 (c.le l1)) fun us s2 ⟨ws, F2, H2, I2, l2, r2, g⟩ => ⟨v :: ws, F2, H2, I2, l1.trans l2, .cons r1 r2, v, ws, rfl, R.mono l2.f z1, g⟩
/-! ### a lambda is made -/
theorem lam_makeM {pins : List (Addr × Obj)} {σ : L2.St} {F H : Hp} {s : Shared} {nm : Nat → Nat → Str} {c P : Addr} {params : Arguments} {body : Expr} {scope : Scope} {E : Value → Shared → Prop} {Q : Value → Shared → Prop} (I : Inv X pins σ H s) (w : Wok T F H) (TB : TabB X.base X.mg c P) (hcode : X.env.code = .ref c)
    (hm : (P, nm) ∈ T.n) (hn : nm pos.line pos.col = X.env.qual ++ "<lambda>") (hu : ∀ p ∈ T.n, p.1 = P → p.2 = nm) (hdef : defaultsOf params X.env = ([], [])) (hfree : ∀ y ∈ scope.names, y.2 = .free → ∃ c, X.env.cells.lookup y.1 = some c)
    (h : ∀ (f c' : Addr) (pm ctv : Value) (F1 H1 : Hp) (s' : Shared), Inv X pins σ H1 s' → Le T F H F1 H1 → s'.heap.get? f = some (PySem.W.kla_obj "<lambda>" (X.env.qual ++ "<lambda>") params body scope (cloFrom X.env.cells scope.names []) pm c' ctv) → H1 f = none →
      F1 c' = some (CodeO c' (X.env.qual ++ "<lambda>")) → Q (.ref f) s') :
    wpAny (model X.prog X.w) X.A (eval (.Lambda params body scope pos) X.env) Q E s := by
  obtain ⟨ps, hP, ht, ha⟩ := (show TabM F H P nm from w.tb.2 _ hm)
  refine PySem.W.kla_eval hdef ?_
  have bP : s.heap.BuiltinsAt X.mg P := TB.bm.keeps I.bk
  have hP' : s.heap.get? P = some { cls := .none, data := .fields ps } := I.hok P _ hP
  cases hc : codeAmong pos ps.toList with
  | none =>
    refine PySem.W.kla_makeFunction (mg := X.mg) (c := c) (P := P) (ps := ps) (closure_ok hfree) I.ok.glob (I.mod.glob.keeps I.bk) hcode (TB.code.keeps I.bk) hP' ht hc TB.gP bP fun c' ctv h' tk hx hge hlt hrec htb => ?_
    obtain ⟨c2, oc, vs, t, e2, hoc, hd, hv⟩ := hrec
    cases e2
    have hsz : s.heap.objs.size ≤ h'.objs.size := Nat.le_trans hge (Nat.le_of_lt hlt)
    have nC : H c' = none := I.hok.fresh hge
    have nCF : F c' = none := wok_none w nC
    have nPF : F P = none := by
      cases q : F P with
      | none => rfl
      | some o =>
        have := w.i P o q
        rw [hP] at this
        cases this
        exact absurd q (w.nt P ps)
    have I1 := LamX.inv_table (q := X.env.qual ++ "<lambda>") (t' := tk) (more := #[rawInt pos.line, rawInt pos.col, .ref c']) (h' := h'.push (PySem.W.kla_obj "<lambda>" (X.env.qual ++ "<lambda>") params body scope (cloFrom X.env.cells scope.names []) ((X.mg "__name__").getD .none) c' ctv)) I hP
      (fun b o hb e => Heap.get?_push_of_some _ (hx b o hb e)) (Heap.get?_push_of_some _ htb) hge ⟨oc, vs, t, Heap.get?_push_of_some _ hoc, hd, hv⟩
    have nPc : P ≠ c' := ne_of_none hP nC
    have hE : ExtN H (upd (upd H P (.tbl (ps ++ #[rawInt pos.line, rawInt pos.col, .ref c']))) c' (CodeO c' (X.env.qual ++ "<lambda>"))) := fun b o e n => by
      rw [upd_ne (ne_of_none e nC), upd_ne (fun z => n ps (Option.some.inj (e.symm.trans (by rw [z]; exact hP))))]
      exact e
    have eL : (ps ++ #[rawInt pos.line, rawInt pos.col, .ref c']).toList = ps.toList ++ [rawInt pos.line, rawInt pos.col, .ref c'] := by simp
    have exF : Ex F (upd F c' (CodeO c' (X.env.qual ++ "<lambda>"))) := Evl.Ex.new nCF
    have W1 : Wok T (upd F c' (CodeO c' (X.env.qual ++ "<lambda>"))) (upd (upd H P (.tbl (ps ++ #[rawInt pos.line, rawInt pos.col, .ref c']))) c' (CodeO c' (X.env.qual ++ "<lambda>"))) := by
      refine ⟨fun b o e => ?_, fun b qs => ?_, ⟨fun Q' hQ => ?_, fun p hp => ?_⟩⟩
      · by_cases hb : b = c'
        · rw [hb, upd_same] at e ⊢; exact e
        · rw [upd_ne hb] at e ⊢
          rw [upd_ne (fun z => by rw [z, nPF] at e; cases e)]
          exact w.i b o e
      · by_cases hb : b = c'
        · rw [hb, upd_same]; exact fun z => LamX.codeO_ne qs (Option.some.inj z)
        · rw [upd_ne hb]; exact w.nt b qs
      · obtain ⟨qs, h1, h2⟩ := w.tb.1 Q' hQ
        by_cases hb : Q' = P
        · rw [hb]
          exact ⟨_, by rw [upd_ne nPc, upd_same], by rw [eL]; exact PySem.TriplesOk_snoc _ _ _ _ ht⟩
        · exact ⟨qs, by rw [upd_ne (ne_of_none h1 nC), upd_ne hb]; exact h1, h2⟩
      · by_cases hb : p.1 = P
        · rw [hu p hp hb, hb]
          refine ⟨_, by rw [upd_ne nPc, upd_same], by rw [eL]; exact PySem.TriplesOk_snoc _ _ _ _ ht, fun p' cv hcv => ?_⟩
          rw [eL] at hcv
          rcases NdefX.among_app2 _ ht hcv with z | ⟨z, z1, z2⟩
          · obtain ⟨c0, e1, e2⟩ := ha p' cv z
            exact ⟨c0, e1, exF _ _ e2⟩
          · refine ⟨c', z, ?_⟩
            rw [← z1, ← z2, hn]
            exact upd_same
        · obtain ⟨ps', a1, a2, a3⟩ := w.tb.2 p hp
          refine ⟨ps', by rw [upd_ne (ne_of_none a1 nC), upd_ne hb]; exact a1, a2, fun p' cv hcv => ?_⟩
          obtain ⟨c0, e1, e2⟩ := a3 p' cv hcv
          exact ⟨c0, e1, exF _ _ e2⟩
    refine h h'.objs.size c' ((X.mg "__name__").getD .none) ctv _ _ _ I1 ⟨exF, hE, fun b e n => ?_, fun b n => ?_, W1⟩ (Heap.get?_push_size _ rfl) ?_ upd_same
    · exact (upd_ne (fun z => n (by rw [z]; exact nC))).trans e
    · by_cases hb : b = c'
      · rw [hb, upd_same]; exact fun z => by cases z
      · rw [upd_ne hb]
        by_cases hb2 : b = P
        · rw [hb2, upd_same]; exact fun z => by cases z
        · rw [upd_ne hb2]; exact n
    · have n1 : h'.objs.size ≠ c' := Nat.ne_of_gt hlt
      have n2 : h'.objs.size ≠ P := Nat.ne_of_gt (Nat.lt_of_lt_of_le (Heap.lt_size hP') hsz)
      rw [upd_ne n1, upd_ne n2]
      exact I.hok.fresh hsz
  | some cv =>
    obtain ⟨c', e, hco⟩ := ha pos cv hc
    subst e
    rw [hn] at hco
    refine PySem.W.kla_makeFunctionHit (mg := X.mg) (c := c) (P := P) (ps := ps) (closure_ok hfree) I.ok.glob (I.mod.glob.keeps I.bk) hcode (TB.code.keeps I.bk) hP' ht hc bP fun ctv h' tk hx hsz => ?_
    have I1 : Inv X pins σ H { s with heap := h'.push (PySem.W.kla_obj "<lambda>" (X.env.qual ++ "<lambda>") params body scope (cloFrom X.env.cells scope.names []) ((X.mg "__name__").getD .none) c' ctv), toks := tk } := I.kept fun b o e => Heap.get?_push_of_some _ (hx b o e)
    exact h h'.objs.size c' ((X.mg "__name__").getD .none) ctv F H _ I1 w.le (Heap.get?_push_size _ rfl) (I.hok.fresh hsz) hco
/-- .. and what it promises. js: the slots of the captured names, Rc: what these hold -/
def slotsL (n : Nat) (Rs Rc : List Rp) : List (Option Rp) := Rs.map some ++ (Rc.map some ++ List.replicate (n - Rs.length - Rc.length) none)
abbrev lamNF (qual : Str) (params : Arguments) (scope : Scope) (cl : List (Str × Addr)) (c : Addr) : NF := ⟨"<lambda>", qual, params, [], scope, cl, c⟩
theorem slotAt_fit {σ : L2.St} {F H : Hp} (c : C.ok σ F H) : ∀ {js : List Nat} {Rc : List Rp}, (js.map fun j => C.sl[j]?) = Rc.map (fun R => some (some R)) → ∃ ws, js.map (NdefX.slotAt σ) = ws.map some ∧ Fit F Rc ws
  | [], [], _ => ⟨[], rfl, .nil⟩
  | [], _ :: _, h => by simp at h
  | _ :: _, [], h => by simp at h
  | j :: js, R :: Rc, h => by
    simp only [List.map_cons, List.cons.injEq] at h
    obtain ⟨ws, e, ft⟩ := slotAt_fit c h.2
    obtain ⟨v, h1, h2⟩ := c.sl j R h.1
    exact ⟨v :: ws, by rw [List.map_cons, List.map_cons, e, NdefX.slotAt_of h1], .cons h2 ft⟩
theorem startL_ok {N : List Str} {Rs Rc : List Rp} {vs ws : List V} {F H : Hp} (w : Wok T F H) (f : Fit F Rs vs) (g : Fit F Rc ws) : (Cn.mk T F H fpT (slotsL N.length Rs Rc) []).ok (startF N vs (ws.map some)) F H where
  w := w
  len := by
    unfold startF slotsL
    have h1 := f.length
    have h2 := g.length
    simp only [List.length_append, List.length_map, List.length_replicate]
    omega
  sl := fun i R e => by
    have e : (slotsL N.length Rs Rc)[i]? = some (some R) := e
    have fg : Fit F (Rs ++ Rc) (vs ++ ws) := by
      have app : ∀ {Rs : List Rp} {vs : List V}, Fit F Rs vs → Fit F (Rs ++ Rc) (vs ++ ws) := by
        intro Rs vs f
        induction f with
        | nil => exact g
        | cons h _ ih => exact .cons h ih
      exact app f
    have key : ∀ {Rs : List Rp} {vs : List V} {i : Nat} {R : Rp}, Fit F Rs vs → Rs[i]? = some R → ∃ v, vs[i]? = some v ∧ R.p v F := by
      intro Rs vs i R g
      induction g generalizing i with
      | nil => intro h; simp at h
      | cons h t ih =>
        intro q
        cases i with
        | zero => simp at q; subst q; exact ⟨_, rfl, h⟩
        | succ i => obtain ⟨v, a, b⟩ := ih (i := i) (by simpa using q); exact ⟨v, by simpa using a, b⟩
    have eS : slotsL N.length Rs Rc = (Rs ++ Rc).map some ++ List.replicate (N.length - Rs.length - Rc.length) none := by
      unfold slotsL
      rw [List.map_append, List.append_assoc]
    have eT : startF N vs (ws.map some) = (vs ++ ws).map some ++ List.replicate (N.length - vs.length - ws.length) none := by
      unfold startF
      rw [List.map_append, List.append_assoc, List.length_map]
    have fl := fg.length
    rw [eS] at e
    rcases Nat.lt_or_ge i (Rs ++ Rc).length with h | h
    · rw [List.getElem?_append_left (by simpa using h), List.getElem?_map, List.getElem?_eq_getElem h] at e
      have e2 : (Rs ++ Rc)[i] = R := by simpa using e
      obtain ⟨v, a, b⟩ := key fg (List.getElem?_eq_getElem h)
      refine ⟨v, ?_, e2 ▸ b⟩
      rw [eT, List.getElem?_append_left (by rw [List.length_map, fl]; exact h), List.getElem?_map, a] <;> rfl
    · rw [List.getElem?_append_right (by simpa using h)] at e
      have := List.mem_of_getElem? e
      rw [List.mem_replicate] at this
      exact absurd this.2 (by simp)
  os := fun q hq => by cases hq
  nd := List.nodup_nil
  ff := trivial
  en := w.le
theorem fnC_lam {N ps fr : List Str} {scope : Scope} {params : Arguments} {body : Expr} {pins : List (Addr × Obj)} {σ : L2.St} {F H : Hp} {s : Shared} {c' : Addr} {pm ctv : Value} {js : List Nat} {Rc : List Rp} (I : Inv X pins σ H s) (c : C.ok σ F H) (S : NScope N ps fr scope) (hex : X.ex = [])
    (hf : s.heap.get? f = some (PySem.W.kla_obj "<lambda>" (X.env.qual ++ "<lambda>") params body scope (cloFrom X.env.cells scope.names []) pm c' ctv)) (hfn : H f = none) (hc : F c' = some (CodeO c' (X.env.qual ++ "<lambda>"))) (cp : Caps X (cloFrom X.env.cells scope.names []) fr js)
    (hsl : (js.map fun j => C.sl[j]?) = Rc.map (fun R => some (some R))) (hl : ∀ b, (ct.Rs b).length = ps.length)
    (hbind : ∀ (q : Str) (cl : List (Str × Addr)) (pm cv ctv : Value) (us : List Value), us.length = ps.length → bindArgs (PySem.W.kla_fn "<lambda>" q params body scope cl pm cv ctv) ⟨us, []⟩ = pure (ps.zip us))
    (hbody : ∀ (A : Around) (outer : List Env) (s1 : Shared) (F1 H1 : Hp) (f c' : Addr) (b : ct.β) (cl : List (Str × Addr)) (qual : Str), Room k (A.deeper (envF (lamNF qual params scope cl c') f s1.heap.objs.size)) → ct.pre b →
      Ev (ncx CX0 X.prog X.w X.K X.mg X.base N (lamNF qual params scope cl c') f A outer s1 H1 E0) (Cn.mk C.T F1 H1 fpT (slotsL N.length (ct.Rs b) Rc) []) body (ct.R b)) :
    FnC X.prog X.w X.K X.mg X.base C.T (k + 1) ct f F H s where
  obj := ⟨_, _, _, _, hf⟩
  free := hfn
  run := fun fs A outer s1 F1 H1 us vs b Q hr e0 un l hp r ft q => by
    obtain ⟨ws, ews, ftc⟩ := slotAt_fit c hsl
    have C0 := NdefX.cells_of I cp
    obtain ⟨sl', hf1⟩ := un.any hf hfn (by simp)
    have cellK : ∀ {c : Addr} {v : Option Value}, H c = none → s.heap.IsCell c v → s1.heap.IsCell c v := fun {c v} n ⟨o, ho, hd⟩ => by
      obtain ⟨sl, q⟩ := un.any ho n (by simp)
      exact ⟨_, q, hd⟩
    have C1 : CellsAt (cloFrom X.env.cells scope.names []) fr (js.map (NdefX.slotAt σ)) s1.heap H1 := by
      refine ⟨C0.len, fun y a e => ?_, C0.inj, fun i y e => ?_⟩
      · obtain ⟨n, v, z⟩ := C0.all y a e
        refine ⟨?_, v, cellK n z⟩
        obtain ⟨o, ho, _⟩ := z
        exact un.free a o ho n (by simp)
      · obtain ⟨a, ha, hv⟩ := C0.has i y e
        refine ⟨a, ha, fun v ev => ?_⟩
        obtain ⟨u, ru, z⟩ := hv v ev
        exact ⟨u, ru, cellK (C0.all y a ha).1 z⟩
    rw [ews] at C1
    have hl1 : vs.length = ps.length := by rw [ft.length]; exact hl b
    have hH1c : H1 c' = some (CodeO c' (X.env.qual ++ "<lambda>")) := l.w.i _ _ (l.f _ _ hc)
    have lim : s1.heap.NoLimit := e0.mod.nolimit.keeps fun b o e => (e0.bs b o e).1
    refine PySem.W.kla_callFunE hr.depth hf1 rfl S.co S.gen rfl (NdefX.codeO_at e0.hok hH1c) ?_
    rw [hbind _ _ _ _ _ us (by rw [← r.length]; exact hl1)]
    refine wpAny_pure (wpAny_newFunctionEnv S.nocell (fun ⟨n, _⟩ hy => S.par n (List.of_mem_zip hy).1) (fun h₁ hns hsb => ⟨lim.fresh _ hsb, ?_⟩) S.kind)
    show codeAny _ _ (.expr body (envF (lamNF (X.env.qual ++ "<lambda>") params scope (cloFrom X.env.cells scope.names []) c') f s1.heap.objs.size)) _ _
    have kp : ∀ b o, s1.heap.get? b = some o → h₁.get? b = some o := fun b o e => hsb.extBut b o (Nat.ne_of_lt (Heap.lt_size e)) (Heap.get?_push_of_some _ e)
    have J : Inv (ncx CX0 X.prog X.w X.K X.mg X.base N (lamNF (X.env.qual ++ "<lambda>") params scope (cloFrom X.env.cells scope.names []) c') f A outer s1 H1 E0) [] (startF N vs (ws.map some)) H1 { s1 with heap := h₁, toks := s1.toks + (ps.zip us).length } := NdefX.inv_startN (F := lamNF (X.env.qual ++ "<lambda>") params scope (cloFrom X.env.cells scope.names []) c') S hr.hd e0 hl1 r C1 hns kp
    have hb := (hbody A outer s1 F1 H1 f c' b (cloFrom X.env.cells scope.names []) (X.env.qual ++ "<lambda>") (hr.deeper _) hp).run [] _ _ H1 Q J ⟨F1, startL_ok l.w ft (ftc.mono l.f), fun v F2 H2 l2 z => q v F2 H2 l2 z⟩
    refine PySem.W.kla_codeExpr (wpAny_mono hb (fun v s' hq => ?_) fun e s' hq => hq)
    obtain ⟨w', H', J', rv, q⟩ := hq
    exact ⟨w', H', J'.os, J'.bare, J'.base, J'.hok, rv, q⟩
/-- a lambda, the last argument -/
theorem xa_lam {N ps fr : List Str} {scope : Scope} {params : Arguments} {body : Expr} {lpos : Pos} {nm : Nat → Nat → Str} {cc P : Addr} {js : List Nat} {Rc : List Rp} (ct : Ctr) (S : NScope N ps fr scope) (TB : TabB X.base X.mg cc P) (hcode : X.env.code = .ref cc)
    (hm : (P, nm) ∈ C.T.n) (hn : nm lpos.line lpos.col = X.env.qual ++ "<lambda>") (hu : ∀ p ∈ C.T.n, p.1 = P → p.2 = nm) (hex : X.ex = []) (hnd : NdefX.ndefB X.env.scope scope fr = true) (hjs : js.map (fun j => X.N[j]?) = fr.map some)
    (hsl : (js.map fun j => C.sl[j]?) = Rc.map (fun R => some (some R))) (hl : ∀ b, (ct.Rs b).length = ps.length)
    (hbind : ∀ (q : Str) (cl : List (Str × Addr)) (pm cv ctv : Value) (us : List Value), us.length = ps.length → bindArgs (PySem.W.kla_fn "<lambda>" q params body scope cl pm cv ctv) ⟨us, []⟩ = pure (ps.zip us))
    (hbody : ∀ (A : Around) (outer : List Env) (s1 : Shared) (F1 H1 : Hp) (f c' : Addr) (b : ct.β) (cl : List (Str × Addr)) (qual : Str), Room k (A.deeper (envF (lamNF qual params scope cl c') f s1.heap.objs.size)) → ct.pre b →
      Ev (ncx CX0 X.prog X.w X.K X.mg X.base N (lamNF qual params scope cl c') f A outer s1 H1 E0) (Cn.mk C.T F1 H1 fpT (slotsL N.length (ct.Rs b) Rc) []) body (ct.R b))
    (hdef : defaultsOf params X.env = ([], []) := by rfl) (hs : starEach [.Lambda params body scope lpos] X.env = (false, eval (.Lambda params body scope lpos) X.env) :: starEach [] X.env := by rfl) :
    Xa X C [.Lambda params body scope lpos] fun vs F H s => ∃ f, vs = [.ref f] ∧ FnC X.prog X.w X.K X.mg X.base C.T (k + 1) ct f F H s := by
  intro pos pins s σ F H I c
  rw [hs]
  show wpAny _ _ (spliced ((false, eval (.Lambda params body scope lpos) X.env) :: backTo pos (starEach [] X.env))) _ _ s
  have hfree := NdefX.ndef_free hnd
  refine Calls.spliced_cons (lam_makeM I c.w TB hcode hm hn hu hdef (fun y hy e => (hfree y hy e).elim (fun z => I.ok.has _ (.inl z)) fun z => I.ok.has _ (.inr z)) fun f c' pm ctv F1 H1 s' I1 l hf hfn hco => ?_)
  exact Calls.spliced_nil ⟨[.ref f], F1, H1, I1, l, .cons rfl .nil, f, rfl, fnC_lam I1 (c.le l) S hex hf hfn hco (Caps.made I1.ok hfree (NdefX.ndef_fr hnd) hjs) hsl hl hbind hbody⟩
end
/-! ### defs that get a function as the last argument -/
structure Dh (P : Program) (w : World) (K : PySem.W.Frag) (mg : Str → Option Value) (base : Heap) (k : Nat) (x : Str) {α : Type} (T : Tbs) (pre : α → Prop) (Rs : α → List Rp) (R : α → Rp) (j : Nat) (ct : α → Ctr) : Prop where
  ex : ∃ (g : Addr), mg x = some (.ref g) ∧ PySem.W.keepIn K (.ref g) = true ∧ ∀ (A : Around) (outer : List Env) (s : Shared) (F H : Hp) (us : List Value) (vs : List V) (f : Addr) (a : α) (Q : VK), Room k A → Env0 P w K mg base A outer s H → PySem.W.Frag.In K s.heap → pre a → Wok T F H → Vals (vs ++ [.ref f]) us → Fit F (Rs a) vs →
    FnC P w K mg base T j (ct a) f F H s → (∀ v F' H', Le T F H F' H' → (R a).p v F' → Q v H') → codeAny (model P w) A (.call (.ref g) ⟨us, []⟩) (CR CX0 outer P w H s Q E0) s
theorem Dh.mono {P : Program} {w : World} {K : PySem.W.Frag} {mg : Str → Option Value} {base : Heap} {k k' : Nat} {x : Str} {α : Type} {T : Tbs} {pre : α → Prop} {Rs : α → List Rp} {R : α → Rp} {j : Nat} {ct : α → Ctr} (D : Dh P w K mg base k x T pre Rs R j ct) (h : k ≤ k') : Dh P w K mg base k' x T pre Rs R j ct := by
  obtain ⟨g, h1, h2, h3⟩ := D.ex
  exact ⟨g, h1, h2, fun A outer s F H us vs f a Q hr => h3 A outer s F H us vs f a Q (hr.mono h)⟩
section
variable {X : Cx} {C : Cn} {T : Tbs} {A M : As} {D : Ends} {e : Expr} {es : List Expr} {pos p p1 p2 : Pos} {x : Str} {k i : Nat} {f : Addr}
/-- x(e, .., a function) -/
theorem ev_callH {α : Type} {pre : α → Prop} {Rs : α → List Rp} {R : α → Rp} {j : Nat} {ct : α → Ctr} {G : List V → Hp → Hp → Shared → Prop} (d : Dh X.prog X.w X.K X.mg X.base k x C.T pre Rs R j ct) (hr : Room k X.A) (a : α) (hp : pre a) (ha : Xa X C (e :: es) G)
    (hG : ∀ vs F H s, G vs F H s → ∃ ws f, vs = ws ++ [.ref f] ∧ Fit F (Rs a) ws ∧ FnC X.prog X.w X.K X.mg X.base C.T j (ct a) f F H s) (hg : Gl X x := by rfl)
    (hdb : (x == ("__debug__" : Str)) = false := by decide) (he : starEach (e :: es) X.env = (false, eval e X.env) :: starEach es X.env := by rfl) (hpl : (backTo pos (starEach es X.env)).any (·.1) = false := by rfl) : Ev X C (.Call (.Name x p) (e :: es) [] pos) (R a) := by
  obtain ⟨g, hm, hk, run⟩ := d.ex
  refine ⟨fun pins s σ H Q I h => ?_⟩
  obtain ⟨F, c, q⟩ := h
  refine wpAny_Call_Name_kw (ld_glob I hg hm ?_ hdb)
  refine PySem.W.callWith_K (h₀ := X.base) I.ok.mod.kin hk (thn (ha pos pins s σ F H I c) fun us s1 ⟨vs, F1, H1, I1, l1, r, z⟩ => ⟨I1.kIn, ?_⟩) he hpl
  obtain ⟨ws, f, rfl, ft, fc⟩ := hG vs F1 H1 s1 z
  show wpAny _ _ (call (.ref g) us) _ _ _
  refine wpAny_call (codeAny_mono (run X.A X.stack s1 F1 H1 us ws f a Q hr I1.env0 I1.kIn hp l1.w r ft fc fun v F2 H2 l2 z => q v F2 H2 (l1.trans l2) z) fun r s' hq => ?_)
  cases r with
  | error e => exact hq.elim
  | ok fl =>
    cases fl with
    | ret u => exact I1.after hq
    | next => exact False.elim hq
    | brk => exact False.elim hq
    | cont => exact False.elim hq
end
section
variable {P : Program} {w : World} {K : PySem.W.Frag} {mg : Str → Option Value} {base : Heap}
/-- .. proved -/
theorem dh_pure {α : Type} {x : Str} {st : Stmt} {g : Addr} {fd : FuncData} {N ps : List Str} {k j : Nat} {T : Tbs} (pre : α → Prop) (Rs : α → List Rp) (R : α → Rp) (ct : α → Ctr) (Fn : Fun K x x st g fd) (S : FnScope N ps (defScope st)) (hm : mg x = some (.ref g)) (hb : Binds K fd ps [])
    (hl : ∀ a, (Rs a).length + 1 = ps.length)
    (body : ∀ (cdv : Value) (A : Around) (outer : List Env) (s : Shared) (H F : Hp) (E : XK) (a : α) (f : Addr) (D : Ends), Room k (A.deeper (PyProof.Rows.envOfC x (defScope st) s.heap.objs.size g cdv)) → pre a → FnC P w K mg base T j (ct a) f F H s →
      (∀ v F' H', Le T F H F' H' → (R a).p v F' → D.rt v H') → (∀ σ' F' H', Le T F H F' H' → (R a).p .non F' → D.nx σ' H') →
      Do (bodyX P w K mg base N x st g cdv A outer s H E) (defBody st) (Cn.mk T F H fpT (slots N.length (Rs a ++ [isA f])) []).at D) : Dh P w K mg base (k + 1) x T pre Rs R j ct := by
  obtain ⟨oc, od, kV, doc, pm, an, cdv, ctt, osl, rfl, lk, hcd⟩ := Fn.ex
  refine ⟨g, hm, Fn.kp, fun A outer s F H us vs f a Q hr e0 kin hp hw r ft fc q => ?_⟩
  have ft' : Fit F (Rs a ++ [isA f]) (vs ++ [.ref f]) := by
    have app : ∀ {Rs : List Rp} {vs : List V}, Fit F Rs vs → Fit F (Rs ++ [isA f]) (vs ++ [.ref f]) := by
      intro Rs vs f
      induction f with
      | nil => exact .cons rfl .nil
      | cons h _ ih => exact .cons h ih
    exact app ft
  have hl' : (vs ++ [V.ref f]).length = ps.length := by rw [List.length_append, ft.length]; exact hl a
  refine LamX.run_ofS (N := N) (ps := ps) (us := us) (vs := vs ++ [.ref f]) lk hcd S hr e0 ?_ r hl' fun hr' => ?_
  · have hb' := hb s us kin (by rw [List.append_nil, ← r.length]; exact hl')
    rw [List.append_nil] at hb'
    exact hb'
  · exact ⟨_, (body cdv A outer s H F E0 a f { nx := fun _ H' => Q .non H', rt := Q } hr' hp fc q (fun σ' F' H' l z => q _ F' H' l z)).pss.nox, rfl, F, start_ok hw ft' hw.le List.nodup_nil (fun q hq => by cases hq)⟩
end
end Pl

set_option Elab.async false
set_option autoImplicit false
set_option linter.all false
set_option maxRecDepth 100000
set_option maxHeartbeats 4000000
namespace Pl
open PySem PySem.Spec L2
open GxR (TabG Tabbed)
open LamX (ExtN TabS CodeO)
open NdefX (NTab TabN TabsN NF FnO)

/-! ### from world to world, some owned objects changed -/
structure Lm (T : Tbs) (ws : List Addr) (F H F' H' : Hp) : Prop where
  f : Ex F F'
  h : ∀ a o, a ∉ ws → H a = some o → (∀ ps, o ≠ .tbl ps) → H' a = some o
  n : ∀ a, a ∉ ws → F a = none → H a ≠ none → F' a = none
  d : ∀ a, H a ≠ none → H' a ≠ none
  w : Wok T F' H'
theorem Le.lm {T : Tbs} {ws : List Addr} {F H F' H' : Hp} (l : Le T F H F' H') : Lm T ws F H F' H' := ⟨l.f, fun a o _ e n => l.h a o e n, fun a _ e n => l.n a e n, l.d, l.w⟩
theorem Lm.trans {T : Tbs} {ws : List Addr} {F H F1 H1 F2 H2 : Hp} (a : Lm T ws F H F1 H1) (b : Lm T ws F1 H1 F2 H2) : Lm T ws F H F2 H2 :=
  ⟨a.f.trans b.f, fun x o n e z => b.h x o n (a.h x o n e z) z, fun x n e z => b.n x n (a.n x n e z) (a.d x z), fun x z => b.d x (a.d x z), b.w⟩
theorem Lm.more {T : Tbs} {ws ws' : List Addr} {F H F1 H1 : Hp} (a : Lm T ws F H F1 H1) (s : ∀ x ∈ ws, x ∈ ws') : Lm T ws' F H F1 H1 := ⟨a.f, fun x o n => a.h x o (fun z => n (s x z)), fun x n => a.n x (fun z => n (s x z)), a.d, a.w⟩
theorem Le.mutm {T : Tbs} {F H F0 H0 : Hp} {q : Addr} {o o' : HO} {ws : List Addr} (l : Le T F0 H0 F H) (h1 : F q = none) (h2 : H0 q = none) (h3 : H q = some o) (nt : ∀ ps, o ≠ .tbl ps) (nt' : ∀ ps, o' ≠ .tbl ps) (hq : q ∈ ws) : Lm T ws F H F (upd H q o') where
  f := Evl.Ex.refl _
  h := fun b u n e _ => by rw [upd_ne (fun z : b = q => n (z ▸ hq))]; exact e
  n := fun b _ e _ => e
  d := fun b z => by
    by_cases hb : b = q
    · rw [hb, upd_same]; intro y; cases y
    · rw [upd_ne hb]; exact z
  w := (l.mut h1 h2 h3 nt nt').w
/-- a value, owned objects changed on the way -/
def tW (C : Cn) (G : V → Hp → List (Addr × Ct) → Prop) : TE := fun σ H Q => ∃ F, C.ok σ F H ∧ ∀ v F' H' os', (C.to C.sl os').ok σ F' H' → Lm C.T (C.os.map Prod.fst) F H F' H' → (∀ a ∈ os'.map Prod.fst, a ∈ C.os.map Prod.fst ∨ H a = none) → G v F' os' → Q v H'
abbrev Ew (X : Cx) (C : Cn) (e : Expr) (R : Rp) (os' : List (Addr × Ct)) : Prop := PE X e (tW C fun v F o => R.p v F ∧ o = os')
section
variable {X : Cx} {C : Cn} {T : Tbs} {A M : As} {D : Ends} {e elt o tg iter : Expr} {es : List Expr} {rest : List Stmt} {pos p p1 p2 spos py : Pos} {x y : Str} {i j : Nat} {R : Rp} {Rs : List Rp} {ct : Ct} {ds : List PD} {d : PD} {l q : Addr} {scope : Scope} {own : List (Str × Nat)}
theorem Ev.ew (h : Ev X C e R) : Ew X C e R C.os := PE.of h fun σ H Q ⟨F, c, q⟩ => ⟨F, c, fun v F' H' l z => q v F' H' C.os (c.le l) l.lm (fun a h => .inl h) ⟨z, rfl⟩⟩
theorem do_dropw {os' : List (Addr × Ct)} (he : Ew X C e R os') (h : Do X rest (C.to C.sl os').at D) (hs : swapsWith e none pos.line X.env = pure false := by rfl) : Do X (.Expr e pos :: rest) C.at D :=
  do_cons (M := (C.to C.sl os').at) (Do1.of (ps_expr he hs) fun σ H ⟨F, c⟩ => ⟨F, c, fun v F' H' o c' _ _ z => ⟨F', z.2 ▸ c'⟩⟩) h
/-! ### owned lists are read -/
theorem Cn.ok.lstAt {σ : L2.St} {F H : Hp} (c : C.ok σ F H) (hf : findO l C.os = some (ctL X.K ds)) : ∃ xs, H l = some (.lst xs) ∧ DpAll X.K F xs ds := by
  obtain ⟨o, h1, xs, rfl, al⟩ := c.at hf
  exact ⟨xs, h1, al⟩
theorem ev_lenO (hf : findO l C.os = some (ctL X.K ds)) (hm : X.mg "len" = none) (h : Ev X C e (isA l)) (hg : Gl X "len" := by rfl) (hse : S1 X e := by rfl) : Ev X C (.Call (.Name "len" p) [e] [] pos) (isD X.K (.int (ds.length : Int))) :=
  ev_of (pe_callB (r := fun xs H Q => ∃ p ys, xs = [.ref p] ∧ (SqL X.K H p ys ∨ SqT X.K H p ys) ∧ Q (.int ys.length) H) call_len_seq hg hm PySem.boot_len (ea1 h hse) (by decide) (by decide) hse) fun σ F H Q c q => ⟨F, c, fun vs F' H' l' f => by
    obtain ⟨v, rfl, h⟩ := fit1 f
    obtain ⟨xs, h1, al⟩ := (c.le l').lstAt hf
    exact ⟨l, xs, by rw [show v = .ref l from h], .inl (SqL.of h1), by rw [dpAll_length al]; exact q _ F' H' l' (.int _)⟩⟩
theorem ev_ixO {i : Int} {a b : Expr} (hf : findO l C.os = some (ctL X.K ds)) (h : atI ds i = some d) (ha : Ev X C a (isA l)) (hb : Ev X C b (isD X.K (.int i))) (hs : PlainIx b := by exact fun _ _ => rfl) : Ev X C (.Subscript a b pos) (isD X.K d) :=
  ev_of (pe_ix ix_list ha hb hs) fun σ F H Q c q => run2 c fun x y F' H' l' h1 h2 => by
    obtain ⟨xs, e, al⟩ := (c.le l').lstAt hf
    obtain ⟨v, e1, e2⟩ := atI_map al h
    exact ⟨l, xs, i, v, h1, dp_int h2, SqL.of e, e1, q v F' H' l' e2⟩
/-- (not) in an owned list of flat data -/
theorem op2_inO {neg : Bool} {a b : Expr} (hf : findO l C.os = some (ctL X.K ds)) (hd : flatD d = true) (hs : ds.all flatD = true) {op : CmpOp} (ho : OpR X (compareOp op) (rIn X.K neg)) (ha : Ev X C a (isD X.K d)) (hb : Ev X C b (isA l)) (hm : behindInMarks op b = false) :
    Et X C (.Compare a [op] [b] pos) (if neg then !inV (toV d) (ds.map toV) else inV (toV d) (ds.map toV)) :=
  PT.of (pt_cmpR ho ha hb hm) fun σ H Q ⟨F, c, q⟩ => run2 c fun x y F' H' l' h1 h2 => by
    obtain ⟨xs, e, al⟩ := (c.le l').lstAt hf
    obtain ⟨e1, e2⟩ := dp_flat hd h1
    obtain ⟨e3, e4⟩ := dpAll_flat hs al
    refine ⟨l, xs, h2, .inl (SqL.of e), e2, e4, ?_⟩
    rw [e1, e3]
    exact ⟨_, rfl, q F' H' l'⟩
theorem et_inO {a b : Expr} (hf : findO l C.os = some (ctL X.K ds)) (hd : flatD d = true) (hs : ds.all flatD = true) (ha : Ev X C a (isD X.K d)) (hb : Ev X C b (isA l)) (hm : behindInMarks .In b = false := by rfl) : Et X C (.Compare a [.In] [b] pos) (inV (toV d) (ds.map toV)) := op2_inO (neg := false) hf hd hs op_in_seq ha hb hm
theorem et_ninO {a b : Expr} (hf : findO l C.os = some (ctL X.K ds)) (hd : flatD d = true) (hs : ds.all flatD = true) (ha : Ev X C a (isD X.K d)) (hb : Ev X C b (isA l)) (hm : behindInMarks .NotIn b = false := by rfl) : Et X C (.Compare a [.NotIn] [b] pos) (!inV (toV d) (ds.map toV)) := op2_inO (neg := true) hf hd hs op_notIn_seq ha hb hm
theorem et_ninDO {a b : Expr} (hu : X.A.units + 65 < cLine) (hf : findO l C.os = some (ctL X.K ds)) (s1 : SeqAt.shaped d = true) (s2 : SeqAt.shaped (.list ds) = true) (ha : Ev X C a (isD X.K d)) (hb : Ev X C b (isA l)) (hm : behindInMarks .NotIn b = false := by rfl) : Et X C (.Compare a [.NotIn] [b] pos) (!ds.any fun z => PyData.eqv z d) :=
  PT.of (pt_cmpR (op_notInD hu) ha hb hm) fun σ H Q ⟨F, c, q⟩ => run2 c fun x y F' H' l' h1 h2 => by
    obtain ⟨xs, e, al⟩ := (c.le l').lstAt hf
    rw [show y = .ref l from h2]
    exact ⟨d, ds, dp_up l'.w h1, .lst (SqL.of e) (dpAll_mono l'.w.i al), s1, s2, _, rfl, q F' H' l'⟩
/-! ### an owned object is frozen -/
def dropO (q : Addr) : List (Addr × Ct) → List (Addr × Ct)
  | [] => []
  | (a, c) :: r => if a = q then r else (a, c) :: dropO q r
theorem mem_dropO : ∀ {os : List (Addr × Ct)} {r : Addr × Ct}, (os.map Prod.fst).Nodup → r ∈ dropO q os → r ∈ os ∧ r.1 ≠ q
  | (a, c) :: os, r, nd, h => by
    rw [List.map_cons] at nd
    obtain ⟨n1, n2⟩ := List.nodup_cons.mp nd
    unfold dropO at h
    split at h
    · rename_i e
      exact ⟨List.mem_cons_of_mem _ h, fun z => n1 (by rw [e, ← z]; exact List.mem_map.mpr ⟨r, h, rfl⟩)⟩
    · rename_i e
      rcases List.mem_cons.mp h with rfl | h
      · exact ⟨List.mem_cons_self, e⟩
      · obtain ⟨z, y⟩ := mem_dropO n2 h
        exact ⟨List.mem_cons_of_mem _ z, y⟩
theorem dropO_sub : ∀ {os : List (Addr × Ct)}, (dropO q os).Sublist os
  | [] => List.Sublist.refl _
  | (a, c) :: os => by
    unfold dropO
    split
    · exact List.sublist_cons_self _ _
    · exact dropO_sub.cons₂ _
theorem Cn.ok.frz {σ : L2.St} {F H : Hp} (c : C.ok σ F H) (hf : findO q C.os = some ct) : ∃ o, H q = some o ∧ ct.p o F ∧ F q = none ∧ (C.to C.sl (dropO q C.os)).ok σ (upd F q o) H := by
  obtain ⟨a1, a2, o, a3, a4, a5⟩ := c.os _ (findO_mem hf)
  have a1 : F q = none := a1
  have a3 : H q = some o := a3
  refine ⟨o, a3, a5, a1, c.w.frz a1 a3 a4, c.len, fun i R e => ?_, fun r hr => ?_, ?_, C.ff.mono (Evl.Ex.new a1) c.ff, ?_⟩
  · obtain ⟨v, h1, h2⟩ := c.sl i R e
    exact ⟨v, h1, R.mono (Evl.Ex.new a1) h2⟩
  · obtain ⟨hr, ne⟩ := mem_dropO c.nd hr
    obtain ⟨b1, b2, ob, b3, b4, b5⟩ := c.os r hr
    exact ⟨by rw [upd_ne ne]; exact b1, b2, ob, b3, b4, r.2.mono (Evl.Ex.new a1) b5⟩
  · exact c.nd.sublist (dropO_sub.map _)
  · exact c.en.frz a2 a1 a3 a4
/-- .. as a statement's start -/
theorem do_frz {ss : List Stmt} (i : Nat) (q : Addr) {R : Rp} (hs : C.sl[i]? = some (some (isA q))) (hf : findO q C.os = some ct) (hR : ∀ o F, F q = none → ct.p o F → R.p (.ref q) (upd F q o)) (h : Do X ss ((C.to C.sl (dropO q C.os)).set i R).at D) : Do X ss C.at D := by
  refine h.pre fun σ H ⟨F, c⟩ => ?_
  obtain ⟨o, h1, h2, h3, c'⟩ := c.frz hf
  have hi : i < C.sl.length := (List.getElem?_eq_some_iff.mp hs).1
  obtain ⟨v, e1, e2⟩ := c.sl i _ hs
  have e2 : v = .ref q := e2
  have c2 := c'.set (i := i) (R := R) (v := .ref q) hi (hR o F h3 h2)
  have e : σ.set i (some (V.ref q)) = σ := by
    refine List.ext_getElem? fun j => ?_
    by_cases hj : i = j
    · subst hj
      rw [List.getElem?_set_self (by rw [c.len]; exact hi), e1, e2]
    · rw [List.getElem?_set_ne hj]
  rw [e] at c2
  exact ⟨_, c2⟩
theorem do_frzL {ss : List Stmt} (i : Nat) (q : Addr) (hs : C.sl[i]? = some (some (isA q))) (hf : findO q C.os = some (ctL X.K ds)) (h : Do X ss ((C.to C.sl (dropO q C.os)).set i (isD X.K (.list ds))).at D) : Do X ss C.at D :=
  do_frz i q hs hf (fun o F h1 h2 => ctL_frz h1 h2) h
/-! ### comprehensions that change owned objects -/
/-- one turn: the item's slots, then the element; S tells of the made values and the owned objects -/
def TurnS (X : Cx) (C : Cn) (scope : Scope) (vs : List Nat) (tg elt : Expr) (R : Rp) (f : Fp) (os : List (Addr × Ct)) (G : V → Hp → List (Addr × Ct) → Prop) : Prop :=
  ∃ sl ws, (∀ j ∈ ws, j ∈ vs) ∧ Blk X scope fun Y => Tg Y (((C.plus f).to C.sl os).wipe vs) R tg ((C.plus f).to sl os) ws ∧ PE Y elt (tW ((C.plus f).to sl os) G)
theorem wipe_wipe {σ : L2.St} {vs : List Nat} : L2.wipe (L2.wipe σ vs) vs = L2.wipe σ vs := List.ext_getElem? fun j => by
  rw [wipe_get, wipe_get, wipe_length]
  by_cases hj : j ∈ vs ∧ j < σ.length
  · rw [if_pos hj, if_pos hj]
  · rw [if_neg hj, if_neg hj]
theorem lc_readS {wi : TI} (S : Nat → List V → List (Addr × Ct) → Hp → Prop) (G : Nat → List (Addr × Ct) → V → Hp → List (Addr × Ct) → Prop) (hm : ∀ i us os F F', Ex F F' → S i us os F → S i us os F') (hlen : ∀ i us os F, S i us os F → us.length = i)
    (hG : ∀ i us os F v F' os', S i us os F → Ex F F' → G i os v F' os' → S (i + 1) (us ++ [v]) os' F')
    (hi : PI X tg iter wi) (hw : ∀ σ F H, C.ok σ F H → ∀ G : It → Hp → Prop, (∀ (J : It) (f : Fp) F' H', Le C.T F H F' H' → ItW C.T J Rs f → f.p F' → G J H') → wi σ H G) (ok : BlkOk X.N X.env.scope scope own) (hz : Rs.length ≤ 100000) (h0 : ∀ F, S 0 [] C.os F)
    (hb : ∀ (i : Nat) (R : Rp) (f : Fp) (os : List (Addr × Ct)) (us : List V) (F : Hp), Rs[i]? = some R → S i us os F → TurnS X C scope (own.map (·.2)) tg elt R f os (G i os)) (hN : X.N.Nodup) :
    ∃ (g : TG) (tt : TT) (te : TE), (Blk X scope fun Y => PG Y tg g) ∧ (Blk X scope fun Y => PTs Y [] tt) ∧ (Blk X scope fun Y => PE Y elt te) ∧ ∀ (σ : L2.St) (F H : Hp) (Q : VK), C.ok σ F H →
      (∀ D us F' H' os', (C.to C.sl os').ok σ F' H' → H D = none → F' D = none → D ∉ os'.map Prod.fst → C.enH D = none → H' D = some (.lst us) → S Rs.length us os' F' → Q (.ref D) H') → tLc wi g tt te (own.map (·.2)) σ H Q := by
  refine ⟨fun v σ H Q => ∃ (i : Nat) (R : Rp) (f : Fp) (os : List (Addr × Ct)) (us : List V), Rs[i]? = some R ∧ ∃ F, S i us os F ∧ (((C.plus f).to C.sl os).wipe (own.map (·.2))).ok σ F H ∧ R.p v F ∧ ∀ sl σ', (Blk X scope fun Y => PE Y elt (tW ((C.plus f).to sl os) (G i os))) → ((C.plus f).to sl os).ok σ' F H → L2.wipe σ' (own.map (·.2)) = L2.wipe σ (own.map (·.2)) → Q σ' H,
    fun σ H Q => Q true H, fun σ H Q => ∃ Gg Cg, (Blk X scope fun Y => PE Y elt (tW Cg Gg)) ∧ tW Cg Gg σ H Q, fun s H Ca cl fp => ⟨fun pins s σ H v u Q I r ⟨i, R, f, os, us, hR, F, hS, c, hv, q⟩ => ?_⟩, fun s H Ca cl fp => PTs.of pts_nil fun _ _ _ z => z, fun s H Ca cl fp => ⟨fun pins s σ H Q I ⟨Gg, Cg, h1, h2⟩ => (h1 _ _ Ca cl fp).run pins s σ H Q I h2⟩, ?_⟩
  · obtain ⟨sl, ws, h1, h2⟩ := hb i R f os us F hR hS
    exact (h2 _ _ Ca cl fp).1.run pins s σ H v u Q I r ⟨F, c, hv, fun σ' c' k => q sl σ' (fun s H Ca cl fp => (h2 s H Ca cl fp).2) c' (k _ h1)⟩
  · intro σ F H Q c q
    refine hw σ F H c _ fun It f F1 H1 l itw hf => fun D hD => ?_
    have c1 := c.le l
    have w1 := Le.newH (o := .lst []) l.w hD
    have c1' := c1.le w1
    have nD0 : C.enH D = none := Classical.byContradiction fun z => c1.en.d D z hD
    refine ⟨fun i m H => m = Rs.length - i ∧ i ≤ Rs.length ∧ ∃ F us os, ((C.plus f).to C.sl os).ok σ F H ∧ F D = none ∧ D ∉ os.map Prod.fst ∧ Ex F1 F ∧ H D = some (.lst us) ∧ S i us os F,
      ⟨Rs.length, by simp, Nat.zero_le _, F1, [], C.os, ⟨c1'.w, c1'.len, c1'.sl, c1'.os, c1'.nd, ⟨c1'.ff, hf⟩, c1'.en⟩, wok_none l.w hD, fun z => ?_, Evl.Ex.refl _, upd_same, h0 F1⟩, ?_⟩
    · obtain ⟨r, hr, e⟩ := List.mem_map.mp z
      obtain ⟨_, _, o1, b6, _⟩ := c1.os r hr
      rw [e, hD] at b6
      cases b6
    rintro i m H2 ⟨rfl, hle, F2, us, os, c2, hFD, hDo, ex2, hHD, hS⟩
    obtain ⟨g1, g2⟩ := itw i F2 H2 c2.w c2.ff.2
    rcases Nat.lt_or_ge i Rs.length with hlt | hge
    · have e := List.getElem?_eq_getElem hlt
      obtain ⟨g3, g4⟩ := g1 _ e
      refine .inr ⟨g3, fun H' => ∃ F us os, ((C.plus f).to C.sl os).ok σ F H' ∧ F D = none ∧ D ∉ os.map Prod.fst ∧ Ex F1 F ∧ H' D = some (.lst us) ∧ S (i + 1) us os F, fun H' q' => ⟨Rs.length - (i + 1), by omega, rfl, hlt, q'⟩, fun v H' y => ?_⟩
      obtain ⟨F3, l3, hv⟩ := g4 v H' y
      have c3 := c2.le l3
      have hD3 : H' D = some (.lst us) := l3.h _ _ hHD (lst_nt _)
      have f3 : F3 D = none := l3.n D hFD (by rw [hHD]; intro z; cases z)
      refine ⟨i, _, f, os, us, e, F3, hm _ _ _ _ _ l3.f hS, c3.wipe _, hv, fun sl σ' hpe c4 hwp => ⟨by rw [hwp, wipe_wipe], ?_⟩⟩
      refine iteT ⟨_, _, hpe, F3, c4, fun y F4 H4 os4 c5 lm hnew h4 => ?_⟩
      have hD4 : H4 D = some (.lst us) := lm.h D _ hDo hD3 (lst_nt _)
      have f4 : F4 D = none := lm.n D hDo f3 (by rw [hD3]; intro z; cases z)
      have hDo4 : D ∉ os4.map Prod.fst := fun z => by
        rcases hnew D z with z | z
        · exact hDo z
        · rw [hD3] at z; cases z
      have l5 : Le C.T C.enF C.enH F4 (upd H4 D (.lst (us ++ [y]))) := c5.en.mut (T := C.T) f4 nD0 hD4 (lst_nt _) (lst_nt _)
      refine ⟨us, hD4, ?_, F4, us ++ [y], os4, ⟨l5.w, c.len, fun j R h => ?_, fun r hr => ?_, c5.nd, c5.ff, l5⟩, f4, hDo4, (ex2.trans l3.f).trans lm.f, upd_same, hG _ _ _ _ _ _ _ (hm _ _ _ _ _ l3.f hS) lm.f h4⟩
      · rw [hlen _ _ _ _ hS]
        exact Nat.lt_of_le_of_lt (by omega) (by rw [sizeLine_eq]; decide : 100000 < sizeLine)
      · obtain ⟨v, a, b⟩ := c1.sl j R h
        exact ⟨v, a, R.mono ((ex2.trans l3.f).trans lm.f) b⟩
      · obtain ⟨b1, b2, ob, b3, b4, b5⟩ := c5.os r hr
        exact ⟨b1, b2, ob, by rw [upd_ne (fun (z : r.1 = D) => hDo4 (by rw [← z]; exact List.mem_map.mpr ⟨r, hr, rfl⟩))]; exact b3, b4, b5⟩
    · have hi : i = Rs.length := Nat.le_antisymm hle hge
      subst hi
      exact .inl ⟨g2 (List.getElem?_eq_none (Nat.le_refl _)), q D us F2 H2 os ⟨c2.w, c2.len, c2.sl, c2.os, c2.nd, c2.ff.1, c2.en⟩ (l.back hD) hFD hDo nD0 hHD hS⟩
/-- [elt for tg in iter], owned objects changed: the new list frozen at once -/
theorem ew_lcS (S : Nat → List V → List (Addr × Ct) → Hp → Prop) (G : Nat → List (Addr × Ct) → V → Hp → List (Addr × Ct) → Prop) (hm : ∀ i us os F F', Ex F F' → S i us os F → S i us os F') (hlen : ∀ i us os F, S i us os F → us.length = i)
    (hG : ∀ i us os F v F' os', S i us os F → Ex F F' → G i os v F' os' → S (i + 1) (us ++ [v]) os' F')
    (hi : Iv X C tg iter Rs) (ok : BlkOk X.N X.env.scope scope own) (hz : Rs.length ≤ 100000) (h0 : ∀ F, S 0 [] C.os F)
    (hb : ∀ (i : Nat) (R : Rp) (f : Fp) (os : List (Addr × Ct)) (us : List V) (F : Hp), Rs[i]? = some R → S i us os F → TurnS X C scope (own.map (·.2)) tg elt R f os (G i os)) (hN : X.N.Nodup) (hc : X.calm = true := by rfl) (hs : ∀ x, foldedSetIterable iter X.env x = pure x := by intro _; rfl) :
    PE X (.ListComp elt [⟨tg, iter, [], 0⟩] scope pos) fun σ H Q => ∃ F, C.ok σ F H ∧ ∀ D us F' H' os', (C.to C.sl os').ok σ F' H' → SqL X.K F' D us → S Rs.length us os' F' → Q (.ref D) H' := by
  obtain ⟨wi, hpi, hw⟩ := hi
  obtain ⟨g, tt, te, p1, p2, p3, hr⟩ := lc_readS S G hm hlen hG hpi hw ok hz h0 hb hN
  refine PE.of (pe_lc hc hN hpi ok p1 p2 p3 hs) fun σ H Q ⟨F, c, q⟩ => hr σ F H Q c fun D us F' H' os' c' hD f' hDo en hH hS => ?_
  have l5 := c'.en.frz en f' hH (lst_nt us)
  refine q D us (upd F' D (.lst us)) H' os' ⟨l5.w, c'.len, fun j R h => ?_, fun r hr => ?_, c'.nd, C.ff.mono (Evl.Ex.new f') c'.ff, l5⟩ (SqL.of upd_same) (hm _ _ _ _ _ (Evl.Ex.new f') hS)
  · obtain ⟨v, a, b⟩ := c'.sl j R h
    exact ⟨v, a, R.mono (Evl.Ex.new f') b⟩
  · obtain ⟨b1, b2, ob, b3, b4, b5⟩ := c'.os r hr
    exact ⟨by rw [upd_ne (fun (z : r.1 = D) => hDo (by rw [← z]; exact List.mem_map.mpr ⟨r, hr, rfl⟩))]; exact b1, b2, ob, b3, b4, r.2.mono (Evl.Ex.new f') b5⟩
end
end Pl

set_option Elab.async false
set_option autoImplicit false
set_option linter.all false
set_option maxRecDepth 100000
set_option maxHeartbeats 4000000
namespace Pl
open PySem PySem.Spec L2
open GxR (TabG Tabbed)
open LamX (ExtN TabS CodeO)
open NdefX (NTab TabN TabsN NF FnO)

/-! ### owned addresses differ -/
section
variable {X : Cx} {C : Cn} {ss : List Stmt} {D : Ends}
theorem Do.nd (h : (C.os.map Prod.fst).Nodup → Do X ss C.at D) : Do X ss C.at D := fun pins s σ H I ⟨F, c⟩ => h c.nd pins s σ H I ⟨F, c⟩
end
/-! ### rows of owned lists -/
/-- owned objects at as, their contents xs -/
def osG {δ : Type} (ct : Addr → δ → Ct) (as : List Addr) (xs : List δ) : List (Addr × Ct) := List.zipWith (fun a x => (a, ct a x)) as xs
/-- .. lists -/
abbrev osD (K : PySem.W.Frag) (as : List Addr) (dss : List (List PD)) : List (Addr × Ct) := osG (fun _ ds => ctL K ds) as dss
theorem osG_fst {δ : Type} {ct : Addr → δ → Ct} : ∀ {as : List Addr} {xs : List δ}, as.length = xs.length → (osG ct as xs).map Prod.fst = as
  | [], [], _ => rfl
  | a :: as, d :: dss, h => congrArg (a :: ·) (osG_fst (by simpa using h))
  | [], _ :: _, h => by simp at h
  | _ :: _, [], h => by simp at h
theorem findO_app {q : Addr} {os r : List (Addr × Ct)} : q ∉ os.map Prod.fst → findO q (os ++ r) = findO q r := by
  induction os with
  | nil => intro _; rfl
  | cons p os ih =>
    intro h
    rw [List.map_cons, List.mem_cons, not_or] at h
    obtain ⟨a, c⟩ := p
    show (if a = q then some c else findO q (os ++ r)) = _
    rw [if_neg (fun z => h.1 z.symm), ih h.2]
theorem putO_app {q : Addr} {ct : Ct} {os r : List (Addr × Ct)} : q ∉ os.map Prod.fst → putO q ct (os ++ r) = os ++ putO q ct r := by
  induction os with
  | nil => intro _; rfl
  | cons p os ih =>
    intro h
    rw [List.map_cons, List.mem_cons, not_or] at h
    obtain ⟨a, c⟩ := p
    show (if a = q then (a, ct) :: (os ++ r) else (a, c) :: putO q ct (os ++ r)) = _
    rw [if_neg (fun z => h.1 z.symm), ih h.2] <;> rfl
theorem findO_osG {δ : Type} {ct : Addr → δ → Ct} {a : Addr} {x : δ} : ∀ {as : List Addr} {xs : List δ} {i : Nat}, as.Nodup → as[i]? = some a → xs[i]? = some x → findO a (osG ct as xs) = some (ct a x)
  | b :: as, e :: dss, 0, _, h1, h2 => by
    simp at h1 h2
    subst h1
    subst h2
    show (if b = b then some (ct b e) else _) = _
    rw [if_pos rfl]
  | b :: as, e :: dss, i + 1, nd, h1, h2 => by
    obtain ⟨n1, n2⟩ := List.nodup_cons.mp nd
    have h1 : as[i]? = some a := by simpa using h1
    show (if b = a then some (ct b e) else findO a (osG ct as dss)) = _
    rw [if_neg (fun (z : b = a) => n1 (by rw [z]; exact List.mem_of_getElem? h1))]
    exact findO_osG n2 h1 (by simpa using h2)
  | [], _, _, _, h1, _ => by simp at h1
  | _ :: _, [], _, _, _, h2 => by simp at h2
theorem putO_osG {δ : Type} {ct : Addr → δ → Ct} {a : Addr} {x : δ} : ∀ {as : List Addr} {xs : List δ} {i : Nat}, as.Nodup → as.length = xs.length → as[i]? = some a → putO a (ct a x) (osG ct as xs) = osG ct as (xs.set i x)
  | b :: as, e :: dss, 0, _, _, h1 => by
    simp at h1
    subst h1
    show (if b = b then (b, ct b x) :: osG ct as dss else _) = _
    rw [if_pos rfl] <;> rfl
  | b :: as, e :: dss, i + 1, nd, hl, h1 => by
    obtain ⟨n1, n2⟩ := List.nodup_cons.mp nd
    have h1 : as[i]? = some a := by simpa using h1
    show (if b = a then (b, ct a x) :: osG ct as dss else (b, ct b e) :: putO a (ct a x) (osG ct as dss)) = _
    rw [if_neg (fun (z : b = a) => n1 (by rw [z]; exact List.mem_of_getElem? h1)), putO_osG n2 (by simpa using hl) h1] <;> rfl
  | [], _, _, _, _, h1 => by simp at h1
  | _ :: _, [], _, _, hl, _ => by simp at hl
theorem osG_snoc {δ : Type} {ct : Addr → δ → Ct} {q : Addr} {x : δ} : ∀ {as : List Addr} {xs : List δ}, as.length = xs.length → osG ct (as ++ [q]) (xs ++ [x]) = osG ct as xs ++ [(q, ct q x)]
  | [], [], _ => rfl
  | a :: as, d :: dss, h => congrArg ((a, ct a d) :: ·) (osG_snoc (by simpa using h))
  | [], _ :: _, h => by simp at h
  | _ :: _, [], h => by simp at h
theorem dropO_app {q : Addr} {ct : Ct} {r : List (Addr × Ct)} : ∀ {os : List (Addr × Ct)}, q ∉ os.map Prod.fst → dropO q (os ++ (q, ct) :: r) = os ++ r
  | [], _ => by show (if q = q then r else _) = _; rw [if_pos rfl] <;> rfl
  | (b, cb) :: os, h => by
    rw [List.map_cons, List.mem_cons, not_or] at h
    show (if b = q then _ else (b, cb) :: dropO q (os ++ (q, ct) :: r)) = _
    rw [if_neg (fun z => h.1 z.symm), dropO_app h.2] <;> rfl
/-- a frozen list of values -/
def isLV (K : PySem.W.Frag) (D : Addr) (us : List V) : Rp := ⟨fun v F => v = .ref D ∧ SqL K F D us, fun e h => ⟨h.1, Evl.ex_l e h.2⟩⟩
section
variable {X : Cx} {C : Cn} {T : Tbs} {A M : As} {D : Ends} {e elt o tg iter : Expr} {es : List Expr} {rest ss : List Stmt} {pos p p1 p2 spos py : Pos} {x y : Str} {i j : Nat} {R : Rp} {Rs : List Rp} {ct : Ct} {ds : List PD} {d : PD} {l q Dl : Addr} {scope : Scope} {own : List (Str × Nat)} {us : List V} {v : V}
/-- xs[j] -/
theorem ev_ixV {a b : Expr} {j : Int} (h : atI us j = some v) (ha : Ev X C a (isLV X.K Dl us)) (hb : Ev X C b (isD X.K (.int j))) (hs : PlainIx b := by exact fun _ _ => rfl) : Ev X C (.Subscript a b pos) (isV v) :=
  ev_of (pe_ix ix_list ha hb hs) fun σ F H Q c q => run2 c fun x y F' H' l' h1 h2 => ⟨Dl, us, j, v, h1.1, dp_int h2, sq_up l'.w h1.2, h, q v F' H' l' rfl⟩
theorem atI_refs {as : List Addr} {n : Nat} {a : Addr} (h : as[n]? = some a) : atI (as.map V.ref) (n : Int) = some (.ref a) := by
  exact atI_nat (by rw [List.getElem?_map, h] <;> rfl)
/-- a new object as a value that changes what is owned -/
theorem En.tw (h : En X C e ct) : PE X e (tW C fun v F os' => ∃ q, v = .ref q ∧ os' = C.os ++ [(q, ct)]) := PE.of h fun σ H Q ⟨F, c, q⟩ => ⟨F, c, fun p o F' H' l h1 h2 h3 nt h4 => by
  have c' := c.le l
  refine q (.ref p) F' H' (C.os ++ [(p, ct)]) ⟨c'.w, c'.len, c'.sl, fun r hr => ?_, ?_, c'.ff, c'.en⟩ l.lm (fun a ha => ?_) ⟨p, rfl, rfl⟩
  · rcases List.mem_append.mp hr with hr | hr
    · exact c'.os r hr
    · rw [List.mem_singleton.mp hr]
      exact ⟨h2, Classical.byContradiction fun z => c.en.d p z h1, o, h3, nt, h4⟩
  · show ((C.os ++ [(p, ct)]).map Prod.fst).Nodup
    rw [List.map_append]
    refine List.nodup_append.mpr ⟨c.nd, by simp, fun a ha b hb => ?_⟩
    have hb : b = p := by simpa using hb
    rw [hb]
    intro z
    obtain ⟨r, hr, e⟩ := List.mem_map.mp ha
    obtain ⟨_, _, o1, b6, _⟩ := c.os r hr
    rw [e, z, h1] at b6
    cases b6
  · rw [List.map_append, List.mem_append] at ha
    rcases ha with ha | ha
    · exact .inl ha
    · have ha : a = p := by simpa using ha
      exact .inr (by rw [ha]; exact h1)⟩
/-- what the turns of [[] for ..] keep -/
def SRows (C : Cn) (K : PySem.W.Frag) (i : Nat) (us : List V) (os : List (Addr × Ct)) (F : Hp) : Prop := ∃ as : List Addr, as.length = i ∧ us = as.map V.ref ∧ os = C.os ++ osD K as (List.replicate i [])
theorem sRows_next {C : Cn} {K : PySem.W.Frag} {i : Nat} {us : List V} {os os' : List (Addr × Ct)} {F F' : Hp} {v : V} (h : SRows C K i us os F) (g : ∃ q, v = .ref q ∧ os' = os ++ [(q, ctL K [])]) : SRows C K (i + 1) (us ++ [v]) os' F' := by
  obtain ⟨as, h1, h2, h3⟩ := h
  obtain ⟨q, g1, g2⟩ := g
  have e : osD K (as ++ [q]) (List.replicate (i + 1) []) = osD K as (List.replicate i []) ++ [(q, ctL K [])] := by
    rw [List.replicate_succ']
    exact osG_snoc (by simp [h1])
  exact ⟨as ++ [q], by simp [h1], by rw [h2, g1, List.map_append] <;> rfl, by rw [g2, h3, e, List.append_assoc]⟩
/-- [[] for tg in iter] -/
theorem ew_rows {lp : Pos} (hi : Iv X C tg iter Rs) (ok : BlkOk X.N X.env.scope scope own) (hz : Rs.length ≤ 100000)
    (hb : ∀ (i : Nat) (R : Rp) (f : Fp) (os : List (Addr × Ct)), Rs[i]? = some R → ∃ sl ws, (∀ j ∈ ws, j ∈ own.map (·.2)) ∧ Blk X scope fun Y => Tg Y (((C.plus f).to C.sl os).wipe (own.map (·.2))) R tg ((C.plus f).to sl os) ws) (hN : X.N.Nodup) (hc : X.calm = true := by rfl) (hs : ∀ x, foldedSetIterable iter X.env x = pure x := by intro _; rfl) :
    PE X (.ListComp (.List [] lp) [⟨tg, iter, [], 0⟩] scope pos) fun σ H Q => ∃ F, C.ok σ F H ∧ ∀ Dl as F' H', as.length = Rs.length → (C.to C.sl (C.os ++ osD X.K as (List.replicate Rs.length []))).ok σ F' H' → SqL X.K F' Dl (as.map V.ref) → Q (.ref Dl) H' := by
  refine PE.of (ew_lcS (SRows C X.K) (fun i os v F' os' => ∃ q, v = .ref q ∧ os' = os ++ [(q, ctL X.K [])]) (fun i us os F F' _ h => h) (fun i us os F h => ?_) (fun i us os F v F' os' h _ g => sRows_next h g) hi ok hz (fun F => ⟨[], rfl, rfl, by simp [osD, osG]⟩) (fun i R f os us F hR hS => ?_) hN hc hs) fun σ H Q ⟨F, c, q⟩ => ⟨F, c, fun D us F' H' os' c' sq hS => ?_⟩
  · obtain ⟨as, h1, h2, _⟩ := h
    rw [h2, List.length_map, h1]
  · obtain ⟨sl, ws, h1, h2⟩ := hb i R f os hR
    exact ⟨sl, ws, h1, fun s H Ca cl fp => ⟨h2 s H Ca cl fp, En.tw (en_lst (ds := []) ea_nil)⟩⟩
  · obtain ⟨as, h1, h2, h3⟩ := hS
    subst h2
    subst h3
    exact q D as F' H' h1 c' sq
/-- all the rows are frozen -/
theorem Cn.ok.frzD {K : PySem.W.Frag} {σ : L2.St} {sl : List (Option Rp)} {os1 : List (Addr × Ct)} {H : Hp} : ∀ {as : List Addr} {dss : List (List PD)} {F : Hp}, as.length = dss.length → (C.to sl (os1 ++ osD K as dss)).ok σ F H → ∃ F', Ex F F' ∧ (C.to sl os1).ok σ F' H ∧ DpAll K F' (as.map V.ref) (dss.map PyData.list)
  | [], [], F, _, c => ⟨F, Evl.Ex.refl _, by simpa [osD, osG] using c, .nil⟩
  | a :: as, d :: dss, F, hl, c => by
    have nd : ((os1 ++ (a, ctL K d) :: osD K as dss).map Prod.fst).Nodup := c.nd
    rw [List.map_append, List.map_cons] at nd
    have na : a ∉ os1.map Prod.fst := fun z => by
      have := (List.nodup_append.mp nd).2.2 a z a List.mem_cons_self
      exact this rfl
    have fa : findO a (os1 ++ (a, ctL K d) :: osD K as dss) = some (ctL K d) := by
      rw [findO_app na]
      show (if a = a then some (ctL K d) else _) = _
      rw [if_pos rfl]
    obtain ⟨o, h1, h2, h3, c2⟩ := Cn.ok.frz (C := C.to sl (os1 ++ (a, ctL K d) :: osD K as dss)) c fa
    have c2 : (C.to sl (dropO a (os1 ++ (a, ctL K d) :: osD K as dss))).ok σ (upd F a o) H := c2
    rw [dropO_app na] at c2
    obtain ⟨F', e, c3, al⟩ := Cn.ok.frzD (as := as) (dss := dss) (by simpa using hl) c2
    exact ⟨F', (Evl.Ex.new h3).trans e, c3, .cons (dp_mono e (ctL_frz h3 h2)) al⟩
  | [], _ :: _, _, hl, _ => by simp at hl
  | _ :: _, [], _, hl, _ => by simp at hl
theorem do_frzRows {os1 : List (Addr × Ct)} {as : List Addr} {dss : List (List PD)} (i : Nat) (Dl : Addr) (hl : as.length = dss.length) (hos : C.os = os1 ++ osD X.K as dss) (hs : C.sl[i]? = some (some (isLV X.K Dl (as.map V.ref)))) (h : Do X ss ((C.to C.sl os1).set i (isD X.K (.list (dss.map PyData.list)))).at D) : Do X ss C.at D := by
  refine h.pre fun σ H ⟨F, c⟩ => ?_
  have c0 : (C.to C.sl (os1 ++ osD X.K as dss)).ok σ F H := by rw [← hos]; exact c
  obtain ⟨F', e, c1, al⟩ := Cn.ok.frzD hl c0
  have hi : i < C.sl.length := (List.getElem?_eq_some_iff.mp hs).1
  obtain ⟨v, e1, e2, sq⟩ := c.sl i _ hs
  have c2 := c1.set (i := i) (R := isD X.K (.list (dss.map PyData.list))) (v := .ref Dl) hi (.lst (Evl.ex_l e sq) al)
  have ee : σ.set i (some (V.ref Dl)) = σ := by
    refine List.ext_getElem? fun j => ?_
    by_cases hj : i = j
    · subst hj
      rw [List.getElem?_set_self (by rw [c.len]; exact hi), e1, e2]
    · rw [List.getElem?_set_ne hj]
  rw [ee] at c2
  exact ⟨F', c2⟩
/-! ### setdefault -/
noncomputable def dsetd (kvs : Kvs) (k v : PD) : Kvs := if (dget kvs k).isSome then kvs else dput kvs k v
/-- d.setdefault(k, v), keys ints or texts -/
theorem ew_setdI {kvs : Kvs} {k v : PD} {o e f : Expr} {apos cpos : Pos} (hf : findO l C.os = some (ctDI X.K kvs)) (hk : KeyI k) (hz : kvs.length < 100000) (ho : Ev X C o (isA l)) (he : Ev X C e (isD X.K k)) (hv : Ev X C f (isD X.K v)) (m : M2 X o "setdefault" apos e f cpos) :
    Ew X C (.Call (.Attribute o "setdefault" apos) [e, f] [] cpos) (isD X.K ((dget kvs k).getD v)) (putO l (ctDI X.K (dsetd kvs k v)) C.os) := PE.of (pe_dsetd ho he hv m) fun σ H Q ⟨F, c, q⟩ => ⟨F, c, fun x F1 H1 l1 h1 => by
  obtain ⟨ob1, g1, kv1, rfl, m1⟩ := (c.le l1).at hf
  refine ⟨l, h1, .inl ⟨kv1, .inl g1⟩, F1, c.le l1, fun y F2 H2 l2 h2 => ⟨F2, (c.le l1).le l2, fun z F3 H3 l3 h3 => ?_⟩⟩
  have c3 := ((c.le l1).le l2).le l3
  obtain ⟨ob, g3, kv, rfl, m3⟩ := c3.at hf
  obtain ⟨j, hj⟩ := hk
  have hy := dp_mono l3.f h2
  have hmem := findO_mem hf
  have hzk : kv.length < sizeLine := Nat.lt_of_lt_of_le (by rw [pi1_len m3]; exact hz) (by rw [sizeLine_eq]; decide)
  have gk := pi1_get hj m3
  have hsub : ∀ a ∈ (putO l (ctDI X.K (dsetd kvs k v)) C.os).map Prod.fst, a ∈ C.os.map Prod.fst ∨ H a = none := fun a ha => .inl (by rw [putO_fst] at ha; exact ha)
  have l13 : Lm C.T (C.os.map Prod.fst) F H F3 H3 := ((l1.trans l2).trans l3).lm
  refine ⟨kv, j, g3, keyI_v hj h2, hzk, fun u hu => ?_, fun hn => ?_⟩
  · rw [hu] at gk
    cases e2 : dget kvs k with
    | none => rw [e2] at gk; cases gk
    | some d' =>
      rw [e2] at gk
      have e3 : dsetd kvs k v = kvs := by unfold dsetd; rw [e2]; rfl
      have c4 := c3.put (F0 := F3) (ct' := ctDI X.K kvs) hmem g3 (dK_nt kv) ⟨kv, rfl, m3⟩
      have eH : upd H3 l (.dK kv) = H3 := funext fun a => by
        by_cases z : a = l
        · rw [z, upd_same, g3]
        · rw [upd_ne z]
      rw [eH] at c4
      rw [e3] at hsub
      exact q u F3 H3 _ c4 l13 hsub ⟨by rw [e2]; exact gk, by rw [e3]⟩
  · rw [hn] at gk
    cases e2 : dget kvs k with
    | some d' => rw [e2] at gk; cases gk
    | none =>
      have e3 : dsetd kvs k v = dput kvs k v := by unfold dsetd; rw [e2]; rfl
      have hp := c3.put (F0 := F3) (ct' := ctDI X.K (dput kvs k v)) (o' := .dK (putK kv j z)) hmem g3 (dK_nt _) ⟨_, rfl, pi1_put hj h3 m3⟩
      obtain ⟨a1, a2, o1, a3, a4, _⟩ := c3.os _ hmem
      rw [e3] at hsub
      exact q z F3 _ _ hp (l13.trans (c3.en.mutm a1 a2 g3 (dK_nt _) (dK_nt _) (List.mem_map.mpr ⟨_, hmem, rfl⟩))) hsub ⟨by rw [e2]; exact h3, by rw [e3]⟩⟩
/-- {k: v} -/
theorem en_disp1 {k : PD} {v : PD} {ke ve : Expr} (hk : KeyI k) (he : Ev X C ke (isD X.K k)) (hv : Ev X C ve (isD X.K v)) : En X C (.Dict [some ke] [ve] pos) (ctDI X.K [(k, v)]) :=
  PE.of (pe_disp (pps_cons he hv pps_nil) rfl rfl (by simp) (by simp)) fun σ H Q ⟨F, c, q⟩ => fun p hp => by
    have l0 := Le.newH (o := .dK []) c.w hp
    refine ⟨F, c.le l0, fun x F1 H1 l1 h1 => ⟨F1, (c.le l0).le l1, fun y F2 H2 l2 h2 => ?_⟩⟩
    have l12 := l1.trans l2
    have hpF : F2 p = none := l12.n p (wok_none c.w hp) (by rw [upd_same]; exact fun z => by cases z)
    have hpH : H2 p = some (.dK []) := l12.h _ _ upd_same (dK_nt _)
    obtain ⟨j, hj⟩ := hk
    have hx := keyI_v hj h1
    have nD0 : C.enH p = none := Classical.byContradiction fun z => c.en.d p z hp
    have l5 : Le C.T F H F2 (upd H2 p (.dK (mergeK [] [(j, y)]))) := (l0.trans l12).mut hpF hp hpH (dK_nt _) (dK_nt _)
    exact ⟨hpH, [(j, y)], by rw [hx] <;> rfl, by simp, q p _ F2 _ l5 hp hpF upd_same (dK_nt _) ⟨[(j, y)], rfl, .cons ⟨hj, h2⟩ .nil⟩⟩
/-! ### d.get(k, v), list + list, list.index -/
theorem ev_dgetd {kvs : Kvs} {k v : PD} {o e f : Expr} {apos cpos : Pos} (hu : X.A.units + 64 < cLine) (hf : findO l C.os = some (ctDI X.K kvs)) (hk : KeyI k) (ho : Ev X C o (isA l)) (he : Ev X C e (isD X.K k)) (hv : Ev X C f (isD X.K v)) (m : M2 X o "get" apos e f cpos) :
    Ev X C (.Call (.Attribute o "get" apos) [e, f] [] cpos) (isD X.K ((dget kvs k).getD v)) := ev_of (pe_dget2 (by omega) ho he hv m) fun σ F H Q c q => ⟨F, c, fun x F1 H1 l1 h1 => by
  obtain ⟨ob1, g1, kv1, rfl, m1⟩ := (c.le l1).at hf
  refine ⟨l, h1, .inl ⟨kv1, .inl g1⟩, F1, c.le l1, fun y F2 H2 l2 h2 => ⟨F2, (c.le l1).le l2, fun z F3 H3 l3 h3 => ?_⟩⟩
  obtain ⟨o', g, r⟩ := dgetI_at (((c.le l1).le l2).le l3) hf hk (dp_mono l3.f h2)
  refine ⟨o', g, q _ F3 H3 ((l1.trans l2).trans l3) ?_⟩
  cases e2 : dget kvs k with
  | none =>
    rw [e2] at r
    cases o' with
    | none => exact h3
    | some u => cases r
  | some d' =>
    rw [e2] at r
    obtain ⟨v', rfl, hv'⟩ := optR_some r
    exact hv'⟩
def rCatL (K : PySem.W.Frag) : R2 := fun x y H Q => ∃ l b xs zs, x = .ref l ∧ y = .ref b ∧ SqL K H l xs ∧ SqL K H b zs ∧ xs.length + zs.length ≤ sizeLine ∧ ∀ p, H p = none → Q (.ref p) (upd H p (.lst (xs ++ zs)))
theorem op_catL : OpR X (binaryOp .Add) (rCatL X.K) := by
  intro pins s σ H x y v u Q I rx ry h
  obtain ⟨l, b, xs, zs, rfl, rfl, hH, hB, hz, q⟩ := h
  cases rx
  cases ry
  obtain ⟨its, r, pl, hz1⟩ := I.list hH
  obtain ⟨its2, r2, pl2, hz2⟩ := I.list hB
  obtain ⟨⟨cls, dd, data, sl⟩, ho, hc, n, hd⟩ := pl.isList
  obtain ⟨⟨cls2, dd2, data2, sl2⟩, ho2, hc2, n2, hd2⟩ := pl2.isList
  simp only at hc hd hc2 hd2
  subst hc hd hc2 hd2
  have ea : its.toArray ++ its2.toArray = (its ++ its2).toArray := by simp
  refine concat_meets ⟨_, ho, rfl⟩ ⟨_, ho2, rfl⟩ noFill_list_add seq_list_add PySem.F.slot_list_add PySem.F.entry_list_add (PySem.F.args_list_add_2 _ _) (PyProof.Rows.list_addW l b its.toArray its2.toArray n n2 dd dd2 sl sl2 (by rw [List.size_toArray, List.size_toArray, ← r.length, ← r2.length]; exact hz)) ⟨ho, ho2, ?_⟩
  rw [ea]
  exact ⟨.ref _, _, I.lnew (t' := s.toks) (r.append r2) (by rw [List.length_append]; omega), rfl, q _ I.fresh⟩
theorem en_catL {a b : Expr} {ds ds' : List PD} (hz : ds.length + ds'.length ≤ 100000) (ha : Ev X C a (isD X.K (.list ds))) (hb : Ev X C b (isD X.K (.list ds'))) : En X C (.BinOp a .Add b pos) (ctL X.K (ds ++ ds')) :=
  en_of (pe_op op_catL ha hb) fun σ F H Q c q => run2 c fun x y F' H' l' h1 h2 => by
    obtain ⟨p1, xs, rfl, s1, a1⟩ := dp_lst h1
    obtain ⟨p2, ys, rfl, s2, a2⟩ := dp_lst h2
    exact ⟨p1, p2, xs, ys, rfl, rfl, sq_up l'.w s1, sq_up l'.w s2, by rw [dpAll_length a1, dpAll_length a2, sizeLine_eq]; omega, fun p hp => q p _ F' _ (l'.trans (Le.newH l'.w hp)) (l'.back hp) (wok_none l'.w hp) upd_same (lst_nt _) ⟨_, rfl, dpAll_append a1 a2⟩⟩
/-- xs.index(n), xs owned, ints -/
theorem ev_indexO {o e : Expr} {apos cpos : Pos} {ns : List Int} {n : Int} {j : Nat} (hf : findO l C.os = some (ctL X.K (ns.map PyData.int))) (hj : ns[j]? = some n) (hno : ∀ m z, m < j → ns[m]? = some z → z ≠ n) (ho : Ev X C o (isA l)) (he : Ev X C e (isD X.K (.int n)))
    (hbase : attributeBase o "index" X.env (eval o X.env) = eval o X.env := by rfl) (hfew : ((backTo cpos (starEach [e] X.env)).all (fun x => !x.1) && (backToKw cpos (keywordEach [] X.env)).all (fun x => x.1.isSome) && decide ([e].length + ([] : List Keyword).length + (if ([] : List Keyword).isEmpty then 0 else 1) < 30)) = true := by rfl)
    (hline : (apos.endLine == cpos.line) = true := by rfl) (hse : starEach [e] X.env = (false, eval e X.env) :: starEach [] X.env := by rfl) (hplain : (backTo cpos (starEach [] X.env)).any (·.1) = false := by rfl) : Ev X C (.Call (.Attribute o "index" apos) [e] [] cpos) (isD X.K (.int (j : Int))) :=
  ev_of (pe_bm PySem.F.plainAttrs_list PySem.F.slot_list_index PySem.F.type_list_index mt_index ho (ea1 he hse) hbase hfew hline hse hplain) fun σ F H Q c q => ⟨F, c, fun x F1 H1 l1 h1 => by
    obtain ⟨xs, g1, al⟩ := (c.le l1).lstAt hf
    have h1 : x = .ref l := h1
    subst h1
    refine ⟨.inl ⟨rfl, xs, SqL.of g1⟩, F1, c.le l1, fun vs F2 H2 l2 ft => ?_⟩
    obtain ⟨y, rfl, h2⟩ := fit1 ft
    obtain ⟨ys, g2, al2⟩ := ((c.le l1).le l2).lstAt hf
    have ey := dpAll_ints al2
    subst ey
    rw [dp_int h2]
    refine ⟨l, ns.map V.int, .int n, j, .int n, rfl, rfl, SqL.of g2, rfl, by simp [flatV], by rw [List.getElem?_map, hj] <;> rfl, by simp [eqV], fun m z hm hz => ?_, q _ F2 H2 (l1.trans l2) (.int _)⟩
    rw [List.getElem?_map] at hz
    cases e : ns[m]? with
    | none => rw [e] at hz; cases hz
    | some w =>
      rw [e] at hz
      cases hz
      have := hno m w hm e
      simp [eqV, this]⟩
end
end Pl

set_option Elab.async false
set_option autoImplicit false
set_option linter.all false
set_option maxRecDepth 100000
set_option maxHeartbeats 4000000
namespace Pl
open PySem PySem.Spec PyProof.Rows L2
open PySem.W (sortingHeap sortingHeap_old EachIs AllAlike Sortable alike alikeAll dataLe dataLt keyToks keyToksAll)
open GxR (TabG Tabbed)
open LamX (ExtN TabS CodeO)
open NdefX (NTab TabN TabsN NF FnO)

section
variable {X : Cx} {C : Cn} {T : Tbs} {A M : As} {D : Ends} {e elt o tg iter : Expr} {es : List Expr} {rest ss : List Stmt} {pos p p1 p2 spos py : Pos} {x y : PySem.Str} {i j : Nat} {R : Rp} {Rs : List Rp} {ct : Ct} {ds : List PD} {d : PD} {l q Dl : Addr} {scope : Scope} {own : List (PySem.Str × Nat)} {us : List V} {v : V} {kvs : Kvs}
/-- d.setdefault(k, v), keys tuples -/
theorem ew_setdN {k v : PD} {o e f : Expr} {apos cpos : Pos} (hu : X.A.units + 64 < cLine) (hf : findO l C.os = some (ctDN X.prog X.w X.K l kvs)) (hk : KD k) (hz : kvs.length < 100000) (ho : Ev X C o (isA l)) (he : Ev X C e (isD X.K k)) (hv : Ev X C f (isD X.K v)) (m : M2 X o "setdefault" apos e f cpos) :
    Ew X C (.Call (.Attribute o "setdefault" apos) [e, f] [] cpos) (isD X.K ((dget kvs k).getD v)) (putO l (ctDN X.prog X.w X.K l (dsetd kvs k v)) C.os) := by
  refine ⟨fun pins s σ H Q I ⟨F, c, q⟩ => ?_⟩
  refine wpAny_Call_method m.base m.few m.line PySem.F.plainAttrs_dict PySem.F.slot_dict_setdefault PySem.F.type_dict_setdefault (thn (ho.run pins s σ H (fun x H1 => x = .ref l ∧ ∃ F1, C.ok σ F1 H1 ∧ Le C.T F H F1 H1) I ⟨F, c, fun x F1 H1 l h => ⟨h, F1, c.le l, l⟩⟩) fun u s1 ⟨x, H1, I1, rx, e1, F1, c1, l1⟩ => ?_)
  subst e1
  obtain rfl : u = Value.ref l := rx
  obtain ⟨ob1, g1, raw1, rfl, m1⟩ := c1.at hf
  obtain ⟨_, _, xs1, _, Dh1⟩ := dn_of I1 c1.w.i g1 m1
  obtain ⟨o1, es1, ep1, ho1, hx1, hd1, _⟩ := id Dh1
  refine ⟨Dh1.typeIs, fun b z => by cases z; exact ⟨o1, ho1, hx1.2.1⟩, ?_⟩
  rw [m.trees]
  refine Calls.callWith_builtin rfl (Calls.evalArgs_plain (Calls.spliced_cons (thn (he.run pins s1 σ H1 (fun y H2 => ∃ F2, C.ok σ F2 H2 ∧ Le C.T F1 H1 F2 H2 ∧ Dp X.K F2 y k) I1 ⟨F1, c1, fun y F2 H2 l h => ⟨F2, c1.le l, l, h⟩⟩) fun iv s2 ⟨y, H2, I2, ry, F2, c2, l2, hy⟩ =>
    Calls.spliced_cons (thn (hv.run pins s2 σ H2 (fun z H3 => ∃ F3, C.ok σ F3 H3 ∧ Le C.T F2 H2 F3 H3 ∧ Dp X.K F3 z v) I2 ⟨F2, c2, fun z F3 H3 l h => ⟨F3, c2.le l, l, h⟩⟩) fun fv s3 ⟨z, H3, I3, rz, F3, c3, l3, hz3⟩ => Calls.spliced_nil ?_))))
  have hy := dp_mono l3.f hy
  obtain ⟨ob, h3, raw, rfl, m3⟩ := c3.at hf
  obtain ⟨a1, a2, xs, a3, Dh⟩ := dn_of I3 c3.w.i h3 m3
  obtain ⟨k1, k2, ks, rfl⟩ := hk
  obtain ⟨a, vs, rfl, sq, al⟩ := dp_tup (id hy)
  cases ry
  have hx : (nestedKind X.prog X.w).is s3.heap (nk (.tuple ks)) a := ⟨dp_nested I3 (.tuple ks) (.ref a) (.ref a) (dp_mono c3.w.i hy) rfl k1, Nat.le_trans (nk_depth _) k2⟩
  have hlen : raw.length < 100000 := by rw [Paired.length m3]; exact hz
  have l13 : Lm C.T (C.os.map Prod.fst) F H F3 H3 := ((l1.trans l2).trans l3).lm
  have hmem := findO_mem hf
  have hsub : ∀ a ∈ (putO l (ctDN X.prog X.w X.K l (dsetd kvs (.tuple ks) v)) C.os).map Prod.fst, a ∈ C.os.map Prod.fst ∨ H a = none := fun a ha => .inl (by rw [putO_fst] at ha; exact ha)
  refine call_setdefault_heap (show X.A.units + 1 + 8 < cLine by omega) hx a1 Dh (fun pr hp => ?_) (fun hn h' D' sb => ?_) (by rw [← Paired.length a3]; exact a2)
  · rcases pn1_get (K := X.K) (F := F3) ⟨k1, k2, ks, rfl⟩ m3 a3 with ⟨e1, _⟩ | ⟨a', u', v', d', e1, e2, e3, e4⟩
    · rw [hp] at e1; cases e1
    · rw [hp] at e1
      cases e1
      have e5 : dsetd kvs (.tuple ks) v = kvs := by unfold dsetd; rw [e2]; rfl
      have c4 := c3.put (F0 := F3) (ct' := ctDN X.prog X.w X.K l kvs) (o' := DictNO X.prog X.w l raw) hmem h3 (dictNO_nt _ _ _ _) ⟨raw, rfl, m3⟩
      have eH : upd H3 l (DictNO X.prog X.w l raw) = H3 := funext fun a => by
        by_cases z : a = l
        · rw [z, upd_same, h3]
        · rw [upd_ne z]
      rw [eH] at c4
      rw [e5] at hsub
      exact ⟨v', H3, I3.tok _, e3, q v' F3 H3 _ c4 l13 hsub ⟨by rw [e2]; exact e4, by rw [e5]⟩⟩
  · have e2 : dget kvs (.tuple ks) = none := by
      rcases pn1_get (K := X.K) (F := F3) ⟨k1, k2, ks, rfl⟩ m3 a3 with ⟨_, e2⟩ | ⟨a', u', v', d', e1, e2, e3, e4⟩
      · exact e2
      · rw [hn] at e1; cases e1
    have e5 : dsetd kvs (.tuple ks) v = dput kvs (.tuple ks) v := by unfold dsetd; rw [e2]; rfl
    have l3' : (rput raw (nk (.tuple ks)) a z).length ≤ sizeLine := Nat.le_trans (rput_len _ _ _ _) (by rw [sizeLine_eq]; omega)
    have hp := c3.put (F0 := F3) (ct' := ctDN X.prog X.w X.K l (dput kvs (.tuple ks) v)) hmem h3 (dictNO_nt _ _ _ _) ⟨_, rfl, pn1_put ⟨k1, k2, ks, rfl⟩ hy hz3 m3⟩
    obtain ⟨b1, b2, ob, b3, b4, _⟩ := c3.os _ hmem
    rw [e5] at hsub
    exact ⟨z, _, dn_put I3 h3 a1 l3' (rel_put a3 rz) D' sb, rz, q z F3 _ _ hp (l13.trans (c3.en.mutm b1 b2 h3 (dictNO_nt _ _ _ _) (dictNO_nt _ _ _ _) (List.mem_map.mpr ⟨_, hmem, rfl⟩))) hsub ⟨by rw [e2]; exact hz3, by rw [e5]⟩⟩
/-! ### frozen dicts -/
theorem rd_mono {F F' : Hp} {d : Addr} {u : HO} (e : Ex F F') (h : Rd F d u) : Rd F' d u := h.elim (fun z => .inl (e _ _ z)) fun ⟨o, z⟩ => .inr ⟨o, e _ _ z⟩
/-- a dict whose values are told one by one -/
abbrev Ptb (F : Hp) : List (Key × V) → List (PD × Rp) → Prop := Paired fun r q => keyI r.1 q.1 ∧ q.2.p r.2 F
theorem ptb_mono {F F' : Hp} (e : Ex F F') {kv : List (Key × V)} {tb : List (PD × Rp)} (h : Ptb F kv tb) : Ptb F' kv tb := L2.Paired.mapP h fun _ q g => ⟨g.1, q.2.mono e g.2⟩
open Classical in
noncomputable def tget (tb : List (PD × Rp)) (k : PD) : Option Rp := (tb.find? fun q => decide (q.1 = k)).map (·.2)
def isDR (tb : List (PD × Rp)) : Rp := ⟨fun v F => ∃ d kv, v = .ref d ∧ Rd F d (.dK kv) ∧ Ptb F kv tb, fun e ⟨d, kv, h1, h2, h3⟩ => ⟨d, kv, h1, rd_mono e h2, ptb_mono e h3⟩⟩
/-- .. locked: it may be looped over -/
def isDL (K : PySem.W.Frag) (kvs : Kvs) : Rp := ⟨fun v F => ∃ d o kv, v = .ref d ∧ F d = some (.frz o (.dK kv)) ∧ PI1 K F kv kvs, fun e ⟨d, o, kv, h1, h2, h3⟩ => ⟨d, o, kv, h1, e _ _ h2, pi1_mono e h3⟩⟩
theorem tget_cons (q : PD × Rp) (r : List (PD × Rp)) (k : PD) : tget (q :: r) k = (open Classical in if q.1 = k then some q.2 else tget r k) := by
  unfold tget
  by_cases h : q.1 = k
  · simp [List.find?_cons, h]
  · simp [List.find?_cons, h]
theorem ptb_get {F : Hp} {k : Key} {d : PD} {R : Rp} (hk : keyI k d) : ∀ {kv : List (Key × V)} {tb : List (PD × Rp)}, Ptb F kv tb → tget tb d = some R → ∃ v, valV kv k = some v ∧ R.p v F
  | [], [], .nil, h => by cases h
  | p :: kv, q :: tb, .cons g t, h => by
    rw [tget_cons] at h
    by_cases e : p.1 = k
    · rw [if_pos ((keyI_inj g.1 hk).mp e)] at h
      cases h
      exact ⟨p.2, valV_pos e, g.2⟩
    · rw [if_neg (fun z => e ((keyI_inj g.1 hk).mpr z))] at h
      obtain ⟨v, h1, h2⟩ := ptb_get hk t h
      exact ⟨v, by rw [valV_neg e]; exact h1, h2⟩
/-- d[k], d frozen -/
theorem ev_dgetR {tb : List (PD × Rp)} {k : PD} {a b : Expr} (hu : X.A.units + 64 < cLine) (hk : KeyI k) (hg : tget tb k = some R) (ha : Ev X C a (isDR tb)) (hb : Ev X C b (isD X.K k)) (hs : NoSl b := by exact fun _ _ => rfl) : Ev X C (.Subscript a b pos) R :=
  ev_of (pe_dget (by omega) ha hb hs) fun σ F H Q c q => run2 c fun x y F' H' l h1 h2 => by
    obtain ⟨d, kv, rfl, rd, pt⟩ := h1
    obtain ⟨j, hj⟩ := hk
    obtain ⟨v, e1, e2⟩ := ptb_get hj pt hg
    exact ⟨d, v, rfl, .inl ⟨kv, j, rd_mono l.w.i rd, keyI_v hj h2, e1.symm⟩, q v F' H' l e2⟩
theorem ev_dgetL {k v : PD} {a b : Expr} (hu : X.A.units + 64 < cLine) (hk : KeyI k) (hg : dget kvs k = some v) (ha : Ev X C a (isDL X.K kvs)) (hb : Ev X C b (isD X.K k)) (hs : NoSl b := by exact fun _ _ => rfl) : Ev X C (.Subscript a b pos) (isD X.K v) :=
  ev_of (pe_dget (by omega) ha hb hs) fun σ F H Q c q => run2 c fun x y F' H' l h1 h2 => by
    obtain ⟨d, o, kv, rfl, rd, pt⟩ := h1
    obtain ⟨j, hj⟩ := hk
    have r := pi1_get hj pt
    rw [hg] at r
    obtain ⟨v', e1, e2⟩ := optR_some r
    exact ⟨d, v', rfl, .inl ⟨kv, j, .inr ⟨o, l.w.i _ _ rd⟩, keyI_v hj h2, e1.symm⟩, q v' F' H' l e2⟩
/-- for k in d -/
theorem iv_keys (h : Ev X C e (isDL X.K kvs)) : Iv X C tg e (kvs.map fun q => isD X.K q.1) := by
  refine ⟨_, pi_keys h, fun σ F H c G k => ⟨F, c, fun v F' H' l z => ?_⟩⟩
  obtain ⟨d, o, kv, rfl, fz, pt⟩ := z
  refine ⟨d, o, rfl, .inl ⟨kv, l.w.i _ _ fz, k _ ⟨fun F => F d = some (.frz o (.dK kv)) ∧ PI1 X.K F kv kvs, fun e q => ⟨e _ _ q.1, pi1_mono e q.2⟩⟩ F' H' l (fun i F1 H1 w ⟨s1, a1⟩ => ⟨fun R hR => ?_, fun hn => ?_⟩) ⟨fz, pt⟩⟩⟩
  · rw [List.getElem?_map] at hR
    cases q : kvs[i]? with
    | none => rw [q] at hR; cases hR
    | some d' =>
      rw [q] at hR
      cases hR
      obtain ⟨hlt, _⟩ := List.getElem?_eq_some_iff.mp q
      have hlt' : i < kv.length := by rw [pi1_len a1]; exact hlt
      refine ⟨⟨w.i _ _ s1, hlt'⟩, fun x H2 ⟨e3, k0, v0, e4, e5⟩ => ⟨F1, by rw [e3]; exact w.le, ?_⟩⟩
      have : ∀ {kv : List (Key × V)} {kvs : Kvs} {i : Nat} {k0 : Key} {v0 : V} {d' : PD × PD}, PI1 X.K F1 kv kvs → kv[i]? = some (k0, v0) → kvs[i]? = some d' → keyI k0 d'.1 := by
        intro kv kvs i k0 v0 d' a
        induction a generalizing i with
        | nil => intro h; simp at h
        | cons h t ih =>
          intro h1 h2
          cases i with
          | zero =>
            simp at h1 h2
            rw [← h2]
            have := h.1
            rw [h1] at this
            exact this
          | succ i => exact ih (by simpa using h1) (by simpa using h2)
      have hk := this a1 e4 q
      rw [e5]
      show Dp X.K F1 _ d'.1
      cases k0 with
      | inl n => rw [show d'.1 = .int n from hk]; exact .int n
      | inr z => rw [show d'.1 = .str z from hk]; exact .str z
  · exact ⟨w.i _ _ s1, by rw [pi1_len a1]; simpa using hn⟩
/-- an owned dict is locked: from now on it may be looped over -/
theorem do_lock (i : Nat) (q : Addr) (hs : C.sl[i]? = some (some (isA q))) (hf : findO q C.os = some (ctDI X.K kvs)) (h : Do X ss ((C.to C.sl (dropO q C.os)).set i (isDL X.K kvs)).at D) : Do X ss C.at D := by
  intro pins s σ H I ⟨F, c⟩
  obtain ⟨ob, h1, kv, rfl, m⟩ := c.at hf
  obtain ⟨od, I2⟩ := I.lock h1 trivial
  have c2 := c.put (F0 := F) (ct' := ctO (.frz od (.dK kv))) (o' := .frz od (.dK kv)) (findO_mem hf) h1 (fun ps z => by cases z) rfl
  have hf2 : findO q (C.put q (ctO (.frz od (.dK kv)))).os = some (ctO (.frz od (.dK kv))) := by
    have : ∀ {os : List (Addr × Ct)} {ct : Ct}, findO q os = some ct → findO q (putO q (ctO (.frz od (.dK kv))) os) = some (ctO (.frz od (.dK kv))) := by
      intro os ct
      induction os with
      | nil => intro h; cases h
      | cons p os ih =>
        intro h
        obtain ⟨a, ca⟩ := p
        unfold findO at h
        unfold putO
        by_cases e : a = q
        · rw [if_pos e]
          show (if a = q then _ else _) = _
          rw [if_pos e]
        · rw [if_neg e] at h ⊢
          show (if a = q then _ else _) = _
          rw [if_neg e]
          exact ih h
    exact this hf
  obtain ⟨o, h3, h4, h5, c3⟩ := c2.frz hf2
  have h4 : o = .frz od (.dK kv) := h4
  subst h4
  have ed : dropO q (putO q (ctO (.frz od (.dK kv))) C.os) = dropO q C.os := by
    have : ∀ os : List (Addr × Ct), dropO q (putO q (ctO (.frz od (.dK kv))) os) = dropO q os := by
      intro os
      induction os with
      | nil => rfl
      | cons p os ih =>
        obtain ⟨a, ca⟩ := p
        unfold putO
        by_cases e : a = q
        · rw [if_pos e]
          show (if a = q then _ else _) = (if a = q then _ else _)
          rw [if_pos e, if_pos e]
        · rw [if_neg e]
          show (if a = q then _ else _) = (if a = q then _ else _)
          rw [if_neg e, if_neg e, ih]
    exact this C.os
  have c3 : (C.to C.sl (dropO q (putO q (ctO (.frz od (.dK kv))) C.os))).ok σ (upd F q (.frz od (.dK kv))) (upd H q (.frz od (.dK kv))) := c3
  rw [ed] at c3
  have hi : i < C.sl.length := (List.getElem?_eq_some_iff.mp hs).1
  obtain ⟨v, e1, e2⟩ := c.sl i _ hs
  have e2 : v = .ref q := e2
  have c4 := c3.set (i := i) (R := isDL X.K kvs) (v := .ref q) hi ⟨q, od, kv, rfl, upd_same, pi1_mono (Evl.Ex.new h5) m⟩
  have e : σ.set i (some (V.ref q)) = σ := by
    refine List.ext_getElem? fun j => ?_
    by_cases hj : i = j
    · subst hj
      rw [List.getElem?_set_self (by rw [c.len]; exact hi), e1, e2]
    · rw [List.getElem?_set_ne hj]
  rw [e] at c4
  exact h pins s σ _ I2 ⟨_, c4⟩
/-! ### sorted(d), keys tuples -/
def isDN (P : Program) (w : World) (K : PySem.W.Frag) (kvs : Kvs) : Rp := ⟨fun v F => ∃ d raw, v = .ref d ∧ F d = some (DictNO P w d raw) ∧ PN1 K F raw kvs, fun e ⟨d, raw, h1, h2, h3⟩ => ⟨d, raw, h1, e _ _ h2, pn1_mono e h3⟩⟩
def rSortedDN (P : Program) (w : World) (K : PySem.W.Frag) : List V → Hp → VK → Prop := fun vs H Q => ∃ (d : Addr) (raw : RawN) (F : Hp) (kvs : Kvs), vs = [.ref d] ∧ Ex F H ∧ H d = some (DictNO P w d raw) ∧ PN1 K F raw kvs ∧ Sb (kvs.map Prod.fst) ∧
  ∀ (p : Addr) (ys : List V), H p = none → DpAll K F ys (srt (kvs.map Prod.fst)) → Q (.ref p) (upd H p (.lst ys))
theorem pn1_each {K : PySem.W.Frag} {F : Hp} : ∀ {raw : RawN} {kvs : Kvs}, PN1 K F raw kvs → EachIs (VD K F) (raw.map fun r => Value.ref r.2.1) (kvs.map Prod.fst)
  | [], [], .nil => .nil
  | r :: raw, q :: kvs, .cons h t => .cons ⟨.ref r.2.1, rfl, h.2.2.1⟩ (pn1_each t)
theorem rel_addr : ∀ {raw : RawN} {xs : List (NestedKey × Addr × Value)}, Paired relN raw xs → xs.map (fun x => Value.ref x.2.1) = raw.map fun r => Value.ref r.2.1
  | [], [], .nil => rfl
  | r :: raw, x :: xs, .cons h t => by rw [List.map_cons, List.map_cons, rel_addr t, h.2.1]
theorem cr_sortedDN (hc : X.calm = true) (hu : X.A.units + 64 < cLine) : CallR X (.builtin "sorted") (rSortedDN X.prog X.w X.K) := by
  intro pins s σ H vs us Q I r h
  obtain ⟨d, raw, F, kvs, rfl, e, hd, m, sb, q⟩ := h
  rw [Vals.ref1 r]
  obtain ⟨a1, a2, xs, a3, o, es, ep, ho, hx, hdt, he, _, nd⟩ := dn_of I e hd m
  have l1 : es.size = xs.length := size_of_entries he
  have l2 : raw.length = xs.length := Paired.length a3
  refine Calls.call_function_entry kind_sorted plain_sorted entry_sorted (args_sorted1 _) ?_
  unfold Builtin.«sorted»
  refine wpAny_bind (m := checkCount "sorted" 1 1 _) (wpAny_pure ?_)
  refine wpAny_bind (PySem.W.kdu_collect (A := X.A.in1) (kdl_raw a1 hx hdt) (I.ok.hd hc) ho (by omega) fun h' tk acc hk it => ?_)
  have ea : acc.toList = xs.map fun x => Value.ref x.2.1 := by
    have hl : acc.toList.length = xs.length := by rw [Array.length_toList, it.1]; exact l1
    apply List.ext_getElem?
    intro j
    rw [List.getElem?_map]
    cases hj : acc.toList[j]? with
    | none =>
      have h1 := List.getElem?_eq_none_iff.mp hj
      rw [List.getElem?_eq_none (by omega)]
      all_goals rfl
    | some v =>
      obtain ⟨en, hen, hv⟩ := it.2 j v (by rw [← Array.getElem?_toList]; exact hj)
      have qe := entry_at he j
      rw [hen] at qe
      cases hb : xs[j]? with
      | none =>
        rw [hb] at qe
        exact nomatch (show some en = none from qe)
      | some b =>
        rw [hb] at qe
        have e2 : en = entryOfKey (nestedKind X.prog X.w) b := Option.some.inj qe
        rw [hv, e2]
        all_goals rfl
  rw [ea, rel_addr a3]
  have ed := pn1_each m
  have hvl : (raw.map fun r => Value.ref r.2.1).length ≤ sizeLine := by rw [List.length_map]; exact a2
  refine wpAny_bind (wpAny_newList ?_ hvl)
  have hoL : (h'.push (seqObj "list" (raw.map fun r => Value.ref r.2.1).toArray 0)).get? h'.objs.size = some (seqObj "list" (raw.map fun r => Value.ref r.2.1).toArray 0) := Heap.get?_push_size _ rfl
  have I1 : Inv X pins σ H { s with heap := h', toks := tk } := I.kept hk
  have hnone : h'.get? h'.objs.size = none := Heap.get?_none_of_le (Nat.le_refl _)
  show wpAny _ _ _ _ _ { s with heap := h'.push (seqObj "list" (raw.map fun r => Value.ref r.2.1).toArray 0), toks := tk }
  refine wpAny_bind (wpAny_holding (sort_newD (s0 := { s with heap := h', toks := tk }) (s := { s with heap := h'.push (seqObj "list" (raw.map fun r => Value.ref r.2.1).toArray 0), toks := tk }) hoL ed (each_reads I1 e ed) (fun b u q => Heap.get?_push_of_some _ q) hnone sb (show X.A.units + 1 + 60 < cLine by omega) fun out hl he2 => ?_))
  obtain ⟨c, hcg⟩ := sortedHeap_at (vs := raw.map fun r => Value.ref r.2.1) (out := out.toArray) hoL
  obtain ⟨ys, hv, hal⟩ := all_of_each he2
  have kp : ∀ b u, h'.get? b = some u → (sortedHeap (h'.push (seqObj "list" (raw.map fun r => Value.ref r.2.1).toArray 0)) h'.objs.size (raw.map fun r => Value.ref r.2.1) out.toArray).get? b = some u := fun b u q => by
    have hlt := Heap.lt_size q
    rw [sortedHeap_old (Nat.ne_of_lt hlt) (by rw [size_push']; exact Nat.lt_succ_of_lt hlt)]
    exact Heap.get?_push_of_some _ q
  have hn : H h'.objs.size = none := I1.hok.fresh (Nat.le_refl _)
  have hlen : ys.length ≤ sizeLine := by
    have := dpAll_length hal
    rw [this, (srt_perm_self _).length_eq, ← ed.length]
    exact hvl
  exact wpAny_pure ⟨_, rfl, .ref h'.objs.size, upd H h'.objs.size (.lst ys), I1.laid (t' := tk) kp (Nat.le_refl _) ⟨hlen, out, c, hv, by simpa using hcg⟩, rfl, q _ ys hn hal⟩
theorem en_sortedDN (sb : Sb (kvs.map Prod.fst)) (hc : X.calm = true) (hu : X.A.units + 64 < cLine) (hm : X.mg "sorted" = none) (h : Ev X C e (isDN X.prog X.w X.K kvs)) (hg : Gl X "sorted" := by rfl) (hse : S1 X e := by rfl) : En X C (.Call (.Name "sorted" p) [e] [] pos) (ctL X.K (srt (kvs.map Prod.fst))) :=
  en_callB (cr_sortedDN hc hu) (fun xs F H w f Q q => by
    obtain ⟨v, rfl, d, raw, rfl, h1, h2⟩ := fit1 f
    exact ⟨d, raw, F, kvs, rfl, w.i, w.i _ _ h1, h2, sb, fun p ys hp al => q p _ F _ (Le.newH w hp) hp (wok_none w hp) upd_same (lst_nt _) ⟨ys, rfl, al⟩⟩) hm PyProof.Rows.boot_sorted (ea1 h hse) hg (he := hse)
end
end Pl

set_option Elab.async false
set_option autoImplicit false
set_option linter.all false
set_option maxRecDepth 100000
set_option maxHeartbeats 4000000
namespace Pl
open PySem PySem.Spec PyProof.Rows L2
open GxR (TabG Tabbed)
open LamX (ExtN TabS CodeO)
open NdefX (NTab TabN TabsN NF FnO)

/-! ### {k: {} for ..}: a dict of new dicts, these to hold tuples as keys -/
def zipKA (ks : List Int) (as : List Addr) : List (Key × V) := List.zipWith (fun k a => (Sum.inl k, V.ref a)) ks as
theorem zipKA_snoc {k : Int} {a : Addr} : ∀ {ks : List Int} {as : List Addr}, ks.length = as.length → zipKA (ks ++ [k]) (as ++ [a]) = zipKA ks as ++ [(.inl k, .ref a)]
  | [], [], _ => rfl
  | x :: ks, y :: as, h => congrArg ((Sum.inl x, V.ref y) :: ·) (zipKA_snoc (by simpa using h))
  | [], _ :: _, h => by simp at h
  | _ :: _, [], h => by simp at h
theorem zipKA_none {k : Int} : ∀ {ks : List Int} {as : List Addr}, k ∉ ks → valV (zipKA ks as) (.inl k) = none
  | [], _, _ => by simp [zipKA, valV]
  | _ :: _, [], _ => by simp [zipKA, valV]
  | x :: ks, y :: as, h => by
    rw [List.mem_cons, not_or] at h
    show valV ((Sum.inl x, V.ref y) :: zipKA ks as) (.inl k) = none
    rw [valV_neg (fun z => h.1 (Sum.inl.inj z).symm)]
    exact zipKA_none h.2
theorem zipKA_at {k : Int} {a : Addr} : ∀ {ks : List Int} {as : List Addr} {i : Nat}, ks.Nodup → ks[i]? = some k → as[i]? = some a → valV (zipKA ks as) (.inl k) = some (.ref a)
  | x :: ks, y :: as, 0, _, h1, h2 => by
    simp at h1 h2
    subst h1
    subst h2
    exact valV_pos rfl
  | x :: ks, y :: as, i + 1, nd, h1, h2 => by
    obtain ⟨n1, n2⟩ := List.nodup_cons.mp nd
    have h1 : ks[i]? = some k := by simpa using h1
    show valV ((Sum.inl x, V.ref y) :: zipKA ks as) (.inl k) = _
    rw [valV_neg (fun z => n1 (by rw [show x = k from Sum.inl.inj z]; exact List.mem_of_getElem? h1))]
    exact zipKA_at n2 h1 (by simpa using h2)
  | [], _, _, _, h1, _ => by simp at h1
  | _ :: _, [], _, _, _, h2 => by simp at h2
def isDV (D : Addr) (kv : List (Key × V)) : Rp := ⟨fun v F => v = .ref D ∧ Rd F D (.dK kv), fun e h => ⟨h.1, rd_mono e h.2⟩⟩
abbrev osN (P : Program) (w : World) (K : PySem.W.Frag) (as : List Addr) (kvss : List Kvs) : List (Addr × Ct) := osG (fun a kvs => ctDN P w K a kvs) as kvss
section
variable {X : Cx} {C : Cn} {T : Tbs} {A M : As} {D : Ends} {e elt o tg iter kx : Expr} {es : List Expr} {rest ss : List Stmt} {pos p p1 p2 spos py vp : Pos} {x y : PySem.Str} {i j : Nat} {R : Rp} {Rs : List Rp} {ct : Ct} {ds : List PD} {d : PD} {l q Dl : Addr} {scope : Scope} {own : List (PySem.Str × Nat)} {us : List V} {v : V} {kvs : Kvs}
theorem ev_dgetV {kv : List (Key × V)} {k : Int} {a b : Expr} (hu : X.A.units + 64 < cLine) (hg : valV kv (.inl k) = some v) (ha : Ev X C a (isDV Dl kv)) (hb : Ev X C b (isD X.K (.int k))) (hs : NoSl b := by exact fun _ _ => rfl) : Ev X C (.Subscript a b pos) (isV v) :=
  ev_of (pe_dget (by omega) ha hb hs) fun σ F H Q c q => run2 c fun x y F' H' l h1 h2 => ⟨Dl, v, h1.1, .inl ⟨kv, .inl k, rd_mono l.w.i h1.2, dp_int h2, hg.symm⟩, q v F' H' l rfl⟩
theorem pe_dictN : PE X (.Dict [] [] vp) (fun _ H Q => ∀ q, H q = none → Q (.ref q) (upd H q (DictNO X.prog X.w q []))) := ⟨fun pins s σ H Q I h =>
    wpAny_Dict_empty ⟨.ref s.heap.objs.size, _, I.laid (a := s.heap.objs.size) (o := DictNO X.prog X.w s.heap.objs.size []) (t' := s.toks) (fun _ _ q => Heap.get?_push_of_some _ q) (Nat.le_refl _)
      (dictNO_new ⟨beq_eq_false_iff_ne.mpr (Ne.symm (Nat.ne_of_lt I.big)), Nat.zero_le _, [], .nil, _, #[], 0, Heap.get?_push_size _ rfl, ⟨rfl, rfl, rfl⟩, rfl, rfl, List.nodup_nil⟩), rfl, h _ (I.hok.fresh (Nat.le_refl _))⟩⟩
theorem ew_dicts {ks : List Int} (hks : ks.Nodup) (hlen : ks.length = Rs.length) (hi : Iv X C tg iter Rs) (ok : BlkOk X.N X.env.scope scope own) (hz : Rs.length ≤ 100000)
    (hb : ∀ (i : Nat) (R : Rp) (f : Fp) (os : List (Addr × Ct)) (k : Int), Rs[i]? = some R → ks[i]? = some k → ∃ sl ws, (∀ j ∈ ws, j ∈ own.map (·.2)) ∧ Blk X scope fun Y => Tg Y (((C.plus f).to C.sl os).wipe (own.map (·.2))) R tg ((C.plus f).to sl os) ws ∧ Ev Y ((C.plus f).to sl os) kx (isD X.K (.int k)))
    (hN : X.N.Nodup) (hc : X.calm = true := by rfl) (hs : ∀ x, foldedSetIterable iter X.env x = pure x := by intro _; rfl) :
    PE X (.DictComp kx (.Dict [] [] vp) [⟨tg, iter, [], 0⟩] scope pos) fun σ H Q => ∃ F, C.ok σ F H ∧ ∀ D as F' H', as.length = ks.length → (C.to C.sl (C.os ++ osN X.prog X.w X.K as (List.replicate ks.length []))).ok σ F' H' → Rd F' D (.dK (zipKA ks as)) → Q (.ref D) H' := by
  obtain ⟨wi, hpi, hw⟩ := hi
  refine PE.of (pe_dc (g := fun v σ H Q => ∃ (i : Nat) (R : Rp) (f : Fp) (os : List (Addr × Ct)) (k : Int), Rs[i]? = some R ∧ ks[i]? = some k ∧ ∃ F, (((C.plus f).to C.sl os).wipe (own.map (·.2))).ok σ F H ∧ R.p v F ∧ ∀ sl σ', (Blk X scope fun Y => Ev Y ((C.plus f).to sl os) kx (isD X.K (.int k))) → ((C.plus f).to sl os).ok σ' F H → L2.wipe σ' (own.map (·.2)) = L2.wipe σ (own.map (·.2)) → Q σ' H)
    (tt := fun σ H Q => Q true H) (tk := fun σ H Q => ∃ Cg k, (Blk X scope fun Y => Ev Y Cg kx (isD X.K (.int k))) ∧ tE Cg (isD X.K (.int k)) σ H Q) (tv := fun _ H Q => ∀ q, H q = none → Q (.ref q) (upd H q (DictNO X.prog X.w q []))) hc hN hpi ok (fun s H Ca cl fp => ⟨fun pins s σ H v u Q I r ⟨i, R, f, os, k, hR, hk, F, c, hv, q⟩ => ?_⟩) (fun s H Ca cl fp => PTs.of pts_nil fun _ _ _ z => z) (fun s H Ca cl fp => ⟨fun pins s σ H Q I ⟨Cg, k, h1, h2⟩ => (h1 _ _ Ca cl fp).run pins s σ H Q I h2⟩) (fun s H Ca cl fp => pe_dictN) hs) ?_
  · obtain ⟨sl, ws, h1, h2⟩ := hb i R f os k hR hk
    exact (h2 _ _ Ca cl fp).1.run pins s σ H v u Q I r ⟨F, c, hv, fun σ' c' kk => q sl σ' (fun s H Ca cl fp => (h2 s H Ca cl fp).2) c' (kk _ h1)⟩
  · intro σ H Q ⟨F, c, q⟩
    refine hw σ F H c _ fun It f F1 H1 l itw hf => fun D hD => ?_
    have c1 := c.le l
    have w1 := Le.newH (o := .dK []) l.w hD
    have c1' := c1.le w1
    have nD0 : C.enH D = none := Classical.byContradiction fun z => c1.en.d D z hD
    refine ⟨fun i m H => m = Rs.length - i ∧ i ≤ Rs.length ∧ ∃ F as, as.length = i ∧ ((C.plus f).to C.sl (C.os ++ osN X.prog X.w X.K as (List.replicate i []))).ok σ F H ∧ F D = none ∧ D ∉ (C.os ++ osN X.prog X.w X.K as (List.replicate i [])).map Prod.fst ∧ Ex F1 F ∧ H D = some (.dK (zipKA (ks.take i) as)),
      ⟨Rs.length, by simp, Nat.zero_le _, F1, [], rfl, ⟨c1'.w, c1'.len, c1'.sl, fun r hr => c1'.os r (by simpa [osG, Cn.to] using hr), by simpa [osG, Cn.to] using c1'.nd, ⟨c1'.ff, hf⟩, c1'.en⟩, wok_none l.w hD, fun z => ?_, Evl.Ex.refl _, by simp [zipKA, upd_same]⟩, ?_⟩
    · have z : D ∈ C.os.map Prod.fst := by simpa [osG] using z
      obtain ⟨r, hr, e⟩ := List.mem_map.mp z
      obtain ⟨_, _, o1, b6, _⟩ := c1.os r hr
      rw [e, hD] at b6
      cases b6
    rintro i m H2 ⟨rfl, hle, F2, as, hal, c2, hFD, hDo, ex2, hHD⟩
    obtain ⟨g1, g2⟩ := itw i F2 H2 c2.w c2.ff.2
    rcases Nat.lt_or_ge i Rs.length with hlt | hge
    · have e := List.getElem?_eq_getElem hlt
      have hltk : i < ks.length := by omega
      have ek := List.getElem?_eq_getElem hltk
      obtain ⟨g3, g4⟩ := g1 _ e
      refine .inr ⟨g3, fun H' => ∃ F as, as.length = i + 1 ∧ ((C.plus f).to C.sl (C.os ++ osN X.prog X.w X.K as (List.replicate (i + 1) []))).ok σ F H' ∧ F D = none ∧ D ∉ (C.os ++ osN X.prog X.w X.K as (List.replicate (i + 1) [])).map Prod.fst ∧ Ex F1 F ∧ H' D = some (.dK (zipKA (ks.take (i + 1)) as)), fun H' q' => ⟨Rs.length - (i + 1), by omega, rfl, hlt, q'⟩, fun v H' y => ?_⟩
      obtain ⟨F3, l3, hv⟩ := g4 v H' y
      have c3 := c2.le l3
      have hD3 : H' D = some (.dK (zipKA (ks.take i) as)) := l3.h _ _ hHD (dK_nt _)
      have f3 : F3 D = none := l3.n D hFD (by rw [hHD]; intro z; cases z)
      refine ⟨i, _, f, _, _, e, ek, F3, c3.wipe _, hv, fun sl σ' hpe c4 hwp => ⟨by rw [hwp, wipe_wipe], ?_⟩⟩
      refine iteT ⟨_, _, hpe, F3, c4, fun y F4 H4 l4 h4 => fun q hq => ?_⟩
      have hD4 : H4 D = some (.dK (zipKA (ks.take i) as)) := l4.h _ _ hD3 (dK_nt _)
      have f4 : F4 D = none := l4.n D f3 (by rw [hD3]; intro z; cases z)
      have hDq : D ≠ q := ne_of_none hD4 hq
      have hqF : F4 q = none := wok_none l4.w hq
      have l5 : Le C.T F4 H4 F4 (upd H4 q (DictNO X.prog X.w q [])) := Le.newH l4.w hq
      have c5 := (c3.le l4).le l5
      have hD5 : upd H4 q (DictNO X.prog X.w q []) D = some (.dK (zipKA (ks.take i) as)) := by rw [upd_ne hDq]; exact hD4
      have eput : putK (zipKA (ks.take i) as) (.inl ks[i]) (.ref q) = zipKA (ks.take (i + 1)) (as ++ [q]) := by
        have hnk : ks[i] ∉ ks.take i := fun z => by
          have := hks
          rw [← List.take_append_drop i ks] at this
          have h2 := (List.nodup_append.mp this).2.2 _ z ks[i] (by rw [List.drop_eq_getElem_cons hltk]; exact List.mem_cons_self)
          exact h2 rfl
        rw [putK_new _ (zipKA_none hnk), List.take_succ, ek]
        show _ = zipKA (ks.take i ++ [ks[i]]) (as ++ [q])
        rw [zipKA_snoc (by rw [List.length_take, hal]; omega)]
      have nq0 : C.enH q = none := Classical.byContradiction fun z => (c3.le l4).en.d q z hq
      have l6 : Le C.T C.enF C.enH F4 (upd (upd H4 q (DictNO X.prog X.w q [])) D (.dK (putK (zipKA (ks.take i) as) (.inl ks[i]) (.ref q)))) := c5.en.mut (T := C.T) f4 nD0 hD5 (dK_nt _) (dK_nt _)
      have eos : C.os ++ osN X.prog X.w X.K (as ++ [q]) (List.replicate (i + 1) []) = (C.os ++ osN X.prog X.w X.K as (List.replicate i [])) ++ [(q, ctDN X.prog X.w X.K q [])] := by
        rw [List.replicate_succ', List.append_assoc]
        exact congrArg (C.os ++ ·) (osG_snoc (by rw [hal, List.length_replicate]))
      refine ⟨_, .inl ks[i], dp_int h4, hD5, ?_, F4, as ++ [q], by simp [hal], ?_, f4, ?_, (ex2.trans l3.f).trans l4.f, ?_⟩
      · have : (zipKA (ks.take i) as).length ≤ i := by unfold zipKA; rw [List.length_zipWith, hal]; exact Nat.min_le_right _ _
        exact Nat.lt_of_le_of_lt (Nat.le_trans this (by omega)) (by rw [sizeLine_eq]; decide : 100000 < sizeLine)
      · rw [eos]
        refine ⟨l6.w, c.len, fun j R h => ?_, fun r hr => ?_, ?_, c5.ff, l6⟩
        · obtain ⟨v, a, b⟩ := c1.sl j R h
          exact ⟨v, a, R.mono ((ex2.trans l3.f).trans l4.f) b⟩
        · rcases List.mem_append.mp hr with hr | hr
          · obtain ⟨b1, b2, ob, b3, b4, b5⟩ := c5.os r hr
            exact ⟨b1, b2, ob, by rw [upd_ne (fun (z : r.1 = D) => hDo (by rw [← z]; exact List.mem_map.mpr ⟨r, hr, rfl⟩))]; exact b3, b4, b5⟩
          · rw [List.mem_singleton.mp hr]
            exact ⟨hqF, nq0, _, by rw [upd_ne (Ne.symm hDq), upd_same], dictNO_nt _ _ _ _, [], rfl, .nil⟩
        · show (((C.os ++ osN X.prog X.w X.K as (List.replicate i [])) ++ [(q, ctDN X.prog X.w X.K q [])]).map Prod.fst).Nodup
          rw [List.map_append]
          refine List.nodup_append.mpr ⟨c5.nd, by simp, fun a ha b hb => ?_⟩
          have hb : b = q := by simpa using hb
          rw [hb]
          intro z
          obtain ⟨r, hr, e⟩ := List.mem_map.mp ha
          obtain ⟨_, _, o1, b6, _⟩ := (c3.le l4).os r hr
          rw [e, z, hq] at b6
          cases b6
      · rw [eos, List.map_append, List.mem_append, not_or]
        exact ⟨hDo, by simpa using hDq⟩
      · rw [upd_same, eput]
    · have hi : i = Rs.length := Nat.le_antisymm hle hge
      subst hi
      refine .inl ⟨g2 (List.getElem?_eq_none (Nat.le_refl _)), ?_⟩
      have hD' : H2 D = some (.dK (zipKA ks as)) := by rw [hHD, List.take_of_length_le (by omega)]
      have l5 := c2.en.frz nD0 hFD hD' (dK_nt _)
      have hal' : as.length = ks.length := by omega
      have c2' : ((C.plus f).to C.sl (C.os ++ osN X.prog X.w X.K as (List.replicate ks.length []))).ok σ F2 H2 := by rw [hlen]; exact c2
      have hDo' : D ∉ (C.os ++ osN X.prog X.w X.K as (List.replicate ks.length [])).map Prod.fst := by rw [hlen]; exact hDo
      refine q D as (upd F2 D (.dK (zipKA ks as))) H2 hal' ⟨l5.w, c2'.len, fun j R h => ?_, fun r hr => ?_, c2'.nd, C.ff.mono (Evl.Ex.new hFD) c2'.ff.1, l5⟩ (.inl upd_same)
      · obtain ⟨v, a, b⟩ := c2'.sl j R h
        exact ⟨v, a, R.mono (Evl.Ex.new hFD) b⟩
      · obtain ⟨b1, b2, ob, b3, b4, b5⟩ := c2'.os r hr
        exact ⟨by rw [upd_ne (fun (z : r.1 = D) => hDo' (by rw [← z]; exact List.mem_map.mpr ⟨r, hr, rfl⟩))]; exact b1, b2, ob, b3, b4, r.2.mono (Evl.Ex.new hFD) b5⟩
/-- all the inner dicts are frozen -/
theorem Cn.ok.frzN {P : Program} {w : World} {K : PySem.W.Frag} {σ : L2.St} {sl : List (Option Rp)} {os1 : List (Addr × Ct)} {H : Hp} : ∀ {as : List Addr} {ks : List Int} {kvss : List Kvs} {F : Hp}, as.length = kvss.length → ks.length = as.length → (C.to sl (os1 ++ osN P w K as kvss)).ok σ F H → ∃ F', Ex F F' ∧ (C.to sl os1).ok σ F' H ∧ Ptb F' (zipKA ks as) (List.zipWith (fun k kvs => (PyData.int k, isDN P w K kvs)) ks kvss)
  | [], [], [], F, _, _, c => ⟨F, Evl.Ex.refl _, by simpa [osG] using c, .nil⟩
  | a :: as, k :: ks, d :: kvss, F, hl, hk, c => by
    have nd : ((os1 ++ (a, ctDN P w K a d) :: osN P w K as kvss).map Prod.fst).Nodup := c.nd
    rw [List.map_append, List.map_cons] at nd
    have na : a ∉ os1.map Prod.fst := fun z => by
      have := (List.nodup_append.mp nd).2.2 a z a List.mem_cons_self
      exact this rfl
    have fa : findO a (os1 ++ (a, ctDN P w K a d) :: osN P w K as kvss) = some (ctDN P w K a d) := by
      rw [findO_app na]
      show (if a = a then some (ctDN P w K a d) else _) = _
      rw [if_pos rfl]
    obtain ⟨o, h1, h2, h3, c2⟩ := Cn.ok.frz (C := C.to sl (os1 ++ (a, ctDN P w K a d) :: osN P w K as kvss)) c fa
    have c2 : (C.to sl (dropO a (os1 ++ (a, ctDN P w K a d) :: osN P w K as kvss))).ok σ (upd F a o) H := c2
    rw [dropO_app na] at c2
    obtain ⟨F', e, c3, pt⟩ := Cn.ok.frzN (as := as) (ks := ks) (kvss := kvss) (by simpa using hl) (by simpa using hk) c2
    obtain ⟨raw, rfl, m⟩ := h2
    exact ⟨F', (Evl.Ex.new h3).trans e, c3, .cons ⟨rfl, a, raw, rfl, e _ _ upd_same, pn1_mono ((Evl.Ex.new h3).trans e) m⟩ pt⟩
  | [], _ :: _, _, _, _, hk, _ => by simp at hk
  | _ :: _, [], _, _, _, hk, _ => by simp at hk
  | [], [], _ :: _, _, hl, _, _ => by simp at hl
  | _ :: _, _ :: _, [], _, hl, _, _ => by simp at hl
theorem do_frzDicts {os1 : List (Addr × Ct)} {as : List Addr} {ks : List Int} {kvss : List Kvs} (i : Nat) (Dl : Addr) (hl : as.length = kvss.length) (hk : ks.length = as.length) (hos : C.os = os1 ++ osN X.prog X.w X.K as kvss) (hs : C.sl[i]? = some (some (isDV Dl (zipKA ks as))))
    (h : Do X ss ((C.to C.sl os1).set i (isDR (List.zipWith (fun k kvs => (PyData.int k, isDN X.prog X.w X.K kvs)) ks kvss))).at D) : Do X ss C.at D := by
  refine h.pre fun σ H ⟨F, c⟩ => ?_
  have c0 : (C.to C.sl (os1 ++ osN X.prog X.w X.K as kvss)).ok σ F H := by rw [← hos]; exact c
  obtain ⟨F', e, c1, pt⟩ := Cn.ok.frzN hl hk c0
  have hi : i < C.sl.length := (List.getElem?_eq_some_iff.mp hs).1
  obtain ⟨v, e1, e2, rd⟩ := c.sl i _ hs
  have c2 := c1.set (i := i) (R := isDR (List.zipWith (fun k kvs => (PyData.int k, isDN X.prog X.w X.K kvs)) ks kvss)) (v := .ref Dl) hi ⟨Dl, _, rfl, rd_mono e rd, pt⟩
  have ee : σ.set i (some (V.ref Dl)) = σ := by
    refine List.ext_getElem? fun j => ?_
    by_cases hj : i = j
    · subst hj
      rw [List.getElem?_set_self (by rw [c.len]; exact hi), e1, e2]
    · rw [List.getElem?_set_ne hj]
  rw [ee] at c2
  exact ⟨F', c2⟩
end
end Pl

set_option Elab.async false
set_option autoImplicit false
set_option linter.all false
set_option maxRecDepth 100000
set_option maxHeartbeats 4000000
namespace Pl
open PySem PySem.Spec PyProof.Rows L2
open GxR (TabG Tabbed Ready GenS trF all_signs keeps_refl keeps_tok trF_some inv_tab sh_eta)
open LamX (ExtN TabS CodeO)
open NdefX (NTab TabN TabsN NF FnO)

/-! ### all(test for x in e), e a text, the test over the sign and the module's constants -/
def EltG (prog : Program) (w : World) (mg : PySem.Str → Option Value) (scope : Scope) (x : PySem.Str) (elt : Expr) (pb : Nat → Bool) : Prop :=
  ∀ (cenv : Env) (A' : Around) (E' : Value → Shared → Prop) (c : Nat) (t : Tok) (s₂ : Shared) (m₂ : PySem.Str → Option Value), cenv.scope = scope → cenv.globals = mainGlobals → s₂.heap.Ns mainGlobals mg → s₂.heap.Ns cenv.locals m₂ → m₂ x = some (.str ⟨#[c]⟩ t) →
    wpAny (model prog w) A' (eval elt cenv) (fun y s₃ => y = .bool (pb c) ∧ Keeps s₂ s₃) E' s₂
section
variable {X : Cx} {pins : List (Addr × Obj)} {σ : L2.St} {H : Hp} {s : Shared}
theorem gen_strG {c P : Addr} {elt iter : Expr} {x : PySem.Str} {px gpos : Pos} {scope : Scope} {pb : Nat → Bool} {te : TE} {k : Nat} {Q' : Value → Shared → Prop} {R : PySem.Str → Hp → Prop}
    (hr : Room k X.A) (TB : GxR.TabB X.base X.mg c P) (hcode : X.env.code = .ref c) (S : GenS X.env scope x) (hi : PE X iter te) (hel : EltG X.prog X.w X.mg scope x elt pb)
    (hs : ∀ v, genFold iter X.env v = pure v) (I : Inv X pins σ H s) (h : te σ H fun v H1 => ∃ a : PySem.Str, v = .str a ∧ TabG H1 P ∧ R a H1)
    (hQ : ∀ a H1 g s5, R a H1 → Ready X pins σ H1 P a pb g s5 → Q' (.ref g) s5) :
    wpAny (model X.prog X.w) X.A (eval (.GeneratorExp elt [⟨.Name x px, iter, [], 0⟩] scope gpos) X.env) Q' X.xe s := by
  refine wpAny_GeneratorExp_walksQ hr.hd S.co (closure_ok S.free) S.cell S.dot S.loc S.kind (by have := hr.dp; omega) ?_ hs
  refine thn (hi.run pins s σ H _ I h) fun xv s1 ⟨v, H1, I1, r1, q1⟩ => ?_
  obtain ⟨a, rfl, ⟨ps, hP, ht⟩, q1⟩ := q1
  obtain ⟨t, rfl⟩ := _root_.id r1
  refine wpAny_pyIter_str fun o St W hst => ?_
  have hPs : s1.heap.get? P = some { cls := .none, data := .fields ps } := I1.hok P _ hP
  have hPlt : P < s1.heap.objs.size := Heap.lt_size hPs
  have hP2 : (s1.heap.push o).get? P = some { cls := .none, data := .fields ps } := Heap.get?_push_of_some _ hPs
  have cd : PySem.W.CodeHd (s1.heap.push o) c P := TB.code.keeps fun b u e => Heap.get?_push_of_some _ (I1.bk b u e)
  have lim2 : (s1.heap.push o).NoLimit := I1.nolimit.push o
  have cont : ∀ (code : Value) (h3 : Heap) (tk : Nat) (ps' : Array Value), Heap.ExtBut P (s1.heap.push o) h3 → (s1.heap.push o).objs.size ≤ h3.objs.size → h3.get? P = some { cls := .none, data := .fields ps' } → (∃ more, ps' = ps ++ more) → TriplesOk ps'.toList →
      wpAny (model X.prog X.w) X.A (builtinsFor X.env.globals X.env.builtins) (fun bi s₄ =>
        ∃ Ia fp wr n₀ Pf St₀ pz F, Value.ref s1.heap.objs.size = .ref Ia ∧ (∀ A' : Around, A'.handled = none → Walks X.prog X.w A' Ia fp wr n₀ Pf St₀) ∧ St₀ 0 s₄.heap ∧ (∀ b ∈ fp, b < s₄.heap.objs.size) ∧ s₄.heap.NoLimit ∧ cStatics ∉ wr ∧
          (∀ href : Heap, (∀ b o, s₄.heap.get? b = some o → href.get? b = some o) →
            QuietGen X.prog X.w (genEnv scope (cloFrom X.env.cells scope.names []) s₄.heap.objs.size code bi X.env) x [] elt (List.range s₄.heap.objs.size) wr Pf pz F href) ∧
          (∀ a h₅ tk gs, gs.bare = true → s₄.heap.objs.size < a → h₅.objs.size = a + 1 → (∀ b o, s₄.heap.get? b = some o → h₅.get? b = some o) →
            WalksS X.prog X.w X.A.in4 a (a :: s₄.heap.objs.size :: List.range s₄.heap.objs.size) (s₄.heap.objs.size :: wr) (GenOnlyQ s₄.gens.size) (passing pz n₀ 0).length
              (fun j y => ∃ i, (passing pz n₀ 0)[j]? = some i ∧ F i y) (GenAt X.prog X.w X.A.in4 a s₄.gens.size s₄.heap.objs.size (List.range s₄.heap.objs.size) wr pz n₀ F) →
            GenAt X.prog X.w X.A.in4 a s₄.gens.size s₄.heap.objs.size (List.range s₄.heap.objs.size) wr pz n₀ F 0 { s₄ with gens := s₄.gens.push gs, toks := tk, heap := h₅ } →
            Q' (.ref a) { s₄ with gens := s₄.gens.push gs, toks := tk, heap := h₅ })) X.xe { s1 with heap := h3, toks := tk } := by
    intro code h3 tk ps' hx hsz hP3 hmore ht3
    obtain ⟨bm, ob, e1, e2, e3, e4, e5, e6, e7, e8⟩ := TB.bm
    have hcP : cStatics ≠ P := fun e => by
      obtain ⟨_, hns, _⟩ := I1.nolimit
      obtain ⟨o', es, ep, ho, hd, _⟩ := hns
      rw [e, hPs] at ho
      cases ho
      cases hd
    have hcl : cStatics < s1.heap.objs.size := let ⟨_, hns, _⟩ := I1.nolimit; hns.lt
    have sz2 : (s1.heap.push o).objs.size = s1.heap.objs.size + 1 := Heap.size_push ..
    have keep3 : ∀ b u, b ≠ P → s1.heap.get? b = some u → h3.get? b = some u := fun b u hb e => hx b u hb (Heap.get?_push_of_some _ e)
    refine wpAny_builtinsFor (m := X.mg) (by rw [I1.ok.glob]; exact ((I1.mod.glob.keeps I1.bk).push o).extBut hx TB.gP) e1 e2 (keep3 _ _ e4 (I1.bk _ _ e5)) e6 e7 e8 ?_
    refine ⟨s1.heap.objs.size, [s1.heap.objs.size], [s1.heap.objs.size], a.cps.size, SignAt a, St, (fun _ => true), (fun i y => ∃ cc, a.cps[i]? = some cc ∧ y = .bool (pb cc)), rfl, W, ?_, ?_, lim2.extBut hx hcP, ?_, ?_, ?_⟩
    · refine (W X.A hr.hd).frame _ _ _ hst fun b hb u e => hx b u (fun z => ?_) e
      rcases List.mem_cons.mp hb with z2 | z2
      · exact Nat.ne_of_lt hPlt (z.symm.trans z2)
      · cases z2
    · intro b hb
      rcases List.mem_cons.mp hb with z | z
      · rw [z]
        show s1.heap.objs.size < h3.objs.size
        omega
      · cases z
    · intro z
      rcases List.mem_cons.mp z with z | z
      · exact Nat.ne_of_lt hcl z
      · cases z
    · intro href hhref
      refine ⟨fun A' E' i v s₂ m₂ hA hPv hn hm hk => ?_, fun A' E' i v s₂ m₂ hA hPv hp hn hm hk => ?_⟩
      · simp only [List.forIn_nil]
        exact wpAny_pure ⟨rfl, keeps_refl _⟩
      · obtain ⟨cc, u, hcc, rfl⟩ := hPv
        have gl : s₂.heap.Ns mainGlobals X.mg := by
          have g3 : h3.Ns mainGlobals X.mg := ((I1.mod.glob.keeps I1.bk).push o).extBut hx TB.gP
          obtain ⟨og, eg, pg, ho, r⟩ := g3
          have hl : mainGlobals < s1.heap.objs.size := by
            obtain ⟨og0, _, _, ho0, _⟩ := I1.mod.glob
            exact Heap.lt_size (I1.bk _ _ ho0)
          refine ⟨og, eg, pg, hk mainGlobals (List.mem_range.mpr (Heap.lt_size ho)) (fun z => ?_) og (hhref _ _ ho), r⟩
          rcases List.mem_cons.mp z with z | z
          · rw [z] at hl
            exact Nat.lt_irrefl _ hl
          · cases z
        exact wpAny_mono (hel _ A' E' cc u s₂ m₂ rfl I1.ok.glob gl hn hm) (fun y s3 r => ⟨⟨cc, hcc, r.1⟩, r.2⟩) fun _ _ e => e
    · intro g h5 tk5 gs hgb hag hsz5 hk5 W5 hat
      simp only [GxR.passing_true, List.length_range] at W5
      refine hQ a H1 g _ q1 ⟨_, _, _, _, _, W5.in4_1, hat, ?_, fun s' hm => ?_⟩
      · intro j y sj Qj Ej hy hQj
        obtain ⟨i, hij, cc, hcc, rfl⟩ := hy
        obtain ⟨hj, ej⟩ := List.getElem?_eq_some_iff.mp hij
        rw [List.getElem_range] at ej
        subst ej
        have e9 : a.cps.toList[j]? = some cc := by rw [Array.getElem?_toList]; exact hcc
        have hQ2 : Qj (trF pb a.cps.toList j) sj := hQj
        rw [trF_some e9] at hQ2
        exact wpAny_truthy_bool hQ2
      · obtain ⟨more, em⟩ := hmore
        have nwr : ∀ b u, s1.heap.get? b = some u → b ∉ h3.objs.size :: [s1.heap.objs.size] := fun b u e hb => by
          have hl := Heap.lt_size e
          rcases List.mem_cons.mp hb with z | z
          · rw [z] at hl
            have h9 : (h3.objs.size : Nat) < s1.heap.objs.size := hl
            omega
          · rcases List.mem_cons.mp z with z | z
            · rw [z] at hl
              exact Nat.lt_irrefl _ hl
            · cases z
        have J := inv_tab (more := more) (h' := s'.heap) (g' := s'.gens) (d' := s'.drawn) (t' := s'.toks) I1 hP (fun b u hb e => hm.heap b u (nwr b u e) (hk5 b u (keep3 b u hb e)))
          (by rw [← em]; exact hm.heap P _ (nwr P _ hPs) (hk5 P _ hP3)) (AllBare.movedS (I1.bare.push hgb) hm)
        rw [sh_eta s1 s' hm.os] at J
        refine ⟨upd H1 P (.tbl (ps ++ more)), ⟨⟨ps ++ more, upd_same, by rw [← em]; exact ht3⟩, fun b hb => upd_ne hb⟩, J⟩
  refine ⟨lim2, ?_⟩
  cases hf : codeAmong gpos ps.toList with
  | none =>
    refine wpAny_genexprCodeX hcode (cd.code hP2 ht) (cd.tab hP2) hf fun c' h' tk hx hge hlt hco' _ htab' _ => ?_
    obtain ⟨o1, vs, f1, tf, fl, tg, inF, tx, tt, op, _, _, _, _, _, _, _, _, _, htr, _⟩ := hco'
    exact cont _ h' tk _ hx (Nat.le_trans hge (Nat.le_of_lt hlt)) htab'.2 ⟨_, rfl⟩ htr
  | some cv =>
    refine wpAny_genexprCode_hit hcode (cd.code hP2 ht) hf ?_
    exact cont cv (s1.heap.push o) s1.toks ps (Heap.ExtBut.refl _ _) (Nat.le_refl _) hP2 ⟨#[], by simp⟩ ht

theorem pe_allG {c P : Addr} {elt iter : Expr} {x : PySem.Str} {px p pos gpos : Pos} {scope : Scope} {pb : Nat → Bool} {te : TE} {k : Nat}
    (hr : Room k X.A) (hg : Gl X "all") (hm : X.mg "all" = none) (TB : GxR.TabB X.base X.mg c P) (hcode : X.env.code = .ref c) (S : GenS X.env scope x) (hi : PE X iter te) (hel : EltG X.prog X.w X.mg scope x elt pb)
    (hs : ∀ v, genFold iter X.env v = pure v)
    (he : starEach [.GeneratorExp elt [⟨.Name x px, iter, [], 0⟩] scope gpos] X.env = (false, eval (.GeneratorExp elt [⟨.Name x px, iter, [], 0⟩] scope gpos) X.env) :: starEach [] X.env := by rfl) :
    PE X (.Call (.Name "all" p) [.GeneratorExp elt [⟨.Name x px, iter, [], 0⟩] scope gpos] [] pos) (GxR.tAllS P pb te) := by
  refine ⟨fun pins s σ H Q I h => ?_⟩
  refine wpAny_Call_Name_kw (ld_blt I hg hm PyProof.Rows.boot_all ?_)
  refine PyProof.Rows.callWith_builtin1 ?_ he (by rfl)
  rw [he]
  show wpAny _ _ (spliced ((false, eval (.GeneratorExp elt [⟨.Name x px, iter, [], 0⟩] scope gpos) X.env) :: backTo pos (starEach [] X.env))) _ _ s
  refine Calls.spliced_cons (gen_strG (R := fun a H1 => ∀ H2, Tabbed P H1 H2 → Q (.bl (a.cps.toList.all pb)) H2) hr TB hcode S hi hel hs I h fun a H1 g s5 hR hG => ?_)
  obtain ⟨fp, wr, G, F, St, W, hst, htr, hI⟩ := hG
  refine Calls.spliced_nil ?_
  refine call_all_walkS (W.self 0 _ _ _ hst ⟨g, fp, wr, G, _, F, St, _, rfl, W, hst, htr, fun s' hmv => ?_⟩)
  obtain ⟨H2, hT, J⟩ := hI s' hmv
  refine ⟨.bl _, H2, J, rfl, ?_⟩
  rw [all_signs a pb]
  exact hR H2 hT
end
/-- x in g, g a constant text of the module -/
theorem elt_inG {prog : Program} {w : World} {mg : PySem.Str → Option Value} {scope : Scope} {x g z : PySem.Str} {t : Tok} {p1 p2 p3 : Pos} (hk : scope.kind = .function) (hl : scope.names.lookup x = some .local) (hgl : scope.names.lookup g = some .globalImplicit) (hm : mg g = some (.str z t))
    (hd : (x == ("__debug__" : PySem.Str)) = false := by decide) (hd2 : (g == ("__debug__" : PySem.Str)) = false := by decide) :
    EltG prog w mg scope x (.Compare (.Name x p1) [.In] [.Name g p2] p3) (fun c => decide (c ∈ z.cps.toList)) := by
  intro cenv A' E' c t s₂ m₂ hs hG hgs hn hmx
  refine wpAny_Compare1 ?_
  refine wpAny_Name (wpAny_loadName_local (by rw [hs]; exact hk) (show cenv.scope.names.lookup x = some .local by rw [hs]; exact hl) hn hmx ?_) hd
  refine Calls.Name_function_global (by rw [hs]; exact hk) (show cenv.scope.names.lookup g = some .globalImplicit by rw [hs]; exact hgl) (Calls.loadGlobal_global (by rw [hG]; exact hgs) hm ?_) hd2
  exact PyProof.Rows.in_str ⟨by rw [PySem.StrLaws.found_one z c], keeps_refl _⟩
theorem elt_or {prog : Program} {w : World} {mg : PySem.Str → Option Value} {scope : Scope} {x : PySem.Str} {a b : Expr} {pa pb : Nat → Bool} {p : Pos} (ha : EltG prog w mg scope x a pa) (hb : EltG prog w mg scope x b pb) : EltG prog w mg scope x (.BoolOp .Or [a, b] p) (fun c => pa c || pb c) := by
  intro cenv A' E' c t s₂ m₂ hs hG hgs hn hmx
  refine BoolOp_or (wpAny_mono (ha cenv A' E' c t s₂ m₂ hs hG hgs hn hmx) (fun y s3 r => ?_) fun _ _ e => e)
  obtain ⟨rfl, h3, tk, rfl, kp⟩ := r
  refine wpAny_truthy_bool ?_
  cases e : pa c with
  | true => exact ⟨by simp [e], h3, tk, rfl, kp⟩
  | false =>
    refine BoolOp_one (wpAny_mono (hb cenv A' E' c t { s₂ with heap := h3, toks := tk } m₂ hs hG (hgs.keeps kp) (hn.keeps kp) hmx) (fun y s4 r => ?_) fun _ _ e => e)
    obtain ⟨rfl, h4, tk4, rfl, kp4⟩ := r
    exact ⟨by simp [e], h4, tk4, rfl, fun b o e => kp4 b o (kp b o e)⟩
/-! ### .. in a context -/
section
variable {X : Cx} {C : Cn} {e iter elt : Expr} {p pos px gpos : Pos} {x : PySem.Str} {scope : Scope} {pb : Nat → Bool} {z : PySem.Str} {k : Nat} {c P : Addr}
theorem Wok.tab {T : Tbs} {F H H2 : Hp} {P : Addr} (w : Wok T F H) (hn : ∀ q ∈ T.n, q.1 ≠ P) (hT : TabG H P) (t : Tabbed P H H2) : Le T F H F H2 := by
  obtain ⟨ps, hP, _⟩ := hT
  have nP : ∀ a o, F a = some o → a ≠ P := fun a o e z => by
    have := w.i a o e
    rw [z, hP] at this
    cases this
    exact w.nt a ps e
  refine ⟨Evl.Ex.refl _, fun b o e n => ?_, fun a h _ => h, fun a h => ?_, ⟨fun b o e => ?_, w.nt, ⟨fun Q hQ => ?_, fun q hq => ?_⟩⟩⟩
  · rw [t.2 b (fun z => n ps (by rw [z, hP] at e; exact (Option.some.inj e).symm))]; exact e
  · by_cases e : a = P
    · obtain ⟨ps2, e2, _⟩ := t.1
      rw [e, e2]; exact fun z => by cases z
    · rw [t.2 a e]; exact h
  · rw [t.2 b (nP b o e)]; exact w.i b o e
  · by_cases e : Q = P
    · rw [e]; exact t.1
    · obtain ⟨ps2, e2, e3⟩ := w.tb.1 Q hQ
      exact ⟨ps2, by rw [t.2 Q e]; exact e2, e3⟩
  · obtain ⟨ps2, e2, e3⟩ := w.tb.2 q hq
    exact ⟨ps2, by rw [t.2 q.1 (hn q hq)]; exact e2, e3⟩
/-- all(test for x in e) -/
theorem ev_allG (hr : Room k X.A) (hm : X.mg "all" = none) (TB : GxR.TabB X.base X.mg c P) (hcode : X.env.code = .ref c) (hP : P ∈ C.T.g) (hn : ∀ q ∈ C.T.n, q.1 ≠ P) (S : GenS X.env scope x) (hi : Ev X C iter (isD X.K (.str z))) (hel : EltG X.prog X.w X.mg scope x elt pb) (hg : Gl X "all" := by rfl)
    (hs : ∀ v, genFold iter X.env v = pure v := by intro _; rfl) (he : starEach [.GeneratorExp elt [⟨.Name x px, iter, [], 0⟩] scope gpos] X.env = (false, eval (.GeneratorExp elt [⟨.Name x px, iter, [], 0⟩] scope gpos) X.env) :: starEach [] X.env := by rfl) :
    Ev X C (.Call (.Name "all" p) [.GeneratorExp elt [⟨.Name x px, iter, [], 0⟩] scope gpos] [] pos) (isD X.K (.bool (z.cps.toList.all pb))) :=
  ev_of (pe_allG hr hg hm TB hcode S hi hel hs he) fun σ F H Q c q => ⟨F, c, fun v F' H' l h => ⟨z, dp_str h, l.w.tb.1 P hP, fun H2 t => q _ F' H2 (l.trans (l.w.tab hn (l.w.tb.1 P hP) t)) (.bl _)⟩⟩
/-- a or b, as a value -/
theorem ev_or {a b : Expr} {es : List Expr} {k1 k2 : Bool} (ha : Ev X C a (isD X.K (.bool k1))) (hb : k1 = false → Ev X C (.BoolOp .Or (b :: es) pos) (isD X.K (.bool k2))) : Ev X C (.BoolOp .Or (a :: b :: es) pos) (isD X.K (.bool (k1 || k2))) := by
  cases k1 with
  | true => exact ev_of (pe_or ha (⟨fun _ _ _ _ _ _ h => h.elim⟩ : PE X (.BoolOp .Or (b :: es) pos) (fun _ _ _ => False))) fun σ F H Q c q => ⟨F, c, fun v F' H' l z => ⟨true, dp_bl z, iteT (q _ F' H' l (.bl _))⟩⟩
  | false => exact ev_of (pe_or ha (hb rfl)) fun σ F H Q c q => ⟨F, c, fun v F' H' l z => ⟨false, dp_bl z, iteF ⟨F', c.le l, fun v F2 H2 l2 h => q v F2 H2 (l.trans l2) h⟩⟩⟩
theorem ev_and {a b : Expr} {es : List Expr} {k1 k2 : Bool} (ha : Ev X C a (isD X.K (.bool k1))) (hb : k1 = true → Ev X C (.BoolOp .And (b :: es) pos) (isD X.K (.bool k2))) : Ev X C (.BoolOp .And (a :: b :: es) pos) (isD X.K (.bool (k1 && k2))) := by
  cases k1 with
  | false => exact ev_of (pe_and ha (⟨fun _ _ _ _ _ _ h => h.elim⟩ : PE X (.BoolOp .And (b :: es) pos) (fun _ _ _ => False))) fun σ F H Q c q => ⟨F, c, fun v F' H' l z => ⟨false, dp_bl z, iteF (q _ F' H' l (.bl _))⟩⟩
  | true => exact ev_of (pe_and ha (hb rfl)) fun σ F H Q c q => ⟨F, c, fun v F' H' l z => ⟨true, dp_bl z, iteT ⟨F', c.le l, fun v F2 H2 l2 h => q v F2 H2 (l.trans l2) h⟩⟩⟩
theorem ev_one {op : BoolOp} {a : Expr} {R : Rp} (ha : Ev X C a R) : Ev X C (.BoolOp op [a] pos) R := pe_one ha
theorem ev_not {a : Expr} {k : Bool} (ha : Ev X C a (isD X.K (.bool k))) : Ev X C (.UnaryOp .Not a pos) (isD X.K (.bool (!k))) := ev_of (pe_not ha) fun σ F H Q c q => ⟨F, c, fun v F' H' l z => ⟨k, dp_bl z, q _ F' H' l (.bl _)⟩⟩
end
end Pl

set_option Elab.async false
set_option autoImplicit false
set_option linter.all false
set_option maxRecDepth 100000
set_option maxHeartbeats 4000000
namespace Pl
open PySem PySem.Spec L2
open GxR (TabG Tabbed)
open LamX (ExtN TabS CodeO)
open NdefX (NTab TabN TabsN NF FnO)

/-! ### an instance that is being made: owned -/
def ctI (Cl : Addr) (fs : List (Str × Rp)) : Ct := ⟨fun o F => ∃ dx fv, o = .ins Cl dx fv ∧ fv.map Prod.fst = fs.map Prod.fst ∧ Fit F (fs.map Prod.snd) (fv.map Prod.snd), fun e ⟨dx, fv, h1, h2, h3⟩ => ⟨dx, fv, h1, h2, h3.mono e⟩⟩
theorem ins_nt (C dx : Addr) (fv : List (Str × V)) (ps : Array Value) : HO.ins C dx fv ≠ .tbl ps := fun z => by cases z
theorem putF_new {f : Str} {v : V} : ∀ {fv : List (Str × V)}, fv.lookup f = none → putF f v fv = fv ++ [(f, v)]
  | [], _ => rfl
  | (g, x) :: r, h => by
    rw [List.lookup_cons] at h
    cases e : f == g with
    | true => rw [e] at h; cases h
    | false =>
      rw [e] at h
      have ne : g ≠ f := fun z => by rw [z, beq_self_eq_true] at e; cases e
      unfold putF
      rw [if_neg ne, putF_new h] <;> rfl
theorem fit_snoc {F : Hp} {R : Rp} {v : V} (hv : R.p v F) : ∀ {Rs : List Rp} {vs : List V}, Fit F Rs vs → Fit F (Rs ++ [R]) (vs ++ [v])
  | _, _, .nil => .cons hv .nil
  | _, _, .cons h t => .cons h (fit_snoc hv t)
section
variable {X : Cx} {C : Cn} {T : Tbs} {A M : As} {D : Ends} {e o value iter tg : Expr} {es : List Expr} {rest ss : List Stmt} {pos p pos' apos spos lp : Pos} {x f m : Str} {k i : Nat} {Cl q : Addr} {fs : List (Str × Rp)} {R : Rp} {Rs : List Rp} {scope : Scope} {own : List (Str × Nat)}
theorem ev_fldO (hf : findO q C.os = some (ctI Cl fs)) (he : Ev X C e (isA q)) (hc : Cls X.K Cl) (hn : NoAttr X.K Cl f) (hl : fs.lookup f = some R) (hb : attributeBase e f X.env (eval e X.env) = eval e X.env := by rfl) : Ev X C (.Attribute e f pos) R :=
  ev_of (pe_fld he hb) fun σ F H Q c qq => ⟨F, c, fun v F' H' l h => by
    obtain ⟨ob, h1, dx, fv, rfl, h3, h4⟩ := (c.le l).at hf
    obtain ⟨z, e1, e2⟩ := fit_lookup h3 h4 hl
    exact ⟨q, Cl, dx, fv, z, h, h1, hc, hn, e1, qq z F' H' l e2⟩⟩
theorem ctI_put {F : Hp} {dx : Addr} {fv : List (Str × V)} {v : V} (h3 : fv.map Prod.fst = fs.map Prod.fst) (h4 : Fit F (fs.map Prod.snd) (fv.map Prod.snd)) (hl : fs.lookup f = none) (hv : R.p v F) : (ctI Cl (fs ++ [(f, R)])).p (.ins Cl dx (putF f v fv)) F := by
  refine ⟨dx, _, rfl, ?_, ?_⟩
  · rw [putF_new (fit_lookup_none h3 hl), List.map_append, List.map_append, h3] <;> rfl
  · rw [putF_new (fit_lookup_none h3 hl), List.map_append, List.map_append]
    exact fit_snoc hv h4
/-- o.f = value, o owned -/
theorem do_fld (hf : findO q C.os = some (ctI Cl fs)) (hv : Ev X C value R) (ho : Ev X C o (isA q)) (hc : Cls X.K Cl) (hn : NoAttr X.K Cl f) (hl : fs.lookup f = none) (hz : fs.length < 900) (h : Do X rest (C.put q (ctI Cl (fs ++ [(f, R)]))).at D)
    (hs : swapsWith value (some (.Attribute o f pos')) pos.line X.env = pure false := by rfl) : Do X (.Assign [.Attribute o f pos'] value pos :: rest) C.at D :=
  do_cons (M := (C.put q (ctI Cl (fs ++ [(f, R)]))).at) (Do1.of (ps_fld ho hv hs) fun σ H ⟨F, c⟩ => ⟨F, c, fun y F1 H1 l1 h1 => ⟨F1, c.le l1, fun x F2 H2 l2 h2 => by
    have c2 := (c.le l1).le l2
    obtain ⟨ob, g1, dx, fv, rfl, h3, h4⟩ := c2.at hf
    have e1 := congrArg List.length h3
    rw [List.length_map, List.length_map] at e1
    exact ⟨q, Cl, dx, fv, h2, g1, hc, hn, by omega, F2, c2.put (F0 := F2) (findO_mem hf) g1 (ins_nt _ _ _) (ctI_put h3 h4 hl (R.mono l2.f h1))⟩⟩⟩) h
theorem findO_left {os r : List (Addr × Ct)} {ct : Ct} : findO q os = some ct → findO q (os ++ r) = some ct := by
  induction os with
  | nil => intro h; cases h
  | cons p os ih =>
    intro h
    obtain ⟨a, c⟩ := p
    unfold findO at h
    show (if a = q then some c else findO q (os ++ r)) = _
    split at h
    · rename_i z; rw [if_pos z]; exact h
    · rename_i z; rw [if_neg z]; exact ih h
/-- o.f = [[] for ..], o owned -/
theorem do_fldRows (hf : findO q C.os = some (ctI Cl fs)) (hi : Iv X C tg iter Rs) (ok : BlkOk X.N X.env.scope scope own) (hz : Rs.length ≤ 100000)
    (hb : ∀ (i : Nat) (R : Rp) (f : Fp) (os : List (Addr × Ct)), Rs[i]? = some R → ∃ sl ws, (∀ j ∈ ws, j ∈ own.map (·.2)) ∧ Blk X scope fun Y => Tg Y (((C.plus f).to C.sl os).wipe (own.map (·.2))) R tg ((C.plus f).to sl os) ws) (hN : X.N.Nodup)
    (ho : ∀ os, Ev X (C.to C.sl os) o (isA q)) (hc : Cls X.K Cl) (hn : NoAttr X.K Cl f) (hl : fs.lookup f = none) (hz2 : fs.length < 900)
    (h : ∀ Dl as, as.length = Rs.length → Do X rest ((C.to C.sl (C.os ++ osD X.K as (List.replicate Rs.length []))).put q (ctI Cl (fs ++ [(f, isLV X.K Dl (as.map V.ref))]))).at D)
    (hca : X.calm = true := by rfl) (hfi : ∀ x, foldedSetIterable iter X.env x = pure x := by intro _; rfl)
    (hs : swapsWith (.ListComp (.List [] lp) [⟨tg, iter, [], 0⟩] scope spos) (some (.Attribute o f pos')) pos.line X.env = pure false := by rfl) : Do X (.Assign [.Attribute o f pos'] (.ListComp (.List [] lp) [⟨tg, iter, [], 0⟩] scope spos) pos :: rest) C.at D := by
  refine do_cons (M := fun σ H => ∃ Dl as, as.length = Rs.length ∧ ((C.to C.sl (C.os ++ osD X.K as (List.replicate Rs.length []))).put q (ctI Cl (fs ++ [(f, isLV X.K Dl (as.map V.ref))]))).at σ H) ?_ (Do.ex fun Dl => Do.ex fun as => Do.exP fun e => h Dl as e)
  have hov : PE X o (fun σ H Q => ∃ os, tE (C.to C.sl os) (isA q) σ H Q) := ⟨fun pins s σ H Q I ⟨os, z⟩ => (ho os).run pins s σ H Q I z⟩
  refine Do1.of (ps_fld hov (ew_rows hi ok hz hb hN hca hfi) hs) fun σ H ⟨F, c⟩ => ⟨F, c, fun Dl as F1 H1 hal c1 sq => ⟨_, F1, c1, fun x F2 H2 l2 h2 => ?_⟩⟩
  have c2 := c1.le l2
  have hf2 : findO q (C.to C.sl (C.os ++ osD X.K as (List.replicate Rs.length []))).os = some (ctI Cl fs) := findO_left hf
  obtain ⟨ob, g1, dx, fv, rfl, h3, h4⟩ := c2.at hf2
  have e1 := congrArg List.length h3
  rw [List.length_map, List.length_map] at e1
  exact ⟨q, Cl, dx, fv, h2, g1, hc, hn, by omega, Dl, as, hal, F2, c2.put (F0 := F2) (findO_mem hf2) g1 (ins_nt _ _ _) (ctI_put h3 h4 hl ⟨rfl, Evl.ex_l l2.f sq⟩)⟩
end
/-! ### classes -/
/-- what __init__ promises -/
def spIni {α : Type} (T : Tbs) (Cl : Addr) (pre : α → Prop) (Rs : α → List Rp) (fs : α → List (Str × Rp)) : Sp := fun vs H Q _ => ∃ a F H0 p dx ws, vs = .ref p :: ws ∧ pre a ∧ Le T F H0 F H ∧ F p = none ∧ H0 p = none ∧ H p = some (.ins Cl dx []) ∧ Fit F (Rs a) ws ∧
  ∀ F' H', Le T F H0 F' H' → (isObj Cl (fs a)).p (.ref p) F' → Q .non H'
structure Ini (P : Program) (w : World) (K : PySem.W.Frag) (mg : Str → Option Value) (base : Heap) (k : Nat) (Cl : Addr) (sp : Sp) : Prop where
  ex : ∃ (f : Addr) (fd : FuncData) (ps : List Str), FnOk P w K mg base CX0 k f fd ps sp ∧ Mk K Cl f ∧ Binds K fd ps []
theorem Ini.mono {P : Program} {w : World} {K : PySem.W.Frag} {mg : Str → Option Value} {base : Heap} {j k : Nat} {Cl : Addr} {sp : Sp} (D : Ini P w K mg base j Cl sp) (h : j ≤ k) : Ini P w K mg base k Cl sp :=
  let ⟨f, fd, ps, F, a⟩ := D.ex; ⟨f, fd, ps, F.mono h, a⟩
section
variable {X : Cx} {C : Cn} {T : Tbs} {A M : As} {D : Ends} {e o a b : Expr} {es : List Expr} {rest ss : List Stmt} {pos p pos' apos : Pos} {x f m : Str} {k i : Nat} {Cl q : Addr} {R : Rp} {Rs : List Rp}
/-- Cls(e, ..) -/
theorem ev_make {α : Type} {pre : α → Prop} {Rs : α → List Rp} {fs : α → List (Str × Rp)} (d : Ini X.prog X.w X.K X.mg X.base k Cl (spIni C.T Cl pre Rs fs)) (hr : Room (k + 1) X.A) (a : α) (hp : pre a) (hm : X.mg x = some (.ref Cl)) (ha : Ea X C (e :: es) (Rs a)) (hg : Gl X x := by rfl)
    (hdb : (x == ("__debug__" : Str)) = false := by decide) (he : starEach (e :: es) X.env = (false, eval e X.env) :: starEach es X.env := by rfl) (hpl : (backTo pos (starEach es X.env)).any (·.1) = false := by rfl) : Ev X C (.Call (.Name x p) (e :: es) [] pos) (isObj Cl (fs a)) := by
  obtain ⟨f, fd, ps, F, hk, hb⟩ := d.ex
  refine ev_of (pe_make hk F hr hg hm hb .nil (pass0 (X := X)) ha hdb he hpl) fun σ Fr H Q c q => ⟨Fr, c, fun vs F' H' l ft => fun y dx hy hdx ne => ?_⟩
  have l1 : Le C.T F' H' F' (upd H' dx (.own y)) := Le.newH l.w hdx
  have hy1 : upd H' dx (.own y) y = none := by rw [upd_ne (Ne.symm ne)]; exact hy
  have l2 : Le C.T F' (upd H' dx (.own y)) F' (upd (upd H' dx (.own y)) y (.ins Cl dx [])) := Le.newH l1.w hy1
  refine ⟨a, F', H', y, dx, vs, by rw [List.append_nil], hp, l1.trans l2, wok_none l.w hy, hy, upd_same, ft, fun F2 H2 l3 z => ⟨rfl, q _ F2 H2 (l.trans l3) z⟩⟩
/-- isinstance(e, Cls) -/
theorem ev_isC {fs : List (Str × Rp)} (ic : C8.InsC X.K Cl) (hm : X.mg "isinstance" = none) (ha : Ev X C a (isObj Cl fs)) (hb : Ev X C b (isA Cl)) (hg : Gl X "isinstance" := by rfl) (hs : starEach [a, b] X.env = (false, eval a X.env) :: starEach [b] X.env := by rfl)
    (hs2 : starEach [b] X.env = (false, eval b X.env) :: starEach [] X.env := by rfl) (hpl : (backTo pos (starEach [b] X.env)).any (·.1) = false := by rfl) : Ev X C (.Call (.Name "isinstance" p) [a, b] [] pos) (isD X.K (.bool true)) :=
  ev_callB (C8.call_isC ic) (Rs := [isObj Cl fs, isA Cl]) (fun xs F H w f Q q => by
    obtain ⟨v, u, rfl, h1, h2⟩ := fit2 f
    have h2 : u = .ref Cl := h2
    subst h2
    obtain ⟨z, dx, fv, rfl, h3, _⟩ := h1
    exact ⟨z, dx, fv, rfl, w.i _ _ h3, q _ F H w.le (.bl _)⟩) hm PyProof.Rows.boot_isinstance (ea_cons ha (ea_cons hb ea_nil hs2) hs) hg (he := hs) (hpl := hpl)
end
section
variable {P : Program} {w : World} {K : PySem.W.Frag} {mg : Str → Option Value} {base : Heap}
/-- a method that changes nothing that stands -/
theorem mf_pure {α : Type} {x qual : Str} {st : Stmt} {f Cl : Addr} {fd : FuncData} {N ps : List Str} {k : Nat} {T : Tbs} (pre : α → Prop) (Rs : α → List Rp) (R : α → Rp) (Fn : Fun K x qual st f fd) (S : FnScope N ps (defScope st)) (hm : Meth K Cl x f) (hb : Binds K fd ps [])
    (hl : ∀ a, (Rs a).length = ps.length)
    (body : ∀ (cdv : Value) (A : Around) (outer : List Env) (s : Shared) (H F : Hp) (E : XK) (a : α) (D : Ends), Room k (A.deeper (PyProof.Rows.envOfC qual (defScope st) s.heap.objs.size f cdv)) → pre a →
      (∀ v F' H', Le T F H F' H' → (R a).p v F' → D.rt v H') → (∀ σ' F' H', Le T F H F' H' → (R a).p .non F' → D.nx σ' H') →
      Do (bodyX P w K mg base N qual st f cdv A outer s H E) (defBody st) (Cn.mk T F H fpT (slots N.length (Rs a)) []).at D) : Mf P w K mg base (k + 1) Cl x (Pu T pre Rs R) := by
  refine ⟨f, fd, ps, Fn.ok S (fun vs H Q E h => ?_) (fun cdv A outer s H vs Q E hr h => ?_), hm, hb⟩
  · obtain ⟨a, F, _, _, h, _⟩ := h
    rw [h.length]; exact hl a
  · obtain ⟨a, F, hp, hw, hf, q⟩ := h
    refine ⟨_, (body cdv A outer s H F E a { nx := fun _ H' => Q .non H', rt := Q } hr hp q (fun σ' F' H' l z => q _ F' H' l z)).pss, rfl, F, start_ok hw hf hw.le List.nodup_nil (fun q hq => by cases hq)⟩
/-- __init__ -/
theorem ini_pure {α : Type} {qual : Str} {st : Stmt} {f Cl : Addr} {fd : FuncData} {N ps : List Str} {k : Nat} {T : Tbs} (pre : α → Prop) (Rs : α → List Rp) (fs : α → List (Str × Rp)) (Fn : Fun K "__init__" qual st f fd) (S : FnScope N ps (defScope st)) (hm : Mk K Cl f) (hb : Binds K fd ps [])
    (hl : ∀ a, (Rs a).length + 1 = ps.length)
    (body : ∀ (cdv : Value) (A : Around) (outer : List Env) (s : Shared) (H F H0 : Hp) (E : XK) (a : α) (D : Ends) (q : Addr), Room k (A.deeper (PyProof.Rows.envOfC qual (defScope st) s.heap.objs.size f cdv)) → pre a →
      (∀ σ' F' H', Le T F H0 F' H' → (isObj Cl (fs a)).p (.ref q) F' → D.nx σ' H') →
      Do (bodyX P w K mg base N qual st f cdv A outer s H E) (defBody st) (Cn.mk T F H0 fpT (slots N.length (isA q :: Rs a)) [(q, ctI Cl [])]).at D) : Ini P w K mg base (k + 1) Cl (spIni T Cl pre Rs fs) := by
  refine ⟨f, fd, ps, Fn.ok S (fun vs H Q E h => ?_) (fun cdv A outer s H vs Q E hr h => ?_), hm, hb⟩
  · obtain ⟨a, F, H0, p, dx, ws, rfl, _, _, _, _, _, h, _⟩ := h
    rw [List.length_cons, h.length]; exact hl a
  · obtain ⟨a, F, H0, p, dx, ws, rfl, hp, l, hF, h0, hH, ft, q⟩ := h
    refine ⟨_, (body cdv A outer s H F H0 E a { nx := fun _ H' => Q .non H', rt := Q } p hr hp (fun σ' F' H' l z => q F' H' l z)).pss, rfl, F, start_ok l.w (.cons rfl ft) l (by simp) (fun r hr => ?_)⟩
    rw [List.mem_singleton.mp hr]
    exact ⟨hF, h0, _, hH, ins_nt _ _ _, dx, [], rfl, rfl, .nil⟩
end
end Pl

set_option Elab.async false
set_option autoImplicit false
set_option linter.all false
set_option maxRecDepth 100000
set_option maxHeartbeats 4000000
namespace Pl
open PySem PySem.Spec L2
open GxR (TabG Tabbed)
open LamX (ExtN TabS CodeO)
open NdefX (NTab TabN TabsN NF FnO)
section
variable {P : Program} {w : World} {K : PySem.W.Frag} {mg : Str → Option Value} {base : Heap}
/-- as df_pure, the code object told -/
theorem df_pureC {α : Type} {x qual : Str} {st : Stmt} {f : Addr} {fd : FuncData} {N ps : List Str} {k : Nat} {T : Tbs} (cd : Value) (pre : α → Prop) (Rs : α → List Rp) (R : α → Rp) (Fn : Fun K x qual st f fd) (hcode : fd.code = cd) (S : FnScope N ps (defScope st)) (hm : mg x = some (.ref f)) (hb : Binds K fd ps [])
    (hl : ∀ a, (Rs a).length = ps.length)
    (body : ∀ (A : Around) (outer : List Env) (s : Shared) (H F : Hp) (E : XK) (a : α) (D : Ends), Room k (A.deeper (PyProof.Rows.envOfC qual (defScope st) s.heap.objs.size f cd)) → pre a →
      (∀ v F' H', Le T F H F' H' → (R a).p v F' → D.rt v H') → (∀ σ' F' H', Le T F H F' H' → (R a).p .non F' → D.nx σ' H') →
      Do (bodyX P w K mg base N qual st f cd A outer s H E) (defBody st) (Cn.mk T F H fpT (slots N.length (Rs a)) []).at D) : Df P w K mg base (k + 1) x (Pu T pre Rs R) := by
  obtain ⟨oc, od, kV, doc, pm, an, cdv, ct, osl, rfl, lk, hcd⟩ := Fn.ex
  have e : cdv = cd := hcode
  subst e
  refine ⟨f, _, ps, fn_of lk hcd S (fun vs H Q E h => ?_) (fun A outer s H vs Q E hr h => ?_), hm, Fn.kp, hb⟩
  · obtain ⟨a, F, _, _, h, _⟩ := h
    rw [h.length]; exact hl a
  · obtain ⟨a, F, hp, hw, hf, q⟩ := h
    exact ⟨_, (body A outer s H F E a { nx := fun _ H' => Q .non H', rt := Q } hr hp q (fun σ' F' H' l z => q _ F' H' l z)).pss.nox, rfl, F, start_ok hw hf hw.le List.nodup_nil (fun q hq => by cases hq)⟩
/-- as dh_pure, the code object told -/
theorem dh_pureC {α : Type} {x : Str} {st : Stmt} {g : Addr} {fd : FuncData} {N ps : List Str} {k j : Nat} {T : Tbs} (cd : Value) (pre : α → Prop) (Rs : α → List Rp) (R : α → Rp) (ct : α → Ctr) (Fn : Fun K x x st g fd) (hcode : fd.code = cd) (S : FnScope N ps (defScope st)) (hm : mg x = some (.ref g)) (hb : Binds K fd ps [])
    (hl : ∀ a, (Rs a).length + 1 = ps.length)
    (body : ∀ (A : Around) (outer : List Env) (s : Shared) (H F : Hp) (E : XK) (a : α) (f : Addr) (D : Ends), Room k (A.deeper (PyProof.Rows.envOfC x (defScope st) s.heap.objs.size g cd)) → pre a → FnC P w K mg base T j (ct a) f F H s →
      (∀ v F' H', Le T F H F' H' → (R a).p v F' → D.rt v H') → (∀ σ' F' H', Le T F H F' H' → (R a).p .non F' → D.nx σ' H') →
      Do (bodyX P w K mg base N x st g cd A outer s H E) (defBody st) (Cn.mk T F H fpT (slots N.length (Rs a ++ [isA f])) []).at D) : Dh P w K mg base (k + 1) x T pre Rs R j ct := by
  obtain ⟨oc, od, kV, doc, pm, an, cdv, ctt, osl, rfl, lk, hcd⟩ := Fn.ex
  have e : cdv = cd := hcode
  subst e
  refine ⟨g, hm, Fn.kp, fun A outer s F H us vs f a Q hr e0 kin hp hw r ft fc q => ?_⟩
  have ft' : Fit F (Rs a ++ [isA f]) (vs ++ [.ref f]) := fit_snoc (R := isA f) rfl ft
  have hl' : (vs ++ [V.ref f]).length = ps.length := by rw [List.length_append, ft.length]; exact hl a
  refine LamX.run_ofS (N := N) (ps := ps) (us := us) (vs := vs ++ [.ref f]) lk hcd S hr e0 ?_ r hl' fun hr' => ?_
  · have hb' := hb s us kin (by rw [List.append_nil, ← r.length]; exact hl')
    rw [List.append_nil] at hb'
    exact hb'
  · exact ⟨_, (body A outer s H F E0 a f { nx := fun _ H' => Q .non H', rt := Q } hr' hp fc q (fun σ' F' H' l z => q _ F' H' l z)).pss.nox, rfl, F, start_ok hw ft' hw.le List.nodup_nil (fun q hq => by cases hq)⟩
end
section
variable {X : Cx} {C : Cn} {e o : Expr} {es : List Expr} {pos apos : Pos} {m : Str} {k : Nat} {Cl : Addr}
/-- o.m(e, ..), the fields told by the argument -/
theorem ev_methA {α : Type} {pre : α → Prop} {fs : α → List (Str × Rp)} {Rs : α → List Rp} {R : α → Rp} (d : Mf X.prog X.w X.K X.mg X.base k Cl m (Pu C.T pre (fun a => isObj Cl (fs a) :: Rs a) R)) (hr : Room k X.A) (a : α) (hp : pre a) (hc : Cls X.K Cl) (hl : (fs a).lookup m = none) (ho : Ev X C o (isObj Cl (fs a))) (ha : Ea X C (e :: es) (Rs a))
    {pl : Sem Bool} (hst : starEach (e :: es) X.env = (false, eval e X.env) :: starEach es X.env := by rfl) (hpl : (backTo pos (starEach es X.env)).any (·.1) = false := by rfl)
    (ht : eval (.Call (.Attribute o m apos) (e :: es) [] pos) X.env = (do
      let ov ← eval o X.env
      standAt apos.atName
      let (f, first) ← holding [ov] (getMethod ov m pl)
      callWith pos f first (backTo pos (starEach (e :: es) X.env)) (backToKw pos (keywordEach [] X.env))) := by rfl) : Ev X C (.Call (.Attribute o m apos) (e :: es) [] pos) (R a) := by
  obtain ⟨f, fd, ps, F, hm, hb⟩ := d.ex
  refine ev_of (pe_meth (pl := pl) ho hc hm F hr hb .nil (pass0 (X := X)) ha hst hpl ht) fun σ Fr H Q c q => ⟨Fr, c, fun v F' H' l ⟨z, dx, fv, h1, h2, h3, h4⟩ => ?_⟩
  subst h1
  refine ⟨z, dx, fv, rfl, l.w.i _ _ h2, fit_lookup_none h3 hl, F', c.le l, fun vs F2 H2 l2 ft => ?_⟩
  show Pu C.T pre (fun a => isObj Cl (fs a) :: Rs a) R (V.ref z :: (vs ++ [])) H2 Q E0
  rw [List.append_nil]
  exact ⟨a, F2, hp, l2.w, .cons ((isObj Cl (fs a)).mono l2.f ⟨z, dx, fv, rfl, h2, h3, h4⟩) ft, fun v F3 H3 l3 r => q v F3 H3 ((l.trans l2).trans l3) r⟩
end
section
variable {X : Cx} {C : Cn} {pos : Pos} {R : Rp}
/-- a local by its slot -/
theorem ev_v (i : Nat) {x : Str} (hN : X.N[i]? = some x := by rfl) (hv : Vis X.env.scope x := by first | exact Or.inl rfl | exact Or.inr (Or.inl rfl) | exact Or.inr (Or.inr rfl)) (hs : C.sl[i]? = some (some R) := by rfl) (hd : (x == ("__debug__" : Str)) = false := by decide)
    (hcd : (x == ("__classdict__" : Str)) = false := by decide) : Ev X C (.Name x pos) R := ev_var hN hv hs hd hcd
end
end Pl

set_option Elab.async false
set_option autoImplicit false
set_option linter.all false
set_option maxRecDepth 100000
set_option maxHeartbeats 4000000
namespace Pl
open PySem PySem.Spec L2
section
variable {X : Cx} {C : Cn} {e : Expr} {pos p : Pos} {l : Addr} {kvs : Kvs}
theorem tW_mono {G G' : V → Hp → List (Addr × Ct) → Prop} (h : PE X e (tW C G)) (k : ∀ v F o, G v F o → G' v F o) : PE X e (tW C G') := PE.of h fun σ H Q ⟨F, c, q⟩ => ⟨F, c, fun v F' H' os' c' lm hn g => q v F' H' os' c' lm hn (k v F' os' g)⟩
/-- len(d), keys tuples -/
theorem ev_lenN (hf : findO l C.os = some (ctDN X.prog X.w X.K l kvs)) (hz : kvs.length < 100000) (hm : X.mg "len" = none) (h : Ev X C e (isA l)) (hg : Gl X "len" := by rfl) (hse : S1 X e := by rfl) : Ev X C (.Call (.Name "len" p) [e] [] pos) (isD X.K (.int (kvs.length : Int))) := by
  have cr : CallR X (.builtin "len") (fun xs H Q => ∃ d raw F kvs', xs = [V.ref d] ∧ Ex F H ∧ H d = some (DictNO X.prog X.w d raw) ∧ PN1 X.K F raw kvs' ∧ kvs'.length < 100000 ∧ Q (.int (kvs'.length : Int)) H) := by
    intro pins s σ H xs us Q I r hh
    obtain ⟨d, raw, F, kvs', rfl, e, hd, m, hz, q⟩ := hh
    rw [Vals.ref1 r]
    obtain ⟨a1, a2, xs, a3, Dh⟩ := dn_of I e hd m
    have hl : xs.length = kvs'.length := (Paired.length a3).symm.trans (Paired.length m)
    refine call_len_dictH a1 Dh (by omega) ?_
    exact ⟨.int kvs'.length, H, I.tok _, ⟨_, by rw [hl]⟩, q⟩
  exact ev_of (pe_callB cr hg hm PySem.boot_len (ea1 h hse) (by decide) (by decide) hse) fun σ F H Q c q => ⟨F, c, fun vs F' H' l' f => by
    obtain ⟨v, rfl, h⟩ := fit1 f
    obtain ⟨ob, h1, raw, rfl, m⟩ := (c.le l').at hf
    exact ⟨l, raw, F', kvs, by rw [show v = .ref l from h], l'.w.i, h1, m, hz, q _ F' H' l' (.int _)⟩⟩
/-- return [elt for tg in iter], owned objects changed on the way -/
theorem do_retS {D : Ends} {elt tg iter : Expr} {scope : Scope} {own : List (Str × Nat)} {Rs : List Rp} {rest : List Stmt} {rpos : Pos} (S : Nat → List V → List (Addr × Ct) → Hp → Prop) (G : Nat → List (Addr × Ct) → V → Hp → List (Addr × Ct) → Prop) (hm : ∀ i us os F F', Ex F F' → S i us os F → S i us os F') (hlen : ∀ i us os F, S i us os F → us.length = i)
    (hG : ∀ i us os F v F' os', S i us os F → Ex F F' → G i os v F' os' → S (i + 1) (us ++ [v]) os' F')
    (hi : Iv X C tg iter Rs) (ok : BlkOk X.N X.env.scope scope own) (hz : Rs.length ≤ 100000) (h0 : ∀ F, S 0 [] C.os F)
    (hb : ∀ (i : Nat) (R : Rp) (f : Fp) (os : List (Addr × Ct)) (us : List V) (F : Hp), Rs[i]? = some R → S i us os F → TurnS X C scope (own.map (·.2)) tg elt R f os (G i os)) (hN : X.N.Nodup)
    (h : ∀ Dl us σ F' H' os', (C.to C.sl os').ok σ F' H' → SqL X.K F' Dl us → S Rs.length us os' F' → D.rt (.ref Dl) H') (hc : X.calm = true := by rfl) (hs : ∀ x, foldedSetIterable iter X.env x = pure x := by intro _; rfl) :
    Do X (.Return (some (.ListComp elt [⟨tg, iter, [], 0⟩] scope pos)) rpos :: rest) C.at D :=
  do_cons (M := fun _ _ => False) (Do1.of (ps_ret (ew_lcS S G hm hlen hG hi ok hz h0 hb hN hc hs)) fun σ H ⟨F, c⟩ => ⟨F, c, fun Dl us F' H' os' c' sq hS => h Dl us σ F' H' os' c' sq hS⟩) Do.no
end
end Pl

set_option Elab.async false
set_option autoImplicit false
set_option linter.all false
set_option maxRecDepth 100000
set_option maxHeartbeats 4000000
namespace Kk
open PySem L2 Pl
def top (i : Nat) : Stmt := PySem.Challenge.pw_parley_k41_small_systems.main.body.getD i (.Pass ⟨0, 0, 0, 0⟩)
abbrev sEvent : Stmt := top 10
abbrev sAction : Stmt := top 15
abbrev sInit : Stmt := inClass (top 16) 0
abbrev sEq : Stmt := inClass (top 16) 1
abbrev sCheck : Stmt := inClass (top 16) 2
abbrev sLeaving : Stmt := inClass (top 16) 3
/-! ### data -/
abbrev Ed := Nat × Str × Nat
abbrev Rw := Str × Nat
def encE (e : Ed) : PD := .tuple [.int (e.1 : Int), .str e.2.1, .int (e.2.2 : Int)]
def encR (r : Rw) : PD := .tuple [.str r.1, .int (r.2 : Int)]
def iN (n : Nat) : PD := .int (n : Int)
def acts : List Str := ["a", "b", "c", "tau", "tick"]
/-- a state's rows -/
def rowOf (es : List Ed) (s : Nat) : List Rw := es.filterMap fun e => if e.1 = s then some e.2 else none
def rowsD (n : Nat) (es : List Ed) : PD := .list ((List.range n).map fun s => .list ((rowOf es s).map encR))
/-- well made: states in range, known actions, few -/
structure Wf (n : Nat) (es : List Ed) : Prop where
  pos : 1 ≤ n
  few : n ≤ 100
  lt : ∀ e ∈ es, e.1 < n ∧ e.2.2 < n
  act : ∀ e ∈ es, e.2.1 ∈ acts
  many : es.length < 64
theorem noFree {l : List (Str × NameKind)} (h : l.all (fun y => !decide (y.2 = .free)) = true) {Q : Str × NameKind → Prop} : ∀ y ∈ l, y.2 = .free → Q y := fun y hy e => by
  have := List.all_eq_true.mp h y hy
  rw [e] at this
  cases this
def resv : List Str := ["stop", "skip", "tau", "tick", "true", "loops"]
/-- the module's constants -/
structure Cst (K : PySem.W.Frag) (mg : Str → Option Value) : Prop where
  lower : ∃ t, mg "LOWER" = some (.str "abcdefghijklmnopqrstuvwxyz" t)
  digits : ∃ t, mg "DIGITS" = some (.str "0123456789" t)
  longest : ∃ t, mg "LONGEST" = some (.int 12 t)
  reserved : ∃ a, mg "RESERVED" = some (.ref a) ∧ ∀ F, Dp K F (.ref a) (.tuple (resv.map PyData.str))
  tau : ∃ t, mg "TAU" = some (.str "tau" t)
  tick : ∃ t, mg "TICK" = some (.str "tick" t)
  most : ∃ t, mg "MOST_STATES" = some (.int 20000 t)
section
variable {P : Program} {w : World} {K : PySem.W.Frag} {mg : Str → Option Value} {base : Heap} {T : Tbs}
theorem scEvent : FnScope ["word"] ["word"] (defScope sEvent) := ⟨rfl, rfl, rfl, by decide +kernel, rfl, by decide +kernel, by decide +kernel⟩
theorem scAction : FnScope ["word"] ["word"] (defScope sAction) := ⟨rfl, rfl, rfl, by decide +kernel, rfl, by decide +kernel, by decide +kernel⟩
theorem scInit : FnScope ["self", "count", "edges", "state", "action", "target"] ["self", "count", "edges"] (defScope sInit) := ⟨rfl, rfl, rfl, by decide +kernel, rfl, by decide +kernel, by decide +kernel⟩
theorem scEq : FnScope ["self", "other"] ["self", "other"] (defScope sEq) := ⟨rfl, rfl, rfl, by decide +kernel, rfl, by decide +kernel, by decide +kernel⟩
theorem scCheck : FnScope ["self", "state"] ["self", "state"] (defScope sCheck) := ⟨rfl, rfl, rfl, by decide +kernel, rfl, by decide +kernel, by decide +kernel⟩
theorem scLeaving : FnScope ["self", "state"] ["self", "state"] (defScope sLeaving) := ⟨rfl, rfl, rfl, by decide +kernel, rfl, by decide +kernel, by decide +kernel⟩
/-- the fields -/
def fsS (n : Nat) (es : List Ed) : List (Str × Rp) := [("count", isD K (iN n)), ("edges", isD K (.tuple (es.map encE))), ("rows", isD K (rowsD n es))]
theorem mf_check {f Cl : Addr} {fd : FuncData} (F : Fun K "check_state" "System.check_state" sCheck f fd) (hm : Meth K Cl "check_state" f) (hb : Binds K fd ["self", "state"] []) (hc : Cls K Cl) (nc : NoAttr K Cl "count") :
    Mf P w K mg base 1 Cl "check_state" (Pu T (fun (a : (Nat × List Ed) × Nat) => a.2 < a.1.1) (fun a => [isObj Cl (fsS (K := K) a.1.1 a.1.2), isD K (iN a.2)]) (fun _ => isD K .none)) := by
  refine mf_pure _ _ _ F scCheck hm hb (fun _ => rfl) ?_
  rintro cdv A outer s H Fr E ⟨⟨n, es⟩, k⟩ D hr hp _ nx
  have hp : k < n := hp
  refine do_ifr (et_or (et_ltI (ev_v 1) ev_int) fun _ => ew_or1 (et_geI (ev_v 1) (ev_fld (ev_v 0) hc nc rfl))) (fun hb => ?_) (fun _ => do_nil fun σ H' ⟨F', c⟩ => nx σ F' H' c.en .non)
  exfalso
  simp at hb
  omega
theorem mf_leaving {f Cl : Addr} {fd : FuncData} (F : Fun K "leaving" "System.leaving" sLeaving f fd) (hm : Meth K Cl "leaving" f) (hb : Binds K fd ["self", "state"] []) (hc : Cls K Cl) (nr : NoAttr K Cl "rows") (mList : mg "list" = none)
    (dc : Mf P w K mg base 1 Cl "check_state" (Pu T (fun (a : (Nat × List Ed) × Nat) => a.2 < a.1.1) (fun a => [isObj Cl (fsS (K := K) a.1.1 a.1.2), isD K (iN a.2)]) (fun _ => isD K .none))) :
    Mf P w K mg base 2 Cl "leaving" (Pu T (fun (a : (Nat × List Ed) × Nat) => a.2 < a.1.1) (fun a => [isObj Cl (fsS (K := K) a.1.1 a.1.2), isD K (iN a.2)]) (fun a => isD K (.list ((rowOf a.1.2 a.2).map encR)))) := by
  refine mf_pure _ _ _ F scLeaving hm hb (fun _ => rfl) ?_
  rintro cdv A outer s H Fr E ⟨⟨n, es⟩, k⟩ D hr hp ret _
  have hp : k < n := hp
  refine do_drop (ev_methA (fs := fun a => fsS a.1.1 a.1.2) (Rs := fun a => [isD K (iN a.2)]) dc hr ((n, es), k) hp hc rfl (ev_v 0) (ea1 (ev_v 1))) ?_
  refine do_ret (En.ev (en_listL mList (ev_ixL (d := .list ((rowOf es k).map encR)) (atI_nat (by rw [List.getElem?_map, List.getElem?_range hp] <;> rfl)) (ev_fld (ev_v 0) hc nr rfl) (ev_v 1)))) ?_
  intro σ v F' H' c hv
  exact ret v F' H' c.en hv
theorem df_event {f : Addr} {fd : FuncData} {c Pt : Addr} (F : Fun K "is_event" "is_event" sEvent f fd) (hcode : fd.code = .ref c) (hm : mg "is_event" = some (.ref f)) (hb : Binds K fd ["word"] []) (cs : Cst K mg) (mLen : mg "len" = none) (mAll : mg "all" = none)
    (TB : GxR.TabB base mg c Pt) (hT : Pt ∈ T.g) (hn : ∀ q ∈ T.n, q.1 ≠ Pt) : Df P w K mg base 3 "is_event" (Pu T (fun s : Str => s = "a" ∨ s = "b" ∨ s = "c") (fun s => [isD K (.str s)]) (fun _ => isD K (.bool true))) := by
  refine df_pureC (.ref c) _ _ _ F hcode scEvent hm hb (fun _ => rfl) ?_
  intro A outer s H Fr E z D hr hp ret _
  obtain ⟨t1, h1⟩ := cs.lower
  obtain ⟨t2, h2⟩ := cs.digits
  obtain ⟨t3, h3⟩ := cs.longest
  obtain ⟨a4, h4, h5⟩ := cs.reserved
  have facts : ∃ ch : Nat, z.length = 1 ∧ z.cps.toList = [ch] ∧ ch ∈ ("abcdefghijklmnopqrstuvwxyz" : Str).cps.toList ∧ inV (toV (.str z)) ((resv.map PyData.str).map toV) = false := by
    rcases hp with rfl | rfl | rfl
    · exact ⟨97, by decide +kernel, by decide +kernel, by decide +kernel, by decide +kernel⟩
    · exact ⟨98, by decide +kernel, by decide +kernel, by decide +kernel, by decide +kernel⟩
    · exact ⟨99, by decide +kernel, by decide +kernel, by decide +kernel, by decide +kernel⟩
  obtain ⟨ch, f1, f2, f3, f4⟩ := facts
  have hz : z.length ≤ sizeLine := by rw [f1, sizeLine_eq]; decide
  refine do_ifr (et_or (et_ltI (ev_lenS hz mLen (ev_v 0)) ev_int) fun _ => ew_or (et_gtI (ev_lenS hz mLen (ev_v 0)) (ev_glob (v := .int 12) (R := isD K (.int 12)) rfl h3 ⟨t3, rfl⟩ fun _ => .int 12)) fun _ =>
    ew_or (et_ninS (c := ch) (ev_ixS hz (c := ch) (by rw [f2]; rfl) (ev_v 0) ev_int) (ev_glob (v := .str "abcdefghijklmnopqrstuvwxyz") (R := isD K (.str "abcdefghijklmnopqrstuvwxyz")) rfl h1 ⟨t1, rfl⟩ fun _ => .str _)) fun _ =>
      ew_or1 (et_inFT (ds := resv.map PyData.str) rfl (by decide +kernel) (ev_v 0) (ev_glob (R := isD K (.tuple (resv.map PyData.str))) (v := .ref a4) rfl h4 rfl h5))) (fun hb => ?_) (fun _ => ?_)
  · exfalso
    rw [f4] at hb
    simp [f1, f3] at hb
  · refine do_ret (ev_allG hr mAll TB rfl hT hn ⟨rfl, rfl, by decide, rfl, rfl, noFree rfl⟩ (ev_v 0) (elt_or (elt_inG rfl rfl rfl h1) (elt_inG rfl rfl rfl h2))) ?_
    intro σ v F' H' c hv
    refine ret v F' H' c.en ?_
    have hv : Dp K F' v (.bool (z.cps.toList.all fun c => decide (c ∈ ("abcdefghijklmnopqrstuvwxyz" : Str).cps.toList) || decide (c ∈ ("0123456789" : Str).cps.toList))) := hv
    rw [f2] at hv
    have e : ([ch].all fun c => decide (c ∈ ("abcdefghijklmnopqrstuvwxyz" : Str).cps.toList) || decide (c ∈ ("0123456789" : Str).cps.toList)) = true := by
      rw [List.all_cons, List.all_nil, decide_eq_true f3]; rfl
    rw [e] at hv
    exact hv
theorem df_action {f : Addr} {fd : FuncData} (F : Fun K "is_action" "is_action" sAction f fd) (hm : mg "is_action" = some (.ref f)) (hb : Binds K fd ["word"] []) (cs : Cst K mg)
    (dE : Df P w K mg base 3 "is_event" (Pu T (fun s : Str => s = "a" ∨ s = "b" ∨ s = "c") (fun s => [isD K (.str s)]) (fun _ => isD K (.bool true)))) :
    Df P w K mg base 4 "is_action" (Pu T (fun s : Str => s ∈ acts) (fun s => [isD K (.str s)]) (fun _ => isD K (.bool true))) := by
  refine df_pure _ _ _ F scAction hm hb (fun _ => rfl) ?_
  intro cdv A outer s H Fr E z D hr hp ret _
  obtain ⟨t1, h1⟩ := cs.tau
  obtain ⟨t2, h2⟩ := cs.tick
  have ht : ∀ {k : Bool}, inV (toV (.str z)) (([.str "tau", .str "tick"] : List PD).map toV) = k → k = true ∨ (z = "a" ∨ z = "b" ∨ z = "c") := by
    intro k hk
    have hp : z ∈ acts := hp
    simp only [acts, List.mem_cons, List.not_mem_nil, or_false] at hp
    rcases hp with rfl | rfl | rfl | rfl | rfl
    · exact .inr (.inl rfl)
    · exact .inr (.inr (.inl rfl))
    · exact .inr (.inr (.inr rfl))
    · exact .inl (by rw [← hk]; decide +kernel)
    · exact .inl (by rw [← hk]; decide +kernel)
  refine do_ret (R := isD K (.bool (inV (toV (.str z)) (([.str "tau", .str "tick"] : List PD).map toV) || true))) (ev_or (ev_inFT rfl rfl (ev_v 0) (ev_tup (ea_cons (ev_glob (v := .str "tau") (R := isD K (.str "tau")) rfl h1 ⟨t1, rfl⟩ fun _ => .str _) (ea_cons (ev_glob (v := .str "tick") (R := isD K (.str "tick")) rfl h2 ⟨t2, rfl⟩ fun _ => .str _) ea_nil)))) fun hk => ev_one (ev_call (R := fun _ => isD K (.bool true)) dE hr z ?_ (ea1 (ev_v 0)))) ?_
  · rcases ht hk with q | q
    · cases q
    · exact q
  · intro σ v F' H' c hv
    refine ret v F' H' c.en ?_
    rw [Bool.or_true] at hv
    exact hv
end
end Kk

set_option Elab.async false
set_option autoImplicit false
set_option linter.all false
set_option maxRecDepth 100000
set_option maxHeartbeats 4000000
namespace Pl
open PySem L2
/-- some slots are forgotten -/
inductive Fg : List (Option Rp) → List (Option Rp) → Prop where
  | nil : Fg [] []
  | keep {x : Option Rp} {a b : List (Option Rp)} : Fg a b → Fg (x :: a) (x :: b)
  | drop {x : Option Rp} {a b : List (Option Rp)} : Fg a b → Fg (none :: a) (x :: b)
theorem Fg.length {a b : List (Option Rp)} (h : Fg a b) : a.length = b.length := by
  induction h with
  | nil => rfl
  | keep _ ih => simp [ih]
  | drop _ ih => simp [ih]
theorem Fg.get {a b : List (Option Rp)} (h : Fg a b) : ∀ {i : Nat} {R : Rp}, a[i]? = some (some R) → b[i]? = some (some R) := by
  induction h with
  | nil => intro i R h; simp at h
  | keep _ ih =>
    intro i R h
    cases i with
    | zero => simpa using h
    | succ i => simpa using ih (i := i) (by simpa using h)
  | drop _ ih =>
    intro i R h
    cases i with
    | zero => simp at h
    | succ i => simpa using ih (i := i) (by simpa using h)
theorem Cn.ok.fg {C : Cn} {σ : L2.St} {F H : Hp} {sl : List (Option Rp)} (c : C.ok σ F H) (h : Fg sl C.sl) : (C.to sl C.os).ok σ F H := ⟨c.w, c.len.trans h.length.symm, fun i R e => c.sl i R (h.get e), c.os, c.nd, c.ff, c.en⟩
theorem Do.eq {X : Cx} {C C' : Cn} {ss : List Stmt} {D : Ends} (e : C = C') (h : Do X ss C'.at D) : Do X ss C.at D := e ▸ h
theorem findO_head {q : Addr} {ct : Ct} {r : List (Addr × Ct)} : findO q ((q, ct) :: r) = some ct := if_pos rfl
theorem findO_next {q a : Addr} {ct : Ct} {r : List (Addr × Ct)} (h : a ≠ q) : findO q ((a, ct) :: r) = findO q r := if_neg h
theorem putO_head {q : Addr} {ct ct' : Ct} {r : List (Addr × Ct)} : putO q ct' ((q, ct) :: r) = (q, ct') :: r := if_pos rfl
theorem putO_next {q a : Addr} {ct ct' : Ct} {r : List (Addr × Ct)} (h : a ≠ q) : putO q ct' ((a, ct) :: r) = (a, ct) :: putO q ct' r := if_neg h
theorem dropO_head {q : Addr} {ct : Ct} {r : List (Addr × Ct)} : dropO q ((q, ct) :: r) = r := if_pos rfl
theorem dropO_next {q a : Addr} {ct : Ct} {r : List (Addr × Ct)} (h : a ≠ q) : dropO q ((a, ct) :: r) = (a, ct) :: dropO q r := if_neg h
theorem Fg.refl : ∀ (a : List (Option Rp)), Fg a a
  | [] => .nil
  | _ :: a => .keep (Fg.refl a)
end Pl
namespace Kk
open PySem L2 Pl
/-! ### once, sorted -/
def once {α : Type} [DecidableEq α] (l : List α) : List α := l.foldl (fun f r => if r ∈ f then f else f ++ [r]) []
section
variable {α β : Type} [DecidableEq α] [DecidableEq β]
theorem rev_ind {p : List α → Prop} (h0 : p []) (h1 : ∀ l x, p l → p (l ++ [x])) (l : List α) : p l := by
  have : ∀ m : List α, p m.reverse := by
    intro m
    induction m with
    | nil => exact h0
    | cons x m ih => rw [List.reverse_cons]; exact h1 _ x ih
  have h := this l.reverse
  rwa [List.reverse_reverse] at h
theorem once_snoc (l : List α) (x : α) : once (l ++ [x]) = if x ∈ once l then once l else once l ++ [x] := by
  unfold once
  rw [List.foldl_append] <;> rfl
theorem once_spec : ∀ (l : List α), (once l).Nodup ∧ ∀ x, x ∈ once l ↔ x ∈ l := by
  intro l
  refine rev_ind (p := fun l => (once l).Nodup ∧ ∀ x, x ∈ once l ↔ x ∈ l) ⟨List.nodup_nil, fun x => Iff.rfl⟩ (fun l y ih => ?_) l
  · obtain ⟨h1, h2⟩ := ih
    rw [once_snoc]
    by_cases h : y ∈ once l
    · rw [if_pos h]
      refine ⟨h1, fun x => ?_⟩
      rw [List.mem_append, h2]
      constructor
      · exact .inl
      · rintro (z | z)
        · exact z
        · rw [List.mem_singleton.mp z]; exact (h2 y).mp h
    · rw [if_neg h]
      refine ⟨List.nodup_append.mpr ⟨h1, by simp, fun a ha b hb => ?_⟩, fun x => by rw [List.mem_append, List.mem_append, h2]⟩
      rw [List.mem_singleton.mp hb]
      intro z
      exact h (z ▸ ha)
theorem once_nodup (l : List α) : (once l).Nodup := (once_spec l).1
theorem mem_once {l : List α} {x : α} : x ∈ once l ↔ x ∈ l := (once_spec l).2 x
theorem once_len (l : List α) : (once l).length ≤ l.length := by
  refine rev_ind (p := fun l => (once l).length ≤ l.length) (Nat.le_refl 0) (fun l y ih => ?_) l
  rw [once_snoc]
  split
  · rw [List.length_append]; omega
  · rw [List.length_append, List.length_append]; simpa using ih
end
theorem iN_inj {a b : Nat} (h : ((a : Int)) = (b : Int)) : a = b := Int.ofNat.inj h
theorem encE_inj {a b : Ed} (h : encE a = encE b) : a = b := by
  obtain ⟨a1, a2, a3⟩ := a
  obtain ⟨b1, b2, b3⟩ := b
  unfold encE at h
  simp only [PyData.tuple.injEq, List.cons.injEq, PyData.int.injEq, PyData.str.injEq, and_true] at h
  obtain ⟨h1, h2, h3⟩ := h
  rw [Int.ofNat.inj h1, h2, Int.ofNat.inj h3]
theorem encR_inj {a b : Rw} (h : encR a = encR b) : a = b := by
  obtain ⟨a2, a3⟩ := a
  obtain ⟨b2, b3⟩ := b
  unfold encR at h
  simp only [PyData.tuple.injEq, List.cons.injEq, PyData.int.injEq, PyData.str.injEq, and_true] at h
  obtain ⟨h2, h3⟩ := h
  rw [h2, Int.ofNat.inj h3]
/-- the order of edges, of rows -/
def leE (a b : Ed) : Bool := ple (encE a) (encE b)
def leR (a b : Rw) : Bool := ple (encR a) (encR b)
def srtE (l : List Ed) : List Ed := l.mergeSort leE
def srtR (l : List Rw) : List Rw := l.mergeSort leR
theorem srt_E (l : List Ed) : srt (l.map encE) = (srtE l).map encE := (List.map_mergeSort (r := leE) (s := ple) (f := encE) (l := l) (fun a _ b _ => rfl)).symm
theorem srt_R (l : List Rw) : srt (l.map encR) = (srtR l).map encR := (List.map_mergeSort (r := leR) (s := ple) (f := encR) (l := l) (fun a _ b _ => rfl)).symm
theorem kd_E (e : Ed) : KD (encE e) := ⟨by simp [keyD, keyDs, encE], by simp [encE, PyData.depth, PyData.depthAll], _, rfl⟩
theorem kd_R (e : Rw) : KD (encR e) := ⟨by simp [keyD, keyDs, encR], by simp [encR, PyData.depth, PyData.depthAll], _, rfl⟩
theorem al_E (l : List Ed) : PySem.W.AllAlike (l.map encE) := fun d hd d' hd' => by
  obtain ⟨a, _, rfl⟩ := List.mem_map.mp hd
  obtain ⟨b, _, rfl⟩ := List.mem_map.mp hd'
  simp [encE, PySem.W.alike, PySem.W.alikeAll]
theorem al_R (l : List Rw) : PySem.W.AllAlike (l.map encR) := fun d hd d' hd' => by
  obtain ⟨a, _, rfl⟩ := List.mem_map.mp hd
  obtain ⟨b, _, rfl⟩ := List.mem_map.mp hd'
  simp [encR, PySem.W.alike, PySem.W.alikeAll]
theorem sb_E (l : List Ed) (h : l.length ≤ 1000) : Sb (l.map encE) := ⟨al_E l, .inl fun d hd => by
  obtain ⟨a, _, rfl⟩ := List.mem_map.mp hd
  exact ⟨_, _, rfl⟩, fun d hd => by
  obtain ⟨a, _, rfl⟩ := List.mem_map.mp hd
  exact Nat.le_trans (kd_E a).2.1 (by decide), by rw [List.length_map]; omega⟩
theorem sb_R (l : List Rw) (h : l.length ≤ 1000) : Sb (l.map encR) := ⟨al_R l, .inl fun d hd => by
  obtain ⟨a, _, rfl⟩ := List.mem_map.mp hd
  exact ⟨_, _, rfl⟩, fun d hd => by
  obtain ⟨a, _, rfl⟩ := List.mem_map.mp hd
  exact Nat.le_trans (kd_R a).2.1 (by decide), by rw [List.length_map]; omega⟩
theorem ks_E (l : List Ed) : Ks (l.map encE) := ⟨al_E l, fun d hd => by
  obtain ⟨a, _, rfl⟩ := List.mem_map.mp hd
  exact (kd_E a).1⟩
theorem ks_R (l : List Rw) : Ks (l.map encR) := ⟨al_R l, fun d hd => by
  obtain ⟨a, _, rfl⟩ := List.mem_map.mp hd
  exact (kd_R a).1⟩
theorem nodup_map {α β : Type} {f : α → β} (hf : ∀ a b, f a = f b → a = b) : ∀ {l : List α}, l.Nodup → (l.map f).Nodup
  | [], _ => List.nodup_nil
  | x :: l, h => by
    obtain ⟨h1, h2⟩ := List.nodup_cons.mp h
    rw [List.map_cons]
    refine List.nodup_cons.mpr ⟨fun z => ?_, nodup_map hf h2⟩
    obtain ⟨y, hy, e⟩ := List.mem_map.mp z
    exact h1 (hf _ _ e ▸ hy)
/-- the edges as a made system keeps them -/
def sE (es : List Ed) : List Ed := srtE (once es)
theorem mem_sE {es : List Ed} {e : Ed} : e ∈ sE es ↔ e ∈ es := by
  unfold sE srtE
  rw [List.mem_mergeSort]; exact mem_once
theorem sE_len (es : List Ed) : (sE es).length ≤ es.length := by
  unfold sE srtE
  rw [List.length_mergeSort]; exact once_len es
theorem rowOf_snoc (es : List Ed) (e : Ed) (s : Nat) : rowOf (es ++ [e]) s = if e.1 = s then rowOf es s ++ [e.2] else rowOf es s := by
  unfold rowOf
  rw [List.filterMap_append]
  by_cases h : e.1 = s
  · simp [h]
  · simp [h]
/-- the rows, one more edge -/
def rowsT (n : Nat) (es : List Ed) : List (List PD) := (List.range n).map fun s => (rowOf es s).map encR
theorem rowsT_step {n : Nat} {es : List Ed} {e : Ed} (h : e.1 < n) : (rowsT n es).set e.1 ((rowOf es e.1).map encR ++ [encR e.2]) = rowsT n (es ++ [e]) := by
  refine List.ext_getElem? fun j => ?_
  unfold rowsT
  by_cases hj : e.1 = j
  · rw [hj, List.getElem?_set_self (by rw [List.length_map, List.length_range]; omega), List.getElem?_map, List.getElem?_range (by omega)]
    show _ = some ((rowOf (es ++ [e]) j).map encR)
    rw [rowOf_snoc, if_pos hj, List.map_append] <;> rfl
  · rw [List.getElem?_set_ne hj, List.getElem?_map, List.getElem?_map]
    by_cases h2 : j < n
    · rw [List.getElem?_range h2]
      show some ((rowOf es j).map encR) = some ((rowOf (es ++ [e]) j).map encR)
      rw [rowOf_snoc, if_neg hj]
    · rw [List.getElem?_eq_none (by rw [List.length_range]; omega)] <;> rfl
theorem rowsT_nil (n : Nat) : rowsT n [] = List.replicate n [] := by
  unfold rowsT rowOf
  refine List.ext_getElem? fun j => ?_
  rw [List.getElem?_map, List.getElem?_replicate]
  by_cases h2 : j < n
  · rw [List.getElem?_range h2, if_pos h2] <;> rfl
  · rw [List.getElem?_eq_none (by rw [List.length_range]; omega), if_neg h2] <;> rfl
theorem rowsT_len (n : Nat) (es : List Ed) : (rowsT n es).length = n := by unfold rowsT; rw [List.length_map, List.length_range]
theorem rowsD_eq (n : Nat) (es : List Ed) : rowsD n es = .list ((rowsT n es).map PyData.list) := by unfold rowsD rowsT; rw [List.map_map] <;> rfl
end Kk

set_option Elab.async false
set_option autoImplicit false
set_option linter.all false
set_option maxRecDepth 100000
set_option maxHeartbeats 4000000
namespace Kk
open PySem L2 Pl
section
variable {P : Program} {w : World} {K : PySem.W.Frag} {mg : Str → Option Value} {base : Heap} {T : Tbs}
structure WfL (n : Nat) (es : List Ed) : Prop where
  pos : 1 ≤ n
  few : n ≤ 100
  lt : ∀ e ∈ es, e.1 < n ∧ e.2.2 < n
  act : ∀ e ∈ es, e.2.1 ∈ acts
  many : es.length < 64
abbrev nInit : List Str := ["self", "count", "edges", "state", "action", "target"]
theorem ini_system {f Cl : Addr} {fd : FuncData} (F : Fun K "__init__" "System.__init__" sInit f fd) (hm : Mk K Cl f) (hb : Binds K fd ["self", "count", "edges"] []) (hc : Cls K Cl) (nc : NoAttr K Cl "count") (ne : NoAttr K Cl "edges") (nr : NoAttr K Cl "rows") (cs : Cst K mg)
    (mTuple : mg "tuple" = none) (mSorted : mg "sorted" = none) (mSet : mg "set" = none) (mRange : mg "range" = none)
    (dA : Df P w K mg base 4 "is_action" (Pu T (fun s : Str => s ∈ acts) (fun s => [isD K (.str s)]) (fun _ => isD K (.bool true)))) :
    Ini P w K mg base 5 Cl (spIni T Cl (fun a : Nat × List Ed => WfL a.1 a.2) (fun a => [isD K (iN a.1), isD K (.list (a.2.map encE))]) (fun a => fsS (K := K) a.1 (sE a.2))) := by
  refine ini_pure _ _ _ F scInit hm hb (fun _ => rfl) ?_
  rintro cdv A outer s H Fr H0 E ⟨n, es⟩ D q hr wf fin
  have wf : WfL n es := wf
  have hu : (A.deeper (PyProof.Rows.envOfC "System.__init__" (defScope sInit) s.heap.objs.size f cdv)).units + 64 < cLine := hr.units
  obtain ⟨t7, h7⟩ := cs.most
  have hn1 := wf.pos
  have hn2 := wf.few
  -- the bounds
  refine do_ifr (et_or (et_ltI (ev_v 1) ev_int) fun _ => ew_or1 (et_gtI (ev_v 1) (ev_glob (v := .int 20000) (R := isD K (.int 20000)) rfl h7 ⟨t7, rfl⟩ fun _ => .int _))) (fun hb => ?_) (fun _ => ?_)
  · exfalso
    simp at hb
    omega
  -- every edge is looked at
  refine do_for (fun _ => ([some (isA q), some (isD K (iN n)), some (isD K (.list (es.map encE))), none, none, none], [(q, ctI Cl [])])) (M := (Cn.mk T Fr H0 fpT [some (isA q), some (isD K (iN n)), some (isD K (.list (es.map encE))), none, none, none] [(q, ctI Cl [])]).at) (iv_list (ev_v 2)) (fun σ F' H' c => c) ?_ (fun σ H' c => c) ?_
  · intro i R f hR
    rw [List.getElem?_map, List.getElem?_map] at hR
    cases he : es[i]? with
    | none => rw [he] at hR; cases hR
    | some e =>
      rw [he] at hR
      cases hR
      have hmem := List.mem_of_getElem? he
      obtain ⟨l1, l2⟩ := wf.lt e hmem
      have ha := wf.act e hmem
      obtain ⟨e1, e2, e3⟩ := e
      have l1 : e1 < n := l1
      have l2 : e3 < n := l2
      have ha : e2 ∈ acts := ha
      refine ⟨_, _, tg_tup rfl (ds := [.int (e1 : Int), .str e2, .int (e3 : Int)]) (.cons (tg_name scInit.nd (i := 3) rfl (.inl rfl) (by show 3 < 6; decide)) rfl (.cons (tg_name scInit.nd (i := 4) rfl (.inl rfl) (by show 4 < 6; decide)) rfl (.cons (tg_name scInit.nd (i := 5) rfl (.inl rfl) (by show 5 < 6; decide)) rfl .nil))), ?_⟩
      refine do_ifr (et_or (et_not (et_chainI op_le op_lt ev_int (ev_v 3) (ev_v 1) (pt_chain op_le op_lt ev_int (ev_v 3) (ev_v 1)))) fun _ => ew_or (et_not (et_chainI op_le op_lt ev_int (ev_v 5) (ev_v 1) (pt_chain op_le op_lt ev_int (ev_v 5) (ev_v 1)))) fun _ =>
        ew_or1 (et_not (et_val (ev_call (R := fun _ => isD K (.bool true)) dA hr e2 ha (ea1 (ev_v 4)))))) (fun hb => ?_) (fun _ => ?_)
      · exfalso
        simp at hb
        rcases hb with hb | hb
        · omega
        · omega
      · exact do_nil fun σ H' ⟨F', c⟩ => ⟨F', c.fg (.keep (.keep (.keep (.drop (.drop (.drop .nil))))))⟩
  -- the fields
  refine do_fld (fs := []) (R := isD K (iN n)) findO_head (ev_v 1) (ev_v 0) hc nc rfl (by decide) ?_
  refine Do.eq (C' := Cn.mk T Fr H0 fpT [some (isA q), some (isD K (iN n)), some (isD K (.list (es.map encE))), none, none, none] [(q, ctI Cl [("count", isD K (iN n))])]) (by simp [Cn.put, putO]) ?_
  have hS : ((once es).map encE).Nodup := nodup_map (fun a b h => encE_inj h) (once_nodup es)
  have hmS : ∀ d, d ∈ (once es).map encE ↔ d ∈ es.map encE := fun d => by
    rw [List.mem_map, List.mem_map]
    exact ⟨fun ⟨a, h1, h2⟩ => ⟨a, mem_once.mp h1, h2⟩, fun ⟨a, h1, h2⟩ => ⟨a, mem_once.mpr h1, h2⟩⟩
  have hlen := once_len es
  have hmany := wf.many
  refine do_fld (fs := [("count", isD K (iN n))]) (R := isD K (.tuple ((sE es).map encE))) findO_head (Ev.imp (ev_tupL mTuple (En.ev (en_sortedS (ks_E _) (sb_E _ (by omega)) rfl hu mSorted (ev_setL (S := (once es).map encE) (fun d hd => by
    obtain ⟨a, _, rfl⟩ := List.mem_map.mp hd
    exact kd_E a) (by rw [List.length_map]; exact hmany) hS hmS rfl hu mSet (ev_v 2))))) (fun v F h => by rw [srt_E] at h; exact h)) (ev_v 0) hc ne rfl (by show 1 < 900; decide) ?_
  refine Do.eq (C' := Cn.mk T Fr H0 fpT [some (isA q), some (isD K (iN n)), some (isD K (.list (es.map encE))), none, none, none] [(q, ctI Cl [("count", isD K (iN n)), ("edges", isD K (.tuple ((sE es).map encE)))])]) (by simp [Cn.put, putO]) ?_
  have hrl : ∀ K' : PySem.W.Frag, (rngR K' 0 (n : Int).toNat).length = n := fun K' => by unfold rngR; rw [List.length_map, List.length_range]; omega
  refine do_fldRows (own := [("state", 3)]) findO_head (iv_rng1 (ev_v 1) mRange (by omega)) (blkOk_by (N := nInit) (sc := defScope sInit) (by decide +kernel)) (by rw [hrl]; omega) (fun i R f os hR => ⟨[some (isA q), some (isD K (iN n)), some (isD K (.list (es.map encE))), some R, none, none], [3], by simp, fun s H Ca cl fp => ?_⟩) scInit.nd (fun os => ev_v 0) hc nr rfl (by show 2 < 900; decide) (fun Dl as has => ?_)
  · exact tg_name scInit.nd (i := 3) rfl (.inl rfl) (by show 3 < 6; decide)
  rw [hrl] at has
  rw [hrl]
  refine Do.eq (C' := Cn.mk T Fr H0 fpT [some (isA q), some (isD K (iN n)), some (isD K (.list (es.map encE))), none, none, none] ((q, ctI Cl [("count", isD K (iN n)), ("edges", isD K (.tuple ((sE es).map encE))), ("rows", isLV K Dl (as.map V.ref))]) :: osD K as (List.replicate n []))) (by simp [Cn.put, putO, Cn.to]; exact ⟨rfl, rfl⟩) ?_
  have hsl := sE_len es
  refine Do.nd fun nd => ?_
  have nd : (q :: (osD K as (List.replicate n [])).map Prod.fst).Nodup := nd
  rw [osG_fst (by rw [has, List.length_replicate])] at nd
  obtain ⟨nq, nas⟩ := List.nodup_cons.mp nd
  refine do_for (fun i => ([some (isA q), some (isD K (iN n)), some (isD K (.list (es.map encE))), none, none, none], (q, ctI Cl [("count", isD K (iN n)), ("edges", isD K (.tuple ((sE es).map encE))), ("rows", isLV K Dl (as.map V.ref))]) :: osD K as (rowsT n ((sE es).take i))))
    (M := (Cn.mk T Fr H0 fpT [some (isA q), some (isD K (iN n)), some (isD K (.list (es.map encE))), none, none, none] ((q, ctI Cl [("count", isD K (iN n)), ("edges", isD K (.tuple ((sE es).map encE))), ("rows", isLV K Dl (as.map V.ref))]) :: osD K as (rowsT n (sE es)))).at)
    (iv_tup (ev_fldO findO_head (ev_v 0) hc ne rfl)) (fun σ F' H' c => ?_) ?_ (fun σ H' c => ?_) ?_
  · show (Cn.mk T Fr H0 fpT _ (_ :: osD K as (rowsT n ((sE es).take 0)))).ok σ F' H'
    rw [List.take_zero, rowsT_nil]
    exact c
  · intro i R f hR
    rw [List.getElem?_map, List.getElem?_map] at hR
    cases he : (sE es)[i]? with
    | none => rw [he] at hR; cases hR
    | some e =>
      rw [he] at hR
      cases hR
      have hmem := mem_sE.mp (List.mem_of_getElem? he)
      obtain ⟨l1, l2⟩ := wf.lt e hmem
      have hi : i < (sE es).length := (List.getElem?_eq_some_iff.mp he).1
      have htk : (sE es).take (i + 1) = (sE es).take i ++ [e] := by rw [List.take_succ, he] <;> rfl
      obtain ⟨e1, e2, e3⟩ := e
      have l1 : e1 < n := l1
      have l2 : e3 < n := l2
      refine ⟨_, _, tg_tup rfl (ds := [.int (e1 : Int), .str e2, .int (e3 : Int)]) (.cons (tg_name scInit.nd (i := 3) rfl (.inl rfl) (by show 3 < 6; decide)) rfl (.cons (tg_name scInit.nd (i := 4) rfl (.inl rfl) (by show 4 < 6; decide)) rfl (.cons (tg_name scInit.nd (i := 5) rfl (.inl rfl) (by show 5 < 6; decide)) rfl .nil))), ?_⟩
      have ha1 : e1 < as.length := by omega
      have haa : as[e1]? = some as[e1] := List.getElem?_eq_getElem ha1
      have hne : q ≠ as[e1] := fun z => nq (by rw [z]; exact List.getElem_mem ha1)
      have hrow : (rowsT n ((sE es).take i))[e1]? = some ((rowOf ((sE es).take i) e1).map encR) := by
        unfold rowsT
        rw [List.getElem?_map, List.getElem?_range l1] <;> rfl
      refine do_app (l := as[e1]) (ds := (rowOf ((sE es).take i) e1).map encR) (d := encR (e2, e3)) (ev_ixV (us := as.map V.ref) (Dl := Dl) (atI_refs haa) (ev_fldO findO_head (ev_v 0) hc nr rfl) (ev_v 3)) ((findO_next hne).trans (findO_osG nas haa hrow)) (ev_tup (ds := [.str e2, .int (e3 : Int)]) (ea_cons (ev_v 4) (ea_cons (ev_v 5) ea_nil))) ?_ ?_
      · have h1 : (rowOf ((sE es).take i) e1).length ≤ ((sE es).take i).length := List.length_filterMap_le _ _
        rw [List.length_map]
        rw [List.length_take] at h1
        omega
      · refine do_nil fun σ H' ⟨F', c⟩ => ⟨F', ?_⟩
        have c2 := c.fg (sl := [some (isA q), some (isD K (iN n)), some (isD K (.list (es.map encE))), none, none, none]) (.keep (.keep (.keep (.drop (.drop (.drop .nil))))))
        have eos : putO as[e1] (ctL K ((rowOf ((sE es).take i) e1).map encR ++ [encR (e2, e3)])) ((q, ctI Cl [("count", isD K (iN n)), ("edges", isD K (.tuple ((sE es).map encE))), ("rows", isLV K Dl (as.map V.ref))]) :: osD K as (rowsT n ((sE es).take i))) = (q, ctI Cl [("count", isD K (iN n)), ("edges", isD K (.tuple ((sE es).map encE))), ("rows", isLV K Dl (as.map V.ref))]) :: osD K as (rowsT n ((sE es).take (i + 1))) := by
          rw [putO_next hne, htk, ← rowsT_step (e := (e1, e2, e3)) l1]
          exact congrArg _ (putO_osG (ct := fun _ ds => ctL K ds) nas (by rw [has, rowsT_len]) haa)
        show (Cn.mk T Fr H0 (fpT.and f) _ (_ :: osD K as (rowsT n ((sE es).take (i + 1))))).ok σ F' H'
        rw [← eos]
        exact c2
  · have e : ((sE es).map encE).map (isD K) = ((sE es).map encE).map (isD (bodyX P w K mg base nInit "System.__init__" sInit f cdv A outer s H E).K) := rfl
    obtain ⟨F', c⟩ := c
    refine ⟨F', ?_⟩
    have c : (Cn.mk T Fr H0 fpT [some (isA q), some (isD K (iN n)), some (isD K (.list (es.map encE))), none, none, none] ((q, ctI Cl [("count", isD K (iN n)), ("edges", isD K (.tuple ((sE es).map encE))), ("rows", isLV K Dl (as.map V.ref))]) :: osD K as (rowsT n ((sE es).take (((sE es).map encE).map (isD K)).length)))).ok σ F' H' := c
    rw [List.length_map, List.length_map, List.take_length] at c
    exact c
  · refine do_nil fun σ H' ⟨F', c⟩ => ?_
    obtain ⟨F1, e1, c1, al⟩ := Cn.ok.frzD (K := K) (C := Cn.mk T Fr H0 fpT [] []) (sl := [some (isA q), some (isD K (iN n)), some (isD K (.list (es.map encE))), none, none, none]) (os1 := [(q, ctI Cl [("count", isD K (iN n)), ("edges", isD K (.tuple ((sE es).map encE))), ("rows", isLV K Dl (as.map V.ref))])]) (as := as) (dss := rowsT n (sE es)) (by rw [has, rowsT_len]) c
    obtain ⟨o, h1, ⟨dx, fv, rfl, h3, h4⟩, h5, c2⟩ := c1.frz findO_head
    refine fin σ _ H' c2.en ⟨q, dx, fv, rfl, upd_same, h3, ?_⟩
    have ex := Evl.Ex.new (o := .ins Cl dx fv) h5
    generalize fv.map Prod.snd = vs at h4
    cases h4 with
    | cons g1 h4 =>
      cases h4 with
      | cons g2 h4 =>
        cases h4 with
        | cons g3 h4 =>
          cases h4
          obtain ⟨rfl, sq⟩ := g3
          refine .cons (dp_mono ex g1) (.cons (dp_mono ex g2) (.cons ?_ .nil))
          show Dp K _ _ (rowsD n (sE es))
          rw [rowsD_eq]
          exact .lst (Evl.ex_l ex sq) (dpAll_mono ex al)
end
end Kk

set_option Elab.async false
set_option autoImplicit false
set_option linter.all false
set_option maxRecDepth 100000
set_option maxHeartbeats 4000000
namespace Kk
open PySem L2 Pl
/-! ### numbering in the order of first sight -/
def stepR (k : Nat) (st : List Nat × List Ed) (r : Rw) : List Nat × List Ed :=
  (if r.2 ∈ st.1 then st.1 else st.1 ++ [r.2], st.2 ++ [(k, r.1, (if r.2 ∈ st.1 then st.1 else st.1 ++ [r.2]).idxOf r.2)])
def rowR (k : Nat) (st : List Nat × List Ed) (row : List Rw) : List Nat × List Ed := row.foldl (stepR k) st
def bfs (rw : Nat → List Rw) : Nat → List Nat × List Ed
  | 0 => ([0], [])
  | k + 1 => match (bfs rw k).1[k]? with
    | some s => rowR k (bfs rw k) (rw s)
    | none => bfs rw k
theorem rowR_snoc (k : Nat) (st : List Nat × List Ed) (row : List Rw) (r : Rw) : rowR k st (row ++ [r]) = stepR k (rowR k st row) r := by
  unfold rowR
  rw [List.foldl_append] <;> rfl
/-- what stays true of the numbered ones -/
structure Ok (V : Nat → Prop) (st : List Nat × List Ed) : Prop where
  nd : st.1.Nodup
  lt : ∀ x ∈ st.1, V x
theorem nodup_le {N : Nat} : ∀ {l : List Nat}, l.Nodup → (∀ x ∈ l, x < N) → l.length ≤ N := by
  intro l nd h
  have := List.Nodup.length_le_of_subset (l₁ := l) (l₂ := List.range N) nd (fun x hx => List.mem_range.mpr (h x hx))
  rwa [List.length_range] at this
theorem Ok.len {V : Nat → Prop} {N : Nat} {st : List Nat × List Ed} (h : Ok V st) (hs : ∀ x, V x → x < N) : st.1.length ≤ N := nodup_le h.nd fun x hx => hs x (h.lt x hx)
theorem Ok.step {V : Nat → Prop} {k : Nat} {st : List Nat × List Ed} {r : Rw} (h : Ok V st) (hr : V r.2) : Ok V (stepR k st r) := by
  unfold stepR
  by_cases hx : r.2 ∈ st.1
  · simp only [if_pos hx]; exact ⟨h.nd, h.lt⟩
  · simp only [if_neg hx]
    refine ⟨List.nodup_append.mpr ⟨h.nd, by simp, fun a ha b hb => ?_⟩, fun x hx2 => ?_⟩
    · rw [List.mem_singleton.mp hb]; intro z; exact hx (z ▸ ha)
    · rcases List.mem_append.mp hx2 with z | z
      · exact h.lt x z
      · rw [List.mem_singleton.mp z]; exact hr
theorem Ok.row {V : Nat → Prop} {k : Nat} : ∀ {row : List Rw} {st : List Nat × List Ed}, Ok V st → (∀ r ∈ row, V r.2) → Ok V (rowR k st row)
  | [], _, h, _ => h
  | r :: row, st, h, hr => Ok.row (row := row) (h.step (hr r List.mem_cons_self)) fun q hq => hr q (List.mem_cons_of_mem _ hq)
theorem bfs_ok {V : Nat → Prop} {rw : Nat → List Rw} (h0 : V 0) (h : ∀ s, V s → ∀ r ∈ rw s, V r.2) : ∀ k, Ok V (bfs rw k)
  | 0 => ⟨by simp [bfs], fun x hx => by simp [bfs] at hx; rw [hx]; exact h0⟩
  | k + 1 => by
    have ih := bfs_ok h0 h k
    show Ok V (match (bfs rw k).1[k]? with | some s => rowR k (bfs rw k) (rw s) | none => bfs rw k)
    cases e : (bfs rw k).1[k]? with
    | none => exact ih
    | some s => exact ih.row (h s (ih.lt s (List.mem_of_getElem? e)))
theorem bfs_some {rw : Nat → List Rw} {k s : Nat} (h : (bfs rw k).1[k]? = some s) : bfs rw (k + 1) = rowR k (bfs rw k) (rw s) := by
  show (match (bfs rw k).1[k]? with | some s => rowR k (bfs rw k) (rw s) | none => bfs rw k) = _
  rw [h]
theorem bfs_none {rw : Nat → List Rw} {k : Nat} (h : (bfs rw k).1.length ≤ k) : bfs rw (k + 1) = bfs rw k := by
  show (match (bfs rw k).1[k]? with | some s => rowR k (bfs rw k) (rw s) | none => bfs rw k) = _
  rw [List.getElem?_eq_none h]
theorem bfs_stop {rw : Nat → List Rw} {k : Nat} (h : (bfs rw k).1.length ≤ k) : ∀ j, bfs rw (k + j) = bfs rw k
  | 0 => rfl
  | j + 1 => by
    have ih := bfs_stop h j
    rw [← Nat.add_assoc, bfs_none (by rw [ih]; omega), ih]
theorem stepR_len (k : Nat) (st : List Nat × List Ed) (r : Rw) : st.1.length ≤ (stepR k st r).1.length := by
  unfold stepR
  by_cases hx : r.2 ∈ st.1
  · simp only [if_pos hx]; exact Nat.le_refl _
  · simp only [if_neg hx]; rw [List.length_append]; omega
theorem rowR_len (k : Nat) : ∀ (row : List Rw) (st : List Nat × List Ed), st.1.length ≤ (rowR k st row).1.length
  | [], _ => Nat.le_refl _
  | r :: row, st => Nat.le_trans (stepR_len k st r) (rowR_len k row (stepR k st r))
theorem bfs_len (rw : Nat → List Rw) (k : Nat) : (bfs rw k).1.length ≤ (bfs rw (k + 1)).1.length := by
  show _ ≤ (match (bfs rw k).1[k]? with | some s => rowR k (bfs rw k) (rw s) | none => bfs rw k).1.length
  cases e : (bfs rw k).1[k]? with
  | none => exact Nat.le_refl _
  | some s => exact rowR_len k _ _
/-! ### the dict of numbers -/
def numK (o : List Nat) : Kvs := (List.range o.length).map fun i => (iN (o.getD i 0), iN i)
theorem numK_snoc (o : List Nat) (x : Nat) : numK (o ++ [x]) = numK o ++ [(iN x, iN o.length)] := by
  unfold numK
  rw [List.length_append, List.length_singleton, List.range_succ, List.map_append]
  congr 1
  · refine List.map_congr_left fun i hi => ?_
    have := List.mem_range.mp hi
    rw [List.getD_eq_getElem?_getD, List.getD_eq_getElem?_getD, List.getElem?_append_left this]
  · simp [List.getD_eq_getElem?_getD]
theorem iN_eq {a b : Nat} : iN a = iN b ↔ a = b := by
  unfold iN
  rw [PyData.int.injEq]
  exact ⟨fun h => Int.ofNat.inj h, fun h => by rw [h]⟩
theorem dget_app (a b : Kvs) (k : PD) : dget (a ++ b) k = (dget a k).or (dget b k) := by
  induction a with
  | nil => rfl
  | cons q a ih =>
    rw [List.cons_append, dget_cons, dget_cons, ih]
    by_cases h : q.1 = k
    · rw [if_pos h, if_pos h] <;> rfl
    · rw [if_neg h, if_neg h]
theorem dget_numK (o : List Nat) : ∀ x, dget (numK o) (iN x) = if x ∈ o then some (iN (o.idxOf x)) else none := by
  refine rev_ind (p := fun o => ∀ x, dget (numK o) (iN x) = if x ∈ o then some (iN (o.idxOf x)) else none) (fun x => by simp [numK]; rfl) (fun l y ih x => ?_) o
  rw [numK_snoc, dget_app, ih x]
  by_cases h : x ∈ l
  · rw [if_pos h, if_pos (List.mem_append_left _ h), List.idxOf_append, if_pos h] <;> rfl
  · rw [if_neg h, dget_cons]
    by_cases e : y = x
    · subst e
      rw [if_pos (iN_eq.mpr rfl), if_pos (by simp), List.idxOf_append, if_neg h]
      simp
    · rw [if_neg (fun z => e (iN_eq.mp z)), if_neg (by rw [List.mem_append]; rintro (z | z); exact h z; exact e (List.mem_singleton.mp z).symm)] <;> rfl
theorem dput_numK {o : List Nat} {x : Nat} (h : x ∉ o) : dput (numK o) (iN x) (iN o.length) = numK (o ++ [x]) := by
  rw [dput_new (by rw [dget_numK, if_neg h]), numK_snoc]
end Kk

set_option Elab.async false
set_option autoImplicit false
set_option linter.all false
set_option maxRecDepth 100000
set_option maxHeartbeats 4000000
namespace Kk
open PySem L2 Pl
abbrev sRenum : Stmt := top 17
section
variable {P : Program} {w : World} {K : PySem.W.Frag} {mg : Str → Option Value} {base : Heap} {T : Tbs}
abbrev nRenum : List Str := ["start", "rows_of", "numbers", "order", "edges", "at", "action", "other"]
theorem scRenum : FnScope nRenum ["start", "rows_of"] (defScope sRenum) := ⟨rfl, rfl, rfl, by decide +kernel, rfl, by decide +kernel, by decide +kernel⟩
/-- rows that stay within the states V, these below N -/
structure Rws (N : Nat) (V : Nat → Prop) (rw : Nat → List Rw) : Prop where
  zero : V 0
  few : N ≤ 100
  sub : ∀ s, V s → s < N
  lt : ∀ s, V s → ∀ r ∈ rw s, V r.2
  len : ∀ s, V s → (rw s).length ≤ 100
def rowsCt (K : PySem.W.Frag) (V : Nat → Prop) (rw : Nat → List Rw) : Ctr := ⟨Nat, fun s => V s, fun s => [isD K (iN s)], fun s => isD K (.list ((rw s).map encR))⟩
def bfsD (N : Nat) (rw : Nat → List Rw) : PD := .tuple [.list ((bfs rw N).1.map iN), .list ((bfs rw N).2.map encE)]
theorem rowR_elen (k : Nat) : ∀ (row : List Rw) (st : List Nat × List Ed), (rowR k st row).2.length = st.2.length + row.length
  | [], _ => rfl
  | r :: row, st => by
    show (rowR k (stepR k st r) row).2.length = _
    rw [rowR_elen k row]
    unfold stepR
    simp only [List.length_append, List.length_cons, List.length_nil]
    omega
theorem bfs_elen {N : Nat} {V : Nat → Prop} {rw : Nat → List Rw} (h : Rws N V rw) : ∀ k, (bfs rw k).2.length ≤ 100 * k
  | 0 => by simp [bfs]
  | k + 1 => by
    have ih := bfs_elen h k
    show (match (bfs rw k).1[k]? with | some s => rowR k (bfs rw k) (rw s) | none => bfs rw k).2.length ≤ _
    cases e : (bfs rw k).1[k]? with
    | none => exact Nat.le_trans ih (by omega)
    | some s =>
      have := h.len s ((bfs_ok h.zero h.lt k).lt s (List.mem_of_getElem? e))
      show (rowR k (bfs rw k) (rw s)).2.length ≤ _
      rw [rowR_elen]
      omega
theorem dh_renum {g : Addr} {fd : FuncData} {j : Nat} (F : Fun K "renumbered_from" "renumbered_from" sRenum g fd) (hm : mg "renumbered_from" = some (.ref g)) (hb : Binds K fd ["start", "rows_of"] []) (mLen : mg "len" = none) :
    Dh P w K mg base (j + 1) "renumbered_from" T (fun a : Nat × (Nat → Prop) × (Nat → List Rw) => Rws a.1 a.2.1 a.2.2) (fun _ => [isD K (iN 0)]) (fun a => isD K (bfsD a.1 a.2.2)) j (fun a => rowsCt K a.2.1 a.2.2) := by
  refine dh_pure _ _ _ _ F scRenum hm hb (fun _ => rfl) ?_
  rintro cdv A outer s H Fr E ⟨N, V, rw⟩ f D hr wf fc ret _
  have wf : Rws N V rw := wf
  have hu : (A.deeper (PyProof.Rows.envOfC "renumbered_from" (defScope sRenum) s.heap.objs.size g cdv)).units + 64 < cLine := hr.units
  refine do_own scRenum.nd (i := 2) rfl (.inl rfl) (en_disp1 (k := iN 0) (v := iN 0) (keyI_int _) (ev_v 0) ev_int) (fun q1 => ?_) (by show 2 < 8; decide)
  refine do_own scRenum.nd (i := 3) rfl (.inl rfl) (en_lst (ds := [iN 0]) (ea_cons (ev_v 0) ea_nil)) (fun q2 => ?_) (by show 3 < 8; decide)
  refine do_own scRenum.nd (i := 4) rfl (.inl rfl) (en_lst (ds := []) ea_nil) (fun q3 => ?_) (by show 4 < 8; decide)
  refine do_set scRenum.nd (i := 5) rfl (.inl rfl) (R := isD K (iN 0)) ev_int ?_ (by show 5 < 8; decide)
  refine Do.nd fun nd => ?_
  have nd : [q3, q2, q1].Nodup := nd
  have n32 : q3 ≠ q2 := by simp at nd; exact nd.1.1
  have n31 : q3 ≠ q1 := by simp at nd; exact nd.1.2
  have n21 : q2 ≠ q1 := by simp at nd; exact nd.2
  let sl0 : Nat → List (Option Rp) := fun k => [some (isD K (iN 0)), some (isA f), some (isA q1), some (isA q2), some (isA q3), some (isD K (iN k)), none, none]
  let os0 : List Nat × List Ed → List (Addr × Ct) := fun st => [(q3, ctL K (st.2.map encE)), (q2, ctL K (st.1.map iN)), (q1, ctDI K (numK st.1))]
  refine do_while (α := { k : Nat // k ≤ (bfs rw k).1.length }) (fun a => (sl0 a.1, os0 (bfs rw a.1))) (fun a => N + 1 - a.1) (M := fun σ H' => ∃ k : Nat, (bfs rw k).1.length ≤ k ∧ k ≤ N ∧ (Cn.mk T Fr H fpT (sl0 k) (os0 (bfs rw k))).at σ H')
    (fun σ F' H' c => ⟨⟨0, Nat.zero_le _⟩, ?_⟩) (fun a => ?_) ?_
  · exact c
  · obtain ⟨k, hk⟩ := a
    have hok := bfs_ok wf.zero wf.lt k
    have hel := bfs_elen wf k
    have hN := hok.len wf.sub
    have h100 := wf.few
    have f2 : findO q2 (os0 (bfs rw k)) = some (ctL K ((bfs rw k).1.map iN)) := (findO_next n32).trans findO_head
    refine ⟨decide ((k : Int) < (((bfs rw k).1.map iN).length : Int)), et_ltI (ev_v 5) (ev_lenO f2 mLen (ev_v 3)), fun hb => ?_, fun hb σ H' c => ?_⟩
    · have hlt : k < (bfs rw k).1.length := by
        have := of_decide_eq_true hb
        rw [List.length_map] at this
        omega
      have hs := List.getElem?_eq_getElem hlt
      generalize hsd : (bfs rw k).1[k] = s at hs
      have hsN : V s := hok.lt s (List.mem_of_getElem? hs)
      have hrows := wf.len s hsN
      refine do_for (fun i => (sl0 k, os0 (rowR k (bfs rw k) ((rw s).take i)))) (M := (Cn.mk T Fr H fpT (sl0 k) (os0 (rowR k (bfs rw k) (rw s)))).at)
        (iv_list (ds := (rw s).map encR) (ev_callF (ct := rowsCt K V rw) fc rfl rfl hr s hsN 1 rfl (ea1 (ev_ixO (d := iN s) f2 (atI_nat (by rw [List.getElem?_map, hs] <;> rfl)) (ev_v 3) (ev_v 5))))) (fun σ F' H' c => ?_) ?_ (fun σ H' c => ?_) ?_
      · exact c
      · intro i R fp hR
        rw [List.getElem?_map, List.getElem?_map] at hR
        cases hr2 : (rw s)[i]? with
        | none => rw [hr2] at hR; cases hR
        | some r =>
          rw [hr2] at hR
          cases hR
          have htk : (rw s).take (i + 1) = (rw s).take i ++ [r] := by rw [List.take_succ, hr2] <;> rfl
          have hi : i < (rw s).length := (List.getElem?_eq_some_iff.mp hr2).1
          have hrN := wf.lt s hsN r (List.mem_of_getElem? hr2)
          have hok2 : Ok V (rowR k (bfs rw k) ((rw s).take i)) := hok.row fun q hq => wf.lt s hsN q (List.mem_of_mem_take hq)
          have hel2 : (rowR k (bfs rw k) ((rw s).take i)).2.length ≤ 100 * k + 100 := by
            rw [rowR_elen, List.length_take]
            omega
          have hnx : rowR k (bfs rw k) ((rw s).take (i + 1)) = stepR k (rowR k (bfs rw k) ((rw s).take i)) r := by rw [htk, rowR_snoc]
          show ∃ C' ws, Tg _ (Cn.mk T Fr H (fpT.and fp) (sl0 k) (os0 (rowR k (bfs rw k) ((rw s).take i)))) (isD K (encR r)) _ C' ws ∧ Do _ _ C'.at { nx := (Cn.mk T Fr H (fpT.and fp) (sl0 k) (os0 (rowR k (bfs rw k) ((rw s).take (i + 1))))).at, ct := (Cn.mk T Fr H (fpT.and fp) (sl0 k) (os0 (rowR k (bfs rw k) ((rw s).take (i + 1))))).at, bk := _, rt := D.rt }
          rw [hnx]
          generalize rowR k (bfs rw k) ((rw s).take i) = st at hok2 hel2
          obtain ⟨o, es⟩ := st
          obtain ⟨ra, rt⟩ := r
          have hrN : V rt := hrN
          have hoN : o.length ≤ N := hok2.len wf.sub
          have hel2 : es.length ≤ 100 * k + 100 := hel2
          refine ⟨_, _, tg_tup rfl (ds := [.str ra, iN rt]) (.cons (tg_name scRenum.nd (i := 6) rfl (.inl rfl) (by show 6 < 8; decide)) rfl (.cons (tg_name scRenum.nd (i := 7) rfl (.inl rfl) (by show 7 < 8; decide)) rfl .nil)), ?_⟩
          let o' : List Nat := if rt ∈ o then o else o ++ [rt]
          have hmem : rt ∈ o' := by
            show rt ∈ (if rt ∈ o then o else o ++ [rt])
            split
            · assumption
            · simp
          have hoN' : o'.length ≤ N + 1 := by
            show (if rt ∈ o then o else o ++ [rt]).length ≤ N + 1
            split
            · omega
            · rw [List.length_append, List.length_singleton]; omega
          let sl1 : List (Option Rp) := [some (isD K (iN 0)), some (isA f), some (isA q1), some (isA q2), some (isA q3), some (isD K (iN k)), some (isD K (.str ra)), some (isD K (iN rt))]
          have f1 : findO q1 (os0 (o, es)) = some (ctDI K (numK o)) := (findO_next n31).trans ((findO_next n21).trans findO_head)
          have f2 : findO q2 (os0 (o, es)) = some (ctL K (o.map iN)) := (findO_next n32).trans findO_head
          refine Do.eq (C' := Cn.mk T Fr H (fpT.and fp) sl1 (os0 (o, es))) rfl ?_
          refine do_if (b := !(dget (numK o) (iN rt)).isSome) (M := (Cn.mk T Fr H (fpT.and fp) sl1 (os0 (o', es))).at) (et_ninI hu f1 (keyI_int _) (ev_v 7) (ev_v 2)) (fun hb => ?_) (fun hb => ?_) ?_
          · have hx : rt ∉ o := fun z => by
              rw [dget_numK, if_pos z] at hb
              cases hb
            have eo : o' = o ++ [rt] := if_neg hx
            have hkl : (numK o).length = o.length := by unfold numK; rw [List.length_map, List.length_range]
            refine do_dputI (k := iN rt) (v := iN (o.map iN).length) hu f1 (keyI_int _) (by omega) (ev_v 2) (ev_v 7) (ev_lenO f2 mLen (ev_v 3)) ?_
            refine Do.eq (C' := Cn.mk T Fr H (fpT.and fp) sl1 [(q3, ctL K (es.map encE)), (q2, ctL K (o.map iN)), (q1, ctDI K (numK (o ++ [rt])))]) (by
              have e1 : dput (numK o) (iN rt) (iN (o.map iN).length) = numK (o ++ [rt]) := by rw [List.length_map]; exact dput_numK hx
              simp only [Cn.put, os0, putO, n31, n21, if_false, if_true]
              rw [e1] <;> rfl) ?_
            refine do_app (l := q2) (ds := o.map iN) (d := iN rt) (ev_v 3) ((findO_next n32).trans findO_head) (ev_v 7) (by rw [List.length_map]; omega) ?_
            refine do_nil fun σ H' ⟨F', c⟩ => ⟨F', ?_⟩
            rw [eo]
            have ec : Cn.put (Cn.mk T Fr H (fpT.and fp) sl1 [(q3, ctL K (es.map encE)), (q2, ctL K (o.map iN)), (q1, ctDI K (numK (o ++ [rt])))]) q2 (ctL K (o.map iN ++ [iN rt])) = Cn.mk T Fr H (fpT.and fp) sl1 (os0 (o ++ [rt], es)) := by
              simp only [Cn.put, os0, putO, n32, if_false, if_true, List.map_append, List.map_cons, List.map_nil]
            rw [← ec]
            exact c
          · have hx : rt ∈ o := Classical.byContradiction fun z => by
              rw [dget_numK, if_neg z] at hb
              cases hb
            have eo : o' = o := if_pos hx
            rw [eo]
            exact do_nil fun σ H' c => c
          · have g1 : findO q1 (os0 (o', es)) = some (ctDI K (numK o')) := (findO_next n31).trans ((findO_next n21).trans findO_head)
            refine do_app (l := q3) (ds := es.map encE) (d := encE (k, ra, o'.idxOf rt)) (ev_v 4) findO_head (ev_tup (ds := [iN k, .str ra, iN (o'.idxOf rt)]) (ea_cons (ev_v 5) (ea_cons (ev_v 6) (ea_cons (ev_dgetI (k := iN rt) (v := iN (o'.idxOf rt)) hu g1 (keyI_int _) (by rw [dget_numK, if_pos hmem]) (ev_v 2) (ev_v 7)) ea_nil)))) (by rw [List.length_map]; omega) ?_
            refine do_nil fun σ H' ⟨F', c⟩ => ⟨F', ?_⟩
            have c2 := c.fg (sl := sl0 k) (.keep (.keep (.keep (.keep (.keep (.keep (.drop (.drop .nil))))))))
            have ec : putO q3 (ctL K (es.map encE ++ [encE (k, ra, o'.idxOf rt)])) (os0 (o', es)) = os0 (stepR k (o, es) (ra, rt)) := by
              show putO q3 _ ((q3, ctL K (es.map encE)) :: _) = _
              rw [putO_head]
              simp only [os0, stepR, List.map_append, List.map_cons, List.map_nil] <;> rfl
            rw [← ec]
            exact c2
      · obtain ⟨F', c⟩ := c
        refine ⟨F', ?_⟩
        have c : (Cn.mk T Fr H fpT (sl0 k) (os0 (rowR k (bfs rw k) ((rw s).take (((rw s).map encR).map (isD K)).length)))).ok σ F' H' := c
        rw [List.length_map, List.length_map, List.take_length] at c
        exact c
      · refine do_augI ip_add scRenum.nd (i := 5) rfl (.inl rfl) rfl ev_int (do_nil fun σ H' c => ?_)
        have hb1 : bfs rw (k + 1) = rowR k (bfs rw k) (rw s) := bfs_some hs
        refine ⟨⟨k + 1, ?_⟩, ?_, ?_⟩
        · have := bfs_len rw k
          omega
        · show N + 1 - (k + 1) < N + 1 - k
          omega
        · show (Cn.mk T Fr H fpT (sl0 (k + 1)) (os0 (bfs rw (k + 1)))).at σ H'
          rw [hb1]
          exact c
    · have hge : ¬ k < (bfs rw k).1.length := by
        have := of_decide_eq_false hb
        rw [List.length_map] at this
        omega
      exact ⟨k, by omega, by omega, c⟩
  · refine Do.ex fun k => Do.exP fun hk => Do.exP fun hkN => ?_
    have hst : bfs rw N = bfs rw k := by
      have := bfs_stop hk (N - k)
      rwa [show k + (N - k) = N by omega] at this
    refine do_frzL 3 q2 (ds := (bfs rw k).1.map iN) rfl ((findO_next n32).trans findO_head) ?_
    refine Do.eq (C' := Cn.mk T Fr H fpT [some (isD K (iN 0)), some (isA f), some (isA q1), some (isD K (.list ((bfs rw k).1.map iN))), some (isA q3), some (isD K (iN k)), none, none] [(q3, ctL K ((bfs rw k).2.map encE)), (q1, ctDI K (numK (bfs rw k).1))]) (by simp [Cn.set, Cn.to, os0, sl0, dropO, n32] <;> first | rfl | exact ⟨rfl, rfl⟩) ?_
    refine do_frzL 4 q3 (ds := (bfs rw k).2.map encE) rfl findO_head ?_
    refine do_ret (R := isD K (bfsD N rw)) ?_ (fun σ v F' H' c hv => ret v F' H' c.en hv)
    unfold bfsD
    rw [hst]
    exact ev_tup (ds := [.list ((bfs rw k).1.map iN), .list ((bfs rw k).2.map encE)]) (ea_cons (ev_v 3) (ea_cons (ev_v 4) ea_nil))
end
end Kk

set_option Elab.async false
set_option autoImplicit false
set_option linter.all false
set_option maxRecDepth 100000
set_option maxHeartbeats 4000000
namespace Kk
open PySem L2 Pl
open NdefX (NScope nscope_by)
/-! ### counting the edges -/
theorem rowOf_cons (e : Ed) (es : List Ed) (s : Nat) : rowOf (e :: es) s = if e.1 = s then e.2 :: rowOf es s else rowOf es s := by
  unfold rowOf
  by_cases h : e.1 = s
  · simp [List.filterMap_cons, h]
  · simp [List.filterMap_cons, h]
def sumL (es : List Ed) : List Nat → Nat
  | [] => 0
  | s :: l => (rowOf es s).length + sumL es l
theorem sumL_cons (e : Ed) (es : List Ed) : ∀ l : List Nat, sumL (e :: es) l = sumL es l + l.count e.1
  | [] => rfl
  | s :: l => by
    show (rowOf (e :: es) s).length + sumL (e :: es) l = _
    rw [sumL_cons e es l, rowOf_cons, List.count_cons]
    show _ = (rowOf es s).length + sumL es l + _
    by_cases h : e.1 = s
    · rw [if_pos h]; simp [h]; omega
    · rw [if_neg h, if_neg (by simpa using Ne.symm h)]; omega
theorem sumL_le : ∀ (es : List Ed) {l : List Nat}, l.Nodup → sumL es l ≤ es.length
  | [], l, _ => by
    have : ∀ l : List Nat, sumL [] l = 0 := fun l => by
      induction l with
      | nil => rfl
      | cons s l ih => show (rowOf [] s).length + sumL [] l = 0; rw [ih] <;> rfl
    rw [this]; exact Nat.le_refl _
  | e :: es, l, nd => by
    have ih := sumL_le es nd
    have hc := List.nodup_iff_count.mp nd e.1
    rw [sumL_cons, List.length_cons]
    omega
theorem rowR_pre (k : Nat) : ∀ (row : List Rw) (st : List Nat × List Ed), ∃ t, (rowR k st row).1 = st.1 ++ t
  | [], st => ⟨[], by simp [rowR]⟩
  | r :: row, st => by
    obtain ⟨t, h⟩ := rowR_pre k row (stepR k st r)
    have h : (rowR k st (r :: row)).1 = (stepR k st r).1 ++ t := h
    rw [h]
    unfold stepR
    by_cases hx : r.2 ∈ st.1
    · simp only [if_pos hx]; exact ⟨t, rfl⟩
    · simp only [if_neg hx, List.append_assoc]; exact ⟨_, rfl⟩
theorem bfs_pre (rw : Nat → List Rw) (k : Nat) : ∃ t, (bfs rw (k + 1)).1 = (bfs rw k).1 ++ t := by
  show ∃ t, (match (bfs rw k).1[k]? with | some s => rowR k (bfs rw k) (rw s) | none => bfs rw k).1 = _ ++ t
  cases e : (bfs rw k).1[k]? with
  | none => exact ⟨[], by simp⟩
  | some s => exact rowR_pre k _ _
/-- the edges made: one for each row of a state met -/
theorem bfs_cnt (es : List Ed) : ∀ k, (bfs (rowOf es) k).2.length = sumL es ((bfs (rowOf es) k).1.take k)
  | 0 => rfl
  | k + 1 => by
    have ih := bfs_cnt es k
    obtain ⟨t, ht⟩ := bfs_pre (rowOf es) k
    cases e : (bfs (rowOf es) k).1[k]? with
    | none =>
      have hl : (bfs (rowOf es) k).1.length ≤ k := by simpa using e
      rw [bfs_none hl, ih, List.take_of_length_le hl, List.take_of_length_le (by omega)]
    | some s =>
      have hlt : k < (bfs (rowOf es) k).1.length := (List.getElem?_eq_some_iff.mp e).1
      have h1 : (bfs (rowOf es) (k + 1)).1.take (k + 1) = (bfs (rowOf es) k).1.take k ++ [s] := by
        rw [ht, List.take_append_of_le_length (by omega), List.take_succ, e] <;> rfl
      rw [h1, bfs_some e, rowR_elen, ih]
      have : ∀ (l : List Nat), sumL es (l ++ [s]) = sumL es l + (rowOf es s).length := by
        intro l
        induction l with
        | nil => show (rowOf es s).length + 0 = 0 + _; omega
        | cons x l ih2 => show (rowOf es x).length + sumL es (l ++ [s]) = (rowOf es x).length + sumL es l + _; rw [ih2]; omega
      rw [this]
theorem mem_rowOf {es : List Ed} {s : Nat} {r : Rw} : r ∈ rowOf es s ↔ (s, r) ∈ es := by
  unfold rowOf
  rw [List.mem_filterMap]
  constructor
  · rintro ⟨e, h1, h2⟩
    by_cases h : e.1 = s
    · rw [if_pos h] at h2
      cases h2
      rw [← h]
      exact h1
    · rw [if_neg h] at h2
      cases h2
  · intro h
    exact ⟨(s, r), h, by simp⟩
theorem wf_rws {n : Nat} {es : List Ed} (wf : WfL n es) : Rws n (fun s => s < n) (rowOf es) := ⟨wf.pos, wf.few, fun s h => h, fun s _ r hr => (wf.lt (s, r) (mem_rowOf.mp hr)).2, fun s _ => by
  have : (rowOf es s).length ≤ es.length := List.length_filterMap_le _ _
  have := wf.many
  omega⟩
/-- every edge that is made: its ends are numbered, its action is of the rows -/
theorem rowR_edges (k : Nat) {N : Nat} : ∀ (row : List Rw) (st : List Nat × List Ed), (∀ e ∈ st.2, e.1 ≤ k ∧ e.2.2 < st.1.length ∧ e.2.1 ∈ acts) → (∀ r ∈ row, r.1 ∈ acts) → ∀ e ∈ (rowR k st row).2, e.1 ≤ k ∧ e.2.2 < (rowR k st row).1.length ∧ e.2.1 ∈ acts
  | [], st, h, _ => h
  | r :: row, st, h, hr => by
    refine rowR_edges k (N := N) row (stepR k st r) (fun e he => ?_) fun q hq => hr q (List.mem_cons_of_mem _ hq)
    have hl := stepR_len k st r
    unfold stepR at he hl ⊢
    rcases List.mem_append.mp he with z | z
    · obtain ⟨a, b, c⟩ := h e z
      exact ⟨a, Nat.lt_of_lt_of_le b hl, c⟩
    · rw [List.mem_singleton.mp z]
      refine ⟨Nat.le_refl _, ?_, hr r List.mem_cons_self⟩
      exact List.idxOf_lt_length_iff.mpr (by split; assumption; simp)
theorem bfs_edges {rw : Nat → List Rw} (h : ∀ s, ∀ r ∈ rw s, r.1 ∈ acts) : ∀ k, ∀ e ∈ (bfs rw k).2, e.1 < k ∧ e.1 < (bfs rw k).1.length ∧ e.2.2 < (bfs rw k).1.length ∧ e.2.1 ∈ acts
  | 0, e, he => by simp [bfs] at he
  | k + 1, e, he => by
    have ih := bfs_edges h k
    cases hk : (bfs rw k).1[k]? with
    | none =>
      rw [bfs_none (by simpa using hk)] at he ⊢
      obtain ⟨a, b, c, d⟩ := ih e he
      exact ⟨by omega, b, c, d⟩
    | some s =>
      have hlt : k < (bfs rw k).1.length := (List.getElem?_eq_some_iff.mp hk).1
      have hl := bfs_len rw k
      rw [bfs_some hk] at he hl ⊢
      obtain ⟨a, b, c⟩ := rowR_edges k (N := 0) (rw s) (bfs rw k) (fun e he => let ⟨a, b, c, d⟩ := ih e he; ⟨by omega, c, d⟩) (fun r hr => h s r hr) e he
      exact ⟨by omega, by omega, b, c⟩
theorem wf_bfs {n : Nat} {es : List Ed} (wf : WfL n es) : WfL (bfs (rowOf es) n).1.length (bfs (rowOf es) n).2 := by
  have hok := bfs_ok (V := fun s => s < n) wf.pos (wf_rws wf).lt n
  have h1 : 1 ≤ (bfs (rowOf es) n).1.length := by
    have : ∀ k, 1 ≤ (bfs (rowOf es) k).1.length := fun k => by
      induction k with
      | zero => exact Nat.le_refl _
      | succ k ih => exact Nat.le_trans ih (bfs_len _ _)
    exact this n
  have hb := bfs_edges (rw := rowOf es) (fun s r hr => wf.act (s, r) (mem_rowOf.mp hr)) n
  have := wf.few
  refine ⟨h1, Nat.le_trans (hok.len fun x h => h) this, fun e he => ⟨(hb e he).2.1, (hb e he).2.2.1⟩, fun e he => (hb e he).2.2.2, ?_⟩
  rw [bfs_cnt]
  exact Nat.lt_of_le_of_lt (sumL_le es (hok.nd.sublist (List.take_sublist _ _))) wf.many
theorem wf_sE {n : Nat} {es : List Ed} (wf : WfL n es) : WfL n (sE es) := ⟨wf.pos, wf.few, fun e he => wf.lt e (mem_sE.mp he), fun e he => wf.act e (mem_sE.mp he), Nat.lt_of_le_of_lt (sE_len es) wf.many⟩
end Kk

set_option Elab.async false
set_option autoImplicit false
set_option linter.all false
set_option maxRecDepth 100000
set_option maxHeartbeats 4000000
namespace Kk
open PySem L2 Pl
open NdefX (NScope nscope_by)
open LamX (TabB)
abbrev sReached : Stmt := top 18
section
variable {P : Program} {w : World} {K : PySem.W.Frag} {mg : Str → Option Value} {base : Heap} {T : Tbs}
abbrev nReached : List Str := ["system", "order", "edges"]
theorem scReached : FnScope nReached ["system"] (defScope sReached) := ⟨rfl, rfl, rfl, by decide +kernel, rfl, by decide +kernel, by decide +kernel⟩
/-- the promises of the class that the others use -/
structure Sys (P : Program) (w : World) (K : PySem.W.Frag) (mg : Str → Option Value) (base : Heap) (T : Tbs) (Cl : Addr) : Prop where
  cl : Cls K Cl
  nc : NoAttr K Cl "count"
  ne : NoAttr K Cl "edges"
  nr : NoAttr K Cl "rows"
  mg_ : mg "System" = some (.ref Cl)
  ini : Ini P w K mg base 5 Cl (spIni T Cl (fun a : Nat × List Ed => WfL a.1 a.2) (fun a => [isD K (iN a.1), isD K (.list (a.2.map encE))]) (fun a => fsS (K := K) a.1 (sE a.2)))
  leaving : Mf P w K mg base 2 Cl "leaving" (Pu T (fun (a : (Nat × List Ed) × Nat) => a.2 < a.1.1) (fun a => [isObj Cl (fsS (K := K) a.1.1 a.1.2), isD K (iN a.2)]) (fun a => isD K (.list ((rowOf a.1.2 a.2).map encR))))
def nmR : Nat → Nat → Str := fun _ _ => "reached.<locals>.<lambda>"
theorem df_reached {f Cl c Pt : Addr} {fd : FuncData} (F : Fun K "reached" "reached" sReached f fd) (hcode : fd.code = .ref c) (hm : mg "reached" = some (.ref f)) (hb : Binds K fd ["system"] []) (S : Sys P w K mg base T Cl) (mLen : mg "len" = none)
    (TB : TabB base mg c Pt) (hT : (Pt, nmR) ∈ T.n) (hu : ∀ p ∈ T.n, p.1 = Pt → p.2 = nmR)
    (dR : Dh P w K mg base 4 "renumbered_from" T (fun a : Nat × (Nat → Prop) × (Nat → List Rw) => Rws a.1 a.2.1 a.2.2) (fun _ => [isD K (iN 0)]) (fun a => isD K (bfsD a.1 a.2.2)) 3 (fun a => rowsCt K a.2.1 a.2.2)) :
    Df P w K mg base 7 "reached" (Pu T (fun a : Nat × List Ed => WfL a.1 a.2) (fun a => [isObj Cl (fsS (K := K) a.1 a.2)]) (fun a => isObj Cl (fsS (K := K) (bfs (rowOf a.2) a.1).1.length (sE (bfs (rowOf a.2) a.1).2)))) := by
  refine df_pureC (.ref c) _ _ _ F hcode scReached hm hb (fun _ => rfl) ?_
  rintro A outer s H Fr E ⟨n, es⟩ D hr wf ret _
  have wf : WfL n es := wf
  have wf2 := wf_bfs wf
  refine do_asg (R := isD K (bfsD n (rowOf es))) (ev_callH (R := fun a : Nat × (Nat → Prop) × (Nat → List Rw) => isD K (bfsD a.1 a.2.2)) dR (hr.mono (by decide)) (n, (fun s => s < n), rowOf es) (wf_rws wf)
      (xa_cons (R := isD K (iN 0)) ev_int (xa_lam (k := 2) (N := ["state", "system"]) (ps := ["state"]) (fr := ["system"]) (js := [0]) (Rc := [isObj Cl (fsS (K := K) n es)]) (rowsCt K (fun s => s < n) (rowOf es)) (nscope_by (by decide +kernel)) TB rfl hT rfl hu rfl (by show NdefX.ndefB (defScope sReached) _ _ = true; decide +kernel) rfl rfl (fun _ => rfl) (fun q cl pm cv ctv us hl => match us, hl with | [_], _ => rfl)
        (fun A1 outer1 s1 F1 H1 f1 c1 b cl qual hr1 hb1 => ev_methA (fs := fun a => fsS a.1.1 a.1.2) (Rs := fun a => [isD K (iN a.2)]) (R := fun a => isD K (.list ((rowOf a.1.2 a.2).map encR))) S.leaving hr1 ((n, es), b) hb1 S.cl rfl (ev_v 1) (ea1 (ev_v 0)))))
      (fun vs F H s ⟨v, ws, e, hv, f, e2, fc⟩ => ⟨[v], f, by rw [e, e2] <;> rfl, .cons hv .nil, fc⟩))
    (tg_tup rfl (ds := [.list ((bfs (rowOf es) n).1.map iN), .list ((bfs (rowOf es) n).2.map encE)]) (.cons (tg_name scReached.nd (i := 1) rfl (.inl rfl) (by show 1 < 3; decide)) rfl (.cons (tg_name scReached.nd (i := 2) rfl (.inl rfl) (by show 2 < 3; decide)) rfl .nil))) ?_
  refine do_ret (ev_make (Rs := fun a => [isD K (iN a.1), isD K (.list (a.2.map encE))]) (fs := fun a => fsS (K := K) a.1 (sE a.2)) S.ini hr ((bfs (rowOf es) n).1.length, (bfs (rowOf es) n).2) wf2 S.mg_ (ea_cons (Ev.imp (ev_lenL mLen (ev_v 1)) (fun v F h => by rw [List.length_map] at h; exact h)) (ea_cons (ev_v 2) ea_nil))) (fun σ v F' H' c hv => ret v F' H' c.en hv)
end
end Kk

set_option Elab.async false
set_option autoImplicit false
set_option linter.all false
set_option maxRecDepth 100000
set_option maxHeartbeats 4000000
namespace Kk
open PySem L2 Pl
/-! ### marks: each key's number in the order of first sight -/
section
variable {α : Type} [DecidableEq α]
def mkS (st : List α × List Nat) (x : α) : List α × List Nat := (if x ∈ st.1 then st.1 else st.1 ++ [x], st.2 ++ [(if x ∈ st.1 then st.1 else st.1 ++ [x]).idxOf x])
def mkV (st : List α × List Nat) (x : α) : Nat := (if x ∈ st.1 then st.1 else st.1 ++ [x]).idxOf x
def mks (l : List α) : List α × List Nat := l.foldl mkS ([], [])
def marks (l : List α) : List Nat := (mks l).2
theorem mks_snoc (l : List α) (x : α) : mks (l ++ [x]) = mkS (mks l) x := by
  unfold mks
  rw [List.foldl_append] <;> rfl
theorem mks_once (l : List α) : (mks l).1 = once l := by
  refine rev_ind (p := fun l => (mks l).1 = once l) rfl (fun l x ih => ?_) l
  rw [mks_snoc, once_snoc, ← ih] <;> rfl
theorem marks_len (l : List α) : (marks l).length = l.length := by
  refine rev_ind (p := fun l : List α => (marks l).length = l.length) rfl (fun l x ih => ?_) l
  unfold marks at ih ⊢
  rw [mks_snoc]
  unfold mkS
  simp [ih]
/-- a dict that numbers -/
def numP (enc : α → PD) (o : List α) : Kvs := (o.zip (List.range o.length)).map fun p => (enc p.1, iN p.2)
theorem numP_snoc (enc : α → PD) (o : List α) (x : α) : numP enc (o ++ [x]) = numP enc o ++ [(enc x, iN o.length)] := by
  unfold numP
  rw [List.length_append, List.length_singleton, List.range_succ, List.zip_append (by simp), List.map_append] <;> rfl
theorem numP_len (enc : α → PD) (o : List α) : (numP enc o).length = o.length := by
  unfold numP
  simp
theorem dget_numP {enc : α → PD} (he : ∀ a b, enc a = enc b → a = b) (o : List α) : ∀ x, dget (numP enc o) (enc x) = if x ∈ o then some (iN (o.idxOf x)) else none := by
  refine rev_ind (p := fun o => ∀ x, dget (numP enc o) (enc x) = if x ∈ o then some (iN (o.idxOf x)) else none) (fun x => by simp [numP]; rfl) (fun l y ih x => ?_) o
  rw [numP_snoc, dget_app, ih x]
  by_cases h : x ∈ l
  · rw [if_pos h, if_pos (List.mem_append_left _ h), List.idxOf_append, if_pos h] <;> rfl
  · rw [if_neg h, dget_cons]
    by_cases e : y = x
    · subst e
      rw [if_pos rfl, if_pos (by simp), List.idxOf_append, if_neg h]
      simp
    · rw [if_neg (fun z => e (he _ _ z)), if_neg (by rw [List.mem_append]; rintro (z | z); exact h z; exact e (List.mem_singleton.mp z).symm)] <;> rfl
theorem dsetd_numP {enc : α → PD} (he : ∀ a b, enc a = enc b → a = b) {o : List α} {x : α} : dsetd (numP enc o) (enc x) (iN o.length) = numP enc (if x ∈ o then o else o ++ [x]) ∧ ∀ ms, (dget (numP enc o) (enc x)).getD (iN o.length) = iN (mkV (o, ms) x) := by
  have h := dget_numP he o x
  unfold dsetd
  by_cases hx : x ∈ o
  · rw [if_pos hx] at h
    rw [h, if_pos hx]
    refine ⟨rfl, fun ms => ?_⟩
    unfold mkV
    rw [if_pos hx] <;> rfl
  · rw [if_neg hx] at h
    rw [h, if_neg hx]
    refine ⟨?_, fun ms => ?_⟩
    · show dput _ _ _ = _
      rw [dput_new h, numP_snoc]
    · show iN o.length = _
      unfold mkV
      rw [if_neg hx, List.idxOf_append, if_neg hx]
      simp
end
/-! ### keys of states -/
abbrev Ky := Nat × List Rw
def encK (k : Ky) : PD := .tuple [iN k.1, .tuple (k.2.map encR)]
theorem mapR_inj : ∀ {a b : List Rw}, a.map encR = b.map encR → a = b
  | [], [], _ => rfl
  | x :: a, y :: b, h => by
    rw [List.map_cons, List.map_cons] at h
    injection h with h1 h2
    rw [encR_inj h1, mapR_inj h2]
  | [], _ :: _, h => by simp at h
  | _ :: _, [], h => by simp at h
theorem encK_inj (a b : Ky) (h : encK a = encK b) : a = b := by
  obtain ⟨a1, a2⟩ := a
  obtain ⟨b1, b2⟩ := b
  unfold encK at h
  simp only [PyData.tuple.injEq, List.cons.injEq, and_true] at h
  rw [iN_eq.mp h.1, mapR_inj h.2]
theorem keyDs_R : ∀ l : List Rw, keyDs (l.map encR) = true
  | [] => rfl
  | r :: l => by
    show (keyD (encR r) && keyDs (l.map encR)) = true
    rw [keyDs_R l, (kd_R r).1] <;> rfl
theorem depth_R : ∀ l : List Rw, PyData.depthAll (l.map encR) ≤ 1
  | [] => by simp [PyData.depthAll]
  | r :: l => by
    show max (PyData.depth (encR r)) (PyData.depthAll (l.map encR)) ≤ 1
    have := depth_R l
    have h2 : PyData.depth (encR r) = 1 := by simp [encR, PyData.depth, PyData.depthAll]
    omega
theorem kd_K (k : Ky) : KD (encK k) := by
  refine ⟨?_, ?_, _, rfl⟩
  · show (keyD (iN k.1) && (keyD (.tuple (k.2.map encR)) && true)) = true
    have : keyD (.tuple (k.2.map encR)) = true := keyDs_R k.2
    rw [this] <;> rfl
  · have := depth_R k.2
    simp only [encK, PyData.depth, PyData.depthAll, iN]
    omega
abbrev sNumbered : Stmt := top 20
section
variable {P : Program} {w : World} {K : PySem.W.Frag} {mg : Str → Option Value} {base : Heap} {T : Tbs}
abbrev nNumbered : List Str := ["keys", "table", "key"]
theorem scNumbered : FnScope nNumbered ["keys"] (defScope sNumbered) := ⟨rfl, rfl, rfl, by decide +kernel, rfl, by decide +kernel, by decide +kernel⟩
theorem df_numbered {f : Addr} {fd : FuncData} (F : Fun K "numbered" "numbered" sNumbered f fd) (hm : mg "numbered" = some (.ref f)) (hb : Binds K fd ["keys"] []) (mLen : mg "len" = none) :
    Df P w K mg base 1 "numbered" (Pu T (fun ks : List Ky => ks.length ≤ 1000) (fun ks => [isD K (.list (ks.map encK))]) (fun ks => isD K (.list ((marks ks).map iN)))) := by
  refine df_pure _ _ _ F scNumbered hm hb (fun _ => rfl) ?_
  intro cdv A outer s H Fr E ks D hr hz ret _
  have hz : ks.length ≤ 1000 := hz
  have hu : (A.deeper (PyProof.Rows.envOfC "numbered" (defScope sNumbered) s.heap.objs.size f cdv)).units + 64 < cLine := hr.units
  refine do_ownN scNumbered.nd (n := 1) rfl (.inr rfl) (fun q => ?_) (by show 1 < 3; decide)
  let os0 : List Ky → List (Addr × Ct) := fun o => [(q, ctDN P w K q (numP encK o))]
  have hlen : ((ks.map encK).map (isD K)).length = ks.length := by rw [List.length_map, List.length_map]
  have nxt : ∀ {i : Nat} {k : Ky}, ks[i]? = some k → ks.take (i + 1) = ks.take i ++ [k] := fun {i k} h => by rw [List.take_succ, h] <;> rfl
  refine do_retS (own := [("key", 2)]) (Rs := (ks.map encK).map (isD K))
    (fun i us os F => us.length = i ∧ (i ≤ ks.length → os = os0 (mks (ks.take i)).1 ∧ DpAll K F us ((mks (ks.take i)).2.map iN)))
    (fun i os v F' os' => ∀ k, ks[i]? = some k → Dp K F' v (iN (mkV (mks (ks.take i)) k)) ∧ os' = os0 (mkS (mks (ks.take i)) k).1) (fun i us os F F' e h => ⟨h.1, fun z => ⟨(h.2 z).1, dpAll_mono e (h.2 z).2⟩⟩) (fun i us os F h => h.1) (fun i us os F v F' os' h e g => ?_)
    (iv_list (ev_v 0)) (blkOk_by (N := nNumbered) (sc := defScope sNumbered) (by decide +kernel)) (by omega) (fun F => ⟨rfl, fun _ => ⟨rfl, .nil⟩⟩) (fun i R fp os us F hR hS => ?_) scNumbered.nd (fun Dl us σ F' H' os' c sq hS => ?_)
  · refine ⟨by rw [List.length_append, h.1] <;> rfl, fun hi => ?_⟩
    have e1 := List.getElem?_eq_getElem (l := ks) (i := i) (by omega)
    obtain ⟨g1, g2⟩ := g _ e1
    obtain ⟨h1, h2⟩ := h.2 (by omega)
    rw [nxt e1, mks_snoc]
    refine ⟨g2, ?_⟩
    show DpAll K F' (us ++ [v]) (((mks (ks.take i)).2 ++ [_]).map iN)
    rw [List.map_append]
    exact dpAll_append (dpAll_mono e h2) (dpAll_one g1)
  · rw [List.getElem?_map, List.getElem?_map] at hR
    cases he : ks[i]? with
    | none => rw [he] at hR; cases hR
    | some k =>
      rw [he] at hR
      cases hR
      have hi : i < ks.length := (List.getElem?_eq_some_iff.mp he).1
      obtain ⟨rfl, _⟩ := hS.2 (by omega)
      have hol : (mks (ks.take i)).1.length ≤ 1000 := by
        rw [mks_once]
        exact Nat.le_trans (once_len _) (by rw [List.length_take]; omega)
      have hkz : (numP encK (mks (ks.take i)).1).length < 100000 := by rw [numP_len]; omega
      refine ⟨[some (isD K (.list (ks.map encK))), some (isA q), some (isD K (encK k))], [2], by simp, fun s1 H1 Ca cl fps => ⟨tg_name scNumbered.nd (i := 2) rfl (.inl rfl) (by show 2 < 3; decide), ?_⟩⟩
      refine tW_mono (ew_setdN (k := encK k) (v := iN (numP encK (mks (ks.take i)).1).length) (kvs := numP encK (mks (ks.take i)).1) (l := q) hu findO_head (kd_K k) hkz (ev_v 1) (ev_v 2) (ev_lenN findO_head hkz mLen (ev_v 1)) ⟨rfl, rfl, rfl, rfl⟩) (fun v F o g k2 hk2 => ?_)
      obtain rfl : k = k2 := Option.some.inj hk2
      obtain ⟨g1, g2⟩ := g
      have hd := dsetd_numP (enc := encK) encK_inj (o := (mks (ks.take i)).1) (x := k)
      rw [numP_len] at g1 g2
      rw [hd.2 (mks (ks.take i)).2] at g1
      refine ⟨g1, ?_⟩
      rw [g2]
      show putO q (ctDN P w K q (dsetd (numP encK (mks (ks.take i)).1) (encK k) (iN (mks (ks.take i)).1.length))) [(q, ctDN P w K q (numP encK (mks (ks.take i)).1))] = _
      rw [hd.1, putO_head] <;> rfl
  · rw [hlen, List.take_length] at hS
    exact ret _ F' H' c.en (.lst sq (hS.2 (Nat.le_refl _)).2)
end
end Kk

set_option Elab.async false
set_option autoImplicit false
set_option linter.all false
set_option maxRecDepth 100000
set_option maxHeartbeats 4000000
namespace Kk
open PySem L2 Pl
section
variable {α : Type} [DecidableEq α]
/-- a key's number -/
def ix (l : List α) (x : α) : Nat := l.idxOf x
theorem marks_map (l : List α) : marks l = l.map (ix (once l)) := by
  refine rev_ind (p := fun l : List α => marks l = l.map (ix (once l))) rfl (fun l x ih => ?_) l
  have e : marks (l ++ [x]) = marks l ++ [ix (once (l ++ [x])) x] := by
    unfold marks
    rw [mks_snoc, ← mks_once (l ++ [x]), mks_snoc] <;> rfl
  rw [e, ih, List.map_append]
  congr 1
  refine List.map_congr_left fun y hy => ?_
  rw [once_snoc]
  unfold ix
  split
  · rfl
  · rw [List.idxOf_append, if_pos (mem_once.mpr hy)]
theorem marks_inj {l : List α} {x y : α} (hx : x ∈ l) (h : ix (once l) x = ix (once l) y) : x = y := by
  unfold ix at h
  have hlt := List.idxOf_lt_length_iff.mpr (mem_once.mpr hx)
  have h1 := List.getElem_idxOf hlt
  have h2 : (once l).idxOf y < (once l).length := by rw [← h]; exact hlt
  have h3 := List.getElem_idxOf h2
  rw [← h1, ← h3]
  simp only [h]
theorem marks_lt {l : List α} {m : Nat} (h : m ∈ marks l) : m < l.length := by
  rw [marks_map] at h
  obtain ⟨x, hx, rfl⟩ := List.mem_map.mp h
  exact Nat.lt_of_lt_of_le (List.idxOf_lt_length_iff.mpr (mem_once.mpr hx)) (once_len l)
/-- the finer list has as many values at least -/
theorem once_le {β : Type} [DecidableEq β] : ∀ (z : List (α × β)), (∀ p ∈ z, ∀ q ∈ z, p.2 = q.2 → p.1 = q.1) → (once (z.map Prod.fst)).length ≤ (once (z.map Prod.snd)).length := by
  intro z
  refine rev_ind (p := fun z : List (α × β) => (∀ p ∈ z, ∀ q ∈ z, p.2 = q.2 → p.1 = q.1) → (once (z.map Prod.fst)).length ≤ (once (z.map Prod.snd)).length) (fun _ => Nat.le_refl _) (fun l x ih h => ?_) z
  have ih := ih fun p hp q hq => h p (List.mem_append_left _ hp) q (List.mem_append_left _ hq)
  rw [List.map_append, List.map_append]
  show (once (l.map Prod.fst ++ [x.1])).length ≤ (once (l.map Prod.snd ++ [x.2])).length
  rw [once_snoc, once_snoc]
  by_cases h2 : x.2 ∈ once (l.map Prod.snd)
  · have h1 : x.1 ∈ once (l.map Prod.fst) := by
      rw [mem_once] at h2 ⊢
      obtain ⟨p, hp, e⟩ := List.mem_map.mp h2
      exact List.mem_map.mpr ⟨p, hp, h p (List.mem_append_left _ hp) x (by simp) e⟩
    rw [if_pos h1, if_pos h2]
    exact ih
  · rw [if_neg h2]
    split
    · rw [List.length_append]; omega
    · rw [List.length_append, List.length_append]; simpa using ih
end
/-! ### rounds of marks -/
def keyOf (rw : Nat → List Rw) (ms : List Nat) (s : Nat) : Ky := (ms.getD s 0, srtR (once ((rw s).map fun r => (r.1, ms.getD r.2 0))))
def nextR (n : Nat) (rw : Nat → List Rw) (ms : List Nat) : List Nat := marks ((List.range n).map (keyOf rw ms))
theorem nextR_len (n : Nat) (rw : Nat → List Rw) (ms : List Nat) : (nextR n rw ms).length = n := by unfold nextR; rw [marks_len, List.length_map, List.length_range]
def rd (n : Nat) (rw : Nat → List Rw) : Nat → List Nat
  | 0 => List.replicate n 0
  | k + 1 => nextR n rw (rd n rw k)
theorem rd_len (n : Nat) (rw : Nat → List Rw) : ∀ k, (rd n rw k).length = n
  | 0 => by simp [rd]
  | k + 1 => nextR_len _ _ _
def cnt (l : List Nat) : Nat := (once l).length
theorem nextR_at {n : Nat} {rw : Nat → List Rw} {ms : List Nat} {s : Nat} (h : s < n) : (nextR n rw ms).getD s 0 = ix (once ((List.range n).map (keyOf rw ms))) (keyOf rw ms s) := by
  unfold nextR
  rw [marks_map, List.getD_eq_getElem?_getD, List.getElem?_map, List.getElem?_map, List.getElem?_range h] <;> rfl
theorem nextR_eq {n : Nat} {rw : Nat → List Rw} {ms : List Nat} {s t : Nat} (hs : s < n) (ht : t < n) : (nextR n rw ms).getD s 0 = (nextR n rw ms).getD t 0 ↔ keyOf rw ms s = keyOf rw ms t := by
  rw [nextR_at hs, nextR_at ht]
  exact ⟨fun h => marks_inj (List.mem_map.mpr ⟨s, List.mem_range.mpr hs, rfl⟩) h, fun h => by rw [h]⟩
theorem list_range {l : List Nat} {n : Nat} (h : l.length = n) : (List.range n).map (fun s => l.getD s 0) = l := by
  refine List.ext_getElem? fun j => ?_
  rw [List.getElem?_map]
  by_cases hj : j < n
  · rw [List.getElem?_range hj, List.getElem?_eq_getElem (by omega)]
    show some (l.getD j 0) = _
    rw [List.getD_eq_getElem?_getD, List.getElem?_eq_getElem (by omega)] <;> rfl
  · rw [List.getElem?_eq_none (by rw [List.length_range]; omega), List.getElem?_eq_none (by omega)] <;> rfl
theorem cnt_mono {n : Nat} {rw : Nat → List Rw} {ms : List Nat} (h : ms.length = n) : cnt ms ≤ cnt (nextR n rw ms) := by
  have hz := once_le ((List.range n).map fun s => (ms.getD s 0, (nextR n rw ms).getD s 0)) (fun p hp q hq e => by
    obtain ⟨s, hs, rfl⟩ := List.mem_map.mp hp
    obtain ⟨t, ht, rfl⟩ := List.mem_map.mp hq
    have := (nextR_eq (List.mem_range.mp hs) (List.mem_range.mp ht)).mp e
    show ms.getD s 0 = ms.getD t 0
    exact congrArg Prod.fst this)
  rw [List.map_map, List.map_map] at hz
  have e1 : (List.range n).map (Prod.fst ∘ fun s => (ms.getD s 0, (nextR n rw ms).getD s 0)) = ms := list_range h
  have e2 : (List.range n).map (Prod.snd ∘ fun s => (ms.getD s 0, (nextR n rw ms).getD s 0)) = nextR n rw ms := list_range (nextR_len _ _ _)
  rw [e1, e2] at hz
  exact hz
theorem cnt_le {l : List Nat} : cnt l ≤ l.length := once_len l
/-- the first round that brings nothing new -/
def Stop (n : Nat) (rw : Nat → List Rw) (k : Nat) : Prop := (∀ j, j < k → cnt (rd n rw (j + 1)) ≠ cnt (rd n rw j)) ∧ cnt (rd n rw (k + 1)) = cnt (rd n rw k)
theorem stop_unique {n : Nat} {rw : Nat → List Rw} {j k : Nat} (a : Stop n rw j) (b : Stop n rw k) : j = k := by
  rcases Nat.lt_trichotomy j k with h | h | h
  · exact absurd a.2 (b.1 j h)
  · exact h
  · exact absurd b.2 (a.1 k h)
theorem cnt_grow {n : Nat} {rw : Nat → List Rw} (hn : 1 ≤ n) : ∀ k, (∀ j, j < k → cnt (rd n rw (j + 1)) ≠ cnt (rd n rw j)) → k + 1 ≤ cnt (rd n rw k)
  | 0, _ => by
    have h : 0 ∈ once (rd n rw 0) := mem_once.mpr (by show 0 ∈ List.replicate n 0; rw [List.mem_replicate]; omega)
    exact List.length_pos_of_mem h
  | k + 1, h => by
    have ih := cnt_grow hn k fun j hj => h j (by omega)
    have h1 := h k (by omega)
    have h2 : cnt (rd n rw k) ≤ cnt (rd n rw (k + 1)) := cnt_mono (rd_len n rw k)
    omega
theorem stop_lt {n : Nat} {rw : Nat → List Rw} (hn : 1 ≤ n) {k : Nat} (h : ∀ j, j < k → cnt (rd n rw (j + 1)) ≠ cnt (rd n rw j)) : k < n := by
  have h1 := cnt_grow hn k h
  have h2 : cnt (rd n rw k) ≤ (rd n rw k).length := cnt_le
  rw [rd_len] at h2
  omega
theorem stop_ex {n : Nat} {rw : Nat → List Rw} (hn : 1 ≤ n) : ∃ k, Stop n rw k := by
  refine Classical.byContradiction fun hno => ?_
  have key : ∀ k, ∀ j, j < k → cnt (rd n rw (j + 1)) ≠ cnt (rd n rw j) := fun k => by
    induction k with
    | zero => intro j hj; omega
    | succ k ih =>
      intro j hj
      by_cases h : j < k
      · exact ih j h
      · have : j = k := by omega
        subst this
        exact fun z => hno ⟨j, ih, z⟩
  have := stop_lt hn (key n)
  omega
noncomputable def stopK (n : Nat) (rw : Nat → List Rw) : Nat := open Classical in if h : ∃ k, Stop n rw k then Classical.choose h else 0
theorem stopK_spec {n : Nat} {rw : Nat → List Rw} (hn : 1 ≤ n) : Stop n rw (stopK n rw) := by
  unfold stopK
  rw [dif_pos (stop_ex hn)]
  exact Classical.choose_spec (stop_ex hn)
theorem stopK_eq {n : Nat} {rw : Nat → List Rw} {k : Nat} (hn : 1 ≤ n) (h : Stop n rw k) : stopK n rw = k := stop_unique (stopK_spec hn) h
/-- the last marks -/
noncomputable def lastM (n : Nat) (rw : Nat → List Rw) : List Nat := rd n rw (stopK n rw)
end Kk

set_option Elab.async false
set_option autoImplicit false
set_option linter.all false
set_option maxRecDepth 100000
set_option maxHeartbeats 4000000
namespace Kk
open PySem L2 Pl
abbrev sNextR : Stmt := top 22
section
variable {P : Program} {w : World} {K : PySem.W.Frag} {mg : Str → Option Value} {base : Heap} {T : Tbs}
abbrev nNextR : List Str := ["rows", "marks", "keys", "state", "found", "action", "target"]
theorem scNextR : FnScope nNextR ["rows", "marks"] (defScope sNextR) := ⟨rfl, rfl, rfl, by decide +kernel, rfl, by decide +kernel, by decide +kernel⟩
def rowsP (n : Nat) (rw : Nat → List Rw) : PD := .list ((List.range n).map fun s => .list ((rw s).map encR))
/-- few rows -/
structure Rw6 (n : Nat) (rw : Nat → List Rw) : Prop where
  pos : 1 ≤ n
  few : n ≤ 100
  lt : ∀ s, s < n → ∀ r ∈ rw s, r.2 < n
  len : ∀ s, s < n → (rw s).length < 63
theorem getD_iN {ms : List Nat} {s : Nat} (h : s < ms.length) : atI (ms.map iN) (s : Int) = some (iN (ms.getD s 0)) := atI_nat (by rw [List.getElem?_map, List.getD_eq_getElem?_getD, List.getElem?_eq_getElem h] <;> rfl)
theorem rngR_at {K : PySem.W.Frag} {lo : Int} {m i : Nat} {R : Rp} (h : (rngR K lo m)[i]? = some R) : i < m ∧ R = isD K (.int (lo + (i : Int))) := by
  unfold rngR at h
  rw [List.getElem?_map] at h
  by_cases hi : i < m
  · rw [List.getElem?_range hi] at h
    exact ⟨hi, (Option.some.inj h).symm⟩
  · rw [List.getElem?_eq_none (by rw [List.length_range]; omega)] at h
    cases h
theorem df_next {f : Addr} {fd : FuncData} (F : Fun K "next_round" "next_round" sNextR f fd) (hm : mg "next_round" = some (.ref f)) (hb : Binds K fd ["rows", "marks"] []) (mLen : mg "len" = none) (mRange : mg "range" = none) (mSorted : mg "sorted" = none) (mTuple : mg "tuple" = none)
    (dN : Df P w K mg base 1 "numbered" (Pu T (fun ks : List Ky => ks.length ≤ 1000) (fun ks => [isD K (.list (ks.map encK))]) (fun ks => isD K (.list ((marks ks).map iN))))) :
    Df P w K mg base 2 "next_round" (Pu T (fun a : (Nat × (Nat → List Rw)) × List Nat => Rw6 a.1.1 a.1.2 ∧ a.2.length = a.1.1) (fun a => [isD K (rowsP a.1.1 a.1.2), isD K (.list (a.2.map iN))]) (fun a => isD K (.list ((nextR a.1.1 a.1.2 a.2).map iN)))) := by
  refine df_pure _ _ _ F scNextR hm hb (fun _ => rfl) ?_
  rintro cdv A outer s H Fr E ⟨⟨n, rw⟩, ms⟩ D hr ⟨wf, hms⟩ ret _
  have wf : Rw6 n rw := wf
  have hms : ms.length = n := hms
  have hu : (A.deeper (PyProof.Rows.envOfC "next_round" (defScope sNextR) s.heap.objs.size f cdv)).units + 64 < cLine := hr.units
  have h100 := wf.few
  refine do_own scNextR.nd (i := 2) rfl (.inl rfl) (en_lst (ds := []) ea_nil) (fun q => ?_) (by show 2 < 7; decide)
  let sl0 : List (Option Rp) := [some (isD K (rowsP n rw)), some (isD K (.list (ms.map iN))), some (isA q), none, none, none, none]
  let os0 : Nat → List (Addr × Ct) := fun i => [(q, ctL K (((List.range i).map (keyOf rw ms)).map encK))]
  have hrl : ∀ K' : PySem.W.Frag, (rngR K' 0 ((ms.map iN).length : Int).toNat).length = n := fun K' => by unfold rngR; rw [List.length_map, List.length_range, List.length_map]; omega
  have hmr : -(2 ^ 62) ≤ (((ms.map iN).length : Nat) : Int) ∧ (((ms.map iN).length : Nat) : Int) < 2 ^ 62 := by rw [List.length_map]; omega
  refine do_for (fun i => (sl0, os0 i)) (M := (Cn.mk T Fr H fpT sl0 (os0 n)).at) (iv_rng1 (ev_lenL mLen (ev_v 1)) mRange hmr) (fun σ F' H' c => c) ?_ (fun σ H' c => ?_) ?_
  · intro i R fp hR
    obtain ⟨hi, hRi⟩ := rngR_at hR
    have hi : i < ((ms.map iN).length : Int).toNat := hi
    have hi : i < n := by rw [List.length_map] at hi; omega
    have hRi : R = isD K (iN i) := by rw [hRi, Int.zero_add] <;> rfl
    subst hRi
    have hrow := wf.len i hi
    have hlt := wf.lt i hi
    refine ⟨_, _, tg_name scNextR.nd (i := 3) rfl (.inl rfl) (by show 3 < 7; decide), ?_⟩
    -- the set of pairs
    let ps : List Rw := (rw i).map fun r => (r.1, ms.getD r.2 0)
    have hS : ((once ps).map encR).Nodup := nodup_map (fun a b h => encR_inj h) (once_nodup ps)
    have hpl : (once ps).length ≤ (rw i).length := Nat.le_trans (once_len ps) (by show ((rw i).map _).length ≤ _; rw [List.length_map]; omega)
    refine do_setSc (own := [("action", 5), ("target", 6)]) (i := 4) (Rs := ((rw i).map encR).map (isD K)) (S := (once ps).map encR) (fun _ => true) (fun j => encR ((ps)[j]?.getD ("", 0))) hS (fun d => ?_) (iv_list (ds := (rw i).map encR) (ev_ixL (d := .list ((rw i).map encR)) (atI_nat (by rw [List.getElem?_map, List.getElem?_range hi] <;> rfl)) (ev_v 0) (ev_v 3)))
      (blkOk_by (N := nNextR) (sc := defScope sNextR) (by decide +kernel)) (by rw [List.length_map, List.length_map]; exact hrow) (fun j _ _ => kd_R _) (fun j R f hR => ?_) scNextR.nd rfl rfl rfl (by show 4 < 7; decide) hu ?_
    · rw [made_all, List.length_map, List.length_map]
      have hps : ps.length = (rw i).length := by show ((rw i).map _).length = _; rw [List.length_map]
      rw [List.mem_map, List.mem_map]
      constructor
      · rintro ⟨a, ha, rfl⟩
        obtain ⟨j, hj, e⟩ := List.getElem_of_mem (mem_once.mp ha)
        exact ⟨j, List.mem_range.mpr (by omega), by rw [List.getElem?_eq_getElem hj, ← e] <;> rfl⟩
      · rintro ⟨j, hj, rfl⟩
        have hj := List.mem_range.mp hj
        refine ⟨ps[j]'(by omega), mem_once.mpr (List.getElem_mem _), ?_⟩
        rw [List.getElem?_eq_getElem (by omega)] <;> rfl
    · rw [List.getElem?_map, List.getElem?_map] at hR
      cases he : (rw i)[j]? with
      | none => rw [he] at hR; cases hR
      | some r =>
        rw [he] at hR
        cases hR
        have hr2 := hlt r (List.mem_of_getElem? he)
        have hpj : ps[j]?.getD ("", 0) = (r.1, ms.getD r.2 0) := by
          show ((rw i).map _)[j]?.getD _ = _
          rw [List.getElem?_map, he] <;> rfl
        rw [hpj]
        obtain ⟨ra, rt⟩ := r
        refine ⟨Cn.mk T Fr H ((fpT.and fp).and f) [some (isD K (rowsP n rw)), some (isD K (.list (ms.map iN))), some (isA q), some (isD K (iN i)), none, some (isD K (.str ra)), some (isD K (iN rt))] (os0 i), [5, 6], by simp, rfl, fun s1 H1 Ca cl fps => ⟨tg_tup rfl (ds := [.str ra, iN rt]) (.cons (tg_name scNextR.nd (i := 5) rfl (.inl rfl) (by show 5 < 7; decide)) rfl (.cons (tg_name scNextR.nd (i := 6) rfl (.inl rfl) (by show 6 < 7; decide)) rfl .nil)), ets_nil, fun _ => ?_⟩⟩
        exact ev_tup (ds := [.str ra, iN (ms.getD rt 0)]) (ea_cons (ev_v 5) (ea_cons (ev_ixL (getD_iN (by rw [hms]; exact hr2)) (ev_v 1) (ev_v 6)) ea_nil))
    · refine do_app (l := q) (ds := ((List.range i).map (keyOf rw ms)).map encK) (d := encK (keyOf rw ms i)) (ev_v 2) findO_head (ev_tup (ds := [iN (ms.getD i 0), .tuple ((srtR (once ps)).map encR)]) (ea_cons (ev_ixL (getD_iN (by omega)) (ev_v 1) (ev_v 3)) (ea_cons (Ev.imp (ev_tupL mTuple (En.ev (en_sortedS (S := (once ps).map encR) (ks_R (once ps)) (sb_R (once ps) (by omega)) rfl hu mSorted (ev_v 4)))) (fun v F h => by rw [srt_R] at h; exact h)) ea_nil))) (by rw [List.length_map, List.length_map, List.length_range]; omega) ?_
      refine do_nil fun σ H' ⟨F', c⟩ => ⟨F', ?_⟩
      have c2 := c.fg (sl := sl0) (.keep (.keep (.keep (.drop (.drop (.drop (.drop .nil)))))))
      have ec : putO q (ctL K (((List.range i).map (keyOf rw ms)).map encK ++ [encK (keyOf rw ms i)])) (os0 i) = os0 (i + 1) := by
        show putO q _ [(q, _)] = _
        rw [putO_head]
        show _ = [(q, ctL K (((List.range (i + 1)).map (keyOf rw ms)).map encK))]
        rw [List.range_succ, List.map_append, List.map_append] <;> rfl
      show (Cn.mk T Fr H (fpT.and fp) sl0 (os0 (i + 1))).ok σ F' H'
      rw [← ec]
      exact c2
  · rw [hrl] at c
    exact c
  · refine do_frzL 2 q (ds := ((List.range n).map (keyOf rw ms)).map encK) rfl findO_head ?_
    refine do_ret (R := isD K (.list ((nextR n rw ms).map iN))) (ev_call (R := fun ks => isD K (.list ((marks ks).map iN))) dN (hr.mono (by decide)) ((List.range n).map (keyOf rw ms)) (by rw [List.length_map, List.length_range]; omega) (ea1 (ev_v 2))) (fun σ v F' H' c hv => ret v F' H' c.en hv)
end
end Kk

set_option Elab.async false
set_option autoImplicit false
set_option linter.all false
set_option maxRecDepth 100000
set_option maxHeartbeats 4000000
namespace Kk
open PySem L2 Pl
theorem dd_once (l : List Nat) : ddI (l.map fun n : Nat => (n : Int)) = (once l).map fun n : Nat => (n : Int) := by
  refine rev_ind (p := fun l : List Nat => ddI (l.map fun n : Nat => (n : Int)) = (once l).map fun n : Nat => (n : Int)) rfl (fun l x ih => ?_) l
  rw [List.map_append]
  have e : ddI ((l.map fun n : Nat => (n : Int)) ++ [(x : Int)]) = PyProof.Rows.step_dedup (ddI (l.map fun n : Nat => (n : Int))) (x : Int) := by
    unfold ddI
    rw [List.foldl_append] <;> rfl
  show ddI ((l.map fun n : Nat => (n : Int)) ++ [(x : Int)]) = _
  rw [e, ih, once_snoc]
  unfold PyProof.Rows.step_dedup
  by_cases h : x ∈ once l
  · rw [if_pos h, if_pos]
    rw [List.any_eq_true]
    exact ⟨(x : Int), List.mem_map.mpr ⟨x, h, rfl⟩, by simp⟩
  · rw [if_neg h, if_neg]
    · rw [List.map_append] <;> rfl
    · intro z
      rw [List.any_eq_true] at z
      obtain ⟨y, hy, e2⟩ := z
      obtain ⟨m, hm, rfl⟩ := List.mem_map.mp hy
      have : m = x := by have := eq_of_beq e2; exact Int.ofNat.inj this
      exact h (this ▸ hm)
abbrev sRounds : Stmt := top 23
abbrev sStrRows : Stmt := top 24
abbrev sStrRounds : Stmt := top 25
section
variable {P : Program} {w : World} {K : PySem.W.Frag} {mg : Str → Option Value} {base : Heap} {T : Tbs}
theorem ev_lenSetN {X : Cx} {C : Cn} {e : Expr} {pos p p2 q : Pos} {l : List Nat} (hz : l.length < 4000) (hc : X.calm = true) (hm : X.mg "len" = none) (hm2 : X.mg "set" = none) (h : Ev X C e (isD X.K (.list (l.map iN)))) (hg : Gl X "len" := by rfl) (hg2 : Gl X "set" := by rfl) (na : S1 X e := by rfl) :
    Ev X C (.Call (.Name "len" p) [.Call (.Name "set" p2) [e] [] q] [] pos) (isD X.K (iN (cnt l))) := by
  have h2 : Ev X C e (isD X.K (.list ((l.map fun n : Nat => (n : Int)).map PyData.int))) := by rw [List.map_map]; exact h
  have r := ev_lenSetI (p := p) (p2 := p2) (q := q) (pos := pos) (by rw [List.length_map]; exact hz) hc hm hm2 h2 hg hg2 na
  rw [dd_once, List.length_map] at r
  exact r
abbrev nRounds : List Str := ["rows", "marks", "found", "following"]
theorem scRounds : FnScope nRounds ["rows", "marks"] (defScope sRounds) := ⟨rfl, rfl, rfl, by decide +kernel, rfl, by decide +kernel, by decide +kernel⟩
def rdD (n : Nat) (rw : Nat → List Rw) (k : Nat) : PD := .list ((rd n rw k).map iN)
def rdsD (n : Nat) (rw : Nat → List Rw) (k : Nat) : PD := .list ((List.range (k + 1)).map (rdD n rw))
theorem rds_last (n : Nat) (rw : Nat → List Rw) (k : Nat) : atI ((List.range (k + 1)).map (rdD n rw)) (-1) = some (rdD n rw k) := by
  rw [List.range_succ, List.map_append]
  exact atI_last _ _
theorem df_rounds {f : Addr} {fd : FuncData} (F : Fun K "rounds" "rounds" sRounds f fd) (hm : mg "rounds" = some (.ref f)) (hb : Binds K fd ["rows", "marks"] []) (mLen : mg "len" = none) (mSet : mg "set" = none)
    (dN : Df P w K mg base 2 "next_round" (Pu T (fun a : (Nat × (Nat → List Rw)) × List Nat => Rw6 a.1.1 a.1.2 ∧ a.2.length = a.1.1) (fun a => [isD K (rowsP a.1.1 a.1.2), isD K (.list (a.2.map iN))]) (fun a => isD K (.list ((nextR a.1.1 a.1.2 a.2).map iN))))) :
    Df P w K mg base 3 "rounds" (Pu T (fun a : Nat × (Nat → List Rw) => Rw6 a.1 a.2) (fun a => [isD K (rowsP a.1 a.2), isD K (rdD a.1 a.2 0)]) (fun a => isD K (rdsD a.1 a.2 (stopK a.1 a.2)))) := by
  refine df_pure _ _ _ F scRounds hm hb (fun _ => rfl) ?_
  rintro cdv A outer s H Fr E ⟨n, rw⟩ D hr wf ret _
  have wf : Rw6 n rw := wf
  have h100 := wf.few
  refine do_own scRounds.nd (i := 2) rfl (.inl rfl) (en_lst (ds := [rdD n rw 0]) (ea_cons (ev_v 1) ea_nil)) (fun q => ?_) (by show 2 < 4; decide)
  let sl0 : List (Option Rp) := [some (isD K (rowsP n rw)), some (isD K (rdD n rw 0)), some (isA q), none]
  let os0 : Nat → List (Addr × Ct) := fun k => [(q, ctL K ((List.range (k + 1)).map (rdD n rw)))]
  refine do_while (α := { k : Nat // ∀ j, j < k → cnt (rd n rw (j + 1)) ≠ cnt (rd n rw j) }) (fun a => (sl0, os0 a.1)) (fun a => n - a.1) (M := fun _ _ => False) (fun σ F' H' c => ⟨⟨0, fun j hj => by omega⟩, c⟩) (fun a => ?_) Do.no
  obtain ⟨k, hk⟩ := a
  have hkn := stop_lt wf.pos hk
  refine ⟨true, et_val ev_bl, fun _ => ?_, fun h => by cases h⟩
  refine do_set scRounds.nd (i := 3) rfl (.inl rfl) (R := isD K (rdD n rw (k + 1))) (ev_call (R := fun a => isD K (.list ((nextR a.1.1 a.1.2 a.2).map iN))) dN hr ((n, rw), rd n rw k) ⟨wf, rd_len n rw k⟩ (ea_cons (ev_v 0) (ea_cons (ev_ixO (d := rdD n rw k) findO_head (rds_last n rw k) (ev_v 2) (ev_negI ev_int)) ea_nil))) ?_ (by show 3 < 4; decide)
  have l1 : (rd n rw (k + 1)).length < 4000 := by rw [rd_len]; omega
  have l2 : (rd n rw k).length < 4000 := by rw [rd_len]; omega
  refine do_ifr (et_eq eqI (ev_lenSetN (l := rd n rw (k + 1)) l1 rfl mLen mSet (ev_v 3)) (ev_lenSetN (l := rd n rw k) l2 rfl mLen mSet (ev_ixO (d := rdD n rw k) findO_head (rds_last n rw k) (ev_v 2) (ev_negI ev_int)))) (fun hb => ?_) (fun hb => ?_)
  · have hb := of_decide_eq_true hb
    have hst : stopK n rw = k := stopK_eq wf.pos ⟨hk, Int.ofNat.inj hb⟩
    refine do_frzL 2 q (ds := (List.range (k + 1)).map (rdD n rw)) rfl findO_head ?_
    refine do_ret (R := isD K (rdsD n rw k)) (ev_v 2) (fun σ v F' H' c hv => ret v F' H' c.en ?_)
    show Dp K F' v (rdsD n rw (stopK n rw))
    rw [hst]
    exact hv
  · have hb := of_decide_eq_false hb
    refine do_app (l := q) (ds := (List.range (k + 1)).map (rdD n rw)) (d := rdD n rw (k + 1)) (ev_v 2) findO_head (ev_v 3) (by rw [List.length_map, List.length_range]; omega) ?_
    refine do_nil fun σ H' ⟨F', c⟩ => ⟨⟨k + 1, fun j hj => ?_⟩, ?_, F', ?_⟩
    · by_cases h : j < k
      · exact hk j h
      · have : j = k := by omega
        subst this
        exact fun z => hb (congrArg Int.ofNat z)
    · show n - (k + 1) < n - k
      omega
    · have c2 := c.fg (sl := sl0) (.keep (.keep (.keep (.drop .nil))))
      have ec : putO q (ctL K ((List.range (k + 1)).map (rdD n rw) ++ [rdD n rw (k + 1)])) (os0 k) = os0 (k + 1) := by
        show putO q _ [(q, _)] = [(q, ctL K ((List.range (k + 1 + 1)).map (rdD n rw)))]
        rw [putO_head, List.range_succ (n := k + 1), List.map_append] <;> rfl
      show (Cn.mk T Fr H fpT sl0 (os0 (k + 1))).ok σ F' H'
      rw [← ec]
      exact c2
end
end Kk

set_option Elab.async false
set_option autoImplicit false
set_option linter.all false
set_option maxRecDepth 100000
set_option maxHeartbeats 4000000
namespace Kk
open PySem L2 Pl
section
variable {P : Program} {w : World} {K : PySem.W.Frag} {mg : Str → Option Value} {base : Heap} {T : Tbs}
abbrev nStrRows : List Str := ["system", "state"]
theorem scStrRows : FnScope nStrRows ["system"] (defScope sStrRows) := ⟨rfl, rfl, rfl, by decide +kernel, rfl, by decide +kernel, by decide +kernel⟩
theorem scStrRounds : FnScope nStrRows ["system"] (defScope sStrRounds) := ⟨rfl, rfl, rfl, by decide +kernel, rfl, by decide +kernel, by decide +kernel⟩
theorem wf_rw6 {n : Nat} {es : List Ed} (wf : WfL n es) (h : es.length < 63) : Rw6 n (rowOf es) := ⟨wf.pos, wf.few, (wf_rws wf).lt, fun s _ => Nat.lt_of_le_of_lt (List.length_filterMap_le _ _) h⟩
theorem df_strRows {f Cl : Addr} {fd : FuncData} (F : Fun K "strong_rows" "strong_rows" sStrRows f fd) (hm : mg "strong_rows" = some (.ref f)) (hb : Binds K fd ["system"] []) (mRange : mg "range" = none) (S : Sys P w K mg base T Cl) :
    Df P w K mg base 3 "strong_rows" (Pu T (fun a : Nat × List Ed => WfL a.1 a.2) (fun a => [isObj Cl (fsS (K := K) a.1 a.2)]) (fun a => isD K (rowsP a.1 (rowOf a.2)))) := by
  refine df_pure _ _ _ F scStrRows hm hb (fun _ => rfl) ?_
  rintro cdv A outer s H Fr E ⟨n, es⟩ D hr wf ret _
  have wf : WfL n es := wf
  have h100 := wf.few
  have hrl : ∀ K' : PySem.W.Frag, (rngR K' 0 (n : Int).toNat).length = n := fun K' => by unfold rngR; rw [List.length_map, List.length_range]; omega
  refine do_ret (R := isD K (rowsP n (rowOf es))) (Ev.imp (En.ev (en_lc (own := [("state", 1)]) (fun _ => true) (fun i => .list ((rowOf es i).map encR)) (iv_rng1 (n := (n : Int)) (ev_fld (ev_v 0) S.cl S.nc rfl) mRange (by omega)) (blkOk_by (N := nStrRows) (sc := defScope sStrRows) (by decide +kernel)) (by rw [hrl]; omega) (fun i R fp hR => ?_) scStrRows.nd)) (fun v F h => ?_)) (fun σ v F' H' c hv => ret v F' H' c.en hv)
  · obtain ⟨hi, hRi⟩ := rngR_at hR
    have hi : i < n := by omega
    rw [Int.zero_add] at hRi
    subst hRi
    exact ⟨Cn.mk T Fr H (fpT.and fp) [some (isObj Cl (fsS (K := K) n es)), some (isD K (iN i))] [], [1], by simp, rfl, fun s1 H1 Ca cl fps => ⟨tg_name scStrRows.nd (i := 1) rfl (.inl rfl) (by show 1 < 2; decide), ets_nil, fun _ =>
      ev_methA (fs := fun a => fsS a.1.1 a.1.2) (Rs := fun a => [isD K (iN a.2)]) (R := fun a => isD K (.list ((rowOf a.1.2 a.2).map encR))) S.leaving (hr.mono (by decide)) ((n, es), i) hi S.cl rfl (ev_v 0) (ea1 (ev_v 1))⟩⟩
  · rw [made_all, hrl] at h
    exact h
theorem df_strRounds {f Cl : Addr} {fd : FuncData} (F : Fun K "strong_rounds" "strong_rounds" sStrRounds f fd) (hm : mg "strong_rounds" = some (.ref f)) (hb : Binds K fd ["system"] []) (mRange : mg "range" = none) (S : Sys P w K mg base T Cl)
    (dS : Df P w K mg base 3 "strong_rows" (Pu T (fun a : Nat × List Ed => WfL a.1 a.2) (fun a => [isObj Cl (fsS (K := K) a.1 a.2)]) (fun a => isD K (rowsP a.1 (rowOf a.2)))))
    (dR : Df P w K mg base 3 "rounds" (Pu T (fun a : Nat × (Nat → List Rw) => Rw6 a.1 a.2) (fun a => [isD K (rowsP a.1 a.2), isD K (rdD a.1 a.2 0)]) (fun a => isD K (rdsD a.1 a.2 (stopK a.1 a.2))))) :
    Df P w K mg base 4 "strong_rounds" (Pu T (fun a : Nat × List Ed => WfL a.1 a.2 ∧ a.2.length < 63) (fun a => [isObj Cl (fsS (K := K) a.1 a.2)]) (fun a => isD K (rdsD a.1 (rowOf a.2) (stopK a.1 (rowOf a.2))))) := by
  refine df_pure _ _ _ F scStrRounds hm hb (fun _ => rfl) ?_
  rintro cdv A outer s H Fr E ⟨n, es⟩ D hr ⟨wf, hlen⟩ ret _
  have wf : WfL n es := wf
  have hlen : es.length < 63 := hlen
  have h100 := wf.few
  have hrl : ∀ K' : PySem.W.Frag, (rngR K' 0 (n : Int).toNat).length = n := fun K' => by unfold rngR; rw [List.length_map, List.length_range]; omega
  refine do_ret (R := isD K (rdsD n (rowOf es) (stopK n (rowOf es)))) (ev_call (R := fun a : Nat × (Nat → List Rw) => isD K (rdsD a.1 a.2 (stopK a.1 a.2))) dR hr (n, rowOf es) (wf_rw6 wf hlen) (ea_cons (ev_call (R := fun a : Nat × List Ed => isD K (rowsP a.1 (rowOf a.2))) dS hr (n, es) wf (ea1 (ev_v 0)))
    (ea_cons (Ev.imp (En.ev (en_lc (own := [("state", 1)]) (fun _ => true) (fun i => iN 0) (iv_rng1 (n := (n : Int)) (ev_fld (ev_v 0) S.cl S.nc rfl) mRange (by omega)) (blkOk_by (N := nStrRows) (sc := defScope sStrRounds) (by decide +kernel)) (by rw [hrl]; omega) (fun i R fp hR => ?_) scStrRounds.nd)) (fun v F h => ?_)) ea_nil))) (fun σ v F' H' c hv => ret v F' H' c.en hv)
  · obtain ⟨hi, hRi⟩ := rngR_at hR
    rw [Int.zero_add] at hRi
    subst hRi
    exact ⟨Cn.mk T Fr H (fpT.and fp) [some (isObj Cl (fsS (K := K) n es)), some (isD K (iN i))] [], [1], by simp, rfl, fun s1 H1 Ca cl fps => ⟨tg_name scStrRounds.nd (i := 1) rfl (.inl rfl) (by show 1 < 2; decide), ets_nil, fun _ => ev_int⟩⟩
  · rw [made_all, hrl] at h
    have e : (List.range n).map (fun _ => iN 0) = (rd n (rowOf es) 0).map iN := by
      show _ = (List.replicate n 0).map iN
      rw [List.map_replicate]
      refine List.ext_getElem? fun j => ?_
      rw [List.getElem?_map, List.getElem?_replicate]
      by_cases hj : j < n
      · rw [List.getElem?_range hj, if_pos hj] <;> rfl
      · rw [List.getElem?_eq_none (by rw [List.length_range]; omega), if_neg hj] <;> rfl
    rw [e] at h
    exact h
end
end Kk

set_option Elab.async false
set_option autoImplicit false
set_option linter.all false
set_option maxRecDepth 100000
set_option maxHeartbeats 4000000
namespace Kk
open PySem L2 Pl
/-! ### dicts from a list of keys -/
section
variable {α : Type} [DecidableEq α]
def kvM (enc val : α → PD) (o : List α) : Kvs := o.map fun x => (enc x, val x)
theorem dget_kvM {enc val : α → PD} (he : ∀ a b, enc a = enc b → a = b) (x : α) : ∀ o : List α, dget (kvM enc val o) (enc x) = if x ∈ o then some (val x) else none
  | [] => rfl
  | y :: o => by
    show dget ((enc y, val y) :: kvM enc val o) (enc x) = _
    rw [dget_cons, dget_kvM he x o]
    by_cases h : y = x
    · subst h
      rw [if_pos rfl, if_pos List.mem_cons_self]
    · rw [if_neg (fun z => h (he _ _ z))]
      by_cases h2 : x ∈ o
      · rw [if_pos h2, if_pos (List.mem_cons_of_mem _ h2)]
      · rw [if_neg h2, if_neg (fun z => (List.mem_cons.mp z).elim (fun z => h z.symm) h2)]
theorem kvM_snoc (enc val : α → PD) (o : List α) (x : α) : kvM enc val (o ++ [x]) = kvM enc val o ++ [(enc x, val x)] := by unfold kvM; rw [List.map_append] <;> rfl
theorem dput_kvM {enc val : α → PD} (he : ∀ a b, enc a = enc b → a = b) (o : List α) (x : α) : dput (kvM enc val o) (enc x) (val x) = kvM enc val (if x ∈ o then o else o ++ [x]) := by
  have h := dget_kvM (val := val) he x o
  by_cases hx : x ∈ o
  · rw [if_pos hx] at h ⊢
    rw [dput_old h]
    unfold kvM
    rw [List.map_map]
    refine List.map_congr_left fun y _ => ?_
    show (open Classical in if enc y = enc x then (enc y, val x) else (enc y, val y)) = _
    by_cases e : y = x
    · rw [if_pos (by rw [e]), e]
    · rw [if_neg (fun z => e (he _ _ z))]
  · rw [if_neg hx] at h ⊢
    rw [dput_new h, kvM_snoc]
theorem dsetd_kvM {enc val : α → PD} (he : ∀ a b, enc a = enc b → a = b) {o : List α} {x : α} {v : PD} (hv : x ∉ o → v = val x) : dsetd (kvM enc val o) (enc x) v = kvM enc val (if x ∈ o then o else o ++ [x]) := by
  have h := dget_kvM (val := val) he x o
  unfold dsetd
  by_cases hx : x ∈ o
  · rw [if_pos hx] at h ⊢
    rw [h] <;> rfl
  · rw [if_neg hx] at h ⊢
    rw [h, hv hx]
    show dput _ _ _ = _
    rw [dput_new h, kvM_snoc]
theorem ix_inj {l : List α} {x y : α} (hx : x ∈ l) (h : ix l x = ix l y) : x = y := by
  unfold ix at h
  have hlt := List.idxOf_lt_length_iff.mpr hx
  have h1 := List.getElem_idxOf hlt
  have h2 : l.idxOf y < l.length := by rw [← h]; exact hlt
  have h3 := List.getElem_idxOf h2
  rw [← h1, ← h3]
  simp only [h]
theorem ix_lt {l : List α} {x : α} (hx : x ∈ l) : ix l x < l.length := List.idxOf_lt_length_iff.mpr hx
theorem ix_at {l : List α} {x : α} (hx : x ∈ l) : l[ix l x]? = some x := by
  have h := ix_lt hx
  rw [List.getElem?_eq_getElem h]
  exact congrArg some (List.getElem_idxOf h)
theorem ix_first {l : List α} {x : α} {i : Nat} (h : l[i]? = some x) (hn : x ∉ l.take i) : ix l x = i := by
  have hi : i < l.length := (List.getElem?_eq_some_iff.mp h).1
  have e : l = l.take i ++ x :: l.drop (i + 1) := by
    have e1 : l.drop i = x :: l.drop (i + 1) := by
      rw [List.drop_eq_getElem_cons hi]
      congr 1
      have := List.getElem?_eq_getElem hi
      rw [h] at this
      exact (Option.some.inj this).symm
    rw [← e1, List.take_append_drop]
  have e2 : ix l x = ix (l.take i ++ x :: l.drop (i + 1)) x := congrArg (fun l => ix l x) e
  rw [e2]
  unfold ix
  rw [List.idxOf_append, if_neg hn, List.idxOf_cons_self, List.length_take]
  omega
end
/-! ### classes -/
/-- the first state with s's mark -/
def lead (ms : List Nat) (s : Nat) : Nat := ix ms (ms.getD s 0)
/-- the edges between leaders -/
def cE (ms : List Nat) (kp : Ed → Bool) (es : List Ed) : List Ed := (es.filter kp).map fun e => (lead ms e.1, e.2.1, lead ms e.2.2)
/-- a state's rows, each once, sorted -/
def nrm (es : List Ed) (s : Nat) : List Rw := srtR (once (rowOf es s))
theorem mem_srtR {l : List Rw} {r : Rw} : r ∈ srtR l ↔ r ∈ l := by unfold srtR; rw [List.mem_mergeSort]
theorem mem_nrm {es : List Ed} {s : Nat} {r : Rw} : r ∈ nrm es s ↔ (s, r) ∈ es := by unfold nrm; rw [mem_srtR, mem_once, mem_rowOf]
theorem nrm_len (es : List Ed) (s : Nat) : (nrm es s).length ≤ (rowOf es s).length := by unfold nrm srtR; rw [List.length_mergeSort]; exact once_len _
theorem cE_snoc (ms : List Nat) (kp : Ed → Bool) (es : List Ed) (e : Ed) : cE ms kp (es ++ [e]) = if kp e = true then cE ms kp es ++ [(lead ms e.1, e.2.1, lead ms e.2.2)] else cE ms kp es := by
  unfold cE
  rw [List.filter_append, List.map_append]
  by_cases h : kp e = true
  · rw [if_pos h]; simp [h]
  · rw [if_neg h]; simp [h]
theorem cE_len (ms : List Nat) (kp : Ed → Bool) (es : List Ed) : (cE ms kp es).length ≤ es.length := by unfold cE; rw [List.length_map]; exact List.length_filter_le _ _
theorem getD_mem {ms : List Nat} {s : Nat} (h : s < ms.length) : ms.getD s 0 ∈ ms := by
  rw [List.getD_eq_getElem?_getD, List.getElem?_eq_getElem h]
  exact List.getElem_mem h
/-- the leaders -/
def ldr (ms : List Nat) : List Nat := (once ms).map (ix ms)
theorem ldr_nodup (ms : List Nat) : (ldr ms).Nodup := by
  unfold ldr
  have key : ∀ l : List Nat, (∀ x ∈ l, x ∈ ms) → l.Nodup → (l.map (ix ms)).Nodup := by
    intro l
    induction l with
    | nil => intro _ _; exact List.nodup_nil
    | cons x l ih =>
      intro h nd
      obtain ⟨n1, n2⟩ := List.nodup_cons.mp nd
      rw [List.map_cons]
      refine List.nodup_cons.mpr ⟨fun z => ?_, ih (fun y hy => h y (List.mem_cons_of_mem _ hy)) n2⟩
      obtain ⟨y, hy, e⟩ := List.mem_map.mp z
      have := ix_inj (h y (List.mem_cons_of_mem _ hy)) e
      exact n1 (this ▸ hy)
  exact key _ (fun x hx => mem_once.mp hx) (once_nodup ms)
theorem lead_mem {ms : List Nat} {s : Nat} (h : s < ms.length) : lead ms s ∈ ldr ms := List.mem_map.mpr ⟨_, mem_once.mpr (getD_mem h), rfl⟩
theorem ldr_lt {ms : List Nat} {l : Nat} (h : l ∈ ldr ms) : l < ms.length := by
  obtain ⟨m, hm, rfl⟩ := List.mem_map.mp h
  exact ix_lt (mem_once.mp hm)
theorem lead_zero {ms : List Nat} (h : 0 < ms.length) : lead ms 0 = 0 := by
  unfold lead
  refine ix_first (by rw [List.getD_eq_getElem?_getD, List.getElem?_eq_getElem h] <;> rfl) (by simp)
def sumF (f : Nat → Nat) : List Nat → Nat
  | [] => 0
  | s :: l => f s + sumF f l
theorem sumF_snoc (f : Nat → Nat) (s : Nat) : ∀ l : List Nat, sumF f (l ++ [s]) = sumF f l + f s
  | [] => by show f s + 0 = 0 + f s; omega
  | x :: l => by show f x + sumF f (l ++ [s]) = f x + sumF f l + f s; rw [sumF_snoc f s l]; omega
theorem sumF_le {f g : Nat → Nat} (h : ∀ s, f s ≤ g s) : ∀ l : List Nat, sumF f l ≤ sumF g l
  | [] => Nat.le_refl _
  | x :: l => Nat.add_le_add (h x) (sumF_le h l)
theorem sumF_rows (es : List Ed) : ∀ l : List Nat, sumF (fun s => (rowOf es s).length) l = sumL es l
  | [] => rfl
  | x :: l => by show _ + _ = _ + _; rw [sumF_rows es l]
theorem bfs_cntF (rw : Nat → List Rw) : ∀ k, (bfs rw k).2.length = sumF (fun s => (rw s).length) ((bfs rw k).1.take k)
  | 0 => rfl
  | k + 1 => by
    have ih := bfs_cntF rw k
    obtain ⟨t, ht⟩ := bfs_pre rw k
    cases e : (bfs rw k).1[k]? with
    | none =>
      have hl : (bfs rw k).1.length ≤ k := by simpa using e
      rw [bfs_none hl, ih, List.take_of_length_le hl, List.take_of_length_le (by omega)]
    | some s =>
      have hlt : k < (bfs rw k).1.length := (List.getElem?_eq_some_iff.mp e).1
      have h1 : (bfs rw (k + 1)).1.take (k + 1) = (bfs rw k).1.take k ++ [s] := by
        rw [ht, List.take_append_of_le_length (by omega), List.take_succ, e] <;> rfl
      rw [h1, bfs_some e, rowR_elen, ih, sumF_snoc]
theorem bfs_few {es : List Ed} {V : Nat → Prop} (h0 : V 0) (h : ∀ s, V s → ∀ r ∈ nrm es s, V r.2) (k : Nat) : (bfs (nrm es) k).2.length ≤ es.length := by
  have hok := bfs_ok h0 h k
  rw [bfs_cntF]
  refine Nat.le_trans (sumF_le (g := fun s => (rowOf es s).length) (fun s => nrm_len es s) _) ?_
  rw [sumF_rows]
  exact sumL_le es (hok.nd.sublist (List.take_sublist _ _))
theorem cE_mem {ms : List Nat} {kp : Ed → Bool} {es : List Ed} {e : Ed} (h : e ∈ cE ms kp es) : ∃ d ∈ es, kp d = true ∧ e = (lead ms d.1, d.2.1, lead ms d.2.2) := by
  obtain ⟨d, hd, rfl⟩ := List.mem_map.mp h
  obtain ⟨h1, h2⟩ := List.mem_filter.mp hd
  exact ⟨d, h1, h2, rfl⟩
theorem wf_cls {n : Nat} {es : List Ed} {ms : List Nat} (wf : WfL n es) (hms : ms.length = n) (kp : Ed → Bool) : Rws n (fun s => s ∈ ldr ms) (nrm (cE ms kp es)) := by
  have hp := wf.pos
  refine ⟨by have := lead_mem (ms := ms) (s := 0) (by omega); rwa [lead_zero (by omega)] at this, wf.few, fun s h => by rw [← hms]; exact ldr_lt h, fun s _ r hr => ?_, fun s _ => ?_⟩
  · obtain ⟨d, hd, _, e⟩ := cE_mem (mem_nrm.mp hr)
    have := (wf.lt d hd).2
    have e2 : r.2 = lead ms d.2.2 := congrArg (fun e : Ed => e.2.2) e
    show r.2 ∈ ldr ms
    rw [e2]
    exact lead_mem (by omega)
  · have h1 := nrm_len (cE ms kp es) s
    have h2 : (rowOf (cE ms kp es) s).length ≤ (cE ms kp es).length := List.length_filterMap_le _ _
    have h3 := cE_len ms kp es
    have := wf.many
    omega
theorem wf_cbfs {n : Nat} {es : List Ed} {ms : List Nat} (wf : WfL n es) (hms : ms.length = n) (kp : Ed → Bool) : WfL (bfs (nrm (cE ms kp es)) n).1.length (bfs (nrm (cE ms kp es)) n).2 := by
  have hr := wf_cls wf hms kp
  have hok := bfs_ok hr.zero hr.lt n
  have h1 : 1 ≤ (bfs (nrm (cE ms kp es)) n).1.length := by
    have : ∀ k, 1 ≤ (bfs (nrm (cE ms kp es)) k).1.length := fun k => by
      induction k with
      | zero => exact Nat.le_refl _
      | succ k ih => exact Nat.le_trans ih (bfs_len _ _)
    exact this n
  have hb := bfs_edges (rw := nrm (cE ms kp es)) (fun s r hr => by
    obtain ⟨d, hd, _, e⟩ := cE_mem (mem_nrm.mp hr)
    have e2 : r.1 = d.2.1 := congrArg (fun e : Ed => e.2.1) e
    rw [e2]
    exact wf.act d hd) n
  have := wf.few
  refine ⟨h1, Nat.le_trans (hok.len hr.sub) this, fun e he => ⟨(hb e he).2.1, (hb e he).2.2.1⟩, fun e he => (hb e he).2.2.2, ?_⟩
  have h2 := bfs_few hr.zero hr.lt n
  have h3 := cE_len ms kp es
  have := wf.many
  omega
end Kk

set_option Elab.async false
set_option autoImplicit false
set_option linter.all false
set_option maxRecDepth 100000
set_option maxHeartbeats 4000000
namespace Pl
open PySem L2
section
variable {X : Cx} {C : Cn} {D : Ends} {tg iter kx : Expr} {rest : List Stmt} {pos p' vp spos : Pos} {x : Str} {i : Nat} {Rs : List Rp} {scope : Scope} {own : List (Str × Nat)}
/-- x = {k: {} for ..} -/
theorem do_setDicts {ks : List Int} (hks : ks.Nodup) (hlen : ks.length = Rs.length) (hi : Iv X C tg iter Rs) (ok : BlkOk X.N X.env.scope scope own) (hz : Rs.length ≤ 100000)
    (hb : ∀ (i : Nat) (R : Rp) (f : Fp) (os : List (Addr × Ct)) (k : Int), Rs[i]? = some R → ks[i]? = some k → ∃ sl ws, (∀ j ∈ ws, j ∈ own.map (·.2)) ∧ Blk X scope fun Y => Tg Y (((C.plus f).to C.sl os).wipe (own.map (·.2))) R tg ((C.plus f).to sl os) ws ∧ Ev Y ((C.plus f).to sl os) kx (isD X.K (.int k)))
    (hN : X.N.Nodup) (hx : X.N[i]? = some x) (hL : Loc X.env.scope x) (hl : i < C.sl.length) (h : ∀ Dl as, as.length = ks.length → Do X rest ((C.to C.sl (C.os ++ osN X.prog X.w X.K as (List.replicate ks.length []))).set i (isDV Dl (zipKA ks as))).at D)
    (hc : X.calm = true := by rfl) (hfi : ∀ x, foldedSetIterable iter X.env x = pure x := by intro _; rfl) (hf : X.fn x = true ∨ X.env.scope.names.lookup x = some .local := by first | exact .inl rfl | exact .inr rfl | assumption)
    (hs : swapsWith (.DictComp kx (.Dict [] [] vp) [⟨tg, iter, [], 0⟩] scope spos) (some (.Name x p')) pos.line X.env = pure false := by rfl) : Do X (.Assign [.Name x p'] (.DictComp kx (.Dict [] [] vp) [⟨tg, iter, [], 0⟩] scope spos) pos :: rest) C.at D :=
  do_cons (M := fun σ H => ∃ Dl as, as.length = ks.length ∧ ((C.to C.sl (C.os ++ osN X.prog X.w X.K as (List.replicate ks.length []))).set i (isDV Dl (zipKA ks as))).at σ H)
    (Do1.of (ps_set hN hx hL (ew_dicts hks hlen hi ok hz hb hN hc hfi) hs hf) fun σ H ⟨F, c⟩ => ⟨F, c, fun Dl as F' H' hal c' rd => ⟨Dl, as, hal, F', c'.set hl ⟨rfl, rd⟩⟩⟩) (Do.ex fun Dl => Do.ex fun as => Do.exP fun e => h Dl as e)
end
end Pl
namespace Kk
open PySem L2 Pl
open NdefX (NScope nscope_by)
open LamX (TabB)
abbrev sClass : Stmt := top 26
section
variable {P : Program} {w : World} {K : PySem.W.Frag} {mg : Str → Option Value} {base : Heap} {T : Tbs}
abbrev nClass : List Str := ["system", "marks", "is_kept", "leaders", "state", "rows", "action", "target", "order", "edges", "mark"]
theorem scClass : FnScope nClass ["system", "marks", "is_kept"] (defScope sClass) := ⟨rfl, rfl, rfl, by decide +kernel, rfl, by decide +kernel, by decide +kernel⟩
def nmC : Nat → Nat → Str := fun _ _ => "class_system.<locals>.<lambda>"
def keptCt (K : PySem.W.Frag) (es : List Ed) (kp : Ed → Bool) : Ctr := ⟨Ed, fun e => e ∈ es, fun e => [isD K (iN e.1), isD K (.str e.2.1), isD K (iN e.2.2)], fun e => isD K (.bool (kp e))⟩
theorem nodup_at {α : Type} {x : α} : ∀ {l : List α} {i j : Nat}, l.Nodup → l[i]? = some x → l[j]? = some x → i = j
  | y :: l, 0, 0, _, _, _ => rfl
  | y :: l, 0, j + 1, nd, h1, h2 => by
    simp at h1
    subst h1
    exact absurd (List.mem_of_getElem? (by simpa using h2)) (List.nodup_cons.mp nd).1
  | y :: l, i + 1, 0, nd, h1, h2 => by
    simp at h2
    subst h2
    exact absurd (List.mem_of_getElem? (by simpa using h1)) (List.nodup_cons.mp nd).1
  | y :: l, i + 1, j + 1, nd, h1, h2 => congrArg (· + 1) (nodup_at (List.nodup_cons.mp nd).2 (by simpa using h1) (by simpa using h2))
  | [], _, _, _, h1, _ => by simp at h1
def tblK (ms : List Nat) (kp : Ed → Bool) (es : List Ed) (l : Nat) : Kvs := kvM encR (fun _ => .bool true) (once (rowOf (cE ms kp es) l))
def tblsK (ms : List Nat) (kp : Ed → Bool) (es : List Ed) : List Kvs := (ldr ms).map (tblK ms kp es)
theorem tblsK_nil (ms : List Nat) (kp : Ed → Bool) : tblsK ms kp [] = List.replicate (ldr ms).length [] := by
  unfold tblsK
  have : ∀ l : List Nat, l.map (tblK ms kp []) = List.replicate l.length [] := fun l => by
    induction l with
    | nil => rfl
    | cons x l ih => rw [List.map_cons, ih, List.length_cons, List.replicate_succ] <;> rfl
  exact this _
theorem tblsK_skip {ms : List Nat} {kp : Ed → Bool} {es : List Ed} {e : Ed} (h : ¬ kp e = true) : tblsK ms kp (es ++ [e]) = tblsK ms kp es := by
  unfold tblsK tblK
  rw [cE_snoc, if_neg h]
theorem tblsK_step {ms : List Nat} {kp : Ed → Bool} {es : List Ed} {e : Ed} (h : kp e = true) {j : Nat} (hj : (ldr ms)[j]? = some (lead ms e.1)) :
    (tblsK ms kp es).set j (dput (tblK ms kp es (lead ms e.1)) (encR (e.2.1, lead ms e.2.2)) (.bool true)) = tblsK ms kp (es ++ [e]) := by
  have hjl : j < (ldr ms).length := (List.getElem?_eq_some_iff.mp hj).1
  refine List.ext_getElem? fun i => ?_
  unfold tblsK
  rw [List.getElem?_map]
  by_cases hi : j = i
  · subst hi
    rw [List.getElem?_set_self (by rw [List.length_map]; exact hjl), hj]
    show some _ = some (tblK ms kp (es ++ [e]) (lead ms e.1))
    unfold tblK
    rw [dput_kvM (enc := encR) (val := fun _ => .bool true) (fun a b h => encR_inj h), cE_snoc, if_pos h, rowOf_snoc, if_pos rfl, once_snoc]
  · rw [List.getElem?_set_ne hi, List.getElem?_map]
    cases e2 : (ldr ms)[i]? with
    | none => rfl
    | some l =>
      show some (tblK ms kp es l) = some (tblK ms kp (es ++ [e]) l)
      have hne : ¬ lead ms e.1 = l := fun z => by
        have hil : i < (ldr ms).length := (List.getElem?_eq_some_iff.mp e2).1
        exact hi (nodup_at (ldr_nodup ms) hj (by rw [z]; exact e2))
      unfold tblK
      rw [cE_snoc, if_pos h, rowOf_snoc, if_neg hne]
theorem zip_same {α β γ δ : Type} (f : β → γ → δ) (a : α → β) (b : α → γ) : ∀ l : List α, List.zipWith f (l.map a) (l.map b) = l.map fun x => f (a x) (b x)
  | [] => rfl
  | x :: l => by rw [List.map_cons, List.map_cons, List.zipWith_cons_cons, zip_same f a b l, List.map_cons]
theorem tget_map {R : Nat → Rp} {y : Nat} : ∀ {l : List Nat}, y ∈ l → tget (l.map fun x => (iN x, R x)) (iN y) = some (R y)
  | x :: l, h => by
    rw [List.map_cons, tget_cons]
    by_cases e : x = y
    · subst e
      rw [if_pos rfl]
    · rw [if_neg (fun z => e (iN_eq.mp z))]
      exact tget_map ((List.mem_cons.mp h).resolve_left fun z => e z.symm)
theorem tblK_fst (ms : List Nat) (kp : Ed → Bool) (es : List Ed) (l : Nat) : (tblK ms kp es l).map Prod.fst = (once (rowOf (cE ms kp es) l)).map encR := by unfold tblK kvM; rw [List.map_map] <;> rfl
structure ClsA where
  n : Nat
  es : List Ed
  ms : List Nat
  kp : Ed → Bool
structure ClsOk (a : ClsA) : Prop where
  wf : WfL a.n a.es
  ms : a.ms.length = a.n
theorem dh_class {f Cl c Pt : Addr} {fd : FuncData} {j : Nat} (F : Fun K "class_system" "class_system" sClass f fd) (hcode : fd.code = .ref c) (hm : mg "class_system" = some (.ref f)) (hb : Binds K fd ["system", "marks", "is_kept"] []) (S : Sys P w K mg base T Cl) (mLen : mg "len" = none) (mRange : mg "range" = none) (mSorted : mg "sorted" = none)
    (TB : TabB base mg c Pt) (hT : (Pt, nmC) ∈ T.n) (hu : ∀ p ∈ T.n, p.1 = Pt → p.2 = nmC) (hj : j ≤ 6)
    (dR : Dh P w K mg base 4 "renumbered_from" T (fun a : Nat × (Nat → Prop) × (Nat → List Rw) => Rws a.1 a.2.1 a.2.2) (fun _ => [isD K (iN 0)]) (fun a => isD K (bfsD a.1 a.2.2)) 3 (fun a => rowsCt K a.2.1 a.2.2)) :
    Dh P w K mg base 7 "class_system" T ClsOk (fun a => [isObj Cl (fsS (K := K) a.n a.es), isD K (.list (a.ms.map iN))]) (fun a => isObj Cl (fsS (K := K) (bfs (nrm (cE a.ms a.kp a.es)) a.n).1.length (sE (bfs (nrm (cE a.ms a.kp a.es)) a.n).2))) j (fun a => keptCt K a.es a.kp) := by
  refine dh_pureC (.ref c) _ _ _ _ F hcode scClass hm hb (fun _ => rfl) ?_
  rintro A outer s H Fr E ⟨n, es, ms, kp⟩ fk D hr ⟨wf, hms⟩ fc ret _
  have wf : WfL n es := wf
  have hms : ms.length = n := hms
  have hun : (A.deeper (PyProof.Rows.envOfC "class_system" (defScope sClass) s.heap.objs.size f (.ref c))).units + 64 < cLine := hr.units
  have h100 := wf.few
  have hmany := wf.many
  have hnp := wf.pos
  let obj : Option Rp := some (isObj Cl (fsS (K := K) n es))
  let mD : Option Rp := some (isD K (.list (ms.map iN)))
  refine do_own scClass.nd (i := 3) rfl (.inr rfl) en_dictI (fun q => ?_) (by show 3 < 11; decide)
  -- leaders
  let ldK : Nat → Kvs := fun i => kvM iN (fun m => iN (ix ms m)) (once (ms.take i))
  have hrl : ∀ K' : PySem.W.Frag, (rngR K' 0 (n : Int).toNat).length = n := fun K' => by unfold rngR; rw [List.length_map, List.length_range]; omega
  let sl0 : List (Option Rp) := [obj, mD, some (isA fk), some (isA q), none, none, none, none, none, none, none]
  refine do_for (fun i => (sl0, [(q, ctDI K (ldK i))])) (M := (Cn.mk T Fr H fpT sl0 [(q, ctDI K (ldK n))]).at) (iv_rng1 (n := (n : Int)) (ev_fld (ev_v 0) S.cl S.nc rfl) mRange (by omega)) (fun σ F' H' c => c) ?_ (fun σ H' c => ?_) ?_
  · intro i R fp hR
    obtain ⟨hi, hRi⟩ := rngR_at hR
    have hi : i < n := by omega
    rw [Int.zero_add] at hRi
    subst hRi
    refine ⟨_, _, tg_name scClass.nd (i := 4) rfl (.inl rfl) (by show 4 < 11; decide), ?_⟩
    have hol : (once (ms.take i)).length ≤ n := Nat.le_trans (once_len _) (by rw [List.length_take]; omega)
    have hkz : (ldK i).length < 100000 := by show (List.map _ _).length < _; rw [List.length_map]; omega
    have hmi : ms[i]? = some (ms.getD i 0) := by rw [List.getD_eq_getElem?_getD, List.getElem?_eq_getElem (by omega)] <;> rfl
    refine do_dropw (ew_setdI (kvs := ldK i) (k := iN (ms.getD i 0)) (v := iN i) (l := q) findO_head (keyI_int _) hkz (ev_v 3) (ev_ixL (getD_iN (by omega)) (ev_v 1) (ev_v 4)) (ev_v 4) ⟨rfl, rfl, rfl, rfl⟩) ?_
    refine do_nil fun σ H' ⟨F', c⟩ => ⟨F', ?_⟩
    have c2 := c.fg (sl := sl0) (.keep (.keep (.keep (.keep (.drop (.keep (.keep (.keep (.keep (.keep (.keep .nil)))))))))))
    have ek : dsetd (ldK i) (iN (ms.getD i 0)) (iN i) = ldK (i + 1) := by
      show dsetd (kvM iN _ _) _ _ = kvM iN _ (once (ms.take (i + 1)))
      rw [dsetd_kvM (enc := iN) (val := fun m => iN (ix ms m)) (fun a b h => iN_eq.mp h) (fun hx => ?_), List.take_succ, hmi]
      · show _ = kvM iN _ (once (ms.take i ++ [ms.getD i 0]))
        rw [once_snoc]
      · rw [ix_first hmi (fun z => hx (mem_once.mpr z))]
    have ec : putO q (ctDI K (dsetd (ldK i) (iN (ms.getD i 0)) (iN i))) [(q, ctDI K (ldK i))] = [(q, ctDI K (ldK (i + 1)))] := by rw [putO_head, ek]
    show (Cn.mk T Fr H (fpT.and fp) sl0 [(q, ctDI K (ldK (i + 1)))]).ok σ F' H'
    rw [← ec]
    exact c2
  · rw [hrl] at c
    exact c
  have hldn : ldK n = kvM iN (fun m => iN (ix ms m)) (once ms) := by show kvM iN _ (once (ms.take n)) = _; rw [List.take_of_length_le (by omega)]
  rw [hldn]
  refine do_lock 3 q rfl findO_head ?_
  let lK : Kvs := kvM iN (fun m => iN (ix ms m)) (once ms)
  have hget : ∀ t, t < n → dget lK (iN (ms.getD t 0)) = some (iN (lead ms t)) := fun t ht => by
    show dget (kvM iN (fun m => iN (ix ms m)) (once ms)) _ = _
    rw [dget_kvM (fun a b h => iN_eq.mp h), if_pos (mem_once.mpr (getD_mem (by omega)))] <;> rfl
  let sl1 : List (Option Rp) := [obj, mD, some (isA fk), some (isDL K lK), none, none, none, none, none, none, none]
  refine Do.eq (C' := Cn.mk T Fr H fpT sl1 []) (by simp [Cn.set, Cn.to, dropO, sl0, sl1] <;> rfl) ?_
  let ksI : List Int := (ldr ms).map fun k : Nat => (k : Int)
  have hks : ksI.Nodup := nodup_map (fun a b h => Int.ofNat.inj h) (ldr_nodup ms)
  have hol : (once ms).length ≤ n := hms ▸ once_len ms
  have hkl : ksI.length = (once ms).length := by show (((once ms).map _).map _).length = _; rw [List.length_map, List.length_map]
  have hlk : ∀ K' : PySem.W.Frag, (lK.map fun q => isD K' q.1).length = (once ms).length := fun K' => by rw [List.length_map]; show (List.map _ _).length = _; rw [List.length_map]
  refine do_setDicts (own := [("mark", 10)]) (i := 5) hks (hkl.trans (hlk _).symm) (iv_keys (kvs := lK) (ev_v 3)) (blkOk_by (N := nClass) (sc := defScope sClass) (by decide +kernel)) (by rw [hlk]; omega) (fun i R fp os k hR hk => ?_) scClass.nd rfl (.inr rfl) (by show 5 < 11; decide) (fun Dl as hal => ?_)
  · rw [List.getElem?_map] at hR
    have hR2 : (lK[i]?).map (fun q : PD × PD => isD K q.1) = some R := hR
    have hlKi : lK[i]? = ((once ms)[i]?).map fun m => (iN m, iN (ix ms m)) := List.getElem?_map ..
    have hki : ksI[i]? = ((once ms)[i]?).map fun m => ((ix ms m : Nat) : Int) := by
      show (((once ms).map (ix ms)).map _)[i]? = _
      rw [List.map_map, List.getElem?_map] <;> rfl
    cases he : (once ms)[i]? with
    | none => rw [hlKi, he] at hR2; cases hR2
    | some m =>
      rw [hlKi, he] at hR2
      rw [hki, he] at hk
      have hR3 : R = isD K (iN m) := (Option.some.inj hR2).symm
      have hk3 : k = ((ix ms m : Nat) : Int) := (Option.some.inj hk).symm
      subst hR3
      subst hk3
      refine ⟨[obj, mD, some (isA fk), some (isDL K lK), none, none, none, none, none, none, some (isD K (iN m))], [10], by simp, fun s1 H1 Ca cl fps => ⟨tg_name scClass.nd (i := 10) rfl (.inl rfl) (by show 10 < 11; decide), ev_dgetL (kvs := lK) (k := iN m) (v := iN (ix ms m)) hun (keyI_int _) ?_ (ev_v 3) (ev_v 10)⟩⟩
      show dget (kvM iN (fun m => iN (ix ms m)) (once ms)) _ = _
      rw [dget_kvM (fun a b h => iN_eq.mp h), if_pos (List.mem_of_getElem? he)]
  -- the edges
  have hal : as.length = (ldr ms).length := by rw [hal]; show (List.map _ _).length = _; rw [List.length_map]
  let sl2 : List (Option Rp) := [obj, mD, some (isA fk), some (isDL K lK), none, some (isDV Dl (zipKA ksI as)), none, none, none, none, none]
  have hk0 : List.replicate ksI.length ([] : Kvs) = tblsK ms kp [] := by rw [tblsK_nil]; show List.replicate (List.map _ _).length _ = _; rw [List.length_map]
  rw [hk0]
  refine Do.eq (C' := Cn.mk T Fr H fpT sl2 (osN P w K as (tblsK ms kp []))) (by simp [Cn.set, Cn.to, sl1, sl2] <;> first | rfl | exact ⟨rfl, rfl⟩) ?_
  have htl : ∀ E, (tblsK ms kp E).length = (ldr ms).length := fun E => by unfold tblsK; rw [List.length_map]
  refine Do.nd fun nd => ?_
  have nas : as.Nodup := by
    have nd : ((osN P w K as (tblsK ms kp [])).map Prod.fst).Nodup := nd
    rwa [osG_fst (by rw [hal, htl])] at nd
  refine do_for (fun i => (sl2, osN P w K as (tblsK ms kp (es.take i)))) (M := (Cn.mk T Fr H fpT sl2 (osN P w K as (tblsK ms kp es))).at) (iv_tup (ev_fld (ev_v 0) S.cl S.ne rfl)) (fun σ F' H' c => c) ?_ (fun σ H' c => ?_) ?_
  · intro i R fp hR
    rw [List.getElem?_map, List.getElem?_map] at hR
    cases he : es[i]? with
    | none => rw [he] at hR; cases hR
    | some e =>
      rw [he] at hR
      cases hR
      have hmem := List.mem_of_getElem? he
      obtain ⟨l1, l2⟩ := wf.lt e hmem
      have htk : es.take (i + 1) = es.take i ++ [e] := by rw [List.take_succ, he] <;> rfl
      have hi : i < es.length := (List.getElem?_eq_some_iff.mp he).1
      obtain ⟨e1, e2, e3⟩ := e
      have l1 : e1 < n := l1
      have l2 : e3 < n := l2
      refine ⟨_, _, tg_tup rfl (ds := [iN e1, .str e2, iN e3]) (.cons (tg_name scClass.nd (i := 4) rfl (.inl rfl) (by show 4 < 11; decide)) rfl (.cons (tg_name scClass.nd (i := 6) rfl (.inl rfl) (by show 6 < 11; decide)) rfl (.cons (tg_name scClass.nd (i := 7) rfl (.inl rfl) (by show 7 < 11; decide)) rfl .nil))), ?_⟩
      let sl3 : List (Option Rp) := [obj, mD, some (isA fk), some (isDL K lK), some (isD K (iN e1)), some (isDV Dl (zipKA ksI as)), some (isD K (.str e2)), some (isD K (iN e3)), none, none, none]
      refine Do.eq (C' := Cn.mk T Fr H (fpT.and fp) sl3 (osN P w K as (tblsK ms kp (es.take i)))) rfl ?_
      have fgo : ∀ {σ : L2.St} {F' H' : Hp} {os : List (Addr × Ct)}, (Cn.mk T Fr H (fpT.and fp) sl3 os).ok σ F' H' → (Cn.mk T Fr H (fpT.and fp) sl2 os).ok σ F' H' := fun c => c.fg (.keep (.keep (.keep (.keep (.drop (.keep (.drop (.drop (.keep (.keep (.keep .nil)))))))))))
      refine do_if (b := kp (e1, e2, e3)) (M := (Cn.mk T Fr H (fpT.and fp) sl2 (osN P w K as (tblsK ms kp (es.take (i + 1))))).at) (et_val (ev_callF (ct := keptCt K es kp) fc rfl rfl (hr.mono hj) (e1, e2, e3) hmem 2 rfl (ea_cons (ev_v 4) (ea_cons (ev_v 6) (ea_cons (ev_v 7) ea_nil))))) (fun hb => ?_) (fun hb => ?_) (do_nil fun σ H' c => c)
      · have hlm : lead ms e1 ∈ ldr ms := lead_mem (by omega)
        obtain ⟨j, hjl, hje⟩ := List.getElem_of_mem hlm
        have hj1 : (ldr ms)[j]? = some (lead ms e1) := by rw [List.getElem?_eq_getElem hjl, hje]
        have ha : as[j]? = some (as[j]'(by omega)) := List.getElem?_eq_getElem (by omega)
        have hks1 : ksI[j]? = some ((lead ms e1 : Nat) : Int) := by
          show ((ldr ms).map _)[j]? = _
          rw [List.getElem?_map, hj1] <;> rfl
        have ht1 : (tblsK ms kp (es.take i))[j]? = some (tblK ms kp (es.take i) (lead ms e1)) := by
          unfold tblsK
          rw [List.getElem?_map, hj1] <;> rfl
        have hz1 : (tblK ms kp (es.take i) (lead ms e1)).length < 100000 := by
          have q1 : (rowOf (cE ms kp (es.take i)) (lead ms e1)).length ≤ (cE ms kp (es.take i)).length := List.length_filterMap_le _ _
          have q2 := cE_len ms kp (es.take i)
          have q3 := once_len (rowOf (cE ms kp (es.take i)) (lead ms e1))
          rw [List.length_take] at q2
          show (List.map _ _).length < _
          rw [List.length_map]
          omega
        refine do_dputN (d := as[j]'(by omega)) (kvs := tblK ms kp (es.take i) (lead ms e1)) (k := encR (e2, lead ms e3)) (v := .bool true) hun (findO_osG nas ha ht1) (kd_R _) hz1
          (ev_dgetV (kv := zipKA ksI as) (k := ((lead ms e1 : Nat) : Int)) hun (zipKA_at hks hks1 ha) (ev_v 5) (ev_dgetL (kvs := lK) (k := iN (ms.getD e1 0)) (v := iN (lead ms e1)) hun (keyI_int _) (hget e1 l1) (ev_v 3) (ev_ixL (getD_iN (by omega)) (ev_v 1) (ev_v 4))))
          (ev_tup (ds := [.str e2, iN (lead ms e3)]) (ea_cons (ev_v 6) (ea_cons (ev_dgetL (kvs := lK) (k := iN (ms.getD e3 0)) (v := iN (lead ms e3)) hun (keyI_int _) (hget e3 l2) (ev_v 3) (ev_ixL (getD_iN (by omega)) (ev_v 1) (ev_v 7))) ea_nil))) ev_bl ?_
        refine do_nil fun σ H' ⟨F', c⟩ => ⟨F', ?_⟩
        have c2 := fgo c
        have ec : putO (as[j]'(by omega)) (ctDN P w K (as[j]'(by omega)) (dput (tblK ms kp (es.take i) (lead ms e1)) (encR (e2, lead ms e3)) (.bool true))) (osN P w K as (tblsK ms kp (es.take i))) = osN P w K as (tblsK ms kp (es.take (i + 1))) := by
          rw [htk, ← tblsK_step (e := (e1, e2, e3)) hb hj1]
          exact putO_osG (ct := fun a kvs => ctDN P w K a kvs) nas (by rw [hal, htl]) ha
        rw [← ec]
        exact c2
      · refine do_nil fun σ H' ⟨F', c⟩ => ⟨F', ?_⟩
        rw [htk, tblsK_skip (by rw [hb]; decide)]
        exact fgo c
  · obtain ⟨F', c⟩ := c
    refine ⟨F', ?_⟩
    have c : (Cn.mk T Fr H fpT sl2 (osN P w K as (tblsK ms kp (es.take ((es.map encE).map (isD K)).length)))).ok σ F' H' := c
    rw [List.length_map, List.length_map, List.take_length] at c
    exact c
  -- renumbered
  refine do_frzDicts (os1 := []) (ks := ksI) 5 Dl (by rw [hal, htl]) (by rw [hal]; show (List.map _ _).length = _; rw [List.length_map]) rfl rfl ?_
  have etb : List.zipWith (fun (k : Int) kvs => (PyData.int k, isDN P w K kvs)) ksI (tblsK ms kp es) = (ldr ms).map fun l => (iN l, isDN P w K (tblK ms kp es l)) := zip_same _ _ _ _
  let R2 : Rp := isDR ((ldr ms).map fun l => (iN l, isDN P w K (tblK ms kp es l)))
  let sl4 : List (Option Rp) := [obj, mD, some (isA fk), some (isDL K lK), none, some R2, none, none, none, none, none]
  refine Do.eq (C' := Cn.mk T Fr H fpT sl4 []) (by
    show Cn.mk T Fr H fpT [obj, mD, some (isA fk), some (isDL K lK), none, some (isDR (List.zipWith (fun (k : Int) kvs => (PyData.int k, isDN P w K kvs)) ksI (tblsK ms kp es))), none, none, none, none, none] [] = _
    rw [etb]) ?_
  have wfo := wf_cbfs wf hms kp
  have hsb : ∀ b : Nat, Sb ((tblK ms kp es b).map Prod.fst) := fun b => by
    rw [tblK_fst]
    have q1 : (rowOf (cE ms kp es) b).length ≤ (cE ms kp es).length := List.length_filterMap_le _ _
    have q2 := cE_len ms kp es
    have q3 := once_len (rowOf (cE ms kp es) b)
    exact sb_R _ (by omega)
  have himp : ∀ (b : Nat) (K' : PySem.W.Frag) (v : V) (F : Hp), (isD K' (.list (srt ((tblK ms kp es b).map Prod.fst)))).p v F → (isD K' (.list ((nrm (cE ms kp es) b).map encR))).p v F := fun b K' v F h => by
    rw [tblK_fst, srt_R] at h
    exact h
  refine do_asg (R := isD K (bfsD n (nrm (cE ms kp es)))) (ev_callH (R := fun a : Nat × (Nat → Prop) × (Nat → List Rw) => isD K (bfsD a.1 a.2.2)) dR (hr.mono (by decide)) (n, (fun s => s ∈ ldr ms), nrm (cE ms kp es)) (wf_cls wf hms kp)
      (xa_cons (R := isD K (iN 0)) ev_int (xa_lam (k := 2) (N := ["leader", "rows"]) (ps := ["leader"]) (fr := ["rows"]) (js := [5]) (Rc := [R2]) (rowsCt K (fun s => s ∈ ldr ms) (nrm (cE ms kp es))) (nscope_by (by decide +kernel)) TB rfl hT rfl hu rfl (by show NdefX.ndefB (defScope sClass) _ _ = true; decide +kernel) rfl rfl (fun _ => rfl) (fun q cl pm cv ctv us hl => match us, hl with | [_], _ => rfl)
        (fun A1 outer1 s1 F1 H1 f1 c1 b cl qual hr1 hb1 => Ev.imp (En.ev (en_sortedDN (kvs := tblK ms kp es b) (hsb b) rfl hr1.units mSorted (ev_dgetR (tb := (ldr ms).map fun l => (iN l, isDN P w K (tblK ms kp es l))) (k := iN b) (R := isDN P w K (tblK ms kp es b)) hr1.units (keyI_int _) (tget_map (R := fun l => isDN P w K (tblK ms kp es l)) hb1) (ev_v 1) (ev_v 0)))) (himp b _))))
      (fun vs F H s ⟨v, ws, e, hv, f, e2, fc⟩ => ⟨[v], f, by rw [e, e2] <;> rfl, .cons hv .nil, fc⟩))
    (tg_tup rfl (ds := [.list ((bfs (nrm (cE ms kp es)) n).1.map iN), .list ((bfs (nrm (cE ms kp es)) n).2.map encE)]) (.cons (tg_name scClass.nd (i := 8) rfl (.inl rfl) (by show 8 < 11; decide)) rfl (.cons (tg_name scClass.nd (i := 9) rfl (.inl rfl) (by show 9 < 11; decide)) rfl .nil))) ?_
  refine do_ret (ev_make (Rs := fun a => [isD K (iN a.1), isD K (.list (a.2.map encE))]) (fs := fun a => fsS (K := K) a.1 (sE a.2)) S.ini hr ((bfs (nrm (cE ms kp es)) n).1.length, (bfs (nrm (cE ms kp es)) n).2) wfo S.mg_ (ea_cons (Ev.imp (ev_lenL mLen (ev_v 8)) (fun v F h => by rw [List.length_map] at h; exact h)) (ea_cons (ev_v 9) ea_nil))) (fun σ v F' H' c hv => ret v F' H' c.en hv)
end
end Kk

set_option Elab.async false
set_option autoImplicit false
set_option linter.all false
set_option maxRecDepth 100000
set_option maxHeartbeats 4000000
namespace Kk
open PySem L2 Pl
open NdefX (NScope nscope_by)
open LamX (TabB)
abbrev sSmall : Stmt := top 27
/-- what small makes -/
def rch (n : Nat) (es : List Ed) : Nat × List Ed := ((bfs (rowOf es) n).1.length, sE (bfs (rowOf es) n).2)
noncomputable def cls (n : Nat) (es : List Ed) : Nat × List Ed := ((bfs (nrm (cE (lastM n (rowOf es)) (fun _ => true) es)) n).1.length, sE (bfs (nrm (cE (lastM n (rowOf es)) (fun _ => true) es)) n).2)
noncomputable def sml (n : Nat) (es : List Ed) : Nat × List Ed := cls (rch n es).1 (rch n es).2
theorem bfs_rlen {n : Nat} {es : List Ed} (wf : WfL n es) : (bfs (rowOf es) n).2.length ≤ es.length := by
  have hok := bfs_ok (V := fun s => s < n) wf.pos (wf_rws wf).lt n
  rw [bfs_cnt]
  exact sumL_le es (hok.nd.sublist (List.take_sublist _ _))
theorem wf_rch {n : Nat} {es : List Ed} (wf : WfL n es) : WfL (rch n es).1 (rch n es).2 := wf_sE (wf_bfs wf)
theorem rch_len {n : Nat} {es : List Ed} (wf : WfL n es) : (rch n es).2.length ≤ es.length := Nat.le_trans (sE_len _) (bfs_rlen wf)
theorem wf_clsS {n : Nat} {es : List Ed} (wf : WfL n es) : WfL (cls n es).1 (cls n es).2 := wf_sE (wf_cbfs wf (rd_len _ _ _) _)
theorem cls_len {n : Nat} {es : List Ed} (wf : WfL n es) : (cls n es).2.length ≤ es.length := by
  have hr := wf_cls (ms := lastM n (rowOf es)) wf (rd_len _ _ _) (fun _ => true)
  exact Nat.le_trans (sE_len _) (Nat.le_trans (bfs_few hr.zero hr.lt n) (cE_len _ _ _))
section
variable {P : Program} {w : World} {K : PySem.W.Frag} {mg : Str → Option Value} {base : Heap} {T : Tbs}
abbrev nSmall : List Str := ["system", "part"]
theorem scSmall : FnScope nSmall ["system"] (defScope sSmall) := ⟨rfl, rfl, rfl, by decide +kernel, rfl, by decide +kernel, by decide +kernel⟩
def nmS : Nat → Nat → Str := fun _ _ => "small.<locals>.<lambda>"
theorem df_small {f Cl c Pt : Addr} {fd : FuncData} (F : Fun K "small" "small" sSmall f fd) (hcode : fd.code = .ref c) (hm : mg "small" = some (.ref f)) (hb : Binds K fd ["system"] [])
    (TB : TabB base mg c Pt) (hT : (Pt, nmS) ∈ T.n) (hu : ∀ p ∈ T.n, p.1 = Pt → p.2 = nmS)
    (dRe : Df P w K mg base 7 "reached" (Pu T (fun a : Nat × List Ed => WfL a.1 a.2) (fun a => [isObj Cl (fsS (K := K) a.1 a.2)]) (fun a => isObj Cl (fsS (K := K) (bfs (rowOf a.2) a.1).1.length (sE (bfs (rowOf a.2) a.1).2)))))
    (dSt : Df P w K mg base 4 "strong_rounds" (Pu T (fun a : Nat × List Ed => WfL a.1 a.2 ∧ a.2.length < 63) (fun a => [isObj Cl (fsS (K := K) a.1 a.2)]) (fun a => isD K (rdsD a.1 (rowOf a.2) (stopK a.1 (rowOf a.2))))))
    (dC : Dh P w K mg base 7 "class_system" T ClsOk (fun a => [isObj Cl (fsS (K := K) a.n a.es), isD K (.list (a.ms.map iN))]) (fun a => isObj Cl (fsS (K := K) (bfs (nrm (cE a.ms a.kp a.es)) a.n).1.length (sE (bfs (nrm (cE a.ms a.kp a.es)) a.n).2))) 1 (fun a => keptCt K a.es a.kp)) :
    Df P w K mg base 8 "small" (Pu T (fun a : Nat × List Ed => WfL a.1 a.2 ∧ a.2.length < 63) (fun a => [isObj Cl (fsS (K := K) a.1 a.2)]) (fun a => isObj Cl (fsS (K := K) (sml a.1 a.2).1 (sml a.1 a.2).2))) := by
  refine df_pureC (.ref c) _ _ _ F hcode scSmall hm hb (fun _ => rfl) ?_
  rintro A outer s H Fr E ⟨n, es⟩ D hr ⟨wf, hlen⟩ ret _
  have wf : WfL n es := wf
  have hlen : es.length < 63 := hlen
  have wf1 := wf_rch wf
  have hl1 := rch_len wf
  refine do_set scSmall.nd (i := 1) rfl (.inl rfl) (R := isObj Cl (fsS (K := K) (rch n es).1 (rch n es).2)) (ev_call (R := fun a : Nat × List Ed => isObj Cl (fsS (K := K) (bfs (rowOf a.2) a.1).1.length (sE (bfs (rowOf a.2) a.1).2))) dRe hr (n, es) wf (ea1 (ev_v 0))) ?_ (by show 1 < 2; decide)
  generalize hp : rch n es = p at wf1 hl1
  obtain ⟨n1, e1⟩ := p
  have wf1 : WfL n1 e1 := wf1
  have hl1 : e1.length ≤ es.length := hl1
  refine do_ret (R := isObj Cl (fsS (K := K) (cls n1 e1).1 (cls n1 e1).2)) (ev_callH (R := fun a : ClsA => isObj Cl (fsS (K := K) (bfs (nrm (cE a.ms a.kp a.es)) a.n).1.length (sE (bfs (nrm (cE a.ms a.kp a.es)) a.n).2))) dC hr ⟨n1, e1, lastM n1 (rowOf e1), fun _ => true⟩ ⟨wf1, rd_len _ _ _⟩
      (xa_cons (R := isObj Cl (fsS (K := K) n1 e1)) (ev_v 1) (xa_cons (R := isD K (rdD n1 (rowOf e1) (stopK n1 (rowOf e1)))) (ev_ixL (rds_last n1 (rowOf e1) (stopK n1 (rowOf e1))) (ev_call (R := fun a : Nat × List Ed => isD K (rdsD a.1 (rowOf a.2) (stopK a.1 (rowOf a.2)))) dSt (hr.mono (by decide)) (n1, e1) ⟨wf1, Nat.lt_of_le_of_lt hl1 hlen⟩ (ea1 (ev_v 1))) (ev_negI ev_int))
        (xa_lam (k := 0) (N := ["state", "action", "target"]) (ps := ["state", "action", "target"]) (fr := []) (js := []) (Rc := []) (keptCt K e1 (fun _ => true)) (nscope_by (by decide +kernel)) TB rfl hT rfl hu rfl (by show NdefX.ndefB (defScope sSmall) _ _ = true; decide +kernel) rfl rfl (fun _ => rfl) (fun q cl pm cv ctv us hl => match us, hl with | [_, _, _], _ => rfl)
          (fun A1 outer1 s1 F1 H1 f1 c1 b cl qual hr1 hb1 => ev_bl))))
      (fun vs F H s ⟨v, ws, e, hv, v2, ws2, e2, hv2, f, e3, fc⟩ => ⟨[v, v2], f, by rw [e, e2, e3] <;> rfl, .cons hv (.cons hv2 .nil), fc⟩)) (fun σ v F' H' c hv => ret v F' H' c.en ?_)
  show (isObj Cl (fsS (K := K) (sml n es).1 (sml n es).2)).p v F'
  unfold sml
  rw [hp]
  exact hv
end
end Kk

set_option Elab.async false
set_option autoImplicit false
set_option linter.all false
set_option maxRecDepth 100000
set_option maxHeartbeats 4000000
namespace Kk
open PySem L2 Pl
abbrev sCell : Stmt := top 29
abbrev sDraws : Stmt := top 30
abbrev sLSys : Stmt := top 32
abbrev sMade : Stmt := top 33
def cell (ns : List Int) (k : Nat) : Int := match ns[k]? with | some n => if n < 0 then -n else n | none => 0
def iList (ns : List Int) : PD := .list (ns.map .int)
def mix1 (c : Int) (k : Nat) : Int := (c * 48271 + ((k : Int) + 1) * 69621) % 2147483647
def mix2 (c : Int) (k : Nat) : Int := (mix1 c k * mix1 c k + mix1 c k * 16807 + (k : Int) * 7919) % 2147483629
def mix3 (c : Int) (k : Nat) : Int := (mix2 c k * mix2 c k + c + 13 * (k : Int)) % 2147483587
def big (c l : Int) : Bool := decide ((10 : Int) ^ 18 ≤ c) && decide (0 < l)
def drw (c : Int) : Nat → List Int × Int
  | 0 => ([], c)
  | k + 1 => if big c (drw c k).2 = true then ((drw c k).1 ++ [(drw c k).2 % 4096], (drw c k).2 / 4096) else ((drw c k).1 ++ [mix3 c k / 7 % 4096], (drw c k).2)
theorem drw_len (c : Int) : ∀ k, (drw c k).1.length = k
  | 0 => rfl
  | k + 1 => by
    show (if big c (drw c k).2 = true then _ else _ : List Int × Int).1.length = _
    split
    · simp [drw_len c k]
    · simp [drw_len c k]
theorem drw_rng (c : Int) : ∀ k, ∀ d ∈ (drw c k).1, 0 ≤ d ∧ d < 4096
  | 0, d, h => by cases h
  | k + 1, d, h => by
    have h : d ∈ (if big c (drw c k).2 = true then ((drw c k).1 ++ [(drw c k).2 % 4096], (drw c k).2 / 4096) else ((drw c k).1 ++ [mix3 c k / 7 % 4096], (drw c k).2) : List Int × Int).1 := h
    split at h
    · rcases List.mem_append.mp h with z | z
      · exact drw_rng c k d z
      · rw [List.mem_singleton.mp z]; omega
    · rcases List.mem_append.mp h with z | z
      · exact drw_rng c k d z
      · rw [List.mem_singleton.mp z]; omega
section
variable {P : Program} {w : World} {K : PySem.W.Frag} {mg : Str → Option Value} {base : Heap} {T : Tbs}
theorem scCell : FnScope ["script", "k"] ["script", "k"] (defScope sCell) := ⟨rfl, rfl, rfl, by decide +kernel, rfl, by decide +kernel, by decide +kernel⟩
theorem df_cell {f : Addr} {fd : FuncData} (F : Fun K "_law_cell" "_law_cell" sCell f fd) (hm : mg "_law_cell" = some (.ref f)) (hb : Binds K fd ["script", "k"] []) (mLen : mg "len" = none) (mAbs : mg "abs" = none) (mInt : mg "int" = none) :
    Df P w K mg base 1 "_law_cell" (Pu T (fun (_ : List Int × Nat) => True) (fun a => [isD K (iList a.1), isD K (iN a.2)]) (fun a => isD K (.int (cell a.1 a.2)))) := by
  refine df_pure _ _ _ F scCell hm hb (fun _ => rfl) ?_
  rintro cdv A outer s H Fr E ⟨ns, k⟩ D hr _ ret _
  refine do_ifr (et_ltI (ev_v 1) (ev_lenL mLen (ev_v 0))) (fun hb => ?_) (fun hb => ?_)
  · have hb : (k : Int) < ((ns.map PyData.int).length : Int) := of_decide_eq_true hb
    have hk : k < ns.length := by rw [List.length_map] at hb; omega
    refine do_ret (ev_abs mAbs (ev_intI mInt (ev_ixL (d := .int ns[k]) (atI_nat (by rw [List.getElem?_map, List.getElem?_eq_getElem hk] <;> rfl)) (ev_v 0) (ev_v 1)))) ?_
    intro σ v F' H' c hv
    refine ret v F' H' c.en ?_
    show Dp K F' v (.int (cell ns k))
    unfold cell
    rw [List.getElem?_eq_getElem hk]
    exact hv
  · have hb : ¬ (k : Int) < ((ns.map PyData.int).length : Int) := of_decide_eq_false hb
    have hk : ¬ k < ns.length := by rw [List.length_map] at hb; omega
    refine do_ret ev_int ?_
    intro σ v F' H' c hv
    refine ret v F' H' c.en ?_
    show Dp K F' v (.int (cell ns k))
    unfold cell
    rw [List.getElem?_eq_none (by omega)]
    exact hv
abbrev nDraws : List Str := ["cell", "count", "rows", "left", "k", "mixed"]
theorem scDraws : FnScope nDraws ["cell", "count"] (defScope sDraws) := ⟨rfl, rfl, rfl, by decide +kernel, rfl, by decide +kernel, by decide +kernel⟩
theorem df_draws {f : Addr} {fd : FuncData} (F : Fun K "_law_draws" "_law_draws" sDraws f fd) (hm : mg "_law_draws" = some (.ref f)) (hb : Binds K fd ["cell", "count"] []) (mInt : mg "int" = none) (mRange : mg "range" = none) :
    Df P w K mg base 1 "_law_draws" (Pu T (fun a : Int × Nat => a.2 ≤ 1000) (fun a => [isD K (.int a.1), isD K (iN a.2)]) (fun a => isD K (iList (drw a.1 a.2).1))) := by
  refine df_pure _ _ _ F scDraws hm hb (fun _ => rfl) ?_
  rintro cdv A outer s H Fr E ⟨c, m⟩ D hr hm2 ret _
  have hm2 : m ≤ 1000 := hm2
  refine do_own scDraws.nd (i := 2) rfl (.inl rfl) (en_lst (ds := []) ea_nil) (fun q => ?_) (by show 2 < 6; decide)
  refine do_set scDraws.nd (i := 3) rfl (.inl rfl) (R := isD K (.int c)) (ev_v 0) ?_ (by show 3 < 6; decide)
  have hrl : ∀ K' : PySem.W.Frag, (rngR K' 0 (m : Int).toNat).length = m := fun K' => by unfold rngR; rw [List.length_map, List.length_range]; omega
  let sl0 : Nat → List (Option Rp) := fun k => [some (isD K (.int c)), some (isD K (iN m)), some (isA q), some (isD K (.int (drw c k).2)), none, none]
  let os0 : Nat → List (Addr × Ct) := fun k => [(q, ctL K ((drw c k).1.map PyData.int))]
  refine do_for (fun i => (sl0 i, os0 i)) (M := (Cn.mk T Fr H fpT (sl0 m) (os0 m)).at) (iv_rng1 (n := (m : Int)) (ev_v 1) mRange (by omega)) (fun σ F' H' c => c) ?_ (fun σ H' c => ?_) ?_
  · intro i R fp hR
    obtain ⟨hi, hRi⟩ := rngR_at hR
    have hi : i < m := by omega
    rw [Int.zero_add] at hRi
    subst hRi
    refine ⟨_, _, tg_name scDraws.nd (i := 4) rfl (.inl rfl) (by show 4 < 6; decide), ?_⟩
    have hlz : ((drw c i).1.map PyData.int).length < 100000 := by rw [List.length_map, drw_len]; omega
    let M1 : As := (Cn.mk T Fr H (fpT.and fp) (sl0 (i + 1)) (os0 (i + 1))).at
    refine do_if (b := big c (drw c i).2) (M := M1) (et_and (et_geI (ev_v 0) (ev_powI ⟨by decide, by decide, by decide⟩ ev_int ev_int)) fun _ => ew_and1 (et_gtI (ev_v 3) ev_int)) (fun hb => ?_) (fun hb => ?_) (do_nil fun σ H' c => c)
    · have e : drw c (i + 1) = ((drw c i).1 ++ [(drw c i).2 % 4096], (drw c i).2 / 4096) := if_pos hb
      refine do_app (l := q) (ds := (drw c i).1.map PyData.int) (d := .int ((drw c i).2 % 4096)) (ev_v 2) findO_head (ev_modI (by decide) (ev_intI mInt (ev_v 3)) ev_int) hlz ?_
      refine do_set scDraws.nd (i := 3) rfl (.inl rfl) (R := isD K (.int ((drw c i).2 / 4096))) (ev_divI ⟨by decide, by decide⟩ (ev_v 3) ev_int) ?_ (by show 3 < 6; decide)
      refine do_nil fun σ H' ⟨F', cc⟩ => ⟨F', ?_⟩
      have c2 := cc.fg (sl := [some (isD K (.int c)), some (isD K (iN m)), some (isA q), some (isD K (.int ((drw c i).2 / 4096))), none, none]) (.keep (.keep (.keep (.keep (.drop (.keep .nil))))))
      have ec : putO q (ctL K ((drw c i).1.map PyData.int ++ [.int ((drw c i).2 % 4096)])) (os0 i) = [(q, ctL K (((drw c i).1 ++ [(drw c i).2 % 4096]).map PyData.int))] := by
        show putO q _ [(q, _)] = _
        rw [putO_head, List.map_append] <;> rfl
      show (Cn.mk T Fr H (fpT.and fp) [some (isD K (.int c)), some (isD K (iN m)), some (isA q), some (isD K (.int (drw c (i + 1)).2)), none, none] [(q, ctL K ((drw c (i + 1)).1.map PyData.int))]).ok σ F' H'
      rw [e]
      show (Cn.mk T Fr H (fpT.and fp) [some (isD K (.int c)), some (isD K (iN m)), some (isA q), some (isD K (.int ((drw c i).2 / 4096))), none, none] [(q, ctL K (((drw c i).1 ++ [(drw c i).2 % 4096]).map PyData.int))]).ok σ F' H'
      rw [← ec]
      exact c2
    · have e : drw c (i + 1) = ((drw c i).1 ++ [mix3 c i / 7 % 4096], (drw c i).2) := if_neg (by rw [hb]; decide)
      have hm1 : 0 ≤ mix1 c i ∧ mix1 c i < 2147483647 := by unfold mix1; omega
      have hm2 : 0 ≤ mix2 c i ∧ mix2 c i < 2147483629 := by unfold mix2; omega
      refine do_set scDraws.nd (i := 5) rfl (.inl rfl) (R := isD K (.int (mix1 c i))) (ev_modI (by decide) (ev_intI mInt (ev_addI (ev_mulI (.inr ⟨by decide, by decide⟩) (ev_v 0) ev_int) (ev_mulI (.inr ⟨by decide, by decide⟩) (ev_addI (ev_v 4) ev_int) ev_int))) ev_int) ?_ (by show 5 < 6; decide)
      refine do_set scDraws.nd (i := 5) rfl (.inl rfl) (R := isD K (.int (mix2 c i))) (ev_modI (by decide) (ev_intI mInt (ev_addI (ev_addI (ev_mulI (.inr ⟨by omega, by omega⟩) (ev_v 5) (ev_v 5)) (ev_mulI (.inr ⟨by decide, by decide⟩) (ev_v 5) ev_int)) (ev_mulI (.inr ⟨by decide, by decide⟩) (ev_v 4) ev_int))) ev_int) ?_ (by show 5 < 6; decide)
      refine do_set scDraws.nd (i := 5) rfl (.inl rfl) (R := isD K (.int (mix3 c i))) (ev_modI (by decide) (ev_intI mInt (ev_addI (ev_addI (ev_mulI (.inr ⟨by omega, by omega⟩) (ev_v 5) (ev_v 5)) (ev_v 0)) (ev_mulI (.inl ⟨by decide, by decide⟩) ev_int (ev_v 4)))) ev_int) ?_ (by show 5 < 6; decide)
      refine do_app (l := q) (ds := (drw c i).1.map PyData.int) (d := .int (mix3 c i / 7 % 4096)) (ev_v 2) findO_head (ev_modI (by decide) (ev_divI ⟨by decide, by decide⟩ (ev_v 5) ev_int) ev_int) hlz ?_
      refine do_nil fun σ H' ⟨F', cc⟩ => ⟨F', ?_⟩
      have c2 := cc.fg (sl := [some (isD K (.int c)), some (isD K (iN m)), some (isA q), some (isD K (.int (drw c i).2)), none, none]) (.keep (.keep (.keep (.keep (.drop (.drop .nil))))))
      have ec : putO q (ctL K ((drw c i).1.map PyData.int ++ [.int (mix3 c i / 7 % 4096)])) (os0 i) = [(q, ctL K (((drw c i).1 ++ [mix3 c i / 7 % 4096]).map PyData.int))] := by
        show putO q _ [(q, _)] = _
        rw [putO_head, List.map_append] <;> rfl
      show (Cn.mk T Fr H (fpT.and fp) [some (isD K (.int c)), some (isD K (iN m)), some (isA q), some (isD K (.int (drw c (i + 1)).2)), none, none] [(q, ctL K ((drw c (i + 1)).1.map PyData.int))]).ok σ F' H'
      rw [e]
      show (Cn.mk T Fr H (fpT.and fp) [some (isD K (.int c)), some (isD K (iN m)), some (isA q), some (isD K (.int (drw c i).2)), none, none] [(q, ctL K (((drw c i).1 ++ [mix3 c i / 7 % 4096]).map PyData.int))]).ok σ F' H'
      rw [← ec]
      exact c2
  · rw [hrl] at c
    exact c
  · refine do_frzL 2 q (ds := (drw c m).1.map PyData.int) rfl findO_head ?_
    exact do_ret (R := isD K (iList (drw c m).1)) (ev_v 2) (fun σ v F' H' cc hv => ret v F' H' cc.en hv)
end
end Kk

set_option Elab.async false
set_option autoImplicit false
set_option linter.all false
set_option maxRecDepth 100000
set_option maxHeartbeats 4000000
namespace Kk
open PySem L2 Pl
theorem iN_of {z : Int} (h : 0 ≤ z) : PyData.int z = iN z.toNat := by unfold iN; rw [Int.toNat_of_nonneg h]
/-- the drawn system -/
def lds (c : Int) : List Int := (drw c 25).1
def ld (c : Int) (k : Nat) : Int := (lds c).getD k 0
def lcount (c : Int) : Nat := (1 + ld c 0 % 7).toNat
def lacts : List Str := ["a", "b", "tau", "a", "c", "tau", "b", "tick", "a", "tau"]
def lidx (c : Int) (k : Nat) : Nat := (ld c (2 + k) % (9 + ld c 2 % 2)).toNat
def ledge (c : Int) (k : Nat) : Ed := ((ld c (2 + k) / 10 % (lcount c : Int)).toNat, lacts.getD (lidx c k) "a", (ld c (2 + k) / 100 % (lcount c : Int)).toNat)
def lmany (c : Int) : Nat := (ld c 1 % 21).toNat
def ledges (c : Int) : List Ed := (List.range (lmany c)).map (ledge c)
theorem ld_at {c : Int} {k : Nat} (h : k < 25) : atI ((lds c).map PyData.int) (k : Int) = some (.int (ld c k)) := by
  have hl : (lds c).length = 25 := drw_len c 25
  refine atI_nat ?_
  unfold ld
  rw [List.getElem?_map, List.getD_eq_getElem?_getD, List.getElem?_eq_getElem (by omega)] <;> rfl
theorem ld_rng {c : Int} {k : Nat} (h : k < 25) : 0 ≤ ld c k ∧ ld c k < 4096 := by
  have hl : (lds c).length = 25 := drw_len c 25
  refine drw_rng c 25 _ ?_
  unfold ld
  rw [List.getD_eq_getElem?_getD, List.getElem?_eq_getElem (by omega)]
  exact List.getElem_mem _
theorem lcount_rng (c : Int) : 1 ≤ lcount c ∧ lcount c ≤ 7 ∧ (lcount c : Int) = 1 + ld c 0 % 7 := by
  have := ld_rng (c := c) (k := 0) (by decide)
  unfold lcount
  omega
theorem lmany_rng (c : Int) : lmany c ≤ 20 ∧ (lmany c : Int) = ld c 1 % 21 := by
  unfold lmany
  omega
theorem lidx_rng (c : Int) {k : Nat} (h : 2 + k < 25) : lidx c k < 10 ∧ (lidx c k : Int) = ld c (2 + k) % (9 + ld c 2 % 2) := by
  have h2 : 0 ≤ ld c 2 % 2 ∧ ld c 2 % 2 < 2 := by omega
  have h0 : 0 < 9 + ld c 2 % 2 := by omega
  have h3 := Int.emod_nonneg (ld c (2 + k)) (Int.ne_of_gt h0)
  have h4 := Int.emod_lt_of_pos (ld c (2 + k)) h0
  unfold lidx
  omega
theorem lacts_mem : ∀ {i : Nat}, i < 10 → lacts.getD i "a" ∈ acts := by
  intro i h
  have : ∀ j : Fin 10, lacts.getD j.1 "a" ∈ acts := by decide +kernel
  exact this ⟨i, h⟩
theorem wf_law (c : Int) : WfL (lcount c) (ledges c) ∧ (ledges c).length ≤ 20 := by
  obtain ⟨h1, h2, _⟩ := lcount_rng c
  obtain ⟨h3, _⟩ := lmany_rng c
  have hl : (ledges c).length ≤ 20 := by unfold ledges; rw [List.length_map, List.length_range]; exact h3
  have hed : ∀ e ∈ ledges c, (e.1 < lcount c ∧ e.2.2 < lcount c) ∧ e.2.1 ∈ acts := fun e he => by
    obtain ⟨k, hk, rfl⟩ := List.mem_map.mp he
    have hk := List.mem_range.mp hk
    have h0 : (0 : Int) < (lcount c : Int) := by omega
    refine ⟨⟨?_, ?_⟩, lacts_mem (lidx_rng c (by omega)).1⟩
    · have a := Int.emod_nonneg (ld c (2 + k) / 10) (Int.ne_of_gt h0)
      have b := Int.emod_lt_of_pos (ld c (2 + k) / 10) h0
      show (ld c (2 + k) / 10 % (lcount c : Int)).toNat < lcount c
      omega
    · have a := Int.emod_nonneg (ld c (2 + k) / 100) (Int.ne_of_gt h0)
      have b := Int.emod_lt_of_pos (ld c (2 + k) / 100) h0
      show (ld c (2 + k) / 100 % (lcount c : Int)).toNat < lcount c
      omega
  exact ⟨⟨h1, by omega, fun e he => (hed e he).1, fun e he => (hed e he).2, by omega⟩, hl⟩
def partsD (n : Nat) (es : List Ed) : PD := .tuple [iN n, .list (es.map encE)]
section
variable {P : Program} {w : World} {K : PySem.W.Frag} {mg : Str → Option Value} {base : Heap} {T : Tbs}
abbrev nLSys : List Str := ["cell", "most", "draws", "count", "edges", "k", "draw", "action"]
theorem scLSys : FnScope nLSys ["cell", "most"] (defScope sLSys) := ⟨rfl, rfl, rfl, by decide +kernel, rfl, by decide +kernel, by decide +kernel⟩
theorem df_lsys {f : Addr} {fd : FuncData} (F : Fun K "_law_system" "_law_system" sLSys f fd) (hm : mg "_law_system" = some (.ref f)) (hb : Binds K fd ["cell", "most"] []) (mRange : mg "range" = none)
    (dD : Df P w K mg base 1 "_law_draws" (Pu T (fun a : Int × Nat => a.2 ≤ 1000) (fun a => [isD K (.int a.1), isD K (iN a.2)]) (fun a => isD K (iList (drw a.1 a.2).1)))) :
    Df P w K mg base 2 "_law_system" (Pu T (fun _ : Int => True) (fun c => [isD K (.int c), isD K (iN 7)]) (fun c => isD K (partsD (lcount c) (ledges c)))) := by
  refine df_pure _ _ _ F scLSys hm hb (fun _ => rfl) ?_
  intro cdv A outer s H Fr E c D hr _ ret _
  obtain ⟨h1, h2, h3⟩ := lcount_rng c
  obtain ⟨h4, h5⟩ := lmany_rng c
  refine do_set scLSys.nd (i := 2) rfl (.inl rfl) (R := isD K (.list ((lds c).map PyData.int))) (ev_call (R := fun a : Int × Nat => isD K (iList (drw a.1 a.2).1)) dD hr (c, 25) (by show 25 ≤ 1000; decide) (ea_cons (ev_v 0) (ea_cons (ev_addI (i := 21) (j := 4) (ev_mulI (i := 3) (j := 7) (.inl ⟨by decide, by decide⟩) ev_int (ev_v 1)) ev_int) ea_nil))) ?_ (by show 2 < 8; decide)
  refine do_set scLSys.nd (i := 3) rfl (.inl rfl) (R := isD K (iN (lcount c))) (Ev.imp (ev_addI (i := 1) (j := ld c 0 % 7) ev_int (ev_modI (i := ld c 0) (j := 7) (by decide) (ev_ixL (ld_at (k := 0) (by decide)) (ev_v 2) ev_int) (ev_v 1))) (fun v F h => by unfold iN; rw [h3]; exact h)) ?_ (by show 3 < 8; decide)
  refine do_own scLSys.nd (i := 4) rfl (.inl rfl) (en_lst (ds := []) ea_nil) (fun q => ?_) (by show 4 < 8; decide)
  let sl0 : List (Option Rp) := [some (isD K (.int c)), some (isD K (iN 7)), some (isD K (.list ((lds c).map PyData.int))), some (isD K (iN (lcount c))), some (isA q), none, none, none]
  let os0 : Nat → List (Addr × Ct) := fun k => [(q, ctL K (((List.range k).map (ledge c)).map encE))]
  have hrl : ∀ K' : PySem.W.Frag, (rngR K' 0 (ld c 1 % 21).toNat).length = lmany c := fun K' => by unfold rngR; rw [List.length_map, List.length_range] <;> rfl
  refine do_for (fun i => (sl0, os0 i)) (M := (Cn.mk T Fr H fpT sl0 (os0 (lmany c))).at) (iv_rng1 (n := ld c 1 % 21) (ev_modI (i := ld c 1) (j := 21) (by decide) (ev_ixL (ld_at (k := 1) (by decide)) (ev_v 2) ev_int) (ev_mulI (i := 3) (j := 7) (.inl ⟨by decide, by decide⟩) ev_int (ev_v 1))) mRange (by omega)) (fun σ F' H' c => c) ?_ (fun σ H' c => ?_) ?_
  · intro i R fp hR
    obtain ⟨hi, hRi⟩ := rngR_at hR
    have hi : i < lmany c := hi
    rw [Int.zero_add] at hRi
    subst hRi
    obtain ⟨h6, h7⟩ := lidx_rng c (k := i) (by omega)
    have hr2 := ld_rng (c := c) (k := 2 + i) (by omega)
    have h0 : (0 : Int) < (lcount c : Int) := by omega
    have a1 := Int.emod_nonneg (ld c (2 + i) / 10) (Int.ne_of_gt h0)
    have a2 := Int.emod_nonneg (ld c (2 + i) / 100) (Int.ne_of_gt h0)
    refine ⟨_, _, tg_name scLSys.nd (i := 5) rfl (.inl rfl) (by show 5 < 8; decide), ?_⟩
    refine do_set scLSys.nd (i := 6) rfl (.inl rfl) (R := isD K (.int (ld c (2 + i)))) (ev_ixL (i := 2 + (i : Int)) (by have := ld_at (c := c) (k := 2 + i) (by omega); rwa [show ((2 + i : Nat) : Int) = 2 + (i : Int) by omega] at this) (ev_v 2) (ev_addI ev_int (ev_v 5))) ?_ (by show 6 < 8; decide)
    refine do_set scLSys.nd (i := 7) rfl (.inl rfl) (R := isD K (.str (lacts.getD (lidx c i) "a"))) (ev_ixL (ds := lacts.map PyData.str) (i := ld c (2 + i) % (9 + ld c 2 % 2)) (by
        rw [← h7]
        refine atI_nat ?_
        have hl : lacts.length = 10 := by decide +kernel
        rw [List.getElem?_map, List.getD_eq_getElem?_getD, List.getElem?_eq_getElem (by omega)] <;> rfl) (En.ev (en_lst (ds := lacts.map PyData.str) (ea_cons ev_str (ea_cons ev_str (ea_cons ev_str (ea_cons ev_str (ea_cons ev_str (ea_cons ev_str (ea_cons ev_str (ea_cons ev_str (ea_cons ev_str (ea_cons ev_str ea_nil)))))))))) (by decide +kernel)))
        (ev_modI (by omega) (ev_v 6) (ev_addI ev_int (ev_modI (by decide) (ev_ixL (ld_at (k := 2) (by decide)) (ev_v 2) ev_int) ev_int)))) ?_ (by show 7 < 8; decide)
    refine do_app (l := q) (ds := ((List.range i).map (ledge c)).map encE) (d := encE (ledge c i)) (ev_v 4) findO_head (Ev.imp (ev_tup (ds := [.int (ld c (2 + i) / 10 % (lcount c : Int)), .str (lacts.getD (lidx c i) "a"), .int (ld c (2 + i) / 100 % (lcount c : Int))]) (ea_cons (ev_modI h0 (ev_divI ⟨by decide, by decide⟩ (ev_v 6) ev_int) (ev_v 3)) (ea_cons (ev_v 7) (ea_cons (ev_modI h0 (ev_divI ⟨by decide, by decide⟩ (ev_v 6) ev_int) (ev_v 3)) ea_nil)))) (fun v F h => by rw [iN_of a1, iN_of a2] at h; exact h)) (by rw [List.length_map, List.length_map, List.length_range]; omega) ?_
    refine do_nil fun σ H' ⟨F', cc⟩ => ⟨F', ?_⟩
    have c2 := cc.fg (sl := sl0) (.keep (.keep (.keep (.keep (.keep (.drop (.drop (.drop .nil))))))))
    have ec : putO q (ctL K (((List.range i).map (ledge c)).map encE ++ [encE (ledge c i)])) (os0 i) = os0 (i + 1) := by
      show putO q _ [(q, _)] = [(q, ctL K (((List.range (i + 1)).map (ledge c)).map encE))]
      rw [putO_head, List.range_succ, List.map_append, List.map_append] <;> rfl
    show (Cn.mk T Fr H (fpT.and fp) sl0 (os0 (i + 1))).ok σ F' H'
    rw [← ec]
    exact c2
  · rw [hrl] at c
    exact c
  · refine do_frzL 4 q (ds := (ledges c).map encE) rfl findO_head ?_
    exact do_ret (R := isD K (partsD (lcount c) (ledges c))) (ev_tup (ds := [iN (lcount c), .list ((ledges c).map encE)]) (ea_cons (ev_v 3) (ea_cons (ev_v 4) ea_nil))) (fun σ v F' H' cc hv => ret v F' H' cc.en hv)
end
end Kk

set_option Elab.async false
set_option autoImplicit false
set_option linter.all false
set_option maxRecDepth 100000
set_option maxHeartbeats 4000000
namespace Pl
open PySem L2
section
variable {X : Cx} {C : Cn} {D : Ends} {tg iter : Expr} {rest : List Stmt} {pos py lp spos : Pos} {x : Str} {i : Nat} {Rs : List Rp} {scope : Scope} {own : List (Str × Nat)}
/-- x = [[] for ..], x a local -/
theorem do_setRows (hi : Iv X C tg iter Rs) (ok : BlkOk X.N X.env.scope scope own) (hz : Rs.length ≤ 100000)
    (hb : ∀ (i : Nat) (R : Rp) (f : Fp) (os : List (Addr × Ct)), Rs[i]? = some R → ∃ sl ws, (∀ j ∈ ws, j ∈ own.map (·.2)) ∧ Blk X scope fun Y => Tg Y (((C.plus f).to C.sl os).wipe (own.map (·.2))) R tg ((C.plus f).to sl os) ws) (hN : X.N.Nodup) (hy : X.N[i]? = some x) (hyl : X.env.scope.names.lookup x = some .local) (hl : i < C.sl.length)
    (hsw : swapsWith (.ListComp (.List [] lp) [⟨tg, iter, [], 0⟩] scope spos) (some (.Name x py)) pos.line X.env = pure true)
    (h : ∀ Dl as, as.length = Rs.length → Do X rest ((C.to C.sl (C.os ++ osD X.K as (List.replicate Rs.length []))).set i (isLV X.K Dl (as.map V.ref))).at D)
    (hc : X.calm = true := by rfl) (hs : ∀ x, foldedSetIterable iter X.env x = pure x := by intro _; rfl) : Do X (.Assign [.Name x py] (.ListComp (.List [] lp) [⟨tg, iter, [], 0⟩] scope spos) pos :: rest) C.at D := by
  obtain ⟨wi, hpi, hw⟩ := hi
  obtain ⟨g, tt, te, p1, p2, p3, hr⟩ := lc_readS (elt := .List [] lp) (SRows C X.K) (fun i os v F' os' => ∃ q, v = .ref q ∧ os' = os ++ [(q, ctL X.K [])]) (fun i us os F F' _ h => h) (fun i us os F h => by
    obtain ⟨as, h1, h2, _⟩ := h
    rw [h2, List.length_map, h1]) (fun i us os F v F' os' h _ g => sRows_next h g) hpi hw ok hz (fun F => ⟨[], rfl, rfl, by simp [osD, osG]⟩) (fun i R f os us F hR hS => by
    obtain ⟨sl, ws, h1, h2⟩ := hb i R f os hR
    exact ⟨sl, ws, h1, fun s H Ca cl fp => ⟨h2 s H Ca cl fp, En.tw (en_lst (ds := []) ea_nil)⟩⟩) hN
  refine do_cons (M := fun σ H => ∃ Dl as, as.length = Rs.length ∧ ((C.to C.sl (C.os ++ osD X.K as (List.replicate Rs.length []))).set i (isLV X.K Dl (as.map V.ref))).at σ H) (Do1.of (ps_setLc hc hN hy hyl hsw hpi ok p1 p2 p3 hs) fun σ H ⟨F, c⟩ => ?_) (Do.ex fun Dl => Do.ex fun as => Do.exP fun e => h Dl as e)
  refine hr σ F H _ c fun D us F' H' os' c' hD f' hDo en hH hS => ?_
  obtain ⟨as, h1, h2, h3⟩ := hS
  subst h2
  subst h3
  have l5 := c'.en.frz en f' hH (lst_nt _)
  have c5 : (C.to C.sl (C.os ++ osD X.K as (List.replicate Rs.length []))).ok σ (upd F' D (.lst (as.map V.ref))) H' := by
    refine ⟨l5.w, c'.len, fun j R h => ?_, fun r hr => ?_, c'.nd, C.ff.mono (Evl.Ex.new f') c'.ff, l5⟩
    · obtain ⟨v, a, b⟩ := c'.sl j R h
      exact ⟨v, a, R.mono (Evl.Ex.new f') b⟩
    · obtain ⟨b1, b2, ob, b3, b4, b5⟩ := c'.os r hr
      exact ⟨by rw [upd_ne (fun (z : r.1 = D) => hDo (by rw [← z]; exact List.mem_map.mpr ⟨r, hr, rfl⟩))]; exact b1, b2, ob, b3, b4, r.2.mono (Evl.Ex.new f') b5⟩
  exact ⟨D, as, h1, _, c5.set hl ⟨rfl, SqL.of upd_same⟩⟩
end
end Pl
namespace Kk
open PySem L2 Pl
abbrev sLRows : Stmt := top 37
section
variable {P : Program} {w : World} {K : PySem.W.Frag} {mg : Str → Option Value} {base : Heap} {T : Tbs}
theorem scMade : FnScope ["parts"] ["parts"] (defScope sMade) := ⟨rfl, rfl, rfl, by decide +kernel, rfl, by decide +kernel, by decide +kernel⟩
theorem df_made {f Cl : Addr} {fd : FuncData} (F : Fun K "_law_made" "_law_made" sMade f fd) (hm : mg "_law_made" = some (.ref f)) (hb : Binds K fd ["parts"] []) (S : Sys P w K mg base T Cl) (mList : mg "list" = none) :
    Df P w K mg base 7 "_law_made" (Pu T (fun a : Nat × List Ed => WfL a.1 a.2) (fun a => [isD K (partsD a.1 a.2)]) (fun a => isObj Cl (fsS (K := K) a.1 (sE a.2)))) := by
  refine df_pure _ _ _ F scMade hm hb (fun _ => rfl) ?_
  rintro cdv A outer s H Fr E ⟨n, es⟩ D hr wf ret _
  have wf : WfL n es := wf
  exact do_ret (ev_make (Rs := fun a => [isD K (iN a.1), isD K (.list (a.2.map encE))]) (fs := fun a => fsS (K := K) a.1 (sE a.2)) S.ini hr (n, es) wf S.mg_ (ea_cons (ev_ixT (ds := [iN n, .list (es.map encE)]) (i := 0) (d := iN n) rfl (ev_v 0) ev_int) (ea_cons (En.ev (en_listL mList (ev_ixT (ds := [iN n, .list (es.map encE)]) (i := 1) (d := .list (es.map encE)) rfl (ev_v 0) ev_int))) ea_nil))) (fun σ v F' H' cc hv => ret v F' H' cc.en hv)
abbrev nLRows : List Str := ["parts", "rows", "state", "action", "target"]
theorem scLRows : FnScope nLRows ["parts"] (defScope sLRows) := ⟨rfl, rfl, rfl, by decide +kernel, rfl, by decide +kernel, by decide +kernel⟩
theorem df_lrows {f : Addr} {fd : FuncData} (F : Fun K "_law_rows" "_law_rows" sLRows f fd) (hm : mg "_law_rows" = some (.ref f)) (hb : Binds K fd ["parts"] []) (mRange : mg "range" = none) :
    Df P w K mg base 1 "_law_rows" (Pu T (fun a : Nat × List Ed => WfL a.1 a.2) (fun a => [isD K (partsD a.1 a.2)]) (fun a => isD K (rowsD a.1 a.2))) := by
  refine df_pure _ _ _ F scLRows hm hb (fun _ => rfl) ?_
  rintro cdv A outer s H Fr E ⟨n, es⟩ D hr wf ret _
  have wf : WfL n es := wf
  have h100 := wf.few
  have hmany := wf.many
  have hrl : ∀ K' : PySem.W.Frag, (rngR K' 0 (n : Int).toNat).length = n := fun K' => by unfold rngR; rw [List.length_map, List.length_range]; omega
  refine do_setRows (own := [("state", 2)]) (i := 1) (iv_rng1 (n := (n : Int)) (ev_ixT (ds := [iN n, .list (es.map encE)]) (i := 0) (d := iN n) rfl (ev_v 0) ev_int) mRange (by omega)) (blkOk_by (N := nLRows) (sc := defScope sLRows) (by decide +kernel)) (by rw [hrl]; omega) (fun i R fp os hR => ⟨[some (isD K (partsD n es)), none, some R, none, none], [2], by simp, fun s1 H1 Ca cl fps => tg_name scLRows.nd (i := 2) rfl (.inl rfl) (by show 2 < 5; decide)⟩) scLRows.nd rfl rfl (by show 1 < 5; decide) rfl (fun Dl as has => ?_)
  rw [hrl] at has
  rw [hrl]
  refine Do.eq (C' := Cn.mk T Fr H fpT [some (isD K (partsD n es)), some (isLV K Dl (as.map V.ref)), none, none, none] (osD K as (rowsT n []))) (by rw [rowsT_nil] <;> rfl) ?_
  refine Do.nd fun nd => ?_
  have nas : as.Nodup := by
    have nd : ((osD K as (rowsT n [])).map Prod.fst).Nodup := nd
    rwa [osG_fst (by rw [has, rowsT_len])] at nd
  let sl0 : List (Option Rp) := [some (isD K (partsD n es)), some (isLV K Dl (as.map V.ref)), none, none, none]
  refine do_for (fun i => (sl0, osD K as (rowsT n (es.take i)))) (M := (Cn.mk T Fr H fpT sl0 (osD K as (rowsT n es))).at) (iv_list (ds := es.map encE) (ev_ixT (ds := [iN n, .list (es.map encE)]) (i := 1) (d := .list (es.map encE)) rfl (ev_v 0) ev_int)) (fun σ F' H' c => c) ?_ (fun σ H' c => ?_) ?_
  · intro i R fp hR
    rw [List.getElem?_map, List.getElem?_map] at hR
    cases he : es[i]? with
    | none => rw [he] at hR; cases hR
    | some e =>
      rw [he] at hR
      cases hR
      obtain ⟨l1, l2⟩ := wf.lt e (List.mem_of_getElem? he)
      have hi : i < es.length := (List.getElem?_eq_some_iff.mp he).1
      have htk : es.take (i + 1) = es.take i ++ [e] := by rw [List.take_succ, he] <;> rfl
      obtain ⟨e1, e2, e3⟩ := e
      have l1 : e1 < n := l1
      refine ⟨_, _, tg_tup rfl (ds := [iN e1, .str e2, iN e3]) (.cons (tg_name scLRows.nd (i := 2) rfl (.inl rfl) (by show 2 < 5; decide)) rfl (.cons (tg_name scLRows.nd (i := 3) rfl (.inl rfl) (by show 3 < 5; decide)) rfl (.cons (tg_name scLRows.nd (i := 4) rfl (.inl rfl) (by show 4 < 5; decide)) rfl .nil))), ?_⟩
      have ha1 : e1 < as.length := by omega
      have haa : as[e1]? = some as[e1] := List.getElem?_eq_getElem ha1
      have hrow : (rowsT n (es.take i))[e1]? = some ((rowOf (es.take i) e1).map encR) := by
        unfold rowsT
        rw [List.getElem?_map, List.getElem?_range l1] <;> rfl
      refine do_app (l := as[e1]) (ds := (rowOf (es.take i) e1).map encR) (d := encR (e2, e3)) (ev_ixV (us := as.map V.ref) (Dl := Dl) (atI_refs haa) (ev_v 1) (ev_v 2)) (findO_osG nas haa hrow) (ev_tup (ds := [.str e2, iN e3]) (ea_cons (ev_v 3) (ea_cons (ev_v 4) ea_nil))) ?_ ?_
      · have h1 : (rowOf (es.take i) e1).length ≤ (es.take i).length := List.length_filterMap_le _ _
        rw [List.length_map]
        rw [List.length_take] at h1
        omega
      · refine do_nil fun σ H' ⟨F', c⟩ => ⟨F', ?_⟩
        have c2 := c.fg (sl := sl0) (.keep (.keep (.drop (.drop (.drop .nil)))))
        have eos : putO as[e1] (ctL K ((rowOf (es.take i) e1).map encR ++ [encR (e2, e3)])) (osD K as (rowsT n (es.take i))) = osD K as (rowsT n (es.take (i + 1))) := by
          rw [htk, ← rowsT_step (e := (e1, e2, e3)) l1]
          exact putO_osG (ct := fun _ ds => ctL K ds) nas (by rw [has, rowsT_len]) haa
        show (Cn.mk T Fr H (fpT.and fp) sl0 (osD K as (rowsT n (es.take (i + 1))))).ok σ F' H'
        rw [← eos]
        exact c2
  · obtain ⟨F', c⟩ := c
    refine ⟨F', ?_⟩
    have c : (Cn.mk T Fr H fpT sl0 (osD K as (rowsT n (es.take ((es.map encE).map (isD K)).length)))).ok σ F' H' := c
    rw [List.length_map, List.length_map, List.take_length] at c
    exact c
  · refine do_frzRows (os1 := []) (as := as) (dss := rowsT n es) 1 Dl (by rw [has, rowsT_len]) rfl rfl ?_
    refine do_ret (R := isD K (rowsD n es)) (Ev.imp (ev_v 1) (fun v F h => by rw [rowsD_eq]; exact h)) (fun σ v F' H' cc hv => ret v F' H' cc.en hv)
end
end Kk

set_option Elab.async false
set_option autoImplicit false
set_option linter.all false
set_option maxRecDepth 100000
set_option maxHeartbeats 4000000
namespace Kk
open PySem L2 Pl
/-- data whose == is the equality of what it encodes -/
structure EncOk {α : Type} [DecidableEq α] (enc : α → PD) : Prop where
  eq : ∀ a b, PyData.eqv (enc a) (enc b) = decide (a = b)
  dep : ∀ a, (enc a).depth ≤ 5
abbrev sOnce : Stmt := top 34
abbrev sLMarks : Stmt := top 35
section
variable {P : Program} {w : World} {K : PySem.W.Frag} {mg : Str → Option Value} {base : Heap} {T : Tbs}
abbrev nOnce : List Str := ["rows", "found", "row"]
theorem scOnce : FnScope nOnce ["rows"] (defScope sOnce) := ⟨rfl, rfl, rfl, by decide +kernel, rfl, by decide +kernel, by decide +kernel⟩
theorem depAll {α : Type} [DecidableEq α] {enc : α → PD} (e : EncOk enc) : ∀ l : List α, PyData.depthAll (l.map enc) ≤ 5
  | [] => Nat.zero_le _
  | x :: l => by
    show max _ _ ≤ 5
    have := e.dep x
    have := depAll e l
    omega
theorem lay0 {α : Type} {enc : α → PD} : ∀ {l : List α}, (∀ x ∈ l, (enc x).canLay0 = true) → PyData.canLayAll0 (l.map enc) = true
  | [], _ => by simp [PyData.canLayAll0]
  | x :: l, h => by
    rw [List.map_cons, PyData.canLayAll0, h x List.mem_cons_self, lay0 (l := l) fun y hy => h y (List.mem_cons_of_mem _ hy)] <;> rfl
theorem layAll {α : Type} [DecidableEq α] {enc : α → PD} (e : EncOk enc) (l : List α) (hy : ∀ x ∈ l, (enc x).canLay0 = true) : SeqAt.shaped (.list (l.map enc)) = true := by
  unfold SeqAt.shaped
  rw [Bool.and_eq_true]
  refine ⟨?_, decide_eq_true ?_⟩
  · rw [PyData.canLay0]; exact lay0 hy
  · have := depAll e l
    show PyData.depthAll _ + 1 ≤ 64
    omega
theorem shp {α : Type} [DecidableEq α] {enc : α → PD} (e : EncOk enc) (a : α) (h : (enc a).canLay0 = true) : SeqAt.shaped (enc a) = true := by
  unfold SeqAt.shaped
  rw [Bool.and_eq_true]
  exact ⟨h, decide_eq_true (Nat.le_trans (e.dep a) (by decide))⟩
theorem any_enc {α : Type} [DecidableEq α] {enc : α → PD} (e : EncOk enc) (x : α) (l : List α) : ((l.map enc).any fun z => PyData.eqv z (enc x)) = decide (x ∈ l) := by
  induction l with
  | nil => simp
  | cons y l ih =>
    rw [List.map_cons, List.any_cons, ih, e.eq]
    by_cases h : y = x
    · simp [h]
    · have : ¬ x = y := fun z => h z.symm
      simp [h, this]
/-- the body of _law_once, over lists of any such data -/
theorem once_body {α : Type} [DecidableEq α] {enc : α → PD} (e : EncOk enc) {f : Addr} {cdv : Value} {A : Around} {outer : List Env} {s : Shared} {H Fr : Hp} {E : XK} {k : Nat} (l : List α) (hl : l.length ≤ 1000) (hy : ∀ x ∈ l, (enc x).canLay0 = true) {D : Ends} (hr : Room k (A.deeper (PyProof.Rows.envOfC "_law_once" (defScope sOnce) s.heap.objs.size f cdv)))
    (ret : ∀ v F' H', Le T Fr H F' H' → (isD K (.list ((once l).map enc))).p v F' → D.rt v H') : Do (bodyX P w K mg base nOnce "_law_once" sOnce f cdv A outer s H E) (defBody sOnce) (Cn.mk T Fr H fpT [some (isD K (.list (l.map enc))), none, none] []).at D := by
  have hu : (A.deeper (PyProof.Rows.envOfC "_law_once" (defScope sOnce) s.heap.objs.size f cdv)).units + 64 < cLine := hr.units
  have hu65 : (A.deeper (PyProof.Rows.envOfC "_law_once" (defScope sOnce) s.heap.objs.size f cdv)).units + 65 < cLine := by have := hr.un; omega
  refine do_own scOnce.nd (i := 1) rfl (.inl rfl) (en_lst (ds := []) ea_nil) (fun q => ?_) (by show 1 < 3; decide)
  let sl0 : List (Option Rp) := [some (isD K (.list (l.map enc))), some (isA q), none]
  refine do_for (fun i => (sl0, [(q, ctL K ((once (l.take i)).map enc))])) (M := (Cn.mk T Fr H fpT sl0 [(q, ctL K ((once l).map enc))]).at) (iv_list (ds := l.map enc) (ev_v 0)) (fun σ F' H' c => c) ?_ (fun σ H' c => ?_) ?_
  · intro i R fp hR
    rw [List.getElem?_map, List.getElem?_map] at hR
    cases he : l[i]? with
    | none => rw [he] at hR; cases hR
    | some x =>
      rw [he] at hR
      cases hR
      have htk : l.take (i + 1) = l.take i ++ [x] := by rw [List.take_succ, he] <;> rfl
      have hi : i < l.length := (List.getElem?_eq_some_iff.mp he).1
      have hol : (once (l.take i)).length ≤ 1000 := Nat.le_trans (once_len _) (by rw [List.length_take]; omega)
      refine ⟨_, _, tg_name scOnce.nd (i := 2) rfl (.inl rfl) (by show 2 < 3; decide), ?_⟩
      refine do_if (b := !decide (x ∈ once (l.take i))) (M := (Cn.mk T Fr H (fpT.and fp) sl0 [(q, ctL K ((once (l.take (i + 1))).map enc))]).at) (et_is (et_ninDO hu65 (ds := (once (l.take i)).map enc) (d := enc x) findO_head (shp e x (hy x (List.mem_of_getElem? he))) (layAll e _ fun y hm => hy y (List.mem_of_mem_take (mem_once.mp hm))) (ev_v 2) (ev_v 1)) (by rw [any_enc e])) (fun hb => ?_) (fun hb => ?_) (do_nil fun σ H' c => c)
      · have hx : x ∉ once (l.take i) := fun z => by
          rw [decide_eq_true z] at hb
          cases hb
        refine do_app (l := q) (ds := (once (l.take i)).map enc) (d := enc x) (ev_v 1) findO_head (ev_v 2) (by rw [List.length_map]; omega) ?_
        refine do_nil fun σ H' ⟨F', c⟩ => ⟨F', ?_⟩
        have c2 := c.fg (sl := sl0) (.keep (.keep (.drop .nil)))
        have ec : putO q (ctL K ((once (l.take i)).map enc ++ [enc x])) [(q, ctL K ((once (l.take i)).map enc))] = [(q, ctL K ((once (l.take (i + 1))).map enc))] := by
          rw [putO_head, htk, once_snoc, if_neg hx, List.map_append] <;> rfl
        rw [← ec]
        exact c2
      · have hx : x ∈ once (l.take i) := Classical.byContradiction fun z => by
          rw [decide_eq_false z] at hb
          cases hb
        refine do_nil fun σ H' ⟨F', c⟩ => ⟨F', ?_⟩
        have c2 := c.fg (sl := sl0) (.keep (.keep (.drop .nil)))
        rw [htk, once_snoc, if_pos hx]
        exact c2
  · obtain ⟨F', c⟩ := c
    refine ⟨F', ?_⟩
    have c : (Cn.mk T Fr H fpT sl0 [(q, ctL K ((once (l.take ((l.map enc).map (isD K)).length)).map enc))]).ok σ F' H' := c
    rw [List.length_map, List.length_map, List.take_length] at c
    exact c
  · refine do_frzL 1 q (ds := (once l).map enc) rfl findO_head ?_
    exact do_ret (R := isD K (.list ((once l).map enc))) (ev_v 1) (fun σ v F' H' cc hv => ret v F' H' cc.en hv)
/-- what _law_once is given -/
inductive OnceA where
  | r (l : List Rw)
  | e (l : List Ed)
  | n (l : List Nat)
def OnceA.ds : OnceA → PD
  | .r l => .list (l.map encR)
  | .e l => .list (l.map encE)
  | .n l => .list (l.map iN)
def OnceA.out : OnceA → PD
  | .r l => .list ((once l).map encR)
  | .e l => .list ((once l).map encE)
  | .n l => .list ((once l).map iN)
def OnceA.ok : OnceA → Prop
  | .r l => l.length ≤ 1000 ∧ ∀ r ∈ l, r.1 ∈ acts
  | .e l => l.length ≤ 1000 ∧ ∀ e ∈ l, e.2.1 ∈ acts
  | .n l => l.length ≤ 1000
theorem act_lay {a : Str} (h : a ∈ acts) : (PyData.str a).canLay0 = true := by
  have : ∀ x ∈ acts, (PyData.str x).canLay0 = true := by decide +kernel
  exact this a h
theorem ok_R : EncOk encR := ⟨fun a b => by
  obtain ⟨a1, a2⟩ := a
  obtain ⟨b1, b2⟩ := b
  by_cases h1 : a1 = b1
  · by_cases h2 : a2 = b2
    · subst h1; subst h2; simp [encR, PyData.eqv, PyData.eqvAll]
    · have : ¬ ((a2 : Int) = (b2 : Int)) := fun z => h2 (Int.ofNat.inj z)
      simp [encR, PyData.eqv, PyData.eqvAll, h2] <;> (intros; omega)
  · simp [encR, PyData.eqv, PyData.eqvAll, h1], fun a => by simp [encR, PyData.depth, PyData.depthAll]⟩
theorem ok_E : EncOk encE := ⟨fun a b => by
  obtain ⟨a1, a2, a3⟩ := a
  obtain ⟨b1, b2, b3⟩ := b
  by_cases h1 : a1 = b1
  · by_cases h2 : a2 = b2
    · by_cases h3 : a3 = b3
      · subst h1; subst h2; subst h3; simp [encE, PyData.eqv, PyData.eqvAll]
      · simp [encE, PyData.eqv, PyData.eqvAll, h3] <;> (intros; omega)
    · simp [encE, PyData.eqv, PyData.eqvAll, h2]
  · simp [encE, PyData.eqv, PyData.eqvAll, h1] <;> (intros; omega), fun a => by simp [encE, PyData.depth, PyData.depthAll]⟩
theorem ok_N : EncOk iN := ⟨fun a b => by
  by_cases h1 : a = b
  · subst h1; simp [iN, PyData.eqv]
  · simp [iN, PyData.eqv, h1] <;> omega, fun a => by simp [iN, PyData.depth]⟩
theorem df_once {f : Addr} {fd : FuncData} (F : Fun K "_law_once" "_law_once" sOnce f fd) (hm : mg "_law_once" = some (.ref f)) (hb : Binds K fd ["rows"] []) :
    Df P w K mg base 1 "_law_once" (Pu T OnceA.ok (fun a => [isD K a.ds]) (fun a => isD K a.out)) := by
  refine df_pure _ _ _ F scOnce hm hb (fun _ => rfl) ?_
  intro cdv A outer s H Fr E a D hr hok ret _
  cases a with
  | r l => exact once_body ok_R l hok.1 (fun x hx => by simp only [encR, PyData.canLay0, PyData.canLayAll0]; have := act_lay (hok.2 x hx); simp only [PyData.canLay0] at this; simp [this]) hr ret
  | e l => exact once_body ok_E l hok.1 (fun x hx => by simp only [encE, PyData.canLay0, PyData.canLayAll0]; have := act_lay (hok.2 x hx); simp only [PyData.canLay0] at this; simp [this]) hr ret
  | n l => exact once_body ok_N l hok (fun x _ => by simp [iN, PyData.canLay0]) hr ret
end
end Kk

set_option Elab.async false
set_option autoImplicit false
set_option linter.all false
set_option maxRecDepth 100000
set_option maxHeartbeats 4000000
namespace Kk
open PySem L2 Pl
theorem dget_mkV {α : Type} [DecidableEq α] {enc : α → PD} (he : ∀ a b, enc a = enc b → a = b) (o : List α) (ms : List Nat) (x : α) : dget (numP enc (if x ∈ o then o else o ++ [x])) (enc x) = some (iN (mkV (o, ms) x)) := by
  rw [dget_numP he, if_pos (by split; assumption; simp)]
  rfl
section
variable {P : Program} {w : World} {K : PySem.W.Frag} {mg : Str → Option Value} {base : Heap} {T : Tbs}
abbrev nLMarks : List Str := ["keys", "table", "found", "key"]
theorem scLMarks : FnScope nLMarks ["keys"] (defScope sLMarks) := ⟨rfl, rfl, rfl, by decide +kernel, rfl, by decide +kernel, by decide +kernel⟩
theorem df_lmarks {f : Addr} {fd : FuncData} (F : Fun K "_law_marks" "_law_marks" sLMarks f fd) (hm : mg "_law_marks" = some (.ref f)) (hb : Binds K fd ["keys"] []) (mLen : mg "len" = none) :
    Df P w K mg base 1 "_law_marks" (Pu T (fun ks : List Ky => ks.length ≤ 1000) (fun ks => [isD K (.list (ks.map encK))]) (fun ks => isD K (.list ((marks ks).map iN)))) := by
  refine df_pure _ _ _ F scLMarks hm hb (fun _ => rfl) ?_
  intro cdv A outer s H Fr E ks D hr hz ret _
  have hz : ks.length ≤ 1000 := hz
  have hu : (A.deeper (PyProof.Rows.envOfC "_law_marks" (defScope sLMarks) s.heap.objs.size f cdv)).units + 64 < cLine := hr.units
  refine do_ownN scLMarks.nd (n := 1) rfl (.inl rfl) (fun q1 => ?_) (by show 1 < 4; decide)
  refine do_own scLMarks.nd (i := 2) rfl (.inl rfl) (en_lst (ds := []) ea_nil) (fun q2 => ?_) (by show 2 < 4; decide)
  refine Do.nd fun nd => ?_
  have nd : [q2, q1].Nodup := nd
  have n21 : q2 ≠ q1 := by simp at nd; exact nd
  let sl0 : List (Option Rp) := [some (isD K (.list (ks.map encK))), some (isA q1), some (isA q2), none]
  let os0 : List Ky × List Nat → List (Addr × Ct) := fun st => [(q2, ctL K (st.2.map iN)), (q1, ctDN P w K q1 (numP encK st.1))]
  refine do_for (fun i => (sl0, os0 (mks (ks.take i)))) (M := (Cn.mk T Fr H fpT sl0 (os0 (mks ks))).at) (iv_list (ds := ks.map encK) (ev_v 0)) (fun σ F' H' c => c) ?_ (fun σ H' c => ?_) ?_
  · intro i R fp hR
    rw [List.getElem?_map, List.getElem?_map] at hR
    cases he : ks[i]? with
    | none => rw [he] at hR; cases hR
    | some k =>
      rw [he] at hR
      cases hR
      have htk : ks.take (i + 1) = ks.take i ++ [k] := by rw [List.take_succ, he] <;> rfl
      have hi : i < ks.length := (List.getElem?_eq_some_iff.mp he).1
      have hol : (mks (ks.take i)).1.length ≤ 1000 := by
        rw [mks_once]
        exact Nat.le_trans (once_len _) (by rw [List.length_take]; omega)
      have hml : (mks (ks.take i)).2.length ≤ 1000 := by
        have := marks_len (ks.take i)
        unfold marks at this
        rw [this, List.length_take]
        omega
      have hnx : mks (ks.take (i + 1)) = mkS (mks (ks.take i)) k := by rw [htk, mks_snoc]
      show ∃ C' ws, Tg _ (Cn.mk T Fr H (fpT.and fp) sl0 (os0 (mks (ks.take i)))) (isD K (encK k)) _ C' ws ∧ Do _ _ C'.at { nx := (Cn.mk T Fr H (fpT.and fp) sl0 (os0 (mks (ks.take (i + 1))))).at, ct := (Cn.mk T Fr H (fpT.and fp) sl0 (os0 (mks (ks.take (i + 1))))).at, bk := _, rt := D.rt }
      rw [hnx]
      generalize mks (ks.take i) = st at hol hml
      obtain ⟨o, mz⟩ := st
      have hol : o.length ≤ 1000 := hol
      have hml : mz.length ≤ 1000 := hml
      refine ⟨_, _, tg_name scLMarks.nd (i := 3) rfl (.inl rfl) (by show 3 < 4; decide), ?_⟩
      let o' : List Ky := (mkS (o, mz) k).1
      let sl1 : List (Option Rp) := [some (isD K (.list (ks.map encK))), some (isA q1), some (isA q2), some (isD K (encK k))]
      have hkl : (numP encK o).length < 100000 := by rw [numP_len]; omega
      have f1 : findO q1 (os0 (o, mz)) = some (ctDN P w K q1 (numP encK o)) := (findO_next n21).trans findO_head
      have hd := dget_numP (enc := encK) encK_inj o k
      have hmem : k ∈ o' := by
        show k ∈ (mkS (o, mz) k).1
        unfold mkS
        simp only
        split
        · assumption
        · simp
      refine do_if (b := !(dget (numP encK o) (encK k)).isSome) (M := (Cn.mk T Fr H (fpT.and fp) sl1 (os0 (o', mz))).at) (et_ninN (k := encK k) hu f1 (kd_K k) (ev_v 3) (ev_v 1)) (fun hb => ?_) (fun hb => ?_) ?_
      · have hx : k ∉ o := fun z => by
          rw [hd, if_pos z] at hb
          cases hb
        have eo : o' = o ++ [k] := if_neg hx
        refine do_dputN (k := encK k) (v := iN (numP encK o).length) hu f1 (kd_K k) hkl (ev_v 1) (ev_v 3) (ev_lenN f1 hkl mLen (ev_v 1)) ?_
        refine do_nil fun σ H' ⟨F', c⟩ => ⟨F', ?_⟩
        have ec : putO q1 (ctDN P w K q1 (dput (numP encK o) (encK k) (iN (numP encK o).length))) (os0 (o, mz)) = os0 (o', mz) := by
          show putO q1 _ [(q2, _), (q1, _)] = [(q2, ctL K (mz.map iN)), (q1, ctDN P w K q1 (numP encK o'))]
          rw [putO_next n21, putO_head, eo, numP_snoc, numP_len, dput_new (by rw [hd, if_neg hx])]
        rw [← ec]
        exact c
      · have hx : k ∈ o := Classical.byContradiction fun z => by
          rw [hd, if_neg z] at hb
          cases hb
        have eo : o' = o := if_pos hx
        rw [eo]
        exact do_nil fun σ H' c => c
      · have g1 : findO q1 (os0 (o', mz)) = some (ctDN P w K q1 (numP encK o')) := (findO_next n21).trans findO_head
        have hg : dget (numP encK o') (encK k) = some (iN (mkV (o, mz) k)) := dget_mkV encK_inj o mz k
        refine do_app (l := q2) (ds := mz.map iN) (d := iN (mkV (o, mz) k)) (ev_v 2) findO_head (ev_dgetN (k := encK k) (v := iN (mkV (o, mz) k)) hu g1 (kd_K k) hg (ev_v 1) (ev_v 3)) (by rw [List.length_map]; omega) ?_
        refine do_nil fun σ H' ⟨F', c⟩ => ⟨F', ?_⟩
        have c2 := c.fg (sl := sl0) (.keep (.keep (.keep (.drop .nil))))
        have ec : putO q2 (ctL K (mz.map iN ++ [iN (mkV (o, mz) k)])) (os0 (o', mz)) = os0 (mkS (o, mz) k) := by
          show putO q2 _ [(q2, _), (q1, _)] = [(q2, ctL K ((mkS (o, mz) k).2.map iN)), (q1, ctDN P w K q1 (numP encK o'))]
          rw [putO_head]
          show _ = [(q2, ctL K ((mz ++ [mkV (o, mz) k]).map iN)), _]
          rw [List.map_append] <;> rfl
        rw [← ec]
        exact c2
  · obtain ⟨F', c⟩ := c
    refine ⟨F', ?_⟩
    have c : (Cn.mk T Fr H fpT sl0 (os0 (mks (ks.take ((ks.map encK).map (isD K)).length)))).ok σ F' H' := c
    rw [List.length_map, List.length_map, List.take_length] at c
    exact c
  · refine do_frzL 2 q2 (ds := (mks ks).2.map iN) rfl findO_head ?_
    exact do_ret (R := isD K (.list ((marks ks).map iN))) (ev_v 2) (fun σ v F' H' cc hv => ret v F' H' cc.en hv)
end
end Kk

set_option Elab.async false
set_option autoImplicit false
set_option linter.all false
set_option maxRecDepth 100000
set_option maxHeartbeats 4000000
namespace Kk
open PySem L2 Pl
abbrev sLRounds : Stmt := top 36
/-- nothing fits -/
def isNo : Rp := ⟨fun _ _ => False, fun _ h => h⟩
section
variable {P : Program} {w : World} {K : PySem.W.Frag} {mg : Str → Option Value} {base : Heap} {T : Tbs}
abbrev nLRounds : List Str := ["rows", "marks", "found", "turn", "keys", "state", "following", "action", "target"]
theorem scLRounds : FnScope nLRounds ["rows", "marks"] (defScope sLRounds) := ⟨rfl, rfl, rfl, by decide +kernel, rfl, by decide +kernel, by decide +kernel⟩
theorem df_lrounds {f : Addr} {fd : FuncData} (F : Fun K "_law_rounds" "_law_rounds" sLRounds f fd) (hm : mg "_law_rounds" = some (.ref f)) (hb : Binds K fd ["rows", "marks"] []) (mLen : mg "len" = none) (mRange : mg "range" = none) (mSorted : mg "sorted" = none) (mTuple : mg "tuple" = none)
    (dO : Df P w K mg base 1 "_law_once" (Pu T OnceA.ok (fun a => [isD K a.ds]) (fun a => isD K a.out)))
    (dM : Df P w K mg base 1 "_law_marks" (Pu T (fun ks : List Ky => ks.length ≤ 1000) (fun ks => [isD K (.list (ks.map encK))]) (fun ks => isD K (.list ((marks ks).map iN))))) :
    Df P w K mg base 2 "_law_rounds" (Pu T (fun a : Nat × (Nat → List Rw) => Rw6 a.1 a.2 ∧ ∀ s, s < a.1 → ∀ r ∈ a.2 s, r.1 ∈ acts) (fun a => [isD K (rowsP a.1 a.2), isD K (rdD a.1 a.2 0)]) (fun a => isD K (rdsD a.1 a.2 (stopK a.1 a.2)))) := by
  refine df_pure _ _ _ F scLRounds hm hb (fun _ => rfl) ?_
  rintro cdv A outer s H Fr E ⟨n, rw⟩ D hr ⟨wf, hact⟩ ret _
  have wf : Rw6 n rw := wf
  have hact : ∀ s, s < n → ∀ r ∈ rw s, r.1 ∈ acts := hact
  have h100 := wf.few
  have hu : (A.deeper (PyProof.Rows.envOfC "_law_rounds" (defScope sLRounds) s.heap.objs.size f cdv)).units + 64 < cLine := hr.units
  have hst := stopK_spec (rw := rw) wf.pos
  generalize hsk : stopK n rw = sk at hst
  have hskn : sk < n := stop_lt wf.pos hst.1
  refine do_own scLRounds.nd (i := 2) rfl (.inr rfl) (en_lst (ds := [rdD n rw 0]) (ea_cons (ev_v 1) ea_nil)) (fun q => ?_) (by show 2 < 9; decide)
  let sl0 : List (Option Rp) := [some (isD K (rowsP n rw)), some (isD K (rdD n rw 0)), some (isA q), none, none, none, none, none, none]
  let slN : List (Option Rp) := [some isNo, none, none, none, none, none, none, none, none]
  let os0 : Nat → List (Addr × Ct) := fun k => [(q, ctL K ((List.range (k + 1)).map (rdD n rw)))]
  have hl0 : ((rd n rw 0).map iN).length = n := by rw [List.length_map, rd_len]
  have hmr : -(2 ^ 62) ≤ (((rd n rw 0).map iN).length : Int) + 1 ∧ (((rd n rw 0).map iN).length : Int) + 1 < 2 ^ 62 := by rw [hl0]; omega
  have hmr0 : -(2 ^ 62) ≤ (((rd n rw 0).map iN).length : Int) ∧ (((rd n rw 0).map iN).length : Int) < 2 ^ 62 := by rw [hl0]; omega
  have hrl : ∀ K' : PySem.W.Frag, (rngR K' 0 ((((rd n rw 0).map iN).length : Int) + 1).toNat).length = n + 1 := fun K' => by unfold rngR; rw [List.length_map, List.length_range, hl0]; omega
  have hrl0 : ∀ K' : PySem.W.Frag, (rngR K' 0 (((rd n rw 0).map iN).length : Int).toNat).length = n := fun K' => by unfold rngR; rw [List.length_map, List.length_range, hl0]; omega
  refine do_for (fun i => if i ≤ sk then (sl0, os0 i) else (slN, [])) (M := (Cn.mk T Fr H fpT sl0 (os0 sk)).at) (iv_rng1 (n := (((rd n rw 0).map iN).length : Int) + 1) (ev_addI (ev_lenL mLen (ev_v 1)) ev_int) mRange hmr) (fun σ F' H' c => ?_) ?_ (fun σ H' c => ?_) ?_
  · show (Cn.to _ (if 0 ≤ sk then (sl0, os0 0) else (slN, [])).1 (if 0 ≤ sk then (sl0, os0 0) else (slN, [])).2).ok σ F' H'
    rw [if_pos (Nat.zero_le _)]
    exact c
  · intro i R fp hR
    obtain ⟨hi, hRi⟩ := rngR_at hR
    by_cases hik : i ≤ sk
    · show ∃ C' ws, Tg _ (Cn.mk T Fr H (fpT.and fp) (if i ≤ sk then (sl0, os0 i) else (slN, [])).1 (if i ≤ sk then (sl0, os0 i) else (slN, [])).2) R _ C' ws ∧ Do _ _ C'.at { nx := (Cn.mk T Fr H (fpT.and fp) (if i + 1 ≤ sk then (sl0, os0 (i + 1)) else (slN, [])).1 (if i + 1 ≤ sk then (sl0, os0 (i + 1)) else (slN, [])).2).at, ct := (Cn.mk T Fr H (fpT.and fp) (if i + 1 ≤ sk then (sl0, os0 (i + 1)) else (slN, [])).1 (if i + 1 ≤ sk then (sl0, os0 (i + 1)) else (slN, [])).2).at, bk := (Cn.mk T Fr H fpT sl0 (os0 sk)).at, rt := D.rt }
      rw [if_pos hik]
      refine ⟨_, _, tg_name scLRounds.nd (i := 3) rfl (.inl rfl) (by show 3 < 9; decide), ?_⟩
      have hms : (rd n rw i).length = n := rd_len n rw i
      refine do_own scLRounds.nd (i := 4) rfl (.inl rfl) (en_lst (ds := []) ea_nil) (fun q2 => ?_) (by show 4 < 9; decide)
      refine Do.nd fun nd => ?_
      have nd : [q2, q].Nodup := nd
      have n21 : q2 ≠ q := by simp at nd; exact nd
      let slA : List (Option Rp) := [some (isD K (rowsP n rw)), some (isD K (rdD n rw 0)), some (isA q), some R, some (isA q2), none, none, none, none]
      let osA : Nat → List (Addr × Ct) := fun j => [(q2, ctL K (((List.range j).map (keyOf rw (rd n rw i))).map encK)), (q, ctL K ((List.range (i + 1)).map (rdD n rw)))]
      refine do_for (fun j => (slA, osA j)) (M := (Cn.mk T Fr H (fpT.and fp) slA (osA n)).at) (iv_rng1 (n := (((rd n rw 0).map iN).length : Int)) (ev_lenL mLen (ev_v 1)) mRange hmr0) (fun σ F' H' c => c) ?_ (fun σ H' c => ?_) ?_
      · intro j R2 fp2 hR2
        obtain ⟨hj, hRj⟩ := rngR_at hR2
        have hj : j < n := by rw [hl0] at hj; omega
        rw [Int.zero_add] at hRj
        subst hRj
        have hrow := wf.len j hj
        have hlt := wf.lt j hj
        refine ⟨_, _, tg_name scLRounds.nd (i := 5) rfl (.inl rfl) (by show 5 < 9; decide), ?_⟩
        let ps : List Rw := (rw j).map fun r => (r.1, (rd n rw i).getD r.2 0)
        have hpl : ps.length = (rw j).length := by show ((rw j).map _).length = _; rw [List.length_map]
        have hpo : (once ps).length ≤ ps.length := once_len ps
        have hfd : ∀ {sl : List (Option Rp)} {g : Fp}, findO q (Cn.mk T Fr H g sl (osA j)).os = some (ctL K ((List.range (i + 1)).map (rdD n rw))) := fun {sl g} => (findO_next n21).trans findO_head
        have hmade : ∀ m, m = (rw j).length → made m (fun _ => true) (fun k => encR (ps[k]?.getD ("", 0))) = ps.map encR := fun m hm => by
          rw [made_all]
          refine List.ext_getElem? fun k => ?_
          rw [List.getElem?_map, List.getElem?_map]
          by_cases hk : k < m
          · have hkp : k < ps.length := by omega
            have e1 : ps[k]? = some ps[k] := List.getElem?_eq_getElem hkp
            rw [List.getElem?_range hk]
            show some (encR (ps[k]?.getD ("", 0))) = _
            rw [e1] <;> rfl
          · rw [List.getElem?_eq_none (by rw [List.length_range]; omega), List.getElem?_eq_none (by omega)] <;> rfl
        refine do_app (l := q2) (ds := ((List.range j).map (keyOf rw (rd n rw i))).map encK) (d := encK (keyOf rw (rd n rw i) j)) (ev_v 4) findO_head (ev_tup (ds := [iN ((rd n rw i).getD j 0), .tuple ((srtR (once ps)).map encR)]) (ea_cons (ev_ixL (getD_iN (by omega)) (ev_ixO (d := .list ((rd n rw i).map iN)) hfd (rds_last n rw i) (ev_v 2) (ev_negI ev_int)) (ev_v 5))
          (ea_cons (Ev.imp (ev_tupL mTuple (En.ev (en_sortedL (ds := (once ps).map encR) (sb_R (once ps) (by omega)) hu mSorted (ev_call (R := fun a => isD K a.out) dO (hr.mono (by decide)) (OnceA.r ps) ⟨by omega, fun r hr2 => by
              obtain ⟨r0, h1, rfl⟩ := List.mem_map.mp hr2
              exact hact j hj r0 h1⟩ (ea1 (Ev.imp (En.ev (en_lc (own := [("action", 7), ("target", 8)]) (fun _ => true) (fun k => encR (ps[k]?.getD ("", 0))) (iv_list (ds := (rw j).map encR) (ev_ixL (d := .list ((rw j).map encR)) (atI_nat (by rw [List.getElem?_map, List.getElem?_range hj] <;> rfl)) (ev_v 0) (ev_v 5))) (blkOk_by (N := nLRounds) (sc := defScope sLRounds) (by decide +kernel)) (by rw [List.length_map, List.length_map]; omega) (fun k R3 fp3 hR3 => ?_) scLRounds.nd)) (fun v F h => ?_))))))) (fun v F h => by rw [srt_R] at h; exact h)) ea_nil))) (by rw [List.length_map, List.length_map, List.length_range]; omega) ?_
        · rw [List.getElem?_map, List.getElem?_map] at hR3
          cases he : (rw j)[k]? with
          | none => rw [he] at hR3; cases hR3
          | some r =>
            rw [he] at hR3
            cases hR3
            have hr2 := hlt r (List.mem_of_getElem? he)
            have hpj : ps[k]?.getD ("", 0) = (r.1, (rd n rw i).getD r.2 0) := by
              show ((rw j).map _)[k]?.getD _ = _
              rw [List.getElem?_map, he] <;> rfl
            rw [hpj]
            obtain ⟨ra, rt⟩ := r
            refine ⟨Cn.mk T Fr H (((fpT.and fp).and fp2).and fp3) [some (isD K (rowsP n rw)), some (isD K (rdD n rw 0)), some (isA q), some R, some (isA q2), some (isD K (iN j)), none, some (isD K (.str ra)), some (isD K (iN rt))] (osA j), [7, 8], by simp, rfl, fun s1 H1 Ca cl fps => ⟨tg_tup rfl (ds := [.str ra, iN rt]) (.cons (tg_name scLRounds.nd (i := 7) rfl (.inl rfl) (by show 7 < 9; decide)) rfl (.cons (tg_name scLRounds.nd (i := 8) rfl (.inl rfl) (by show 8 < 9; decide)) rfl .nil)), ets_nil, fun _ => ?_⟩⟩
            exact ev_tup (ds := [.str ra, iN ((rd n rw i).getD rt 0)]) (ea_cons (ev_v 7) (ea_cons (ev_ixL (getD_iN (by rw [hms]; exact hr2)) (ev_ixO (d := .list ((rd n rw i).map iN)) hfd (rds_last n rw i) (ev_v 2) (ev_negI ev_int)) (ev_v 8)) ea_nil))
        · rw [List.length_map, List.length_map, hmade _ rfl] at h
          exact h
        · refine do_nil fun σ H' ⟨F', c⟩ => ⟨F', ?_⟩
          have c2 := c.fg (sl := slA) (.keep (.keep (.keep (.keep (.keep (.drop (.keep (.keep (.keep .nil)))))))))
          have ec : putO q2 (ctL K (((List.range j).map (keyOf rw (rd n rw i))).map encK ++ [encK (keyOf rw (rd n rw i) j)])) (osA j) = osA (j + 1) := by
            show putO q2 _ [(q2, _), _] = [(q2, ctL K (((List.range (j + 1)).map (keyOf rw (rd n rw i))).map encK)), _]
            rw [putO_head, List.range_succ (n := j), List.map_append, List.map_append] <;> rfl
          show (Cn.mk T Fr H ((fpT.and fp).and fp2) slA (osA (j + 1))).ok σ F' H'
          rw [← ec]
          exact c2
      · rw [hrl0] at c
        exact c
      · refine do_frzL 4 q2 (ds := ((List.range n).map (keyOf rw (rd n rw i))).map encK) rfl findO_head ?_
        refine do_set scLRounds.nd (i := 6) rfl (.inl rfl) (R := isD K (rdD n rw (i + 1))) (ev_call (R := fun ks => isD K (.list ((marks ks).map iN))) dM hr ((List.range n).map (keyOf rw (rd n rw i))) (by rw [List.length_map, List.length_range]; omega) (ea1 (ev_v 4))) ?_ (by show 6 < 9; decide)
        have hfq : ∀ {sl : List (Option Rp)} {g : Fp}, findO q (Cn.mk T Fr H g sl [(q, ctL K ((List.range (i + 1)).map (rdD n rw)))]).os = some (ctL K ((List.range (i + 1)).map (rdD n rw))) := fun {sl g} => findO_head
        refine Do.eq (C' := Cn.mk T Fr H (fpT.and fp) [some (isD K (rowsP n rw)), some (isD K (rdD n rw 0)), some (isA q), some R, some (isD K (.list (((List.range n).map (keyOf rw (rd n rw i))).map encK))), none, some (isD K (rdD n rw (i + 1))), none, none] [(q, ctL K ((List.range (i + 1)).map (rdD n rw)))]) (by
          show Cn.mk T Fr H (fpT.and fp) [some (isD K (rowsP n rw)), some (isD K (rdD n rw 0)), some (isA q), some R, some (isD K (.list (((List.range n).map (keyOf rw (rd n rw i))).map encK))), none, some (isD K (rdD n rw (i + 1))), none, none] (dropO q2 (osA n)) = _
          rw [show dropO q2 (osA n) = [(q, ctL K ((List.range (i + 1)).map (rdD n rw)))] from dropO_head]) ?_
        have l1 : (rd n rw (i + 1)).length ≤ 1000 := by rw [rd_len]; omega
        have l2 : (rd n rw i).length ≤ 1000 := by rw [rd_len]; omega
        refine do_ifr (et_eq eqI (ev_lenL mLen (ds := (once (rd n rw (i + 1))).map iN) (ev_call (R := fun a => isD K a.out) dO hr (OnceA.n (rd n rw (i + 1))) l1 (ea1 (ev_v 6)))) (ev_lenL mLen (ds := (once (rd n rw i)).map iN) (ev_call (R := fun a => isD K a.out) dO hr (OnceA.n (rd n rw i)) l2 (ea1 (ev_ixO (d := rdD n rw i) hfq (rds_last n rw i) (ev_v 2) (ev_negI ev_int)))))) (fun hb => ?_) (fun hb => ?_)
        · have hb := of_decide_eq_true hb
          rw [List.length_map, List.length_map] at hb
          have hc : cnt (rd n rw (i + 1)) = cnt (rd n rw i) := Int.ofNat.inj hb
          have hisk : i = sk := by
            rcases Nat.lt_or_ge i sk with h | h
            · exact absurd hc (hst.1 i h)
            · omega
          refine do_brk fun σ H' ⟨F', c⟩ => ?_
          rw [← hisk]
          have c2 := c.fg (sl := sl0) (.keep (.keep (.keep (.drop (.drop (.drop (.drop (.drop (.drop .nil)))))))))
          exact ⟨F', c2.w, c2.len, c2.sl, c2.os, c2.nd, c2.ff.1, c2.en⟩
        · have hb := of_decide_eq_false hb
          rw [List.length_map, List.length_map] at hb
          have hisk : i + 1 ≤ sk := by
            rcases Nat.lt_or_ge i sk with h | h
            · exact h
            · have e : i = sk := by omega
              subst e
              exact absurd (congrArg Int.ofNat hst.2) hb
          rw [if_pos hisk]
          refine do_app (l := q) (ds := (List.range (i + 1)).map (rdD n rw)) (d := rdD n rw (i + 1)) (ev_v 2) findO_head (ev_v 6) (by rw [List.length_map, List.length_range]; omega) ?_
          refine do_nil fun σ H' ⟨F', c⟩ => ⟨F', ?_⟩
          have c2 := c.fg (sl := sl0) (.keep (.keep (.keep (.drop (.drop (.drop (.drop (.drop (.drop .nil)))))))))
          have ec : putO q (ctL K ((List.range (i + 1)).map (rdD n rw) ++ [rdD n rw (i + 1)])) [(q, ctL K ((List.range (i + 1)).map (rdD n rw)))] = os0 (i + 1) := by
            show _ = [(q, ctL K ((List.range (i + 1 + 1)).map (rdD n rw)))]
            rw [putO_head, List.range_succ (n := i + 1), List.map_append] <;> rfl
          show (Cn.mk T Fr H (fpT.and fp) sl0 (os0 (i + 1))).ok σ F' H'
          rw [← ec]
          exact c2
    · refine ⟨_, _, tg_name scLRounds.nd (i := 3) rfl (.inl rfl) ?_, ?_⟩
      · show 3 < (if i ≤ sk then (sl0, os0 i) else (slN, [])).1.length
        rw [if_neg hik]
        decide
      · refine Do.no.pre fun σ H' ⟨F', c⟩ => ?_
        have h1 := c.sl 0 isNo (by
          show ((if i ≤ sk then (sl0, os0 i) else (slN, [])).1.set 3 (some R))[0]? = _
          rw [if_neg hik] <;> rfl)
        obtain ⟨v, _, h2⟩ := h1
        exact h2
  · rw [hrl] at c
    obtain ⟨F', c⟩ := c
    have h1 := c.sl 0 isNo (by
      show ((if n + 1 ≤ sk then (sl0, os0 (n + 1)) else (slN, [])).1)[0]? = _
      rw [if_neg (by omega)] <;> rfl)
    obtain ⟨v, _, h2⟩ := h1
    exact h2.elim
  · refine do_frzL 2 q (ds := (List.range (sk + 1)).map (rdD n rw)) rfl findO_head ?_
    refine do_ret (R := isD K (rdsD n rw sk)) (ev_v 2) (fun σ v F' H' cc hv => ret v F' H' cc.en ?_)
    show Dp K F' v (rdsD n rw (stopK n rw))
    rw [hsk]
    exact hv
end
end Kk

set_option Elab.async false
set_option autoImplicit false
set_option linter.all false
set_option maxRecDepth 100000
set_option maxHeartbeats 4000000
namespace Kk
open PySem L2 Pl
abbrev sLStr : Stmt := top 38
section
variable {P : Program} {w : World} {K : PySem.W.Frag} {mg : Str → Option Value} {base : Heap} {T : Tbs}
abbrev nLStr : List Str := ["parts", "state"]
theorem scLStr : FnScope nLStr ["parts"] (defScope sLStr) := ⟨rfl, rfl, rfl, by decide +kernel, rfl, by decide +kernel, by decide +kernel⟩
theorem df_lstr {f : Addr} {fd : FuncData} (F : Fun K "_law_strong_rounds" "_law_strong_rounds" sLStr f fd) (hm : mg "_law_strong_rounds" = some (.ref f)) (hb : Binds K fd ["parts"] []) (mRange : mg "range" = none)
    (dR : Df P w K mg base 2 "_law_rounds" (Pu T (fun a : Nat × (Nat → List Rw) => Rw6 a.1 a.2 ∧ ∀ s, s < a.1 → ∀ r ∈ a.2 s, r.1 ∈ acts) (fun a => [isD K (rowsP a.1 a.2), isD K (rdD a.1 a.2 0)]) (fun a => isD K (rdsD a.1 a.2 (stopK a.1 a.2)))))
    (dW : Df P w K mg base 1 "_law_rows" (Pu T (fun a : Nat × List Ed => WfL a.1 a.2) (fun a => [isD K (partsD a.1 a.2)]) (fun a => isD K (rowsD a.1 a.2)))) :
    Df P w K mg base 3 "_law_strong_rounds" (Pu T (fun a : Nat × List Ed => WfL a.1 a.2 ∧ a.2.length < 63) (fun a => [isD K (partsD a.1 a.2)]) (fun a => isD K (rdsD a.1 (rowOf a.2) (stopK a.1 (rowOf a.2))))) := by
  refine df_pure _ _ _ F scLStr hm hb (fun _ => rfl) ?_
  rintro cdv A outer s H Fr E ⟨n, es⟩ D hr ⟨wf, hlen⟩ ret _
  have wf : WfL n es := wf
  have hlen : es.length < 63 := hlen
  have h100 := wf.few
  have hrl : ∀ K' : PySem.W.Frag, (rngR K' 0 (n : Int).toNat).length = n := fun K' => by unfold rngR; rw [List.length_map, List.length_range]; omega
  refine do_ret (R := isD K (rdsD n (rowOf es) (stopK n (rowOf es)))) (ev_call (R := fun a : Nat × (Nat → List Rw) => isD K (rdsD a.1 a.2 (stopK a.1 a.2))) dR hr (n, rowOf es) ⟨wf_rw6 wf hlen, fun s _ r hr => wf.act (s, r) (mem_rowOf.mp hr)⟩ (ea_cons (ev_call (R := fun a : Nat × List Ed => isD K (rowsD a.1 a.2)) dW (hr.mono (by decide)) (n, es) wf (ea1 (ev_v 0)))
    (ea_cons (Ev.imp (En.ev (en_lc (own := [("state", 1)]) (fun _ => true) (fun i => iN 0) (iv_rng1 (n := (n : Int)) (ev_ixT (ds := [iN n, .list (es.map encE)]) (i := 0) (d := iN n) rfl (ev_v 0) ev_int) mRange (by omega)) (blkOk_by (N := nLStr) (sc := defScope sLStr) (by decide +kernel)) (by rw [hrl]; omega) (fun i R fp hR => ?_) scLStr.nd)) (fun v F h => ?_)) ea_nil))) (fun σ v F' H' c hv => ret v F' H' c.en hv)
  · obtain ⟨hi, hRi⟩ := rngR_at hR
    rw [Int.zero_add] at hRi
    subst hRi
    exact ⟨Cn.mk T Fr H (fpT.and fp) [some (isD K (partsD n es)), some (isD K (iN i))] [], [1], by simp, rfl, fun s1 H1 Ca cl fps => ⟨tg_name scLStr.nd (i := 1) rfl (.inl rfl) (by show 1 < 2; decide), ets_nil, fun _ => ev_int⟩⟩
  · rw [made_all, hrl] at h
    have e : (List.range n).map (fun _ => iN 0) = (rd n (rowOf es) 0).map iN := by
      show _ = (List.replicate n 0).map iN
      rw [List.map_replicate]
      refine List.ext_getElem? fun j => ?_
      rw [List.getElem?_map, List.getElem?_replicate]
      by_cases hj : j < n
      · rw [List.getElem?_range hj, if_pos hj] <;> rfl
      · rw [List.getElem?_eq_none (by rw [List.length_range]; omega), if_neg hj] <;> rfl
    rw [e] at h
    exact h
end
end Kk

set_option Elab.async false
set_option autoImplicit false
set_option linter.all false
set_option maxRecDepth 100000
set_option maxHeartbeats 4000000
namespace Kk
open PySem L2 Pl
abbrev sLReached : Stmt := top 39
theorem inV_N (t : Nat) (o : List Nat) : inV (toV (iN t)) ((o.map iN).map toV) = decide (t ∈ o) := by
  induction o with
  | nil => simp [inV]
  | cons x o ih =>
    unfold inV at ih ⊢
    rw [List.map_cons, List.map_cons, List.any_cons, ih]
    by_cases h : x = t
    · subst h
      simp [toV, iN, eqV]
    · have h2 : ¬ ((x : Int) = (t : Int)) := fun z => h (Int.ofNat.inj z)
      have h3 : ¬ t = x := fun z => h z.symm
      have h4 : ¬ ((t : Int) = (x : Int)) := fun z => h3 (Int.ofNat.inj z)
      simp [toV, iN, eqV, h2, h3, h4]
/-- rows as the law keeps them: sorted, not made single -/
def rwS (es : List Ed) (s : Nat) : List Rw := srtR (rowOf es s)
theorem idx_first (o : List Nat) (t : Nat) (h : t ∈ o) : (o.map fun n : Nat => (n : Int))[o.idxOf t]? = some (t : Int) ∧ ∀ m z, m < o.idxOf t → (o.map fun n : Nat => (n : Int))[m]? = some z → z ≠ (t : Int) := by
  have hl := List.idxOf_lt_length_iff.mpr h
  refine ⟨by rw [List.getElem?_map, List.getElem?_eq_getElem hl, List.getElem_idxOf hl] <;> rfl, fun m z hm hz e => ?_⟩
  rw [List.getElem?_map] at hz
  cases he : o[m]? with
  | none => rw [he] at hz; cases hz
  | some x =>
    rw [he] at hz
    have hx : (x : Int) = z := Option.some.inj hz
    have hxt : x = t := Int.ofNat.inj (hx.trans e)
    subst hxt
    have hml : m < o.length := (List.getElem?_eq_some_iff.mp he).1
    have h1 := List.not_of_lt_findIdx (p := (· == x)) (xs := o) (i := m) hm
    have h2 := (List.getElem?_eq_some_iff.mp he).2
    rw [h2] at h1
    simp at h1
end Kk

set_option Elab.async false
set_option autoImplicit false
set_option linter.all false
set_option maxRecDepth 100000
set_option maxHeartbeats 4000000
namespace Kk
open PySem L2 Pl
section
variable {P : Program} {w : World} {K : PySem.W.Frag} {mg : Str → Option Value} {base : Heap} {T : Tbs}
abbrev nLReached : List Str := ["parts", "rows", "order", "edges", "k", "action", "target"]
theorem scLReached : FnScope nLReached ["parts"] (defScope sLReached) := ⟨rfl, rfl, rfl, by decide +kernel, rfl, by decide +kernel, by decide +kernel⟩
theorem wf_rwS {n : Nat} {es : List Ed} (wf : WfL n es) : Rws n (fun s => s < n) (rwS es) := ⟨wf.pos, wf.few, fun s h => h, fun s _ r hr => (wf.lt (s, r) (mem_rowOf.mp (mem_srtR.mp hr))).2, fun s _ => by
  have : (rowOf es s).length ≤ es.length := List.length_filterMap_le _ _
  have := wf.many
  show (srtR (rowOf es s)).length ≤ 100
  unfold srtR
  rw [List.length_mergeSort]
  omega⟩
theorem df_lreached {f : Addr} {fd : FuncData} (F : Fun K "_law_reached" "_law_reached" sLReached f fd) (hm : mg "_law_reached" = some (.ref f)) (hb : Binds K fd ["parts"] []) (mLen : mg "len" = none) (mRange : mg "range" = none) (mSorted : mg "sorted" = none)
    (dO : Df P w K mg base 1 "_law_once" (Pu T OnceA.ok (fun a => [isD K a.ds]) (fun a => isD K a.out)))
    (dW : Df P w K mg base 1 "_law_rows" (Pu T (fun a : Nat × List Ed => WfL a.1 a.2) (fun a => [isD K (partsD a.1 a.2)]) (fun a => isD K (rowsD a.1 a.2)))) :
    Df P w K mg base 2 "_law_reached" (Pu T (fun a : Nat × List Ed => WfL a.1 a.2 ∧ (bfs (rwS a.2) a.1).2.length ≤ 1000) (fun a => [isD K (partsD a.1 a.2)]) (fun a => isD K (partsD (bfs (rwS a.2) a.1).1.length (once (bfs (rwS a.2) a.1).2)))) := by
  refine df_pure _ _ _ F scLReached hm hb (fun _ => rfl) ?_
  rintro cdv A outer s H Fr E ⟨n, es⟩ D hr ⟨wf, hel⟩ ret _
  have wf : WfL n es := wf
  have hel : (bfs (rwS es) n).2.length ≤ 1000 := hel
  have h100 := wf.few
  have hmany := wf.many
  have wr := wf_rwS wf
  have hu : (A.deeper (PyProof.Rows.envOfC "_law_reached" (defScope sLReached) s.heap.objs.size f cdv)).units + 64 < cLine := hr.units
  have hrl : ∀ K' : PySem.W.Frag, (rngR K' 0 (n : Int).toNat).length = n := fun K' => by unfold rngR; rw [List.length_map, List.length_range]; omega
  refine do_set scLReached.nd (i := 1) rfl (.inl rfl) (R := isD K (rowsD n es)) (ev_call (R := fun a : Nat × List Ed => isD K (rowsD a.1 a.2)) dW hr (n, es) wf (ea1 (ev_v 0))) ?_ (by show 1 < 7; decide)
  refine do_own scLReached.nd (i := 2) rfl (.inl rfl) (en_lst (ds := [iN 0]) (ea_cons ev_int ea_nil)) (fun q1 => ?_) (by show 2 < 7; decide)
  refine do_own scLReached.nd (i := 3) rfl (.inl rfl) (en_lst (ds := []) ea_nil) (fun q2 => ?_) (by show 3 < 7; decide)
  refine Do.nd fun nd => ?_
  have nd : [q2, q1].Nodup := nd
  have n21 : q2 ≠ q1 := by simp at nd; exact nd
  let sl0 : List (Option Rp) := [some (isD K (partsD n es)), some (isD K (rowsD n es)), some (isA q1), some (isA q2), none, none, none]
  let os0 : List Nat × List Ed → List (Addr × Ct) := fun st => [(q2, ctL K (st.2.map encE)), (q1, ctL K (st.1.map iN))]
  refine do_for (fun i => (sl0, os0 (bfs (rwS es) i))) (M := (Cn.mk T Fr H fpT sl0 (os0 (bfs (rwS es) n))).at) (iv_rng1 (n := (n : Int)) (ev_ixT (ds := [iN n, .list (es.map encE)]) (i := 0) (d := iN n) rfl (ev_v 0) ev_int) mRange (by omega)) (fun σ F' H' c => c) ?_ (fun σ H' c => ?_) ?_
  · intro k R fp hR
    obtain ⟨hk, hRk⟩ := rngR_at hR
    have hk : k < n := by omega
    rw [Int.zero_add] at hRk
    subst hRk
    have hok := bfs_ok wr.zero wr.lt k
    have hN := hok.len wr.sub
    have helk := bfs_elen wr k
    refine ⟨_, _, tg_name scLReached.nd (i := 4) rfl (.inl rfl) (by show 4 < 7; decide), ?_⟩
    let slA : List (Option Rp) := [some (isD K (partsD n es)), some (isD K (rowsD n es)), some (isA q1), some (isA q2), some (isD K (iN k)), none, none]
    have f1 : ∀ st, findO q1 (os0 st) = some (ctL K (st.1.map iN)) := fun st => (findO_next n21).trans findO_head
    refine do_if (b := decide ((k : Int) < (((bfs (rwS es) k).1.map iN).length : Int))) (M := (Cn.mk T Fr H (fpT.and fp) sl0 (os0 (bfs (rwS es) (k + 1)))).at) (et_ltI (ev_v 4) (ev_lenO (f1 _) mLen (ev_v 2))) (fun hb => ?_) (fun hb => ?_) (do_nil fun σ H' c => c)
    · have hlt : k < (bfs (rwS es) k).1.length := by
        have := of_decide_eq_true hb
        rw [List.length_map] at this
        omega
      have hs := List.getElem?_eq_getElem hlt
      generalize hsd : (bfs (rwS es) k).1[k] = t at hs
      have hsN : t < n := hok.lt t (List.mem_of_getElem? hs)
      rw [bfs_some hs]
      have hrz : (rowOf es t).length ≤ 100 := by
        have : (rowOf es t).length ≤ es.length := List.length_filterMap_le _ _
        omega
      refine do_for (fun i => (slA, os0 (rowR k (bfs (rwS es) k) ((rwS es t).take i)))) (M := (Cn.mk T Fr H (fpT.and fp) slA (os0 (rowR k (bfs (rwS es) k) (rwS es t)))).at)
        (iv_list (ds := (rwS es t).map encR) (Ev.imp (En.ev (en_sortedL (ds := (rowOf es t).map encR) (sb_R _ (by omega)) hu mSorted (ev_ixL (d := .list ((rowOf es t).map encR)) (atI_nat (by rw [List.getElem?_map, List.getElem?_range hsN] <;> rfl)) (ev_v 1) (ev_ixO (d := iN t) (f1 _) (atI_nat (by rw [List.getElem?_map, hs] <;> rfl)) (ev_v 2) (ev_v 4))))) (fun v F h => by rw [srt_R] at h; exact h))) (fun σ F' H' c => c) ?_ (fun σ H' c => ?_) ?_
      · intro i R2 fp2 hR2
        rw [List.getElem?_map, List.getElem?_map] at hR2
        cases hr2 : (rwS es t)[i]? with
        | none => rw [hr2] at hR2; cases hR2
        | some r =>
          rw [hr2] at hR2
          cases hR2
          have htk : (rwS es t).take (i + 1) = (rwS es t).take i ++ [r] := by rw [List.take_succ, hr2] <;> rfl
          have hi : i < (rwS es t).length := (List.getElem?_eq_some_iff.mp hr2).1
          have hlen := wr.len t hsN
          have hrN := wr.lt t hsN r (List.mem_of_getElem? hr2)
          have hok2 : Ok (fun s => s < n) (rowR k (bfs (rwS es) k) ((rwS es t).take i)) := hok.row fun q hq => wr.lt t hsN q (List.mem_of_mem_take hq)
          have hel2 : (rowR k (bfs (rwS es) k) ((rwS es t).take i)).2.length ≤ 100 * k + 100 := by
            rw [rowR_elen, List.length_take]
            omega
          have hnx : rowR k (bfs (rwS es) k) ((rwS es t).take (i + 1)) = stepR k (rowR k (bfs (rwS es) k) ((rwS es t).take i)) r := by rw [htk, rowR_snoc]
          show ∃ C' ws, Tg _ (Cn.mk T Fr H ((fpT.and fp).and fp2) slA (os0 (rowR k (bfs (rwS es) k) ((rwS es t).take i)))) (isD K (encR r)) _ C' ws ∧ Do _ _ C'.at { nx := (Cn.mk T Fr H ((fpT.and fp).and fp2) slA (os0 (rowR k (bfs (rwS es) k) ((rwS es t).take (i + 1))))).at, ct := (Cn.mk T Fr H ((fpT.and fp).and fp2) slA (os0 (rowR k (bfs (rwS es) k) ((rwS es t).take (i + 1))))).at, bk := _, rt := D.rt }
          rw [hnx]
          generalize rowR k (bfs (rwS es) k) ((rwS es t).take i) = st at hok2 hel2
          obtain ⟨o, ez⟩ := st
          obtain ⟨ra, rt⟩ := r
          have hoN : o.length ≤ n := hok2.len wr.sub
          have hel2 : ez.length ≤ 100 * k + 100 := hel2
          refine ⟨_, _, tg_tup rfl (ds := [.str ra, iN rt]) (.cons (tg_name scLReached.nd (i := 5) rfl (.inl rfl) (by show 5 < 7; decide)) rfl (.cons (tg_name scLReached.nd (i := 6) rfl (.inl rfl) (by show 6 < 7; decide)) rfl .nil)), ?_⟩
          let o' : List Nat := if rt ∈ o then o else o ++ [rt]
          have hmem : rt ∈ o' := by
            show rt ∈ (if rt ∈ o then o else o ++ [rt])
            split
            · assumption
            · simp
          let slB : List (Option Rp) := [some (isD K (partsD n es)), some (isD K (rowsD n es)), some (isA q1), some (isA q2), some (isD K (iN k)), some (isD K (.str ra)), some (isD K (iN rt))]
          have hfl : ∀ o : List Nat, (o.map iN).all flatD = true := fun o => by rw [List.all_map]; exact List.all_eq_true.mpr fun _ _ => rfl
          refine Do.eq (C' := Cn.mk T Fr H ((fpT.and fp).and fp2) slB (os0 (o, ez))) rfl ?_
          refine do_if (b := !decide (rt ∈ o)) (M := (Cn.mk T Fr H ((fpT.and fp).and fp2) slB (os0 (o', ez))).at) (et_is (et_ninO (d := iN rt) (f1 (o, ez)) rfl (hfl o) (ev_v 6) (ev_v 2)) (by rw [inV_N])) (fun hb => ?_) (fun hb => ?_) ?_
          · have hx : rt ∉ o := fun z => by
              rw [decide_eq_true z] at hb
              cases hb
            have eo : o' = o ++ [rt] := if_neg hx
            refine do_app (l := q1) (ds := o.map iN) (d := iN rt) (ev_v 2) (f1 (o, ez)) (ev_v 6) (by rw [List.length_map]; omega) ?_
            refine do_nil fun σ H' ⟨F', c⟩ => ⟨F', ?_⟩
            have ec : putO q1 (ctL K (o.map iN ++ [iN rt])) (os0 (o, ez)) = os0 (o', ez) := by
              show putO q1 _ [(q2, _), (q1, _)] = [(q2, ctL K (ez.map encE)), (q1, ctL K (o'.map iN))]
              rw [putO_next n21, putO_head, eo, List.map_append] <;> rfl
            rw [← ec]
            exact c
          · have hx : rt ∈ o := Classical.byContradiction fun z => by
              rw [decide_eq_false z] at hb
              cases hb
            have eo : o' = o := if_pos hx
            rw [eo]
            exact do_nil fun σ H' c => c
          · have hid := idx_first o' rt hmem
            have g1 : findO q1 (os0 (o', ez)) = some (ctL K ((o'.map fun n : Nat => (n : Int)).map PyData.int)) := by
              rw [f1 (o', ez), List.map_map] <;> rfl
            refine do_app (l := q2) (ds := ez.map encE) (d := encE (k, ra, o'.idxOf rt)) (ev_v 3) findO_head (ev_tup (ds := [iN k, .str ra, iN (o'.idxOf rt)]) (ea_cons (ev_v 4) (ea_cons (ev_v 5) (ea_cons (ev_indexO (ns := o'.map fun n : Nat => (n : Int)) (n := (rt : Int)) (j := o'.idxOf rt) g1 hid.1 hid.2 (ev_v 2) (ev_v 6)) ea_nil)))) (by rw [List.length_map]; omega) ?_
            refine do_nil fun σ H' ⟨F', c⟩ => ⟨F', ?_⟩
            have c2 := c.fg (sl := slA) (.keep (.keep (.keep (.keep (.keep (.drop (.drop .nil)))))))
            have ec : putO q2 (ctL K (ez.map encE ++ [encE (k, ra, o'.idxOf rt)])) (os0 (o', ez)) = os0 (stepR k (o, ez) (ra, rt)) := by
              show putO q2 _ ((q2, ctL K (ez.map encE)) :: _) = _
              rw [putO_head]
              simp only [os0, stepR, List.map_append, List.map_cons, List.map_nil] <;> rfl
            rw [← ec]
            exact c2
      · obtain ⟨F', c⟩ := c
        refine ⟨F', ?_⟩
        have c : (Cn.mk T Fr H (fpT.and fp) slA (os0 (rowR k (bfs (rwS es) k) ((rwS es t).take (((rwS es t).map encR).map (isD K)).length)))).ok σ F' H' := c
        rw [List.length_map, List.length_map, List.take_length] at c
        exact c
      · exact do_nil fun σ H' ⟨F', c⟩ => ⟨F', c.fg (sl := sl0) (.keep (.keep (.keep (.keep (.drop (.keep (.keep .nil)))))))⟩
    · have hge : (bfs (rwS es) k).1.length ≤ k := by
        have := of_decide_eq_false hb
        rw [List.length_map] at this
        omega
      rw [bfs_none hge]
      exact do_nil fun σ H' ⟨F', c⟩ => ⟨F', c.fg (sl := sl0) (.keep (.keep (.keep (.keep (.drop (.keep (.keep .nil)))))))⟩
  · rw [hrl] at c
    exact c
  · refine do_frzL 3 q2 (ds := (bfs (rwS es) n).2.map encE) rfl findO_head ?_
    refine do_frzL 2 q1 (ds := (bfs (rwS es) n).1.map iN) rfl (by
      show findO q1 (dropO q2 (os0 (bfs (rwS es) n))) = _
      rw [show dropO q2 (os0 (bfs (rwS es) n)) = [(q1, ctL K ((bfs (rwS es) n).1.map iN))] from dropO_head]
      exact findO_head) ?_
    have hed := bfs_edges (rw := rwS es) (fun s r hr => wf.act (s, r) (mem_rowOf.mp (mem_srtR.mp hr))) n
    refine do_ret (R := isD K (partsD (bfs (rwS es) n).1.length (once (bfs (rwS es) n).2))) (ev_tup (ds := [iN (bfs (rwS es) n).1.length, .list ((once (bfs (rwS es) n).2).map encE)]) (ea_cons (Ev.imp (ev_lenL mLen (ev_v 2)) (fun v F h => by rw [List.length_map] at h; exact h)) (ea_cons (ev_call (R := fun a => isD K a.out) dO hr (OnceA.e (bfs (rwS es) n).2) ⟨hel, fun e he => (hed e he).2.2.2⟩ (ea1 (ev_v 3))) ea_nil))) (fun σ v F' H' c hv => ret v F' H' c.en hv)
end
end Kk

set_option Elab.async false
set_option autoImplicit false
set_option linter.all false
set_option maxRecDepth 100000
set_option maxHeartbeats 4000000
namespace Kk
open PySem L2 Pl
abbrev sLClass : Stmt := top 40
section
variable {α : Type} [DecidableEq α]
theorem kvM_congr {enc val val' : α → PD} : ∀ {o : List α}, (∀ y ∈ o, val' y = val y) → kvM enc val' o = kvM enc val o
  | [], _ => rfl
  | y :: o, h => by
    unfold kvM
    rw [List.map_cons, List.map_cons, h y List.mem_cons_self]
    exact congrArg _ (kvM_congr fun z hz => h z (List.mem_cons_of_mem _ hz))
theorem dput_kvM2 {enc val val' : α → PD} (he : ∀ a b, enc a = enc b → a = b) (o : List α) (x : α) (hv : ∀ y, y ≠ x → val' y = val y) : dput (kvM enc val o) (enc x) (val' x) = kvM enc val' (if x ∈ o then o else o ++ [x]) := by
  have h := dget_kvM (val := val) he x o
  by_cases hx : x ∈ o
  · rw [if_pos hx] at h ⊢
    rw [dput_old h]
    unfold kvM
    rw [List.map_map]
    refine List.map_congr_left fun y _ => ?_
    by_cases e : y = x
    · subst e
      simp
    · show (open Classical in if enc y = enc x then (enc y, val' x) else (enc y, val y)) = (enc y, val' y)
      rw [if_neg (fun z => e (he _ _ z)), hv y e]
  · rw [if_neg hx] at h ⊢
    rw [dput_new h, ← kvM_congr (enc := enc) (val := val) (val' := val') (o := o) (fun y hy => hv y fun z => hx (z ▸ hy))]
    unfold kvM
    rw [List.map_append] <;> rfl
end
/-- the law's rows of leaders -/
def tblL (es : List Ed) : Kvs := kvM iN (fun l => .list ((rowOf es l).map encR)) (once (es.map Prod.fst))
theorem rowOf_nil {es : List Ed} {l : Nat} (h : l ∉ es.map Prod.fst) : rowOf es l = [] := by
  refine List.eq_nil_iff_forall_not_mem.mpr fun r hr => h ?_
  exact List.mem_map.mpr ⟨(l, r), mem_rowOf.mp hr, rfl⟩
theorem tblL_get (es : List Ed) (l : Nat) : (dget (tblL es) (iN l)).getD (.list []) = .list ((rowOf es l).map encR) := by
  unfold tblL
  rw [dget_kvM (fun a b h => iN_eq.mp h)]
  by_cases h : l ∈ once (es.map Prod.fst)
  · rw [if_pos h] <;> rfl
  · rw [if_neg h, rowOf_nil (fun z => h (mem_once.mpr z))] <;> rfl
theorem tblL_step (es : List Ed) (e : Ed) : dput (tblL es) (iN e.1) (.list ((rowOf es e.1).map encR ++ [encR e.2])) = tblL (es ++ [e]) := by
  have e1 : rowOf (es ++ [e]) e.1 = rowOf es e.1 ++ [e.2] := by rw [rowOf_snoc, if_pos rfl]
  have := dput_kvM2 (enc := iN) (val := fun l => .list ((rowOf es l).map encR)) (val' := fun l => .list ((rowOf (es ++ [e]) l).map encR)) (fun a b h => iN_eq.mp h) (once (es.map Prod.fst)) e.1 (fun y hy => by rw [rowOf_snoc, if_neg (fun z => hy z.symm)])
  unfold tblL
  rw [List.map_append, List.map_cons, List.map_nil, once_snoc, ← this, e1, List.map_append] <;> rfl
theorem tblL_len (es : List Ed) : (tblL es).length ≤ es.length := by
  unfold tblL kvM
  rw [List.length_map]
  exact Nat.le_trans (once_len _) (by rw [List.length_map]; exact Nat.le_refl _)
end Kk

set_option Elab.async false
set_option autoImplicit false
set_option linter.all false
set_option maxRecDepth 100000
set_option maxHeartbeats 4000000
namespace Kk
open PySem L2 Pl
section
variable {P : Program} {w : World} {K : PySem.W.Frag} {mg : Str → Option Value} {base : Heap} {T : Tbs}
abbrev nLClass : List Str := ["parts", "marks", "edges", "leaders", "state", "rows", "action", "target", "here", "order", "found", "k", "leader"]
theorem scLClass : FnScope nLClass ["parts", "marks", "edges"] (defScope sLClass) := ⟨rfl, rfl, rfl, by decide +kernel, rfl, by decide +kernel, by decide +kernel⟩
structure LClsA where
  n : Nat
  es : List Ed
  ms : List Nat
structure LClsOk (a : LClsA) : Prop where
  wf : WfL a.n a.es
  ms : a.ms.length = a.n
abbrev tt : Ed → Bool := fun _ => true
theorem bfsS_len {n : Nat} {es : List Ed} (wr : Rws n (fun s => s < n) (rwS es)) (k : Nat) : (bfs (rwS es) k).2.length ≤ es.length := by
  have hok := bfs_ok wr.zero wr.lt k
  rw [bfs_cntF]
  have e : (fun s => (rwS es s).length) = fun s => (rowOf es s).length := by
    funext s
    show (srtR (rowOf es s)).length = _
    unfold srtR
    rw [List.length_mergeSort]
  rw [e, sumF_rows]
  exact sumL_le es (hok.nd.sublist (List.take_sublist _ _))
theorem wf_cS {n : Nat} {es : List Ed} {ms : List Nat} (wf : WfL n es) (hms : ms.length = n) : Rws n (fun s => s < n) (rwS (cE ms tt es)) := ⟨wf.pos, wf.few, fun s h => h, fun s _ r hr => by
  obtain ⟨d, hd, _, e⟩ := cE_mem (mem_rowOf.mp (mem_srtR.mp hr))
  have e2 : r.2 = lead ms d.2.2 := congrArg (fun e : Ed => e.2.2) e
  have := (wf.lt d hd).2
  have h3 := ldr_lt (lead_mem (ms := ms) (s := d.2.2) (by omega))
  show r.2 < n
  omega, fun s _ => by
  have h1 : (rowOf (cE ms tt es) s).length ≤ (cE ms tt es).length := List.length_filterMap_le _ _
  have h2 := cE_len ms tt es
  have := wf.many
  show (srtR (rowOf (cE ms tt es) s)).length ≤ 100
  unfold srtR
  rw [List.length_mergeSort]
  omega⟩
theorem df_lclass {f : Addr} {fd : FuncData} (F : Fun K "_law_class_system" "_law_class_system" sLClass f fd) (hm : mg "_law_class_system" = some (.ref f)) (hb : Binds K fd ["parts", "marks", "edges"] []) (mLen : mg "len" = none) (mRange : mg "range" = none) (mSorted : mg "sorted" = none) (mTuple : mg "tuple" = none)
    (dO : Df P w K mg base 1 "_law_once" (Pu T OnceA.ok (fun a => [isD K a.ds]) (fun a => isD K a.out))) :
    Df P w K mg base 2 "_law_class_system" (Pu T LClsOk (fun a => [isD K (partsD a.n a.es), isD K (.list (a.ms.map iN)), isD K (.list (a.es.map encE))])
      (fun a => isD K (.tuple [iN (bfs (rwS (cE a.ms tt a.es)) a.n).1.length, .tuple ((sE (bfs (rwS (cE a.ms tt a.es)) a.n).2).map encE)]))) := by
  refine df_pure _ _ _ F scLClass hm hb (fun _ => rfl) ?_
  rintro cdv A outer s H Fr E ⟨n, es, ms⟩ D hr ⟨wf, hms⟩ ret _
  have wf : WfL n es := wf
  have hms : ms.length = n := hms
  have hun : (A.deeper (PyProof.Rows.envOfC "_law_class_system" (defScope sLClass) s.heap.objs.size f cdv)).units + 64 < cLine := hr.units
  have h100 := wf.few
  have hmany := wf.many
  have hnp := wf.pos
  let pD : Option Rp := some (isD K (partsD n es))
  let mD : Option Rp := some (isD K (.list (ms.map iN)))
  let eD : Option Rp := some (isD K (.list (es.map encE)))
  refine do_own scLClass.nd (i := 3) rfl (.inl rfl) en_dictI (fun q => ?_) (by show 3 < 13; decide)
  let ldK : Nat → Kvs := fun i => kvM iN (fun m => iN (ix ms m)) (once (ms.take i))
  let sl0 : List (Option Rp) := [pD, mD, eD, some (isA q), none, none, none, none, none, none, none, none, none]
  have hrl : ∀ K' : PySem.W.Frag, (rngR K' 0 (n : Int).toNat).length = n := fun K' => by unfold rngR; rw [List.length_map, List.length_range]; omega
  refine do_for (fun i => (sl0, [(q, ctDI K (ldK i))])) (M := (Cn.mk T Fr H fpT sl0 [(q, ctDI K (ldK n))]).at) (iv_rng1 (n := (n : Int)) (ev_ixT (ds := [iN n, .list (es.map encE)]) (i := 0) (d := iN n) rfl (ev_v 0) ev_int) mRange (by omega)) (fun σ F' H' c => c) ?_ (fun σ H' c => ?_) ?_
  · intro i R fp hR
    obtain ⟨hi, hRi⟩ := rngR_at hR
    have hi : i < n := by omega
    rw [Int.zero_add] at hRi
    subst hRi
    refine ⟨_, _, tg_name scLClass.nd (i := 4) rfl (.inl rfl) (by show 4 < 13; decide), ?_⟩
    have hol : (once (ms.take i)).length ≤ n := Nat.le_trans (once_len _) (by rw [List.length_take]; omega)
    have hkz : (ldK i).length < 100000 := by show (List.map _ _).length < _; rw [List.length_map]; omega
    have hmi : ms[i]? = some (ms.getD i 0) := by rw [List.getD_eq_getElem?_getD, List.getElem?_eq_getElem (by omega)] <;> rfl
    have hg := dget_kvM (enc := iN) (val := fun m => iN (ix ms m)) (fun a b h => iN_eq.mp h) (ms.getD i 0) (once (ms.take i))
    have hsn : once (ms.take (i + 1)) = if ms.getD i 0 ∈ once (ms.take i) then once (ms.take i) else once (ms.take i) ++ [ms.getD i 0] := by rw [List.take_succ, hmi]; exact once_snoc _ _
    refine do_if (b := !(dget (ldK i) (iN (ms.getD i 0))).isSome) (M := (Cn.mk T Fr H (fpT.and fp) sl0 [(q, ctDI K (ldK (i + 1)))]).at) (et_ninI hun findO_head (keyI_int _) (ev_ixL (getD_iN (by omega)) (ev_v 1) (ev_v 4)) (ev_v 3)) (fun hb => ?_) (fun hb => ?_) (do_nil fun σ H' c => c)
    · have hx : ms.getD i 0 ∉ once (ms.take i) := fun z => by
        rw [show dget (ldK i) (iN (ms.getD i 0)) = _ from hg, if_pos z] at hb
        cases hb
      refine do_dputI (kvs := ldK i) (k := iN (ms.getD i 0)) (v := iN i) hun findO_head (keyI_int _) hkz (ev_v 3) (ev_ixL (ds := ms.map iN) (i := (i : Int)) (getD_iN (by omega)) (ev_v 1) (ev_v 4)) (ev_v 4) ?_
      refine do_nil fun σ H' ⟨F', c⟩ => ⟨F', ?_⟩
      have c2 := c.fg (sl := sl0) (.keep (.keep (.keep (.keep (.drop (.keep (.keep (.keep (.keep (.keep (.keep (.keep (.keep .nil)))))))))))))
      have ek : dput (ldK i) (iN (ms.getD i 0)) (iN i) = ldK (i + 1) := by
        show dput (kvM iN _ _) _ _ = kvM iN _ (once (ms.take (i + 1)))
        have := dput_kvM (enc := iN) (val := fun m => iN (ix ms m)) (fun a b h => iN_eq.mp h) (once (ms.take i)) (ms.getD i 0)
        rw [hsn, ← this, ix_first hmi (fun z => hx (mem_once.mpr z))]
      have ec : putO q (ctDI K (dput (ldK i) (iN (ms.getD i 0)) (iN i))) [(q, ctDI K (ldK i))] = [(q, ctDI K (ldK (i + 1)))] := by rw [putO_head, ek]
      show (Cn.mk T Fr H (fpT.and fp) sl0 [(q, ctDI K (ldK (i + 1)))]).ok σ F' H'
      rw [← ec]
      exact c2
    · have hx : ms.getD i 0 ∈ once (ms.take i) := Classical.byContradiction fun z => by
        rw [show dget (ldK i) (iN (ms.getD i 0)) = _ from hg, if_neg z] at hb
        cases hb
      have ek : ldK (i + 1) = ldK i := by show kvM iN _ (once (ms.take (i + 1))) = _; rw [hsn, if_pos hx]
      rw [ek]
      exact do_nil fun σ H' ⟨F', c⟩ => ⟨F', c.fg (sl := sl0) (.keep (.keep (.keep (.keep (.drop (.keep (.keep (.keep (.keep (.keep (.keep (.keep (.keep .nil)))))))))))))⟩
  · rw [hrl] at c
    exact c
  have hldn : ldK n = kvM iN (fun m => iN (ix ms m)) (once ms) := by show kvM iN _ (once (ms.take n)) = _; rw [List.take_of_length_le (by omega)]
  rw [hldn]
  refine do_lock 3 q rfl findO_head ?_
  let lK : Kvs := kvM iN (fun m => iN (ix ms m)) (once ms)
  have hget : ∀ t, t < n → dget lK (iN (ms.getD t 0)) = some (iN (lead ms t)) := fun t ht => by
    show dget (kvM iN (fun m => iN (ix ms m)) (once ms)) _ = _
    rw [dget_kvM (fun a b h => iN_eq.mp h), if_pos (mem_once.mpr (getD_mem (by omega)))] <;> rfl
  let lD : Option Rp := some (isDL K lK)
  let sl1 : List (Option Rp) := [pD, mD, eD, lD, none, none, none, none, none, none, none, none, none]
  refine Do.eq (C' := Cn.mk T Fr H fpT sl1 []) (by simp [Cn.set, Cn.to, dropO, sl0, sl1, lD] <;> rfl) ?_
  refine do_own scLClass.nd (i := 5) rfl (.inl rfl) en_dictI (fun q2 => ?_) (by show 5 < 13; decide)
  let sl2 : List (Option Rp) := [pD, mD, eD, lD, none, some (isA q2), none, none, none, none, none, none, none]
  have htz : ∀ E : List Ed, E.length ≤ es.length → (tblL (cE ms tt E)).length < 100000 := fun E hE => by
    have h1 := tblL_len (cE ms tt E)
    have h2 := cE_len ms tt E
    omega
  refine do_for (fun i => (sl2, [(q2, ctDI K (tblL (cE ms tt (es.take i))))])) (M := (Cn.mk T Fr H fpT sl2 [(q2, ctDI K (tblL (cE ms tt es)))]).at) (iv_list (ds := es.map encE) (ev_v 2)) (fun σ F' H' c => c) ?_ (fun σ H' c => ?_) ?_
  · intro i R fp hR
    rw [List.getElem?_map, List.getElem?_map] at hR
    cases he : es[i]? with
    | none => rw [he] at hR; cases hR
    | some e =>
      rw [he] at hR
      cases hR
      have hmem := List.mem_of_getElem? he
      obtain ⟨l1, l2⟩ := wf.lt e hmem
      have htk : es.take (i + 1) = es.take i ++ [e] := by rw [List.take_succ, he] <;> rfl
      have hi : i < es.length := (List.getElem?_eq_some_iff.mp he).1
      obtain ⟨e1, e2, e3⟩ := e
      have l1 : e1 < n := l1
      have l2 : e3 < n := l2
      refine ⟨_, _, tg_tup rfl (ds := [iN e1, .str e2, iN e3]) (.cons (tg_name scLClass.nd (i := 4) rfl (.inl rfl) (by show 4 < 13; decide)) rfl (.cons (tg_name scLClass.nd (i := 6) rfl (.inl rfl) (by show 6 < 13; decide)) rfl (.cons (tg_name scLClass.nd (i := 7) rfl (.inl rfl) (by show 7 < 13; decide)) rfl .nil))), ?_⟩
      let tb : Kvs := tblL (cE ms tt (es.take i))
      let sl3 : List (Option Rp) := [pD, mD, eD, lD, some (isD K (iN e1)), some (isA q2), some (isD K (.str e2)), some (isD K (iN e3)), none, none, none, none, none]
      refine Do.eq (C' := Cn.mk T Fr H (fpT.and fp) sl3 [(q2, ctDI K tb)]) rfl ?_
      refine do_set scLClass.nd (i := 8) rfl (.inl rfl) (R := isD K (iN (lead ms e1))) (ev_dgetL (kvs := lK) (k := iN (ms.getD e1 0)) (v := iN (lead ms e1)) hun (keyI_int _) (hget e1 l1) (ev_v 3) (ev_ixL (ds := ms.map iN) (i := (e1 : Int)) (getD_iN (by omega)) (ev_v 1) (ev_v 4))) ?_ (by show 8 < 13; decide)
      let sl4 : List (Option Rp) := [pD, mD, eD, lD, some (isD K (iN e1)), some (isA q2), some (isD K (.str e2)), some (isD K (iN e3)), some (isD K (iN (lead ms e1))), none, none, none, none]
      refine Do.eq (C' := Cn.mk T Fr H (fpT.and fp) sl4 [(q2, ctDI K tb)]) rfl ?_
      have hrz : (rowOf (cE ms tt (es.take i)) (lead ms e1)).length ≤ es.length := by
        have q1 : (rowOf (cE ms tt (es.take i)) (lead ms e1)).length ≤ (cE ms tt (es.take i)).length := List.length_filterMap_le _ _
        have q2 := cE_len ms tt (es.take i)
        rw [List.length_take] at q2
        omega
      refine do_dputI (kvs := tb) (k := iN (lead ms e1)) (v := .list ((rowOf (cE ms tt (es.take i)) (lead ms e1)).map encR ++ [encR (e2, lead ms e3)])) hun findO_head (keyI_int _) (htz _ (by rw [List.length_take]; omega)) (ev_v 5) (ev_v 8)
        (En.ev (en_catL (by rw [List.length_map]; show _ + 1 ≤ _; omega)
          (Ev.imp (ev_dgetd (kvs := tb) (k := iN (lead ms e1)) (v := .list []) hun findO_head (keyI_int _) (ev_v 5) (ev_v 8) (En.ev (en_lst (ds := []) ea_nil)) ⟨rfl, rfl, rfl, rfl⟩) (fun v F h => by rw [show tb = tblL (cE ms tt (es.take i)) from rfl, tblL_get] at h; exact h))
          (En.ev (en_lst (ds := [encR (e2, lead ms e3)]) (ea_cons (ev_tup (ds := [.str e2, iN (lead ms e3)]) (ea_cons (ev_v 6) (ea_cons (ev_dgetL (kvs := lK) (k := iN (ms.getD e3 0)) (v := iN (lead ms e3)) hun (keyI_int _) (hget e3 l2) (ev_v 3) (ev_ixL (ds := ms.map iN) (i := (e3 : Int)) (getD_iN (by omega)) (ev_v 1) (ev_v 7))) ea_nil))) ea_nil))))) ?_
      refine do_nil fun σ H' ⟨F', c⟩ => ⟨F', ?_⟩
      have c2 := c.fg (sl := sl2) (.keep (.keep (.keep (.keep (.drop (.keep (.drop (.drop (.drop (.keep (.keep (.keep (.keep .nil)))))))))))))
      have ec : putO q2 (ctDI K (dput tb (iN (lead ms e1)) (.list ((rowOf (cE ms tt (es.take i)) (lead ms e1)).map encR ++ [encR (e2, lead ms e3)])))) [(q2, ctDI K tb)] = [(q2, ctDI K (tblL (cE ms tt (es.take (i + 1)))))] := by
        have h1 := tblL_step (cE ms tt (es.take i)) (lead ms e1, e2, lead ms e3)
        have h2 := cE_snoc ms tt (es.take i) (e1, e2, e3)
        rw [if_pos rfl] at h2
        rw [putO_head, htk, h2, ← h1]
      show (Cn.mk T Fr H (fpT.and fp) sl2 [(q2, ctDI K (tblL (cE ms tt (es.take (i + 1)))))]).ok σ F' H'
      rw [← ec]
      exact c2
  · obtain ⟨F', c⟩ := c
    refine ⟨F', ?_⟩
    have c : (Cn.mk T Fr H fpT sl2 [(q2, ctDI K (tblL (cE ms tt (es.take ((es.map encE).map (isD K)).length))))]).ok σ F' H' := c
    rw [List.length_map, List.length_map, List.take_length] at c
    exact c
  -- the numbering
  generalize hX : cE ms tt es = X
  have wr : Rws n (fun s => s < n) (rwS X) := hX ▸ wf_cS wf hms
  have hXl : X.length ≤ es.length := hX ▸ cE_len ms tt es
  have hXa : ∀ d ∈ X, d.2.1 ∈ acts := fun d hd => by
    obtain ⟨d0, h0, _, e⟩ := cE_mem (hX ▸ hd)
    rw [e]
    exact wf.act d0 h0
  have hel := bfsS_len wr n
  have hzX : (tblL X).length < 100000 := hX ▸ htz es (Nat.le_refl _)
  let tb : Kvs := tblL X
  refine do_own scLClass.nd (i := 9) rfl (.inl rfl) (en_lst (ds := [iN 0]) (ea_cons ev_int ea_nil)) (fun q1 => ?_) (by show 9 < 13; decide)
  refine do_own scLClass.nd (i := 10) rfl (.inl rfl) (en_lst (ds := []) ea_nil) (fun qf => ?_) (by show 10 < 13; decide)
  refine Do.nd fun nd => ?_
  have nd : [qf, q1, q2].Nodup := nd
  have nf1 : qf ≠ q1 := by simp at nd; exact nd.1.1
  have nf2 : qf ≠ q2 := by simp at nd; exact nd.1.2
  have n12 : q1 ≠ q2 := by simp at nd; exact nd.2
  let sl5 : List (Option Rp) := [pD, mD, eD, lD, none, some (isA q2), none, none, none, some (isA q1), some (isA qf), none, none]
  let os0 : List Nat × List Ed → List (Addr × Ct) := fun st => [(qf, ctL K (st.2.map encE)), (q1, ctL K (st.1.map iN)), (q2, ctDI K tb)]
  refine do_for (fun i => (sl5, os0 (bfs (rwS X) i))) (M := (Cn.mk T Fr H fpT sl5 (os0 (bfs (rwS X) n))).at) (iv_rng1 (n := (n : Int)) (ev_ixT (ds := [iN n, .list (es.map encE)]) (i := 0) (d := iN n) rfl (ev_v 0) ev_int) mRange (by omega)) (fun σ F' H' c => c) ?_ (fun σ H' c => ?_) ?_
  · intro k R fp hR
    obtain ⟨hk, hRk⟩ := rngR_at hR
    have hk : k < n := by omega
    rw [Int.zero_add] at hRk
    subst hRk
    have hok := bfs_ok wr.zero wr.lt k
    have hN := hok.len wr.sub
    have helk := bfs_elen wr k
    refine ⟨_, _, tg_name scLClass.nd (i := 11) rfl (.inl rfl) (by show 11 < 13; decide), ?_⟩
    let slA : List (Option Rp) := [pD, mD, eD, lD, none, some (isA q2), none, none, none, some (isA q1), some (isA qf), some (isD K (iN k)), none]
    have f1 : ∀ st, findO q1 (os0 st) = some (ctL K (st.1.map iN)) := fun st => (findO_next nf1).trans findO_head
    have f2 : ∀ st, findO q2 (os0 st) = some (ctDI K tb) := fun st => (findO_next nf2).trans ((findO_next n12).trans findO_head)
    refine do_if (b := decide ((k : Int) < (((bfs (rwS X) k).1.map iN).length : Int))) (M := (Cn.mk T Fr H (fpT.and fp) sl5 (os0 (bfs (rwS X) (k + 1)))).at) (et_ltI (ev_v 11) (ev_lenO (f1 _) mLen (ev_v 9))) (fun hb => ?_) (fun hb => ?_) (do_nil fun σ H' c => c)
    · have hlt : k < (bfs (rwS X) k).1.length := by
        have := of_decide_eq_true hb
        rw [List.length_map] at this
        omega
      have hs := List.getElem?_eq_getElem hlt
      generalize hsd : (bfs (rwS X) k).1[k] = t at hs
      have hsN : t < n := hok.lt t (List.mem_of_getElem? hs)
      rw [bfs_some hs]
      have hrz : (rowOf X t).length ≤ 100 := by
        have : (rowOf X t).length ≤ X.length := List.length_filterMap_le _ _
        omega
      refine do_for (fun i => (slA, os0 (rowR k (bfs (rwS X) k) ((rwS X t).take i)))) (M := (Cn.mk T Fr H (fpT.and fp) slA (os0 (rowR k (bfs (rwS X) k) (rwS X t)))).at)
        (iv_list (ds := (rwS X t).map encR) (Ev.imp (En.ev (en_sortedL (ds := (rowOf X t).map encR) (sb_R _ (by omega)) hun mSorted
          (Ev.imp (ev_dgetd (kvs := tb) (k := iN t) (v := .list []) hun (f2 _) (keyI_int _) (ev_v 5) (ev_ixO (d := iN t) (f1 _) (atI_nat (by rw [List.getElem?_map, hs] <;> rfl)) (ev_v 9) (ev_v 11)) (En.ev (en_lst (ds := []) ea_nil)) ⟨rfl, rfl, rfl, rfl⟩) (fun v F h => by rw [show tb = tblL X from rfl, tblL_get] at h; exact h)))) (fun v F h => by rw [srt_R] at h; exact h))) (fun σ F' H' c => c) ?_ (fun σ H' c => ?_) ?_
      · intro i R2 fp2 hR2
        rw [List.getElem?_map, List.getElem?_map] at hR2
        cases hr2 : (rwS X t)[i]? with
        | none => rw [hr2] at hR2; cases hR2
        | some r =>
          rw [hr2] at hR2
          cases hR2
          have htk : (rwS X t).take (i + 1) = (rwS X t).take i ++ [r] := by rw [List.take_succ, hr2] <;> rfl
          have hi : i < (rwS X t).length := (List.getElem?_eq_some_iff.mp hr2).1
          have hlen := wr.len t hsN
          have hrN := wr.lt t hsN r (List.mem_of_getElem? hr2)
          have hok2 : Ok (fun s => s < n) (rowR k (bfs (rwS X) k) ((rwS X t).take i)) := hok.row fun q hq => wr.lt t hsN q (List.mem_of_mem_take hq)
          have hel2 : (rowR k (bfs (rwS X) k) ((rwS X t).take i)).2.length ≤ 100 * k + 100 := by
            rw [rowR_elen, List.length_take]
            omega
          have hnx : rowR k (bfs (rwS X) k) ((rwS X t).take (i + 1)) = stepR k (rowR k (bfs (rwS X) k) ((rwS X t).take i)) r := by rw [htk, rowR_snoc]
          show ∃ C' ws, Tg _ (Cn.mk T Fr H ((fpT.and fp).and fp2) slA (os0 (rowR k (bfs (rwS X) k) ((rwS X t).take i)))) (isD K (encR r)) _ C' ws ∧ Do _ _ C'.at { nx := (Cn.mk T Fr H ((fpT.and fp).and fp2) slA (os0 (rowR k (bfs (rwS X) k) ((rwS X t).take (i + 1))))).at, ct := (Cn.mk T Fr H ((fpT.and fp).and fp2) slA (os0 (rowR k (bfs (rwS X) k) ((rwS X t).take (i + 1))))).at, bk := _, rt := D.rt }
          rw [hnx]
          generalize rowR k (bfs (rwS X) k) ((rwS X t).take i) = st at hok2 hel2
          obtain ⟨o, ez⟩ := st
          obtain ⟨ra, rt⟩ := r
          have hoN : o.length ≤ n := hok2.len wr.sub
          have hel2 : ez.length ≤ 100 * k + 100 := hel2
          refine ⟨_, _, tg_tup rfl (ds := [.str ra, iN rt]) (.cons (tg_name scLClass.nd (i := 6) rfl (.inl rfl) (by show 6 < 13; decide)) rfl (.cons (tg_name scLClass.nd (i := 12) rfl (.inl rfl) (by show 12 < 13; decide)) rfl .nil)), ?_⟩
          let o' : List Nat := if rt ∈ o then o else o ++ [rt]
          have hmem : rt ∈ o' := by
            show rt ∈ (if rt ∈ o then o else o ++ [rt])
            split
            · assumption
            · simp
          let slB : List (Option Rp) := [pD, mD, eD, lD, none, some (isA q2), some (isD K (.str ra)), none, none, some (isA q1), some (isA qf), some (isD K (iN k)), some (isD K (iN rt))]
          have hfl : ∀ o : List Nat, (o.map iN).all flatD = true := fun o => by rw [List.all_map]; exact List.all_eq_true.mpr fun _ _ => rfl
          refine Do.eq (C' := Cn.mk T Fr H ((fpT.and fp).and fp2) slB (os0 (o, ez))) rfl ?_
          refine do_if (b := !decide (rt ∈ o)) (M := (Cn.mk T Fr H ((fpT.and fp).and fp2) slB (os0 (o', ez))).at) (et_is (et_ninO (d := iN rt) (f1 (o, ez)) rfl (hfl o) (ev_v 12) (ev_v 9)) (by rw [inV_N])) (fun hb => ?_) (fun hb => ?_) ?_
          · have hx : rt ∉ o := fun z => by
              rw [decide_eq_true z] at hb
              cases hb
            have eo : o' = o ++ [rt] := if_neg hx
            refine do_app (l := q1) (ds := o.map iN) (d := iN rt) (ev_v 9) (f1 (o, ez)) (ev_v 12) (by rw [List.length_map]; omega) ?_
            refine do_nil fun σ H' ⟨F', c⟩ => ⟨F', ?_⟩
            have ec : putO q1 (ctL K (o.map iN ++ [iN rt])) (os0 (o, ez)) = os0 (o', ez) := by
              show putO q1 _ [(qf, _), (q1, _), (q2, _)] = [(qf, ctL K (ez.map encE)), (q1, ctL K (o'.map iN)), (q2, ctDI K tb)]
              rw [putO_next nf1, putO_head, eo, List.map_append] <;> rfl
            rw [← ec]
            exact c
          · have hx : rt ∈ o := Classical.byContradiction fun z => by
              rw [decide_eq_false z] at hb
              cases hb
            have eo : o' = o := if_pos hx
            rw [eo]
            exact do_nil fun σ H' c => c
          · have hid := idx_first o' rt hmem
            have g1 : findO q1 (os0 (o', ez)) = some (ctL K ((o'.map fun n : Nat => (n : Int)).map PyData.int)) := by
              rw [f1 (o', ez), List.map_map] <;> rfl
            refine do_app (l := qf) (ds := ez.map encE) (d := encE (k, ra, o'.idxOf rt)) (ev_v 10) findO_head (ev_tup (ds := [iN k, .str ra, iN (o'.idxOf rt)]) (ea_cons (ev_v 11) (ea_cons (ev_v 6) (ea_cons (ev_indexO (ns := o'.map fun n : Nat => (n : Int)) (n := (rt : Int)) (j := o'.idxOf rt) g1 hid.1 hid.2 (ev_v 9) (ev_v 12)) ea_nil)))) (by rw [List.length_map]; omega) ?_
            refine do_nil fun σ H' ⟨F', c⟩ => ⟨F', ?_⟩
            have c2 := c.fg (sl := slA) (.keep (.keep (.keep (.keep (.keep (.keep (.drop (.keep (.keep (.keep (.keep (.keep (.drop .nil)))))))))))))
            have ec : putO qf (ctL K (ez.map encE ++ [encE (k, ra, o'.idxOf rt)])) (os0 (o', ez)) = os0 (stepR k (o, ez) (ra, rt)) := by
              show putO qf _ ((qf, ctL K (ez.map encE)) :: _) = _
              rw [putO_head]
              simp only [os0, stepR, List.map_append, List.map_cons, List.map_nil] <;> rfl
            rw [← ec]
            exact c2
      · obtain ⟨F', c⟩ := c
        refine ⟨F', ?_⟩
        have c : (Cn.mk T Fr H (fpT.and fp) slA (os0 (rowR k (bfs (rwS X) k) ((rwS X t).take (((rwS X t).map encR).map (isD K)).length)))).ok σ F' H' := c
        rw [List.length_map, List.length_map, List.take_length] at c
        exact c
      · exact do_nil fun σ H' ⟨F', c⟩ => ⟨F', c.fg (sl := sl5) (.keep (.keep (.keep (.keep (.keep (.keep (.keep (.keep (.keep (.keep (.keep (.drop (.keep .nil)))))))))))))⟩
    · have hge : (bfs (rwS X) k).1.length ≤ k := by
        have := of_decide_eq_false hb
        rw [List.length_map] at this
        omega
      rw [bfs_none hge]
      exact do_nil fun σ H' ⟨F', c⟩ => ⟨F', c.fg (sl := sl5) (.keep (.keep (.keep (.keep (.keep (.keep (.keep (.keep (.keep (.keep (.keep (.drop (.keep .nil)))))))))))))⟩
  · rw [hrl] at c
    exact c
  · refine do_frzL 10 qf (ds := (bfs (rwS X) n).2.map encE) rfl findO_head ?_
    have ed : dropO qf (os0 (bfs (rwS X) n)) = [(q1, ctL K ((bfs (rwS X) n).1.map iN)), (q2, ctDI K tb)] := dropO_head
    refine do_frzL 9 q1 (ds := (bfs (rwS X) n).1.map iN) rfl (by
      show findO q1 (dropO qf (os0 (bfs (rwS X) n))) = _
      rw [ed]
      exact findO_head) ?_
    have hed := bfs_edges (rw := rwS X) (fun s r hr => hXa (s, r) (mem_rowOf.mp (mem_srtR.mp hr))) n
    have hol := once_len (bfs (rwS X) n).2
    refine do_ret (R := isD K (.tuple [iN (bfs (rwS X) n).1.length, .tuple ((sE (bfs (rwS X) n).2).map encE)])) (ev_tup (ds := [iN (bfs (rwS X) n).1.length, .tuple ((sE (bfs (rwS X) n).2).map encE)]) (ea_cons (Ev.imp (ev_lenL mLen (ev_v 9)) (fun v F h => by rw [List.length_map] at h; exact h)) (ea_cons
      (Ev.imp (ev_tupL mTuple (En.ev (en_sortedL (ds := (once (bfs (rwS X) n).2).map encE) (sb_E _ (by omega)) hun mSorted (ev_call (R := fun a => isD K a.out) dO (hr.mono (by decide)) (OnceA.e (bfs (rwS X) n).2) ⟨by omega, fun e he => (hed e he).2.2.2⟩ (ea1 (ev_v 10)))))) (fun v F h => by rw [srt_E] at h; exact h)) ea_nil))) (fun σ v F' H' c hv => ret v F' H' c.en (by subst hX; exact hv))
end
end Kk

set_option Elab.async false
set_option autoImplicit false
set_option linter.all false
set_option maxRecDepth 100000
set_option maxHeartbeats 4000000
namespace Kk
open PySem L2 Pl
open PySem.W (alike alikeAll dataLt dataLt_pair dataLt_int dataLt_str dataLt_tuple dataLt_cons)
/-! ### the orders -/
theorem leE_total (a b : Ed) : leE a b = true ∨ leE b a = true := ple_total _ _
theorem leE_trans {a b c : Ed} (h1 : leE a b = true) (h2 : leE b c = true) : leE a c = true := ple_trans h1 h2
theorem leR_total (a b : Rw) : leR a b = true ∨ leR b a = true := ple_total _ _
theorem leR_trans {a b c : Rw} (h1 : leR a b = true) (h2 : leR b c = true) : leR a c = true := ple_trans h1 h2
theorem alk_R (a b : Rw) : alike (encR a) (encR b) = true := by simp [encR, alike, alikeAll]
theorem alk_E (a b : Ed) : alike (encE a) (encE b) = true := by simp [encE, alike, alikeAll]
theorem leR_anti {a b : Rw} (h1 : leR a b = true) (h2 : leR b a = true) : a = b := encR_inj (ple_antisymm (alk_R a b) (kd_R a).1 (kd_R b).1 h1 h2)
theorem leE_anti {a b : Ed} (h1 : leE a b = true) (h2 : leE b a = true) : a = b := encE_inj (ple_antisymm (alk_E a b) (kd_E a).1 (kd_E b).1 h1 h2)
theorem lt_R (a b : Rw) : dataLt (encR a) (encR b) = if a.1 = b.1 then decide (a.2 < b.2) else dataLt (.str a.1) (.str b.1) := by
  unfold encR
  rw [dataLt_pair (by simp [alike]) (by simp [alike]), dataLt_int]
  simp only [PyData.eqv, beq_iff_eq, Int.ofNat.injEq]
  by_cases h : a.1 = b.1
  · rw [if_pos h, if_pos h]
    by_cases h2 : a.2 = b.2
    · rw [h2]; simp
    · have h3 : ¬ ((a.2 : Int) = (b.2 : Int)) := fun z => h2 (Int.ofNat.inj z)
      rw [if_neg h3]
      exact decide_eq_decide.mpr (by omega)
  · rw [if_neg h, if_neg h]
theorem leR_mk {a b : Str} {x y u v : Nat} (h : leR (b, x) (a, y) = true) (huv : u ≤ v) : leR (b, u) (a, v) = true := by
  have h : (!dataLt (encR (a, y)) (encR (b, x))) = true := h
  show (!dataLt (encR (a, v)) (encR (b, u))) = true
  rw [lt_R] at h ⊢
  show (!(if a = b then decide (v < u) else dataLt (.str a) (.str b))) = true
  by_cases e : a = b
  · rw [if_pos e]
    have : ¬ v < u := by omega
    simp [this]
  · rw [if_neg e] at h ⊢
    exact h
theorem leE_row {s : Nat} {r q : Rw} : leE (s, r) (s, q) = leR r q := by
  show (!dataLt (encE (s, q)) (encE (s, r))) = (!dataLt (encR q) (encR r))
  congr 1
  unfold encE encR
  rw [dataLt_tuple, dataLt_tuple, dataLt_cons (by simp [alike]), if_pos (by simp [PyData.eqv])]
/-! ### sorted lists and what is in them -/
theorem srtR_pw (l : List Rw) : (srtR l).Pairwise (fun a b => leR a b = true) := List.pairwise_mergeSort (le := leR) (fun a b c h1 h2 => leR_trans h1 h2) (fun a b => by rcases leR_total a b with h | h <;> simp [h]) l
theorem srtE_pw (l : List Ed) : (srtE l).Pairwise (fun a b => leE a b = true) := List.pairwise_mergeSort (le := leE) (fun a b c h1 h2 => leE_trans h1 h2) (fun a b => by rcases leE_total a b with h | h <;> simp [h]) l
theorem srtR_nd {l : List Rw} (h : l.Nodup) : (srtR l).Nodup := (List.mergeSort_perm l leR).nodup_iff.mpr h
theorem srtE_nd {l : List Ed} (h : l.Nodup) : (srtE l).Nodup := (List.mergeSort_perm l leE).nodup_iff.mpr h
theorem sortedR_eq {l m : List Rw} (h1 : l.Nodup) (h2 : m.Nodup) (p1 : l.Pairwise (fun a b => leR a b = true)) (p2 : m.Pairwise (fun a b => leR a b = true)) (h : ∀ x, x ∈ l ↔ x ∈ m) : l = m := perm_sorted_eq (nodup_mem_perm h1 h2 h) p1 p2 fun x _ y _ a b => leR_anti a b
theorem sortedE_eq {l m : List Ed} (h1 : l.Nodup) (h2 : m.Nodup) (p1 : l.Pairwise (fun a b => leE a b = true)) (p2 : m.Pairwise (fun a b => leE a b = true)) (h : ∀ x, x ∈ l ↔ x ∈ m) : l = m := perm_sorted_eq (nodup_mem_perm h1 h2 h) p1 p2 fun x _ y _ a b => leE_anti a b
theorem once_sub {α : Type} [DecidableEq α] (l : List α) : (once l).Sublist l := by
  refine rev_ind (p := fun l => (once l).Sublist l) (List.Sublist.refl _) (fun l x ih => ?_) l
  rw [once_snoc]
  split
  · exact ih.trans (List.sublist_append_left _ _)
  · exact ih.append (List.Sublist.refl _)
theorem once_id {α : Type} [DecidableEq α] {l : List α} : l.Nodup → once l = l := by
  refine rev_ind (p := fun l => l.Nodup → once l = l) (fun _ => rfl) (fun l x ih h => ?_) l
  obtain ⟨h1, _, h3⟩ := List.nodup_append.mp h
  rw [once_snoc, ih h1, if_neg fun z => h3 x z x (by simp) rfl]
theorem srtR_congr {l m : List Rw} (h : ∀ x, x ∈ l ↔ x ∈ m) : srtR (once l) = srtR (once m) :=
  sortedR_eq (srtR_nd (once_nodup l)) (srtR_nd (once_nodup m)) (srtR_pw _) (srtR_pw _) fun x => by rw [mem_srtR, mem_srtR, mem_once, mem_once, h]
theorem once_srtR (l : List Rw) : once (srtR l) = srtR (once l) :=
  sortedR_eq (once_nodup _) (srtR_nd (once_nodup l)) ((srtR_pw l).sublist (once_sub _)) (srtR_pw _) fun x => by rw [mem_once, mem_srtR, mem_srtR, mem_once]
theorem sE_nd (es : List Ed) : (sE es).Nodup := srtE_nd (once_nodup es)
theorem sE_pw (es : List Ed) : (sE es).Pairwise (fun a b => leE a b = true) := srtE_pw _
theorem sE_congr {l m : List Ed} (h : ∀ x, x ∈ l ↔ x ∈ m) : sE l = sE m := sortedE_eq (sE_nd l) (sE_nd m) (sE_pw l) (sE_pw m) fun x => by rw [mem_sE, mem_sE, h]
theorem sE_sE (l : List Ed) : sE (sE l) = sE l := sE_congr fun x => mem_sE
theorem rowOf_nd {es : List Ed} (h : es.Nodup) (s : Nat) : (rowOf es s).Nodup := by
  induction es with
  | nil => exact List.nodup_nil
  | cons e es ih =>
    obtain ⟨h1, h2⟩ := List.nodup_cons.mp h
    rw [rowOf_cons]
    split
    · refine List.nodup_cons.mpr ⟨fun z => h1 ?_, ih h2⟩
      have := mem_rowOf.mp z
      rename_i hs
      rw [← hs] at this
      exact this
    · exact ih h2
theorem rowOf_pw {es : List Ed} (h : es.Pairwise (fun a b => leE a b = true)) (s : Nat) : (rowOf es s).Pairwise (fun a b => leR a b = true) := by
  induction es with
  | nil => exact List.Pairwise.nil
  | cons e es ih =>
    obtain ⟨h1, h2⟩ := List.pairwise_cons.mp h
    rw [rowOf_cons]
    split
    · rename_i hs
      refine List.pairwise_cons.mpr ⟨fun r hr => ?_, ih h2⟩
      have := h1 _ (mem_rowOf.mp hr)
      obtain ⟨e1, e2⟩ := e
      have hs : e1 = s := hs
      subst hs
      rwa [leE_row] at this
    · exact ih h2
theorem rowOf_sE (es : List Ed) (s : Nat) : rowOf (sE es) s = nrm es s :=
  sortedR_eq (rowOf_nd (sE_nd es) s) (srtR_nd (once_nodup _)) (rowOf_pw (sE_pw es) s) (srtR_pw _) fun x => by rw [mem_rowOf, mem_sE, mem_nrm]
theorem nrm_sE (es : List Ed) (s : Nat) : nrm (sE es) s = nrm es s := srtR_congr fun x => by rw [mem_rowOf, mem_rowOf, mem_sE]
/-! ### the order of first sight -/
def ext (o : List Nat) (ts : List Nat) : List Nat := ts.foldl (fun o t => if t ∈ o then o else o ++ [t]) o
theorem ext_snoc (o ts : List Nat) (t : Nat) : ext o (ts ++ [t]) = if t ∈ ext o ts then ext o ts else ext o ts ++ [t] := by
  unfold ext
  rw [List.foldl_append] <;> rfl
theorem mem_ext (o ts : List Nat) : ∀ x, x ∈ ext o ts ↔ x ∈ o ∨ x ∈ ts := by
  refine rev_ind (p := fun ts => ∀ x, x ∈ ext o ts ↔ x ∈ o ∨ x ∈ ts) (fun x => by simp [ext]) (fun l t ih x => ?_) ts
  rw [ext_snoc]
  split
  · rename_i h
    rw [ih, List.mem_append, List.mem_singleton]
    constructor
    · rintro (z | z)
      · exact .inl z
      · exact .inr (.inl z)
    · rintro (z | z | z)
      · exact .inl z
      · exact .inr z
      · subst z; exact (ih x).mp h
  · rw [List.mem_append, List.mem_append, ih, List.mem_singleton, or_assoc]
theorem ext_pre (o ts : List Nat) : ∃ t, ext o ts = o ++ t := by
  refine rev_ind (p := fun ts => ∃ t, ext o ts = o ++ t) ⟨[], by simp [ext]⟩ (fun l t ih => ?_) ts
  obtain ⟨q, h⟩ := ih
  rw [ext_snoc]
  split
  · exact ⟨q, h⟩
  · exact ⟨q ++ [t], by rw [h, List.append_assoc]⟩
theorem ext_once (o ts : List Nat) : ext o (once ts) = ext o ts := by
  refine rev_ind (p := fun ts => ext o (once ts) = ext o ts) rfl (fun l t ih => ?_) ts
  rw [once_snoc, ext_snoc]
  split
  · rename_i h
    rw [if_pos ((mem_ext o l t).mpr (.inr (mem_once.mp h))), ih]
  · rw [ext_snoc, ih]
theorem ext_app (o a b : List Nat) : ext o (a ++ b) = ext (ext o a) b := by unfold ext; rw [List.foldl_append]
theorem ext_nd {o : List Nat} (h : o.Nodup) (ts : List Nat) : (ext o ts).Nodup := by
  refine rev_ind (p := fun ts => (ext o ts).Nodup) h (fun l t ih => ?_) ts
  rw [ext_snoc]
  split
  · exact ih
  · rename_i hx
    refine List.nodup_append.mpr ⟨ih, by simp, fun a ha b hb => ?_⟩
    rw [List.mem_singleton.mp hb]
    intro z
    exact hx (z ▸ ha)
theorem once_map_once {α β : Type} [DecidableEq α] [DecidableEq β] (f : α → β) (l : List α) : once ((once l).map f) = once (l.map f) := by
  refine rev_ind (p := fun l => once ((once l).map f) = once (l.map f)) rfl (fun l x ih => ?_) l
  rw [once_snoc]
  split
  · rename_i h
    rw [List.map_append]
    show _ = once (l.map f ++ [f x])
    rw [once_snoc, if_pos (mem_once.mpr (List.mem_map.mpr ⟨x, mem_once.mp h, rfl⟩)), ih]
  · rw [List.map_append, List.map_append]
    show once ((once l).map f ++ [f x]) = once (l.map f ++ [f x])
    rw [once_snoc, once_snoc, ih]
theorem rowR_ord (k : Nat) (row : List Rw) : ∀ st : List Nat × List Ed, (rowR k st row).1 = ext st.1 (row.map Prod.snd) := by
  induction row with
  | nil => exact fun st => rfl
  | cons r row ih =>
    intro st
    show (rowR k (stepR k st r) row).1 = _
    rw [ih] <;> rfl
theorem idx_pre {o : List Nat} {x : Nat} (h : x ∈ o) (t : List Nat) : (o ++ t).idxOf x = o.idxOf x := by rw [List.idxOf_append, if_pos h]
theorem rowR_mem (k : Nat) (st : List Nat × List Ed) (row : List Rw) : ∀ e, e ∈ (rowR k st row).2 ↔ e ∈ st.2 ∨ ∃ r ∈ row, e = (k, r.1, (rowR k st row).1.idxOf r.2) := by
  refine rev_ind (p := fun row => ∀ e, e ∈ (rowR k st row).2 ↔ e ∈ st.2 ∨ ∃ r ∈ row, e = (k, r.1, (rowR k st row).1.idxOf r.2)) (fun e => by simp [rowR]) (fun l x ih e => ?_) row
  have hm : ∀ r ∈ l, r.2 ∈ (rowR k st l).1 := fun r hr => by rw [rowR_ord, mem_ext]; exact .inr (List.mem_map.mpr ⟨r, hr, rfl⟩)
  have hs : ∀ r ∈ l, (rowR k st (l ++ [x])).1.idxOf r.2 = (rowR k st l).1.idxOf r.2 := fun r hr => by
    rw [rowR_snoc]
    unfold stepR
    split
    · rfl
    · exact idx_pre (hm r hr) _
  have h2 : (rowR k st (l ++ [x])).2 = (rowR k st l).2 ++ [(k, x.1, (rowR k st (l ++ [x])).1.idxOf x.2)] := by rw [rowR_snoc] <;> rfl
  rw [h2, List.mem_append, ih, List.mem_singleton]
  constructor
  · rintro ((h | ⟨r, hr, h⟩) | h)
    · exact .inl h
    · exact .inr ⟨r, List.mem_append_left _ hr, by rw [hs r hr]; exact h⟩
    · exact .inr ⟨x, by simp, h⟩
  · rintro (h | ⟨r, hr, h⟩)
    · exact .inl (.inl h)
    · rcases List.mem_append.mp hr with z | z
      · exact .inl (.inr ⟨r, z, by rw [← hs r z]; exact h⟩)
      · rw [List.mem_singleton.mp z] at h
        exact .inr h
theorem bfs_ord {rw : Nat → List Rw} {k s : Nat} (h : (bfs rw k).1[k]? = some s) : (bfs rw (k + 1)).1 = ext (bfs rw k).1 ((rw s).map Prod.snd) := by rw [bfs_some h, rowR_ord]
theorem bfs_nd (rw : Nat → List Rw) (k : Nat) : (bfs rw k).1.Nodup := (bfs_ok (V := fun _ => True) trivial (fun _ _ _ _ => trivial) k).nd
/-- rows of the states that are done lead to states that are met -/
theorem bfs_tgt (rw : Nat → List Rw) : ∀ k j s, j < k → (bfs rw k).1[j]? = some s → ∀ r ∈ rw s, r.2 ∈ (bfs rw k).1
  | 0, _, _, h, _, _, _ => by omega
  | k + 1, j, s, h, hj, r, hr => by
    cases e : (bfs rw k).1[k]? with
    | none =>
      have hl : (bfs rw k).1.length ≤ k := by simpa using e
      rw [bfs_none hl] at hj ⊢
      have := (List.getElem?_eq_some_iff.mp hj).1
      exact bfs_tgt rw k j s (by omega) hj r hr
    | some t =>
      have hlt : k < (bfs rw k).1.length := (List.getElem?_eq_some_iff.mp e).1
      obtain ⟨q, hq⟩ := bfs_pre rw k
      rw [hq, List.getElem?_append_left (by omega)] at hj
      by_cases hjk : j = k
      · subst hjk
        rw [e] at hj
        cases hj
        rw [bfs_ord e, mem_ext]
        exact .inr (List.mem_map.mpr ⟨r, hr, rfl⟩)
      · rw [hq]
        exact List.mem_append_left _ (bfs_tgt rw k j s (by omega) hj r hr)
theorem bfs_mem (rw : Nat → List Rw) : ∀ k e, e ∈ (bfs rw k).2 ↔ ∃ j s r, j < k ∧ (bfs rw k).1[j]? = some s ∧ r ∈ rw s ∧ e = (j, r.1, (bfs rw k).1.idxOf r.2)
  | 0, e => by
    simp only [bfs]
    constructor
    · intro h; cases h
    · rintro ⟨j, s, r, h, _⟩; omega
  | k + 1, e => by
    have ih := bfs_mem rw k e
    cases hk : (bfs rw k).1[k]? with
    | none =>
      have hl : (bfs rw k).1.length ≤ k := by simpa using hk
      rw [bfs_none hl, ih]
      constructor
      · rintro ⟨j, s, r, h1, h2⟩; exact ⟨j, s, r, by omega, h2⟩
      · rintro ⟨j, s, r, h1, h2, h3⟩
        have := (List.getElem?_eq_some_iff.mp h2).1
        exact ⟨j, s, r, by omega, h2, h3⟩
    | some t =>
      have hlt : k < (bfs rw k).1.length := (List.getElem?_eq_some_iff.mp hk).1
      obtain ⟨q, hq⟩ := bfs_pre rw k
      have hr := rowR_mem k (bfs rw k) (rw t) e
      rw [← bfs_some hk] at hr
      rw [hr, ih]
      have hj : ∀ j, j < k + 1 → (bfs rw (k + 1)).1[j]? = (bfs rw k).1[j]? := fun j h => by rw [hq, List.getElem?_append_left (by omega)]
      constructor
      · rintro (⟨j, s, r, h1, h2, h3, h4⟩ | ⟨r, h1, h2⟩)
        · refine ⟨j, s, r, by omega, by rw [hj j (by omega)]; exact h2, h3, ?_⟩
          rw [hq, idx_pre (bfs_tgt rw k j s h1 h2 r h3)]
          exact h4
        · exact ⟨k, t, r, by omega, by rw [hj k (by omega)]; exact hk, h1, h2⟩
      · rintro ⟨j, s, r, h1, h2, h3, h4⟩
        rw [hj j h1] at h2
        by_cases hjk : j = k
        · subst hjk
          rw [hk] at h2
          cases h2
          exact .inr ⟨r, h3, h4⟩
        · refine .inl ⟨j, s, r, by omega, h2, h3, ?_⟩
          rw [hq, idx_pre (bfs_tgt rw k j s (by omega) h2 r h3)] at h4
          exact h4
theorem bfs_congr {rw rw' : Nat → List Rw} (h : ∀ s, once (rw s) = once (rw' s)) : ∀ k, (bfs rw k).1 = (bfs rw' k).1
  | 0 => rfl
  | k + 1 => by
    have ih := bfs_congr h k
    cases hk : (bfs rw k).1[k]? with
    | none =>
      have hl : (bfs rw k).1.length ≤ k := by simpa using hk
      rw [bfs_none hl, bfs_none (by rw [← ih]; exact hl), ih]
    | some t =>
      rw [bfs_ord hk, bfs_ord (by rw [← ih]; exact hk), ih, ← ext_once, ← ext_once _ ((rw' t).map _), ← once_map_once, ← once_map_once _ (rw' t), h]
theorem once_mem_eq {α : Type} [DecidableEq α] {l m : List α} (h : once l = once m) (x : α) : x ∈ l ↔ x ∈ m := by rw [← mem_once, h, mem_once]
theorem bfs_congrE {rw rw' : Nat → List Rw} (h : ∀ s, once (rw s) = once (rw' s)) (k : Nat) : ∀ e, e ∈ (bfs rw k).2 ↔ e ∈ (bfs rw' k).2 := fun e => by
  rw [bfs_mem, bfs_mem, bfs_congr h k]
  constructor
  · rintro ⟨j, s, r, a, b, c, d⟩; exact ⟨j, s, r, a, b, (once_mem_eq (h s) r).mp c, d⟩
  · rintro ⟨j, s, r, a, b, c, d⟩; exact ⟨j, s, r, a, b, (once_mem_eq (h s) r).mpr c, d⟩
theorem nrm_rwS {es es' : List Ed} (h : ∀ e, e ∈ es ↔ e ∈ es') (s : Nat) : once (nrm es s) = once (rwS es' s) := by
  show once (srtR (once (rowOf es s))) = once (srtR (rowOf es' s))
  rw [once_srtR, once_srtR, once_id (once_nodup (rowOf es s))]
  exact srtR_congr fun x => by rw [mem_rowOf, mem_rowOf, h]
/-! ### the rounds look at what the rows hold -/
theorem keyOf_congr {rw rw' : Nat → List Rw} {s : Nat} (h : ∀ r, r ∈ rw s ↔ r ∈ rw' s) (ms : List Nat) : keyOf rw ms s = keyOf rw' ms s := by
  unfold keyOf
  congr 1
  refine srtR_congr fun x => ?_
  rw [List.mem_map, List.mem_map]
  constructor
  · rintro ⟨r, a, b⟩; exact ⟨r, (h r).mp a, b⟩
  · rintro ⟨r, a, b⟩; exact ⟨r, (h r).mpr a, b⟩
theorem rd_congr {n : Nat} {rw rw' : Nat → List Rw} (h : ∀ s r, r ∈ rw s ↔ r ∈ rw' s) : ∀ k, rd n rw k = rd n rw' k
  | 0 => rfl
  | k + 1 => by
    show nextR n rw (rd n rw k) = nextR n rw' (rd n rw' k)
    rw [rd_congr h k]
    unfold nextR
    rw [List.map_congr_left fun s _ => keyOf_congr (h s) _]
theorem lastM_congr {n : Nat} {rw rw' : Nat → List Rw} (hn : 1 ≤ n) (h : ∀ s r, r ∈ rw s ↔ r ∈ rw' s) : lastM n rw = lastM n rw' := by
  have e : stopK n rw = stopK n rw' := by
    refine stopK_eq hn ?_
    have := stopK_spec (rw := rw') hn
    unfold Stop at this ⊢
    simp only [rd_congr h]
    exact this
  unfold lastM
  rw [e, rd_congr h]
theorem mem_cE {ms : List Nat} {es : List Ed} {e : Ed} : e ∈ cE ms tt es ↔ ∃ d ∈ es, e = (lead ms d.1, d.2.1, lead ms d.2.2) := by
  constructor
  · intro h
    obtain ⟨d, a, _, b⟩ := cE_mem h
    exact ⟨d, a, b⟩
  · rintro ⟨d, a, b⟩
    exact List.mem_map.mpr ⟨d, List.mem_filter.mpr ⟨a, rfl⟩, b.symm⟩
/-! ### what the law makes is what small makes -/
noncomputable def lcl (n : Nat) (es : List Ed) : Nat × List Ed := ((bfs (rwS (cE (lastM n (rowOf es)) tt es)) n).1.length, sE (bfs (rwS (cE (lastM n (rowOf es)) tt es)) n).2)
noncomputable def lsml (n : Nat) (es : List Ed) : Nat × List Ed := lcl (bfs (rwS es) n).1.length (once (bfs (rwS es) n).2)
theorem lcl_eq {n : Nat} {es es' : List Ed} (hn : 1 ≤ n) (h : ∀ e, e ∈ es' ↔ e ∈ es) : lcl n es = cls n es' := by
  have hm : lastM n (rowOf es') = lastM n (rowOf es) := lastM_congr hn fun s r => by rw [mem_rowOf, mem_rowOf, h]
  have hc : ∀ e, e ∈ cE (lastM n (rowOf es)) tt es' ↔ e ∈ cE (lastM n (rowOf es)) tt es := fun e => by
    rw [mem_cE, mem_cE]
    constructor
    · rintro ⟨d, a, b⟩; exact ⟨d, (h d).mp a, b⟩
    · rintro ⟨d, a, b⟩; exact ⟨d, (h d).mpr a, b⟩
  unfold lcl cls
  rw [hm]
  rw [show (fun _ => true : Ed → Bool) = tt from rfl, bfs_congr (fun s => nrm_rwS hc s) n]
  congr 1
  exact sE_congr fun e => (bfs_congrE (fun s => nrm_rwS hc s) n e).symm
theorem bfs_pos (rw : Nat → List Rw) : ∀ k, 1 ≤ (bfs rw k).1.length
  | 0 => Nat.le_refl _
  | k + 1 => Nat.le_trans (bfs_pos rw k) (bfs_len _ _)
theorem lsml_eq (n : Nat) (es : List Ed) : lsml n es = sml n (sE es) := by
  unfold lsml sml rch
  have h : ∀ s, once (rowOf (sE es) s) = once (rwS es s) := fun s => by rw [rowOf_sE]; exact nrm_rwS (fun e => Iff.rfl) s
  rw [bfs_congr h n]
  exact lcl_eq (bfs_pos _ _) fun e => by rw [mem_sE, mem_once, bfs_congrE h n]
/-! ### numbers of a system that is numbered already -/
theorem ext_range (m : Nat) (L : List Nat) : (∀ A v B, L = A ++ v :: B → ∀ u, u < v → u < m ∨ u ∈ A) → ∃ c, ext (List.range m) L = List.range c := by
  refine rev_ind (p := fun L => (∀ A v B, L = A ++ v :: B → ∀ u, u < v → u < m ∨ u ∈ A) → ∃ c, ext (List.range m) L = List.range c) (fun _ => ⟨m, rfl⟩) (fun l v ih h => ?_) L
  obtain ⟨c, hc⟩ := ih fun A w B e => h A w (B ++ [v]) (by rw [e]; simp)
  rw [ext_snoc, hc]
  by_cases hv : v ∈ List.range c
  · exact ⟨c, if_pos hv⟩
  · rw [if_neg hv]
    rw [List.mem_range] at hv
    have : v = c := by
      rcases Nat.lt_or_ge c v with h1 | h1
      · exfalso
        have h2 : c ∈ ext (List.range m) l := by
          rw [mem_ext, List.mem_range]
          exact h l v [] rfl c h1
        rw [hc, List.mem_range] at h2
        omega
      · omega
    rw [this]
    exact ⟨c + 1, List.range_succ.symm⟩
theorem ix_pre {o : List Nat} {x : Nat} (h : x ∈ o) (t : List Nat) : ix (o ++ t) x = ix o x := idx_pre h t
theorem ix_new {o : List Nat} {x : Nat} (h : x ∉ o) (t : List Nat) : o.length ≤ ix (o ++ t) x := by
  unfold ix
  rw [List.idxOf_append, if_neg h]
  omega
theorem ix_get {o : List Nat} (nd : o.Nodup) {i x : Nat} (h : o[i]? = some x) : ix o x = i := by
  have h1 : x ∈ o := List.mem_of_getElem? h
  have h2 := ix_at h1
  exact nodup_at nd h2 h
theorem canon_step {o : List Nat} {R R' : List Rw} (nd : o.Nodup) (hR : R.Pairwise (fun a b => leR a b = true)) (nd' : R'.Nodup) (hR' : R'.Pairwise (fun a b => leR a b = true))
    (h : ∀ q, q ∈ R' ↔ ∃ r ∈ R, q = (r.1, ix (ext o (R.map Prod.snd)) r.2)) : ext (List.range o.length) (R'.map Prod.snd) = List.range (ext o (R.map Prod.snd)).length := by
  have ndo := ext_nd nd (R.map Prod.snd)
  obtain ⟨z0, hz0⟩ := ext_pre o (R.map Prod.snd)
  obtain ⟨c, hc⟩ := ext_range o.length (R'.map Prod.snd) (fun A v B e u hu => by
    by_cases hum : u < o.length
    · exact .inl hum
    · right
      obtain ⟨A', Q', e1, e2, e3⟩ := List.map_eq_append_iff.mp e
      obtain ⟨⟨a, v'⟩, B', e4, e5, e6⟩ := List.map_eq_cons_iff.mp e3
      have e5 : v' = v := e5
      subst e5
      subst e4
      obtain ⟨r, hr, er⟩ := (h (a, v')).mp (by rw [e1]; simp)
      obtain ⟨ra, t⟩ := r
      have ea : a = ra := congrArg Prod.fst er
      have ev : v' = ix (ext o (R.map Prod.snd)) t := congrArg Prod.snd er
      subst ea
      have ht : t ∈ ext o (R.map Prod.snd) := (mem_ext _ _ _).mpr (.inr (List.mem_map.mpr ⟨_, hr, rfl⟩))
      have hvl := ix_lt ht
      rw [← ev] at hvl
      have hul : u < (ext o (R.map Prod.snd)).length := by omega
      have hu1 := List.getElem?_eq_getElem hul
      generalize htu : (ext o (R.map Prod.snd))[u] = tu at hu1
      have hiu := ix_get ndo hu1
      have hne : tu ≠ t := fun z => by rw [z, ← ev] at hiu; omega
      obtain ⟨P, Q, eR⟩ := List.append_of_mem hr
      have hsplit : ext o (R.map Prod.snd) = ext (ext (ext o (P.map Prod.snd)) [t]) (Q.map Prod.snd) := by rw [eR, ← ext_app, ← ext_app]; simp
      obtain ⟨z, hz⟩ := ext_pre (ext (ext o (P.map Prod.snd)) [t]) (Q.map Prod.snd)
      have htw : t ∈ ext (ext o (P.map Prod.snd)) [t] := (mem_ext _ _ _).mpr (.inr (by simp))
      have hmem : tu ∈ ext o (P.map Prod.snd) := Classical.byContradiction fun hn => by
        have hn2 : tu ∉ ext (ext o (P.map Prod.snd)) [t] := fun z2 => by
          rcases (mem_ext _ _ _).mp z2 with z3 | z3
          · exact hn z3
          · exact hne (List.mem_singleton.mp z3)
        have g1 := ix_new hn2 z
        have g2 := ix_lt htw
        rw [← ix_pre htw z] at g2
        rw [← hz, ← hsplit] at g1 g2
        rw [hiu] at g1
        rw [← ev] at g2
        omega
      rcases (mem_ext _ _ _).mp hmem with h1 | h1
      · exfalso
        have := ix_lt h1
        rw [← ix_pre h1 z0, ← hz0, hiu] at this
        exact hum this
      · obtain ⟨⟨b, tu'⟩, hb, eb⟩ := List.mem_map.mp h1
        have eb : tu' = tu := eb
        subst eb
        have hle : leR (b, tu') (a, t) = true := by
          rw [eR] at hR
          exact (List.pairwise_append.mp hR).2.2 _ hb _ (by simp)
        have hle2 : leR (b, u) (a, v') = true := leR_mk hle (by omega)
        have hin : (b, u) ∈ R' := (h _).mpr ⟨(b, tu'), by rw [eR]; exact List.mem_append_left _ hb, by rw [hiu]⟩
        rw [e1] at hin
        rcases List.mem_append.mp hin with z1 | z1
        · rw [← e2]
          exact List.mem_map.mpr ⟨_, z1, rfl⟩
        · exfalso
          rcases List.mem_cons.mp z1 with z2 | z2
          · have : u = v' := congrArg Prod.snd z2
            omega
          · rw [e1] at hR'
            have h3 := (List.pairwise_cons.mp (List.pairwise_append.mp hR').2.1).1 _ z2
            have h4 := leR_anti hle2 h3
            have : u = v' := congrArg Prod.snd h4
            omega)
  rw [hc]
  congr 1
  have key : ∀ x, x < c ↔ x < (ext o (R.map Prod.snd)).length := fun x => by
    rw [← List.mem_range, ← hc, mem_ext, List.mem_range]
    constructor
    · rintro (h1 | h1)
      · rw [hz0, List.length_append]; omega
      · obtain ⟨q, hq, rfl⟩ := List.mem_map.mp h1
        obtain ⟨r, hr, rfl⟩ := (h q).mp hq
        exact ix_lt ((mem_ext _ _ _).mpr (.inr (List.mem_map.mpr ⟨_, hr, rfl⟩)))
    · intro h1
      have h2 := List.getElem?_eq_getElem h1
      generalize (ext o (R.map Prod.snd))[x] = t at h2
      have h3 := ix_get ndo h2
      rcases (mem_ext _ _ _).mp (List.mem_of_getElem? h2) with h4 | h4
      · left
        have := ix_lt h4
        rw [← ix_pre h4 z0, ← hz0, h3] at this
        exact this
      · right
        obtain ⟨r, hr, er⟩ := List.mem_map.mp h4
        refine List.mem_map.mpr ⟨(r.1, x), (h _).mpr ⟨r, hr, ?_⟩, rfl⟩
        rw [er, h3]
  have k1 := key c
  have k2 := key (ext o (R.map Prod.snd)).length
  omega
theorem bfs_preL (rw : Nat → List Rw) (k : Nat) : ∀ j, ∃ t, (bfs rw (k + j)).1 = (bfs rw k).1 ++ t
  | 0 => ⟨[], by simp⟩
  | j + 1 => by
    obtain ⟨t, ht⟩ := bfs_preL rw k j
    obtain ⟨q, hq⟩ := bfs_pre rw (k + j)
    exact ⟨t ++ q, by rw [← Nat.add_assoc, hq, ht, List.append_assoc]⟩
theorem bfs_preK (rw : Nat → List Rw) {k n : Nat} (h : k ≤ n) : ∃ t, (bfs rw n).1 = (bfs rw k).1 ++ t := by
  have := bfs_preL rw k (n - k)
  rwa [show k + (n - k) = n by omega] at this
/-- rows of a system that is made by numbering -/
theorem canon_row {rw : Nat → List Rw} {n k s : Nat} (hN : (bfs rw n).1.length ≤ n) (hk : (bfs rw n).1[k]? = some s) (r : Rw) : r ∈ rowOf (sE (bfs rw n).2) k ↔ ∃ q ∈ rw s, r = (q.1, ix (bfs rw n).1 q.2) := by
  rw [mem_rowOf, mem_sE, bfs_mem]
  have hl := (List.getElem?_eq_some_iff.mp hk).1
  constructor
  · rintro ⟨j, s', q, h1, h2, h3, h4⟩
    have ej : k = j := congrArg Prod.fst h4
    subst ej
    rw [hk] at h2
    cases h2
    exact ⟨q, h3, congrArg Prod.snd h4⟩
  · rintro ⟨q, h1, h2⟩
    exact ⟨k, s, q, by omega, hk, h1, by rw [h2] <;> rfl⟩
theorem canon_ord {rw : Nat → List Rw} {n : Nat} (hs : ∀ s, (rw s).Pairwise (fun a b => leR a b = true)) (hN : (bfs rw n).1.length ≤ n) : ∀ k, k ≤ n → (bfs (rowOf (sE (bfs rw n).2)) k).1 = List.range (bfs rw k).1.length
  | 0, _ => rfl
  | k + 1, hk => by
    have ih := canon_ord hs hN k (by omega)
    cases e : (bfs rw k).1[k]? with
    | none =>
      have hl : (bfs rw k).1.length ≤ k := by simpa using e
      rw [bfs_none hl, bfs_none (by rw [ih, List.length_range]; exact hl), ih]
    | some s =>
      have hlt : k < (bfs rw k).1.length := (List.getElem?_eq_some_iff.mp e).1
      obtain ⟨t, ht⟩ := bfs_preK rw (k := k) (n := n) (by omega)
      obtain ⟨t1, ht1⟩ := bfs_preK rw (k := k + 1) (n := n) hk
      have hk2 : (bfs rw n).1[k]? = some s := by rw [ht, List.getElem?_append_left hlt]; exact e
      rw [bfs_ord (s := k) (by rw [ih, List.getElem?_range hlt]), ih, bfs_ord e]
      refine canon_step (bfs_nd rw k) (hs s) (rowOf_nd (sE_nd _) k) (rowOf_pw (sE_pw _) k) fun q => ?_
      rw [canon_row hN hk2]
      rw [← bfs_ord e]
      constructor
      · rintro ⟨r, h1, h2⟩
        refine ⟨r, h1, ?_⟩
        rw [h2, ht1, ix_pre]
        rw [bfs_ord e, mem_ext]
        exact .inr (List.mem_map.mpr ⟨r, h1, rfl⟩)
      · rintro ⟨r, h1, h2⟩
        refine ⟨r, h1, ?_⟩
        rw [h2, ht1, ix_pre]
        rw [bfs_ord e, mem_ext]
        exact .inr (List.mem_map.mpr ⟨r, h1, rfl⟩)
theorem ix_range {N x : Nat} (h : x < N) : ix (List.range N) x = x := ix_get List.nodup_range (List.getElem?_range h)
theorem canon_rch {rw : Nat → List Rw} {n : Nat} (hs : ∀ s, (rw s).Pairwise (fun a b => leR a b = true)) (hN : (bfs rw n).1.length ≤ n) : rch (bfs rw n).1.length (sE (bfs rw n).2) = ((bfs rw n).1.length, sE (bfs rw n).2) := by
  have h1 := canon_ord hs hN (bfs rw n).1.length hN
  obtain ⟨t, ht⟩ := bfs_preK rw hN
  have h2 : (bfs rw (bfs rw n).1.length).1.length = (bfs rw n).1.length := by
    have hle : (bfs rw (bfs rw n).1.length).1.length ≤ (bfs rw n).1.length := by
      have := congrArg List.length ht
      rw [List.length_append] at this
      omega
    have h3 := bfs_stop hle (n - (bfs rw n).1.length)
    rw [show (bfs rw n).1.length + (n - (bfs rw n).1.length) = n by omega] at h3
    rw [← h3]
  rw [h2] at h1
  have hlt : ∀ e ∈ (bfs rw n).2, e.1 < (bfs rw n).1.length ∧ e.2.2 < (bfs rw n).1.length := fun e he => by
    obtain ⟨j, s, r, a, b, c, d⟩ := (bfs_mem rw n e).mp he
    rw [d]
    exact ⟨(List.getElem?_eq_some_iff.mp b).1, List.idxOf_lt_length_iff.mpr (bfs_tgt rw n j s a b r c)⟩
  unfold rch
  rw [h1, List.length_range]
  congr 1
  refine sortedE_eq (sE_nd _) (sE_nd _) (sE_pw _) (sE_pw _) fun e => ?_
  rw [mem_sE, bfs_mem, h1]
  constructor
  · rintro ⟨j, s, r, a, b, c, d⟩
    rw [List.getElem?_range a] at b
    cases b
    have c2 := mem_rowOf.mp c
    have h4 := (hlt _ (mem_sE.mp c2)).2
    have h4 : r.2 < _ := h4
    rw [d]
    show (j, r.1, ix (List.range _) r.2) ∈ _
    rw [ix_range h4]
    exact c2
  · intro h
    obtain ⟨h4, h5⟩ := hlt e (mem_sE.mp h)
    refine ⟨e.1, e.1, e.2, h4, List.getElem?_range h4, mem_rowOf.mpr h, ?_⟩
    show e = (e.1, e.2.1, ix (List.range _) e.2.2)
    rw [ix_range h5]
/-! ### the last marks -/
theorem keyOf_iff {rw : Nat → List Rw} {ms : List Nat} {s t : Nat} : keyOf rw ms s = keyOf rw ms t ↔ ms.getD s 0 = ms.getD t 0 ∧ ∀ a m, (∃ u, (a, u) ∈ rw s ∧ ms.getD u 0 = m) ↔ ∃ u, (a, u) ∈ rw t ∧ ms.getD u 0 = m := by
  have hm : ∀ s a m, (a, m) ∈ (rw s).map (fun r => (r.1, ms.getD r.2 0)) ↔ ∃ u, (a, u) ∈ rw s ∧ ms.getD u 0 = m := fun s a m => by
    rw [List.mem_map]
    constructor
    · rintro ⟨⟨b, u⟩, h1, h2⟩
      cases h2
      exact ⟨u, h1, rfl⟩
    · rintro ⟨u, h1, rfl⟩
      exact ⟨(a, u), h1, rfl⟩
  constructor
  · intro h
    refine ⟨congrArg Prod.fst h, fun a m => ?_⟩
    have h2 := congrArg Prod.snd h
    have h2 : srtR (once ((rw s).map fun r => (r.1, ms.getD r.2 0))) = srtR (once ((rw t).map fun r => (r.1, ms.getD r.2 0))) := h2
    rw [← hm s, ← hm t, ← mem_once, ← mem_srtR, h2, mem_srtR, mem_once]
  · rintro ⟨h1, h2⟩
    unfold keyOf
    rw [h1]
    congr 1
    exact srtR_congr fun x => by
      obtain ⟨a, m⟩ := x
      rw [hm s, hm t, h2]
theorem once_eq {α β : Type} [DecidableEq α] [DecidableEq β] : ∀ (z : List (α × β)), (∀ p ∈ z, ∀ q ∈ z, p.2 = q.2 → p.1 = q.1) → (once (z.map Prod.snd)).length ≤ (once (z.map Prod.fst)).length → ∀ p ∈ z, ∀ q ∈ z, p.1 = q.1 → p.2 = q.2 := by
  intro z
  refine rev_ind (p := fun z : List (α × β) => (∀ p ∈ z, ∀ q ∈ z, p.2 = q.2 → p.1 = q.1) → (once (z.map Prod.snd)).length ≤ (once (z.map Prod.fst)).length → ∀ p ∈ z, ∀ q ∈ z, p.1 = q.1 → p.2 = q.2) (fun _ _ p hp => by cases hp) (fun l x ih h hc => ?_) z
  have hl : ∀ p ∈ l, ∀ q ∈ l, p.2 = q.2 → p.1 = q.1 := fun p hp q hq => h p (List.mem_append_left _ hp) q (List.mem_append_left _ hq)
  have hle := once_le l hl
  have hc : (once (l.map Prod.snd ++ [x.2])).length ≤ (once (l.map Prod.fst ++ [x.1])).length := by simpa using hc
  rw [once_snoc, once_snoc] at hc
  by_cases h2 : x.2 ∈ once (l.map Prod.snd)
  · rw [mem_once] at h2
    obtain ⟨p0, hp0, e0⟩ := List.mem_map.mp h2
    have e1 := h p0 (List.mem_append_left _ hp0) x (by simp) e0
    rw [if_pos (mem_once.mpr h2), if_pos (mem_once.mpr (List.mem_map.mpr ⟨p0, hp0, e1⟩))] at hc
    have ih := ih hl hc
    have up : ∀ p ∈ l ++ [x], ∃ p' ∈ l, p'.1 = p.1 ∧ p'.2 = p.2 := fun p hp => by
      rcases List.mem_append.mp hp with z | z
      · exact ⟨p, z, rfl, rfl⟩
      · rw [List.mem_singleton.mp z]; exact ⟨p0, hp0, e1, e0⟩
    intro p hp q hq e
    obtain ⟨p', a1, a2, a3⟩ := up p hp
    obtain ⟨q', b1, b2, b3⟩ := up q hq
    rw [← a3, ← b3]
    exact ih p' a1 q' b1 (by rw [a2, b2, e])
  · rw [if_neg h2, List.length_append] at hc
    by_cases h1 : x.1 ∈ once (l.map Prod.fst)
    · rw [if_pos h1] at hc
      simp at hc
      omega
    · rw [if_neg h1, List.length_append] at hc
      have ih := ih hl (by simpa using hc)
      rw [mem_once] at h1
      intro p hp q hq e
      rcases List.mem_append.mp hp with z | z
      · rcases List.mem_append.mp hq with y | y
        · exact ih p z q y e
        · rw [List.mem_singleton.mp y] at e
          exact absurd (List.mem_map.mpr ⟨p, z, e⟩) h1
      · rcases List.mem_append.mp hq with y | y
        · rw [List.mem_singleton.mp z] at e
          exact absurd (List.mem_map.mpr ⟨q, y, e.symm⟩) h1
        · rw [List.mem_singleton.mp z, List.mem_singleton.mp y]
theorem rd_down {n : Nat} {rw : Nat → List Rw} {s t : Nat} (hs : s < n) (ht : t < n) {k : Nat} : ∀ j, (rd n rw (k + j)).getD s 0 = (rd n rw (k + j)).getD t 0 → (rd n rw k).getD s 0 = (rd n rw k).getD t 0
  | 0, h => h
  | j + 1, h => rd_down hs ht j (keyOf_iff.mp ((nextR_eq hs ht).mp h)).1
theorem stable {n : Nat} {rw : Nat → List Rw} {k : Nat} (h : cnt (rd n rw (k + 1)) = cnt (rd n rw k)) {s t : Nat} (hs : s < n) (ht : t < n) (e : (rd n rw k).getD s 0 = (rd n rw k).getD t 0) : (rd n rw (k + 1)).getD s 0 = (rd n rw (k + 1)).getD t 0 := by
  have hz := once_eq ((List.range n).map fun s => ((rd n rw k).getD s 0, (rd n rw (k + 1)).getD s 0)) (fun p hp q hq e => by
    obtain ⟨s, hs, rfl⟩ := List.mem_map.mp hp
    obtain ⟨t, ht, rfl⟩ := List.mem_map.mp hq
    exact rd_down (List.mem_range.mp hs) (List.mem_range.mp ht) 1 e)
  rw [List.map_map, List.map_map] at hz
  have e1 : (List.range n).map (Prod.fst ∘ fun s => ((rd n rw k).getD s 0, (rd n rw (k + 1)).getD s 0)) = rd n rw k := list_range (rd_len _ _ _)
  have e2 : (List.range n).map (Prod.snd ∘ fun s => ((rd n rw k).getD s 0, (rd n rw (k + 1)).getD s 0)) = rd n rw (k + 1) := list_range (rd_len _ _ _)
  rw [e1, e2] at hz
  exact hz (Nat.le_of_eq h) _ (List.mem_map.mpr ⟨s, List.mem_range.mpr hs, rfl⟩) _ (List.mem_map.mpr ⟨t, List.mem_range.mpr ht, rfl⟩) e
/-- what the last marks do not part, no round parts -/
theorem last_all {n : Nat} {rw : Nat → List Rw} (hn : 1 ≤ n) (hrw : ∀ s, s < n → ∀ r ∈ rw s, r.2 < n) : ∀ k s t, s < n → t < n → (lastM n rw).getD s 0 = (lastM n rw).getD t 0 → (rd n rw k).getD s 0 = (rd n rw k).getD t 0 := by
  have st := (stopK_spec (rw := rw) hn).2
  have up : ∀ j s t, s < n → t < n → (lastM n rw).getD s 0 = (lastM n rw).getD t 0 → (rd n rw (stopK n rw + j)).getD s 0 = (rd n rw (stopK n rw + j)).getD t 0 := by
    intro j
    induction j with
    | zero => exact fun s t _ _ e => e
    | succ j ih =>
      intro s t hs ht e
      have h1 := (keyOf_iff.mp ((nextR_eq hs ht).mp (stable st hs ht e))).2
      refine (nextR_eq hs ht).mpr (keyOf_iff.mpr ⟨ih s t hs ht e, fun a m => ?_⟩)
      constructor
      · rintro ⟨u, hu, rfl⟩
        obtain ⟨u', hu', e'⟩ := (h1 a _).mp ⟨u, hu, rfl⟩
        exact ⟨u', hu', ih u' u (hrw t ht _ hu') (hrw s hs _ hu) e'⟩
      · rintro ⟨u, hu, rfl⟩
        obtain ⟨u', hu', e'⟩ := (h1 a _).mpr ⟨u, hu, rfl⟩
        exact ⟨u', hu', ih u' u (hrw s hs _ hu') (hrw t ht _ hu) e'⟩
  intro k s t hs ht e
  rcases Nat.le_total k (stopK n rw) with h | h
  · have := rd_down (rw := rw) (k := k) hs ht (stopK n rw - k)
    rw [show k + (stopK n rw - k) = stopK n rw by omega] at this
    exact this e
  · have := up (k - stopK n rw) s t hs ht e
    rwa [show stopK n rw + (k - stopK n rw) = k by omega] at this
theorem lead_mark {ms : List Nat} {s : Nat} (h : s < ms.length) : ms.getD (lead ms s) 0 = ms.getD s 0 := by
  have := ix_at (getD_mem h)
  show ms.getD (ix ms (ms.getD s 0)) 0 = _
  rw [List.getD_eq_getElem?_getD (i := ix _ _), this] <;> rfl
theorem lead_lt {ms : List Nat} {s : Nat} (h : s < ms.length) : lead ms s < ms.length := ix_lt (getD_mem h)
theorem lead_ldr {ms : List Nat} {l : Nat} (h : l ∈ ldr ms) : lead ms l = l := by
  obtain ⟨m, hm, rfl⟩ := List.mem_map.mp h
  have := ix_at (mem_once.mp hm)
  unfold lead
  rw [List.getD_eq_getElem?_getD, this] <;> rfl
/-! ### small of a small system is itself -/
theorem cls_idem {n : Nat} {es : List Ed} (wf : WfL n es) : cls (cls n es).1 (cls n es).2 = cls n es ∧ rch (cls n es).1 (cls n es).2 = cls n es := by
  have hn := wf.pos
  generalize hms : lastM n (rowOf es) = ms
  have hml : ms.length = n := by rw [← hms]; exact rd_len _ _ _
  generalize hX : cE ms tt es = X
  have hcls : cls n es = ((bfs (nrm X) n).1.length, sE (bfs (nrm X) n).2) := by
    unfold cls
    rw [hms, show (fun _ => true : Ed → Bool) = tt from rfl, hX]
  have hrw := wf_cls (ms := ms) wf hml tt
  rw [hX] at hrw
  have hok := bfs_ok hrw.zero hrw.lt n
  have hN : (bfs (nrm X) n).1.length ≤ n := hok.len hrw.sub
  have hch := canon_rch (rw := nrm X) (n := n) (fun s => srtR_pw _) hN
  have hcr : ∀ {k s : Nat}, (bfs (nrm X) n).1[k]? = some s → ∀ a u, (a, u) ∈ rowOf (sE (bfs (nrm X) n).2) k ↔ ∃ d ∈ es, lead ms d.1 = s ∧ a = d.2.1 ∧ u = ix (bfs (nrm X) n).1 (lead ms d.2.2) := fun {k s} hk a u => by
    rw [canon_row hN hk]
    constructor
    · rintro ⟨q, h1, h2⟩
      rw [mem_nrm, ← hX, mem_cE] at h1
      obtain ⟨d, hd, e⟩ := h1
      have e1 : s = lead ms d.1 := congrArg Prod.fst e
      have e2 : q = (d.2.1, lead ms d.2.2) := congrArg Prod.snd e
      subst e2
      exact ⟨d, hd, e1.symm, congrArg Prod.fst h2, congrArg Prod.snd h2⟩
    · rintro ⟨d, hd, e1, e2, e3⟩
      refine ⟨(d.2.1, lead ms d.2.2), ?_, by rw [e2, e3]⟩
      rw [mem_nrm, ← hX, mem_cE]
      exact ⟨d, hd, by rw [e1]⟩
  have hcl : ∀ {k s : Nat}, (bfs (nrm X) n).1[k]? = some s → ∀ d ∈ es, lead ms d.1 = s → lead ms d.2.2 ∈ (bfs (nrm X) n).1 := fun {k s} hk d hd e1 => by
    have hl := (List.getElem?_eq_some_iff.mp hk).1
    refine bfs_tgt (nrm X) n k s (by omega) hk (d.2.1, lead ms d.2.2) ?_
    rw [mem_nrm, ← hX, mem_cE]
    exact ⟨d, hd, by rw [e1]⟩
  have hld : ∀ {k s : Nat}, (bfs (nrm X) n).1[k]? = some s → lead ms s = s ∧ s < n := fun {k s} hk => by
    have := hok.lt s (List.mem_of_getElem? hk)
    exact ⟨lead_ldr this, hml ▸ ldr_lt this⟩
  have hnd := hok.nd
  generalize ho : (bfs (nrm X) n).1 = o at *
  generalize hE : sE (bfs (nrm X) n).2 = E at *
  have hrt : ∀ s, s < n → ∀ r ∈ rowOf es s, r.2 < n := fun s _ r hr => (wf.lt (s, r) (mem_rowOf.mp hr)).2
  have hall := last_all (rw := rowOf es) hn hrt
  rw [hms] at hall
  have hNp : 1 ≤ o.length := by rw [← ho]; exact bfs_pos _ _
  have atI : ∀ {j : Nat}, j < o.length → o[j]? = some (o.getD j 0) := fun {j} h => by rw [List.getD_eq_getElem?_getD, List.getElem?_eq_getElem h] <;> rfl
  have leq : ∀ {s : Nat}, s < n → ∀ k, (rd n (rowOf es) k).getD (lead ms s) 0 = (rd n (rowOf es) k).getD s 0 := fun {s} h k => by
    have h1 : lead ms s < n := by have := lead_lt (ms := ms) (s := s) (by omega); omega
    exact hall k _ _ h1 h (lead_mark (by omega))
  have q : ∀ k j1 j2, j1 < o.length → j2 < o.length → ((rd o.length (rowOf E) k).getD j1 0 = (rd o.length (rowOf E) k).getD j2 0 ↔ (rd n (rowOf es) k).getD (o.getD j1 0) 0 = (rd n (rowOf es) k).getD (o.getD j2 0) 0) := by
    intro k
    induction k with
    | zero =>
      intro j1 j2 h1 h2
      have hr : ∀ (m s : Nat), (List.replicate m 0).getD s 0 = 0 := fun m s => by
        rw [List.getD_eq_getElem?_getD, List.getElem?_replicate]
        split <;> rfl
      show (List.replicate o.length 0).getD j1 0 = (List.replicate o.length 0).getD j2 0 ↔ (List.replicate n 0).getD _ 0 = (List.replicate n 0).getD _ 0
      rw [hr, hr, hr, hr]
    | succ k ih =>
      intro j1 j2 h1 h2
      obtain ⟨a1, b1⟩ := hld (atI h1)
      obtain ⟨a2, b2⟩ := hld (atI h2)
      -- states of one class have the same key
      have hkey : ∀ {s l : Nat}, s < n → lead ms s = l → l < n → ∀ a m, (∃ u, (a, u) ∈ rowOf es s ∧ (rd n (rowOf es) k).getD u 0 = m) ↔ ∃ u, (a, u) ∈ rowOf es l ∧ (rd n (rowOf es) k).getD u 0 = m := fun {s l} hs e hl => by
        have h3 := leq hs (k + 1)
        rw [e] at h3
        have h4 := (keyOf_iff.mp ((nextR_eq hl hs).mp h3)).2
        exact fun a m => (h4 a m).symm
      have up : ∀ {j : Nat} (hj : j < o.length) {a : Str} {t : Nat}, (a, t) ∈ rowOf es (o.getD j 0) → (a, ix o (lead ms t)) ∈ rowOf E j ∧ ix o (lead ms t) < o.length ∧ o.getD (ix o (lead ms t)) 0 = lead ms t ∧ t < n := fun {j} hj {a t} h => by
        have hd := mem_rowOf.mp h
        have e1 := (hld (atI hj)).1
        have hm := hcl (atI hj) _ hd e1
        refine ⟨(hcr (atI hj) a _).mpr ⟨_, hd, e1, rfl, rfl⟩, ix_lt hm, ?_, (wf.lt _ hd).2⟩
        rw [List.getD_eq_getElem?_getD, ix_at hm] <;> rfl
      have dn : ∀ {j : Nat} (hj : j < o.length) {a : Str} {u : Nat}, (a, u) ∈ rowOf E j → ∃ t t', (a, t) ∈ rowOf es (o.getD j 0) ∧ t < n ∧ t' < n ∧ (rd n (rowOf es) k).getD t 0 = (rd n (rowOf es) k).getD t' 0 ∧ u = ix o (lead ms t') ∧ u < o.length ∧ o.getD u 0 = lead ms t' := fun {j} hj {a u} h => by
        obtain ⟨d, hd, e1, e2, e3⟩ := (hcr (atI hj) a u).mp h
        have hm := hcl (atI hj) _ hd e1
        obtain ⟨l1, l2⟩ := wf.lt d hd
        obtain ⟨t, ht, e4⟩ := (hkey l1 e1 (hld (atI hj)).2 a _).mp ⟨d.2.2, mem_rowOf.mpr (by rw [e2]; exact hd), rfl⟩
        refine ⟨t, d.2.2, ht, (wf.lt _ (mem_rowOf.mp ht)).2, l2, e4, e3, by rw [e3]; exact ix_lt hm, ?_⟩
        rw [e3, List.getD_eq_getElem?_getD, ix_at hm] <;> rfl
      -- one half
      have half1 : ∀ {i j : Nat} (hi : i < o.length) (hj : j < o.length), (∀ a m, (∃ u, (a, u) ∈ rowOf E i ∧ (rd o.length (rowOf E) k).getD u 0 = m) → ∃ u, (a, u) ∈ rowOf E j ∧ (rd o.length (rowOf E) k).getD u 0 = m) → ∀ a m, (∃ u, (a, u) ∈ rowOf es (o.getD i 0) ∧ (rd n (rowOf es) k).getD u 0 = m) → ∃ u, (a, u) ∈ rowOf es (o.getD j 0) ∧ (rd n (rowOf es) k).getD u 0 = m := fun {i j} hi hj h a m => by
        rintro ⟨t, ht, rfl⟩
        obtain ⟨p1, p2, p3, p4⟩ := up hi ht
        obtain ⟨u, hu, e⟩ := h a _ ⟨_, p1, rfl⟩
        obtain ⟨t2, t', r1, r2, r3, r4, r5, r6, r7⟩ := dn hj hu
        have := (ih u _ r6 p2).mp e
        rw [r7, p3, leq r3, leq p4] at this
        exact ⟨t2, r1, by rw [r4, this]⟩
      have half2 : ∀ {i j : Nat} (hi : i < o.length) (hj : j < o.length), (∀ a m, (∃ u, (a, u) ∈ rowOf es (o.getD i 0) ∧ (rd n (rowOf es) k).getD u 0 = m) → ∃ u, (a, u) ∈ rowOf es (o.getD j 0) ∧ (rd n (rowOf es) k).getD u 0 = m) → ∀ a m, (∃ u, (a, u) ∈ rowOf E i ∧ (rd o.length (rowOf E) k).getD u 0 = m) → ∃ u, (a, u) ∈ rowOf E j ∧ (rd o.length (rowOf E) k).getD u 0 = m := fun {i j} hi hj h a m => by
        rintro ⟨u, hu, rfl⟩
        obtain ⟨t, t', r1, r2, r3, r4, r5, r6, r7⟩ := dn hi hu
        obtain ⟨t2, ht2, e⟩ := h a _ ⟨t, r1, rfl⟩
        obtain ⟨p1, p2, p3, p4⟩ := up hj ht2
        refine ⟨_, p1, (ih _ u p2 r6).mpr ?_⟩
        rw [r7, p3, leq r3, leq p4, e, r4]
      show (nextR o.length (rowOf E) _).getD j1 0 = (nextR o.length (rowOf E) _).getD j2 0 ↔ (nextR n (rowOf es) _).getD _ 0 = (nextR n (rowOf es) _).getD _ 0
      rw [nextR_eq h1 h2, nextR_eq b1 b2, keyOf_iff, keyOf_iff, ih j1 j2 h1 h2]
      constructor
      · rintro ⟨g1, g2⟩
        exact ⟨g1, fun a m => ⟨half1 h1 h2 (fun a m => (g2 a m).mp) a m, half1 h2 h1 (fun a m => (g2 a m).mpr) a m⟩⟩
      · rintro ⟨g1, g2⟩
        exact ⟨g1, fun a m => ⟨half2 h1 h2 (fun a m => (g2 a m).mp) a m, half2 h2 h1 (fun a m => (g2 a m).mpr) a m⟩⟩
  -- every state is its own class
  have hEl : ∀ d ∈ E, d.1 < o.length ∧ d.2.2 < o.length := fun d hd => by
    rw [← hE, mem_sE, bfs_mem] at hd
    obtain ⟨j, s, r, a, b, c, e⟩ := hd
    have b2 := (List.getElem?_eq_some_iff.mp b).1
    have c2 := bfs_tgt (nrm X) n j s a b r c
    rw [ho] at b2 c2 e
    rw [e]
    exact ⟨b2, ix_lt c2⟩
  have hrt2 : ∀ s, s < o.length → ∀ r ∈ rowOf E s, r.2 < o.length := fun s _ r hr => (hEl (s, r) (mem_rowOf.mp hr)).2
  have hinj : ∀ j1 j2, j1 < o.length → j2 < o.length → (lastM o.length (rowOf E)).getD j1 0 = (lastM o.length (rowOf E)).getD j2 0 → j1 = j2 := fun j1 j2 h1 h2 e => by
    have e1 := (q (stopK n (rowOf es)) j1 j2 h1 h2).mp (last_all hNp hrt2 _ j1 j2 h1 h2 e)
    have e1 : (lastM n (rowOf es)).getD _ 0 = (lastM n (rowOf es)).getD _ 0 := e1
    rw [hms] at e1
    have e2 : lead ms (o.getD j1 0) = lead ms (o.getD j2 0) := by unfold lead; rw [e1]
    rw [(hld (atI h1)).1, (hld (atI h2)).1] at e2
    have g1 := ix_get hnd (atI h1)
    have g2 := ix_get hnd (atI h2)
    rw [e2] at g1
    omega
  have hlen2 : (lastM o.length (rowOf E)).length = o.length := rd_len _ _ _
  have hself : ∀ j, j < o.length → lead (lastM o.length (rowOf E)) j = j := fun j h => by
    have h1 := lead_lt (ms := lastM o.length (rowOf E)) (s := j) (by omega)
    exact hinj _ _ (by omega) h (lead_mark (by omega))
  have hmem : ∀ e, e ∈ cE (lastM o.length (rowOf E)) tt E ↔ e ∈ E := fun e => by
    rw [mem_cE]
    constructor
    · rintro ⟨d, hd, rfl⟩
      obtain ⟨l1, l2⟩ := hEl d hd
      rw [hself _ l1, hself _ l2]
      exact hd
    · intro h
      obtain ⟨l1, l2⟩ := hEl e h
      exact ⟨e, h, by rw [hself _ l1, hself _ l2]⟩
  have hfun : nrm (cE (lastM o.length (rowOf E)) tt E) = rowOf E := funext fun s => by
    have e1 : nrm (cE (lastM o.length (rowOf E)) tt E) s = nrm E s := srtR_congr fun x => by rw [mem_rowOf, mem_rowOf, hmem]
    rw [e1, ← hE, nrm_sE, rowOf_sE]
  rw [hcls]
  refine ⟨?_, hch⟩
  show cls o.length E = (o.length, E)
  unfold cls
  rw [show (fun _ => true : Ed → Bool) = tt from rfl, hfun]
  exact hch
theorem sml_idem {n : Nat} {es : List Ed} (wf : WfL n es) : sml (sml n es).1 (sml n es).2 = sml n es := by
  have h := cls_idem (wf_rch wf)
  unfold sml at h ⊢
  rw [h.2, h.1]
end Kk

set_option Elab.async false
set_option autoImplicit false
set_option linter.all false
set_option maxRecDepth 100000
set_option maxHeartbeats 4000000
namespace Pl
open PySem L2 PySem.Spec PyProof.Rows
section
variable {X : Cx} {C : Cn} {CX : CXT} {Cl f : Addr} {fd : FuncData} {ps : List Str} {sp : Sp} {E : XK} {k : Nat}
/-- == of instances of a class with an own __eq__: a bool, as the promise says -/
theorem op_eqI (F : FnOk X.prog X.w X.K X.mg X.base CX k f fd ps sp)
    (hs : PySem.W.findIn X.K (.ref Cl) "__eq__" = some (some (.ref f))) (hf : PySem.W.isFn X.K (.ref f) = true) (hb : Binds X.K fd ps []) (hx : Passes CX X E) (hr : Room k X.A) :
    OpR X (compareOp .Eq) (fun x y H Q => ∃ a b dx dy fs gs, x = .ref a ∧ y = .ref b ∧ H a = some (.ins Cl dx fs) ∧ H b = some (.ins Cl dy gs) ∧ sp [.ref a, .ref b] H (fun v H' => (∃ t, v = .bl t) ∧ Q v H') E) := by
  intro pins s σ H x y u v Q I rx ry d
  obtain ⟨a, b, dx, dy, fs, gs, rfl, rfl, ha, hb', hsp⟩ := d
  cases rx
  cases ry
  show wpAny (model X.prog X.w) X.A (richCompare .Eq (.ref a) (.ref b)) (EP X pins σ Q) X.xe s
  obtain ⟨mA, J, _⟩ := ins_get I.hok ha
  obtain ⟨mB, J', _⟩ := ins_get I.hok hb'
  obtain ⟨od, J, _⟩ := J.look
  obtain ⟨od', J', _⟩ := J'.look
  obtain ⟨m, hF⟩ := I.fr
  refine PySem.W.cmp_K (op := .Eq) (tb := .ref Cl) hr.units0 hF I.ok.mod.kin J J'.type (by simp [PySem.W.notFirst]) hs hf ?_
  have e0 : Env0 X.prog X.w X.K X.mg X.base X.A X.stack s H := I.env0
  have hl := F.len _ _ _ _ hsp
  have r2 : Vals [V.ref a, V.ref b] [Value.ref a, Value.ref b] := .cons rfl (.cons rfl .nil)
  refine wpAny_call (codeAny_mono (F.run X.A X.stack s H ⟨[.ref a, .ref b], []⟩ [.ref a, .ref b] [.ref a, .ref b] _ E hr e0 (by
    have := hb s [.ref a, .ref b] I.kIn (by simpa using hl)
    simpa using this) r2 hsp) fun r s' hq => ?_)
  cases r with
  | error e => exact hx pins σ H s e s' I hq
  | ok fl =>
    cases fl with
    | ret w =>
      obtain ⟨z, H', I', rz, ez⟩ := I.after hq
      obtain ⟨⟨t, rfl⟩, q⟩ := ez
      cases rz
      exact ⟨.bl t, H', I', rfl, q⟩
    | next => exact False.elim hq
    | brk => exact False.elim hq
    | cont => exact False.elim hq
theorem ev_eqC {α : Type} {pre : α → Prop} {fs gs : α → List (Str × Rp)} {bv : α → Bool} {e1 e2 : Expr} {pos : Pos} (d : Mf X.prog X.w X.K X.mg X.base k Cl "__eq__" (Pu C.T pre (fun a => [isObj Cl (fs a), isObj Cl (gs a)]) (fun a => isD X.K (.bool (bv a))))) (hr : Room k X.A) (a : α) (hp : pre a) (ha : Ev X C e1 (isObj Cl (fs a))) (hb : Ev X C e2 (isObj Cl (gs a))) : Ev X C (.Compare e1 [.Eq] [e2] pos) (isD X.K (.bool (bv a))) := by
  obtain ⟨f, fd, ps, F, hm, hbd⟩ := d.ex
  refine ev_cmp (op_eqI F hm.at_ hm.fn hbd (pass0 (X := X)) hr) (fun x y F H w h1 h2 Q q => ?_) ha hb (nomark _)
  obtain ⟨z1, d1, f1, rfl, h11, h12, h13⟩ := id h1
  obtain ⟨z2, d2, f2, rfl, h21, h22, h23⟩ := id h2
  exact ⟨z1, z2, d1, d2, f1, f2, rfl, rfl, w.i _ _ h11, w.i _ _ h21, a, F, hp, w, .cons h1 (.cons h2 .nil), fun v F' H' l r => ⟨⟨_, dp_bl r⟩, q v F' H' l r⟩⟩
/-- x is not True -/
theorem et_isntB {b c : Bool} {e1 : Expr} {pos p : Pos} {q : Nat} (ha : Ev X C e1 (isD X.K (.bool b))) : Et X C (.Compare e1 [.IsNot] [.Constant (.bool c) q p] pos) (!decide (b = c)) :=
  et_cmp op_isnot_bl (fun x y F H w h1 h2 Q r => ⟨b, c, dp_bl h1, dp_bl h2, r _ F H w.le (.bl _)⟩) ha ev_bl (nomark _)
end
end Pl

set_option Elab.async false
set_option autoImplicit false
set_option linter.all false
set_option maxRecDepth 100000
set_option maxHeartbeats 4000000
namespace Kk
open PySem L2 Pl
section
variable {P : Program} {w : World} {K : PySem.W.Frag} {mg : Str → Option Value} {base : Heap} {T : Tbs}
theorem shp_TE {es : List Ed} (h : ∀ e ∈ es, e.2.1 ∈ acts) : SeqAt.shaped (.tuple (es.map encE)) = true := by
  unfold SeqAt.shaped
  rw [Bool.and_eq_true]
  refine ⟨?_, decide_eq_true ?_⟩
  · rw [PyData.canLay0]
    exact lay0 fun e he => by simp [encE, PyData.canLay0, PyData.canLayAll0, act_lay (h e he)] <;> exact act_lay (h e he)
  · have := depAll ok_E es
    show PyData.depthAll _ + 1 ≤ 64
    omega
theorem eqv_TE (es : List Ed) : PyData.eqv (.tuple (es.map encE)) (.tuple (es.map encE)) = true := by
  have : ∀ l : List Ed, PyData.eqvAll (l.map encE) (l.map encE) = true := fun l => by
    induction l with
    | nil => simp [PyData.eqvAll]
    | cons e l ih =>
      rw [List.map_cons, PyData.eqvAll, ih, ok_E.eq]
      simp
  rw [PyData.eqv]
  exact this es
theorem mf_eq {f Cl : Addr} {fd : FuncData} (F : Fun K "__eq__" "System.__eq__" sEq f fd) (hm : Meth K Cl "__eq__" f) (hb : Binds K fd ["self", "other"] []) (hc : Cls K Cl) (nc : NoAttr K Cl "count") (ne : NoAttr K Cl "edges") (ic : C8.InsC K Cl) (mS : mg "System" = some (.ref Cl)) (mI : mg "isinstance" = none) :
    Mf P w K mg base 1 Cl "__eq__" (Pu T (fun a : Nat × List Ed => WfL a.1 a.2) (fun a => [isObj Cl (fsS (K := K) a.1 a.2), isObj Cl (fsS (K := K) a.1 a.2)]) (fun _ => isD K (.bool true))) := by
  refine mf_pure _ _ _ F scEq hm hb (fun _ => rfl) ?_
  rintro cdv A outer s H Fr E ⟨n, es⟩ D hr wf ret _
  have wf : WfL n es := wf
  have hu : (A.deeper (PyProof.Rows.envOfC "System.__eq__" (defScope sEq) s.heap.objs.size f cdv)).units + 64 < cLine := hr.units
  have sh := shp_TE wf.act
  refine do_ret (R := isD K (.bool (true && (decide ((n : Int) = (n : Int)) && PyData.eqv (.tuple (es.map encE)) (.tuple (es.map encE)))))) (ev_and (ev_isC ic mI (ev_v 1) (ev_glob (v := .ref Cl) rfl mS rfl (fun _ => rfl))) fun _ => ev_and (ev_eq eqI (ev_fld (ev_v 0) hc nc rfl) (ev_fld (ev_v 1) hc nc rfl)) fun _ => ev_one (ev_eqD hu sh sh (ev_fld (ev_v 0) hc ne rfl) (ev_fld (ev_v 1) hc ne rfl))) (fun σ v F' H' c hv => ret v F' H' c.en ?_)
  rw [eqv_TE] at hv
  simpa using hv
abbrev sLSmall : Stmt := top 41
abbrev nLSmall : List Str := ["parts", "reached_v"]
theorem scLSmall : FnScope nLSmall ["parts"] (defScope sLSmall) := ⟨rfl, rfl, rfl, by decide +kernel, rfl, by decide +kernel, by decide +kernel⟩
theorem wf_bfsS {n : Nat} {es : List Ed} (wf : WfL n es) : WfL (bfs (rwS es) n).1.length (once (bfs (rwS es) n).2) := by
  have wr := wf_rwS wf
  have hok := bfs_ok wr.zero wr.lt n
  have hb := bfs_edges (rw := rwS es) (fun s r hr => wf.act (s, r) (mem_rowOf.mp (mem_srtR.mp hr))) n
  have hl := bfsS_len wr n
  have h2 := once_len (bfs (rwS es) n).2
  have := wf.few
  have := wf.many
  exact ⟨bfs_pos _ _, Nat.le_trans (hok.len wr.sub) (by omega), fun e he => ⟨(hb e (mem_once.mp he)).2.1, (hb e (mem_once.mp he)).2.2.1⟩, fun e he => (hb e (mem_once.mp he)).2.2.2, by omega⟩
theorem df_lsmall {f : Addr} {fd : FuncData} (F : Fun K "_law_small" "_law_small" sLSmall f fd) (hm : mg "_law_small" = some (.ref f)) (hb : Binds K fd ["parts"] [])
    (dRe : Df P w K mg base 2 "_law_reached" (Pu T (fun a : Nat × List Ed => WfL a.1 a.2 ∧ (bfs (rwS a.2) a.1).2.length ≤ 1000) (fun a => [isD K (partsD a.1 a.2)]) (fun a => isD K (partsD (bfs (rwS a.2) a.1).1.length (once (bfs (rwS a.2) a.1).2)))))
    (dSt : Df P w K mg base 3 "_law_strong_rounds" (Pu T (fun a : Nat × List Ed => WfL a.1 a.2 ∧ a.2.length < 63) (fun a => [isD K (partsD a.1 a.2)]) (fun a => isD K (rdsD a.1 (rowOf a.2) (stopK a.1 (rowOf a.2))))))
    (dC : Df P w K mg base 2 "_law_class_system" (Pu T LClsOk (fun a => [isD K (partsD a.n a.es), isD K (.list (a.ms.map iN)), isD K (.list (a.es.map encE))])
      (fun a => isD K (.tuple [iN (bfs (rwS (cE a.ms tt a.es)) a.n).1.length, .tuple ((sE (bfs (rwS (cE a.ms tt a.es)) a.n).2).map encE)])))) :
    Df P w K mg base 4 "_law_small" (Pu T (fun a : Nat × List Ed => WfL a.1 a.2 ∧ a.2.length < 63) (fun a => [isD K (partsD a.1 a.2)]) (fun a => isD K (.tuple [iN (sml a.1 (sE a.2)).1, .tuple ((sml a.1 (sE a.2)).2.map encE)]))) := by
  refine df_pure _ _ _ F scLSmall hm hb (fun _ => rfl) ?_
  rintro cdv A outer s H Fr E ⟨n, es⟩ D hr ⟨wf, hlen⟩ ret _
  have wf : WfL n es := wf
  have hlen : es.length < 63 := hlen
  have wf1 := wf_bfsS wf
  have hl := bfsS_len (wf_rwS wf) n
  have h2 := once_len (bfs (rwS es) n).2
  have ret : ∀ v F' H', Le T Fr H F' H' → (isD K (.tuple [iN (sml n (sE es)).1, .tuple ((sml n (sE es)).2.map encE)])).p v F' → D.rt v H' := ret
  rw [← lsml_eq] at ret
  unfold lsml at ret
  refine do_set scLSmall.nd (i := 1) rfl (.inl rfl) (R := isD K (partsD (bfs (rwS es) n).1.length (once (bfs (rwS es) n).2))) (ev_call (R := fun a : Nat × List Ed => isD K (partsD (bfs (rwS a.2) a.1).1.length (once (bfs (rwS a.2) a.1).2))) dRe (hr.mono (by decide)) (n, es) ⟨wf, by show (bfs (rwS es) n).2.length ≤ 1000; omega⟩ (ea1 (ev_v 0))) ?_ (by show 1 < 2; decide)
  generalize hn1 : (bfs (rwS es) n).1.length = n1 at *
  generalize he1 : once (bfs (rwS es) n).2 = e1 at *
  have hl1 : e1.length < 63 := by omega
  have hix : PyData.list (e1.map encE) = PyData.list (e1.map encE) := rfl
  refine do_ret (R := isD K (.tuple [iN (lcl n1 e1).1, .tuple ((lcl n1 e1).2.map encE)])) (ev_call (R := fun a : LClsA => isD K (.tuple [iN (bfs (rwS (cE a.ms tt a.es)) a.n).1.length, .tuple ((sE (bfs (rwS (cE a.ms tt a.es)) a.n).2).map encE)])) dC (hr.mono (by decide)) ⟨n1, e1, lastM n1 (rowOf e1)⟩ ⟨wf1, rd_len _ _ _⟩
    (ea_cons (ev_v 1) (ea_cons (Ev.imp (ev_ixL (rds_last n1 (rowOf e1) (stopK n1 (rowOf e1))) (ev_call (R := fun a : Nat × List Ed => isD K (rdsD a.1 (rowOf a.2) (stopK a.1 (rowOf a.2)))) dSt hr (n1, e1) ⟨wf1, hl1⟩ (ea1 (ev_v 1))) (ev_negI ev_int)) (fun v F h => h)) (ea_cons (ev_ixT (ds := [iN n1, .list (e1.map encE)]) (i := 1) (d := .list (e1.map encE)) rfl (ev_v 1) ev_int) ea_nil)))) (fun σ v F' H' c hv => ret v F' H' c.en hv)
end
end Kk

set_option Elab.async false
set_option autoImplicit false
set_option linter.all false
set_option maxRecDepth 100000
set_option maxHeartbeats 4000000
namespace Pl
open PySem L2
section
variable {X : Cx} {C : Cn} {e : Expr} {p pos : Pos}
theorem dpAll_bl {K : PySem.W.Frag} {F : Hp} : ∀ {bs : List Bool} {ys : List V}, DpAll K F ys (bs.map PyData.bool) → ys = bs.map V.bl
  | [], _, .nil => rfl
  | b :: bs, _, .cons h al => by rw [dp_bl h, dpAll_bl al] <;> rfl
/-- all of a list of bools -/
theorem ev_allL {bs : List Bool} (hc : X.calm = true) (hm : X.mg "all" = none) (h : Ev X C e (isD X.K (.list (bs.map PyData.bool)))) (hg : Gl X "all" := by rfl) (hse : S1 X e := by rfl) : Ev X C (.Call (.Name "all" p) [e] [] pos) (isD X.K (.bool (bs.all id))) :=
  ev_callB (cr_all hc) (fun xs F H w f Q q => by
    obtain ⟨v, rfl, h⟩ := fit1 f
    obtain ⟨a, ys, rfl, sq, al⟩ := dp_lst h
    exact ⟨a, bs, rfl, dpAll_bl al ▸ sq_up w sq, q _ F H w.le (.bl _)⟩) hm rfl (ea1 h hse) hg (he := hse)
end
end Pl
namespace Kk
open PySem L2 Pl
section
variable {P : Program} {w : World} {K : PySem.W.Frag} {mg : Str → Option Value} {base : Heap} {T : Tbs}
abbrev sLike : Stmt := top 31
abbrev nLike : List Str := ["actual", "due", "k"]
theorem scLike : FnScope nLike ["actual", "due"] (defScope sLike) := ⟨rfl, rfl, rfl, by decide +kernel, rfl, by decide +kernel, by decide +kernel⟩
/-- an int or a text -/
def Leaf (d : PD) : Prop := (∃ i, d = .int i) ∨ ∃ s, d = .str s
/-- such, and tuples of such, j deep -/
def Lk : Nat → PD → Prop
  | 0, d => Leaf d
  | j + 1, d => Leaf d ∨ ∃ ds, d = .tuple ds ∧ ds.length ≤ 1000 ∧ ∀ x ∈ ds, Lk j x
structure Mi (mg : Str → Option Value) : Prop where
  isi : mg "isinstance" = none
  bool : mg "bool" = none
  str : mg "str" = none
  int : mg "int" = none
  list : mg "list" = none
  tuple : mg "tuple" = none
  len : mg "len" = none
  range : mg "range" = none
  all : mg "all" = none
theorem like_body {f : Addr} {cdv : Value} {A : Around} {outer : List Env} {s : Shared} {H Fr : Hp} {E : XK} {j k : Nat} (m : Mi mg) {d : PD} {D : Ends} (hr : Room k (A.deeper (PyProof.Rows.envOfC "_law_like" (defScope sLike) s.heap.objs.size f cdv)))
    (h : Leaf d ∨ ∃ ds, d = .tuple ds ∧ ds.length ≤ 1000 ∧ (∀ x ∈ ds, Lk j x) ∧ Df P w K mg base k "_law_like" (Pu T (Lk j) (fun d => [isD K d, isD K d]) (fun _ => isD K (.bool true))))
    (ret : ∀ v F' H', Le T Fr H F' H' → (isD K (.bool true)).p v F' → D.rt v H') : Do (bodyX P w K mg base nLike "_law_like" sLike f cdv A outer s H E) (defBody sLike) (Cn.mk T Fr H fpT [some (isD K d), some (isD K d), none] []).at D := by
  have bty : ∀ {x : Str} {n : String} {X : Cx} {C : Cn} {pos : Pos} (hX : X.mg = mg) (hg : Gl X x) (hm : mg x = none) (hv : bootBuiltins x = some (.type n)) (hn : x ≠ "__name__") (hd : (x == ("__debug__" : Str)) = false), Ev X C (.Name x pos) (isV (.ty n)) := fun hX hg hm hv hn hd => ev_bltn hg (by rw [hX]; exact hm) hv rfl hn hd
  rcases h with (⟨i, rfl⟩ | ⟨t, rfl⟩) | ⟨ds, rfl, hz, hds, dL⟩
  · refine do_ifr (et_isN (Ra := isD K (.int i)) (k := false) (fun v F h => by rw [dp_int h]; rfl) (ev_v 1)) (fun hb => by cases hb) fun _ => ?_
    refine do_ifr (et_val (ev_isi (d := .int i) (k := false) rfl m.isi (ev_v 1) (bty rfl rfl m.bool rfl (by decide) (by decide)))) (fun hb => by cases hb) fun _ => ?_
    refine do_ifr (et_val (ev_isi (d := .int i) (k := false) rfl m.isi (ev_v 1) (bty rfl rfl m.str rfl (by decide) (by decide)))) (fun hb => by cases hb) fun _ => ?_
    refine do_ifr (et_val (ev_isi (d := .int i) (k := true) rfl m.isi (ev_v 1) (bty rfl rfl m.int rfl (by decide) (by decide)))) (fun _ => ?_) (fun hb => by cases hb)
    refine do_ret (R := isD K (.bool (true && (!false && decide (i = i))))) (ev_and (ev_isi (d := .int i) (k := true) rfl m.isi (ev_v 0) (bty rfl rfl m.int rfl (by decide) (by decide))) fun _ => ev_and (ev_not (ev_isi (d := .int i) (k := false) rfl m.isi (ev_v 0) (bty rfl rfl m.bool rfl (by decide) (by decide)))) fun _ => ev_one (ev_eq eqI (ev_v 0) (ev_v 1))) (fun σ v F' H' c hv => ret v F' H' c.en (by simpa using hv))
  · refine do_ifr (et_isN (Ra := isD K (.str t)) (k := false) (fun v F h => by rw [dp_str h]; rfl) (ev_v 1)) (fun hb => by cases hb) fun _ => ?_
    refine do_ifr (et_val (ev_isi (d := .str t) (k := false) rfl m.isi (ev_v 1) (bty rfl rfl m.bool rfl (by decide) (by decide)))) (fun hb => by cases hb) fun _ => ?_
    refine do_ifr (et_val (ev_isi (d := .str t) (k := true) rfl m.isi (ev_v 1) (bty rfl rfl m.str rfl (by decide) (by decide)))) (fun _ => ?_) (fun hb => by cases hb)
    refine do_ret (R := isD K (.bool (true && decide (t = t)))) (ev_and (ev_isi (d := .str t) (k := true) rfl m.isi (ev_v 0) (bty rfl rfl m.str rfl (by decide) (by decide))) fun _ => ev_one (ev_eq eqS (ev_v 0) (ev_v 1))) (fun σ v F' H' c hv => ret v F' H' c.en (by simpa using hv))
  · refine do_ifr (et_isN (Ra := isD K (.tuple ds)) (k := false) (fun v F h => by obtain ⟨a, ys, rfl, _⟩ := dp_tup h; rfl) (ev_v 1)) (fun hb => by cases hb) fun _ => ?_
    refine do_ifr (et_val (ev_isi (d := .tuple ds) (k := false) rfl m.isi (ev_v 1) (bty rfl rfl m.bool rfl (by decide) (by decide)))) (fun hb => by cases hb) fun _ => ?_
    refine do_ifr (et_val (ev_isi (d := .tuple ds) (k := false) rfl m.isi (ev_v 1) (bty rfl rfl m.str rfl (by decide) (by decide)))) (fun hb => by cases hb) fun _ => ?_
    refine do_ifr (et_val (ev_isi (d := .tuple ds) (k := false) rfl m.isi (ev_v 1) (bty rfl rfl m.int rfl (by decide) (by decide)))) (fun hb => by cases hb) fun _ => ?_
    refine do_ifr (b := !decide (false = false) || !decide (true = true)) (et_or (et_ne eqB (ev_isi (d := .tuple ds) (k := false) rfl m.isi (ev_v 1) (bty rfl rfl m.list rfl (by decide) (by decide))) (ev_isi (d := .tuple ds) (k := false) rfl m.isi (ev_v 0) (bty rfl rfl m.list rfl (by decide) (by decide)))) fun _ =>
      ew_or1 (et_ne eqB (ev_isi (d := .tuple ds) (k := true) rfl m.isi (ev_v 1) (bty rfl rfl m.tuple rfl (by decide) (by decide))) (ev_isi (d := .tuple ds) (k := true) rfl m.isi (ev_v 0) (bty rfl rfl m.tuple rfl (by decide) (by decide))))) (fun hb => by simp at hb) fun _ => ?_
    refine do_ifr (b := !decide ((ds.length : Int) = (ds.length : Int))) (et_ne eqI (ev_lenT m.len (ev_v 0)) (ev_lenT m.len (ev_v 1))) (fun hb => by simp at hb) fun _ => ?_
    have hrl : ∀ K' : PySem.W.Frag, (rngR K' 0 (ds.length : Int).toNat).length = ds.length := fun K' => by unfold rngR; rw [List.length_map, List.length_range]; omega
    refine do_ret (R := isD K (.bool (((List.range ds.length).map fun _ => true).all id))) (ev_allL rfl m.all (Ev.imp (En.ev (en_lc (own := [("k", 2)]) (fun _ => true) (fun i => .bool true) (iv_rng1 (n := (ds.length : Int)) (ev_lenT m.len (ev_v 1)) m.range (by omega)) (blkOk_by (N := nLike) (sc := defScope sLike) (by decide +kernel)) (by rw [hrl]; omega) (fun i R fp hR => ?_) scLike.nd)) (fun v F h => ?_))) (fun σ v F' H' c hv => ret v F' H' c.en ?_)
    · obtain ⟨hi, hRi⟩ := rngR_at hR
      rw [Int.zero_add] at hRi
      subst hRi
      have hi : i < ds.length := by omega
      have hat := List.getElem?_eq_getElem hi
      refine ⟨Cn.mk T Fr H (fpT.and fp) [some (isD K (.tuple ds)), some (isD K (.tuple ds)), some (isD K (iN i))] [], [2], by simp, rfl, fun s1 H1 Ca cl fps => ⟨tg_name scLike.nd (i := 2) rfl (.inl rfl) (by show 2 < 3; decide), ets_nil, fun _ => ?_⟩⟩
      exact ev_call (R := fun _ => isD K (.bool true)) dL hr ds[i] (hds _ (List.getElem_mem hi)) (ea_cons (ev_ixT (ds := ds) (i := (i : Int)) (d := ds[i]) (atI_nat hat) (ev_v 0) (ev_v 2)) (ea_cons (ev_ixT (ds := ds) (i := (i : Int)) (d := ds[i]) (atI_nat hat) (ev_v 1) (ev_v 2)) ea_nil))
    · rw [made_all, hrl] at h
      rw [List.map_map]
      exact h
    · have e : (((List.range ds.length).map fun _ => true).all id) = true := by rw [List.all_eq_true]; intro x hx; obtain ⟨_, _, rfl⟩ := List.mem_map.mp hx; rfl
      rw [e] at hv
      exact hv
theorem df_like {f : Addr} {fd : FuncData} (F : Fun K "_law_like" "_law_like" sLike f fd) (hm : mg "_law_like" = some (.ref f)) (hb : Binds K fd ["actual", "due"] []) (m : Mi mg) : ∀ j,
    Df P w K mg base (j + 1) "_law_like" (Pu T (Lk j) (fun d => [isD K d, isD K d]) (fun _ => isD K (.bool true)))
  | 0 => by
    refine df_pure _ _ _ F scLike hm hb (fun _ => rfl) ?_
    rintro cdv A outer s H Fr E d D hr hp ret _
    exact like_body (j := 0) m hr (.inl hp) ret
  | j + 1 => by
    have ih := df_like F hm hb m j
    refine df_pure _ _ _ F scLike hm hb (fun _ => rfl) ?_
    rintro cdv A outer s H Fr E d D hr hp ret _
    have hp : Lk (j + 1) d := hp
    rcases hp with h | ⟨ds, h1, h2, h3⟩
    · exact like_body (j := j) m hr (.inl h) ret
    · exact like_body (j := j) m hr (.inr ⟨ds, h1, h2, h3, ih⟩) ret
end
end Kk

set_option Elab.async false
set_option autoImplicit false
set_option linter.all false
set_option maxRecDepth 100000
set_option maxHeartbeats 4000000
namespace Pl
open PySem L2
section
variable {P : Program} {w : World} {K : PySem.W.Frag} {mg : Str → Option Value} {base : Heap}
theorem fn_pure {α : Type} {x qual : Str} {st : Stmt} {f : Addr} {fd : FuncData} {N ps : List Str} {k : Nat} {T : Tbs} (pre : α → Prop) (Rs : α → List Rp) (R : α → Rp) (Fn : Fun K x qual st f fd) (S : FnScope N ps (defScope st))
    (hl : ∀ a, (Rs a).length = ps.length)
    (body : ∀ (cdv : Value) (A : Around) (outer : List Env) (s : Shared) (H F : Hp) (E : XK) (a : α) (D : Ends), Room k (A.deeper (PyProof.Rows.envOfC qual (defScope st) s.heap.objs.size f cdv)) → pre a →
      (∀ v F' H', Le T F H F' H' → (R a).p v F' → D.rt v H') → (∀ σ' F' H', Le T F H F' H' → (R a).p .non F' → D.nx σ' H') →
      Do (bodyX P w K mg base N qual st f cdv A outer s H E) (defBody st) (Cn.mk T F H fpT (slots N.length (Rs a)) []).at D) : FnOk P w K mg base CX0 (k + 1) f fd ps (Pu T pre Rs R) := by
  refine Fn.ok S (fun vs H Q E h => ?_) (fun cdv A outer s H vs Q E hr h => ?_)
  · obtain ⟨a, F, _, _, h, _⟩ := h
    rw [h.length]; exact hl a
  · obtain ⟨a, F, hp, hw, hf, q⟩ := h
    refine ⟨_, (body cdv A outer s H F E a { nx := fun _ H' => Q .non H', rt := Q } hr hp q (fun σ' F' H' l z => q _ F' H' l z)).pss, rfl, F, start_ok hw hf hw.le List.nodup_nil (fun q hq => by cases hq)⟩
end
end Pl
namespace Kk
open PySem L2 Pl
section
variable {P : Program} {w : World} {K : PySem.W.Frag} {mg : Str → Option Value} {base : Heap} {T : Tbs}
abbrev sLaw : Stmt := top 42
abbrev nLaw : List Str := ["script", "k", "parts", "made", "count", "edges"]
theorem scLaw : FnScope nLaw ["script"] (defScope sLaw) := ⟨rfl, rfl, rfl, by decide +kernel, rfl, by decide +kernel, by decide +kernel⟩
theorem lk_N (n : Nat) : Lk 2 (iN n) := .inl (.inl ⟨_, rfl⟩)
theorem lk_E {es : List Ed} (h : es.length ≤ 1000) : Lk 2 (.tuple (es.map encE)) := .inr ⟨_, rfl, by rw [List.length_map]; exact h, fun x hx => by
  obtain ⟨e, _, rfl⟩ := List.mem_map.mp hx
  refine .inr ⟨_, rfl, by show 3 ≤ 1000; decide, fun y hy => ?_⟩
  simp at hy
  rcases hy with rfl | rfl | rfl
  · exact .inl ⟨_, rfl⟩
  · exact .inr ⟨_, rfl⟩
  · exact .inl ⟨_, rfl⟩⟩
theorem ok_law {f Cl : Addr} {fd : FuncData} (F : Fun K "law" "law" sLaw f fd) (S : Sys P w K mg base T Cl) (mRange : mg "range" = none) (mI : mg "isinstance" = none) (ic : C8.InsC K Cl)
    (dCell : Df P w K mg base 1 "_law_cell" (Pu T (fun (_ : List Int × Nat) => True) (fun a => [isD K (iList a.1), isD K (iN a.2)]) (fun a => isD K (.int (cell a.1 a.2)))))
    (dSys : Df P w K mg base 2 "_law_system" (Pu T (fun _ : Int => True) (fun c => [isD K (.int c), isD K (iN 7)]) (fun c => isD K (partsD (lcount c) (ledges c)))))
    (dMade : Df P w K mg base 7 "_law_made" (Pu T (fun a : Nat × List Ed => WfL a.1 a.2) (fun a => [isD K (partsD a.1 a.2)]) (fun a => isObj Cl (fsS (K := K) a.1 (sE a.2)))))
    (dSml : Df P w K mg base 8 "small" (Pu T (fun a : Nat × List Ed => WfL a.1 a.2 ∧ a.2.length < 63) (fun a => [isObj Cl (fsS (K := K) a.1 a.2)]) (fun a => isObj Cl (fsS (K := K) (sml a.1 a.2).1 (sml a.1 a.2).2))))
    (dLS : Df P w K mg base 4 "_law_small" (Pu T (fun a : Nat × List Ed => WfL a.1 a.2 ∧ a.2.length < 63) (fun a => [isD K (partsD a.1 a.2)]) (fun a => isD K (.tuple [iN (sml a.1 (sE a.2)).1, .tuple ((sml a.1 (sE a.2)).2.map encE)]))))
    (dL : Df P w K mg base 3 "_law_like" (Pu T (Lk 2) (fun d => [isD K d, isD K d]) (fun _ => isD K (.bool true))))
    (dEq : Mf P w K mg base 1 Cl "__eq__" (Pu T (fun a : Nat × List Ed => WfL a.1 a.2) (fun a => [isObj Cl (fsS (K := K) a.1 a.2), isObj Cl (fsS (K := K) a.1 a.2)]) (fun _ => isD K (.bool true)))) :
    FnOk P w K mg base CX0 9 f fd ["script"] (Pu T (fun (_ : List Int) => True) (fun ns => [isD K (iList ns)]) (fun _ => isD K (.bool true))) := by
  refine fn_pure _ _ _ F scLaw (fun _ => rfl) ?_
  intro cdv A outer s H Fr E ns D hr _ ret _
  let sl0 : List (Option Rp) := [some (isD K (iList ns)), none, none, none, none, none]
  refine do_for (fun _ => (sl0, [])) (M := (Cn.mk T Fr H fpT sl0 []).at) (iv_rng1 (n := 4) ev_int mRange (by omega)) (fun σ F' H' c => c) ?_ (fun σ H' c => c) ?_
  · intro k R fp hR
    obtain ⟨hk, hRk⟩ := rngR_at hR
    rw [Int.zero_add] at hRk
    subst hRk
    refine ⟨_, _, tg_name scLaw.nd (i := 1) rfl (.inl rfl) (by show 1 < 6; decide), ?_⟩
    generalize hc : cell ns k = c
    obtain ⟨wf, h20⟩ := wf_law c
    refine do_set scLaw.nd (i := 2) rfl (.inl rfl) (R := isD K (partsD (lcount c) (ledges c))) (ev_call (R := fun c => isD K (partsD (lcount c) (ledges c))) dSys (hr.mono (by decide)) c trivial (ea_cons (Ev.imp (ev_call (R := fun a => isD K (.int (cell a.1 a.2))) dCell (hr.mono (by decide)) (ns, k) trivial (ea_cons (ev_v 0) (ea_cons (ev_v 1) ea_nil))) (fun v F h => by rw [hc] at h; exact h)) (ea_cons ev_int ea_nil))) ?_ (by show 2 < 6; decide)
    generalize lcount c = n at *
    generalize ledges c = es at *
    have wfS := wf_sE wf
    have hlS := sE_len es
    have wf2 : WfL (sml n (sE es)).1 (sml n (sE es)).2 := wf_clsS (wf_rch wfS)
    have hl2 : (sml n (sE es)).2.length ≤ (sE es).length := Nat.le_trans (cls_len (wf_rch wfS)) (rch_len wfS)
    have hid := sml_idem wfS
    refine do_set scLaw.nd (i := 3) rfl (.inl rfl) (R := isObj Cl (fsS (K := K) (sml n (sE es)).1 (sml n (sE es)).2)) (ev_call (R := fun a : Nat × List Ed => isObj Cl (fsS (K := K) (sml a.1 a.2).1 (sml a.1 a.2).2)) dSml hr (n, sE es) ⟨wfS, by show (sE es).length < 63; omega⟩ (ea1 (ev_call (R := fun a : Nat × List Ed => isObj Cl (fsS (K := K) a.1 (sE a.2))) dMade (hr.mono (by decide)) (n, es) wf (ea1 (ev_v 2))))) ?_ (by show 3 < 6; decide)
    refine do_asg (R := isD K (.tuple [iN (sml n (sE es)).1, .tuple ((sml n (sE es)).2.map encE)])) (ev_call (R := fun a : Nat × List Ed => isD K (.tuple [iN (sml a.1 (sE a.2)).1, .tuple ((sml a.1 (sE a.2)).2.map encE)])) dLS (hr.mono (by decide)) (n, es) ⟨wf, by show es.length < 63; omega⟩ (ea1 (ev_v 2)))
      (tg_tup rfl (ds := [iN (sml n (sE es)).1, .tuple ((sml n (sE es)).2.map encE)]) (.cons (tg_name scLaw.nd (i := 4) rfl (.inl rfl) (by show 4 < 6; decide)) rfl (.cons (tg_name scLaw.nd (i := 5) rfl (.inl rfl) (by show 5 < 6; decide)) rfl .nil))) ?_
    generalize sml n (sE es) = p at *
    obtain ⟨n2, E2⟩ := p
    have wf2 : WfL n2 E2 := wf2
    have hl2 : E2.length ≤ (sE es).length := hl2
    have hid : sml n2 E2 = (n2, E2) := hid
    let sl1 : List (Option Rp) := [some (isD K (iList ns)), some (isD K (iN k)), some (isD K (partsD n es)), some (isObj Cl (fsS (K := K) n2 E2)), some (isD K (iN n2)), some (isD K (.tuple (E2.map encE)))]
    refine Do.eq (C' := Cn.mk T Fr H (fpT.and fp) sl1 []) rfl ?_
    refine do_ifr (b := !true || (!true || !true)) (et_or (et_not (et_val (ev_isC ic mI (ev_v 3) (ev_glob (v := .ref Cl) rfl S.mg_ rfl (fun _ => rfl))))) fun _ =>
      ew_or (et_not (et_val (ev_call (R := fun _ => isD K (.bool true)) dL (hr.mono (by decide)) (iN n2) (lk_N n2) (ea_cons (ev_fld (ev_v 3) S.cl S.nc rfl) (ea_cons (ev_v 4) ea_nil))))) fun _ =>
      ew_or1 (et_not (et_val (ev_call (R := fun _ => isD K (.bool true)) dL (hr.mono (by decide)) (.tuple (E2.map encE)) (lk_E (by omega)) (ea_cons (ev_fld (ev_v 3) S.cl S.ne rfl) (ea_cons (ev_v 5) ea_nil)))))) (fun hb => by cases hb) fun _ => ?_
    refine do_ifr (b := !decide (true = true)) (et_isntB (ev_eqC (fs := fun a : Nat × List Ed => fsS (K := K) a.1 a.2) (gs := fun a : Nat × List Ed => fsS (K := K) a.1 a.2) (bv := fun _ => true) dEq (hr.mono (by decide)) (n2, E2) wf2
      (Ev.imp (ev_call (R := fun a : Nat × List Ed => isObj Cl (fsS (K := K) (sml a.1 a.2).1 (sml a.1 a.2).2)) dSml hr (n2, E2) ⟨wf2, by show E2.length < 63; omega⟩ (ea1 (ev_v 3))) (fun v F h => by rw [hid] at h; exact h)) (ev_v 3))) (fun hb => by cases hb) fun _ => ?_
    exact do_nil fun σ H' ⟨F', c⟩ => ⟨F', c.fg (sl := sl0) (.keep (.drop (.drop (.drop (.drop (.drop .nil))))))⟩
  · exact do_ret (R := isD K (.bool true)) ev_bl (fun σ v F' H' c hv => ret v F' H' c.en hv)
end
end Kk

set_option Elab.async false
set_option autoImplicit false
set_option linter.all false
set_option maxRecDepth 100000
set_option maxHeartbeats 4000000
namespace Kk
open PySem PySem.Spec PyProof.Rows L2 Pl
theorem walk_G {l : PySem.W.OpenLaw} {n k : Nat} {q : Program} {loose : List Str} {XP : (Str → Option Value) → Heap → Prop} {YP : World → Heap → Prop} {d : DefRec} {K : Params → PySem.W.Frag} {CX : World → CXT} {x : Str}
    (hn : l.most = some n) (hn2 : n ≤ sizeLine) (hdf : d.params.defaults = []) (hr : Room k callerA) (hY : ∀ (w : World) (h : Heap), YP w h → (K w.params).In h)
    (F : ∀ (w : World) (s₀ : Shared) (mg mb : Str → Option Value) (fa : Addr) (h : Heap), PySem.W.Ground q loose [] XP w s₀ mg mb h → (K w.params).In h → mg d.name = some (.ref fa) → LamX.LawAtS l w (K w.params) (CX w) k n x mg fa h)
    (hCX : ∀ (w : World) (H : Hp) (s : Shared) (e : Value) (s' : Shared), CX w [] H s (fun _ _ _ => False) e s' → False) :
    PySem.W.WalkO q loose XP YP l.row.toRowW d [] (fun f vs => PySem.call f vs) := by
  refine Att.attach_callB hn hdf fun w s₀ s₁ mg mb fa o pm cd doc a vs ns G Y ho hd hcd hmg hobj hints hlen hbits hg => ?_
  have KX := hY w _ Y
  obtain ⟨fd, cs, sp, hT, nT, C, hb, hsp, hF⟩ := F w s₀ mg mb fa _ G KX hmg
  exact LamX.law_callTs KX G.T.g G.T.b G.T.builtins G.T.nolimit hg hT nT C G.T.bmain hobj hints (Nat.le_trans hlen hn2) hr hF hb (fun H hH hS => hsp H a ns hlen hbits hH hS) fun H e s' => hCX w H s₁ e s'
theorem dpAll_ints {K : PySem.W.Frag} {F : Hp} : ∀ ns : List Int, DpAll K F (ns.map V.int) (ns.map PyData.int)
  | [] => .nil
  | n :: ns => .cons (.int n) (dpAll_ints ns)
def only1 (a : Addr) (o : HO) : Hp := fun b => if b = a then some o else none
theorem ex1 {H : Hp} {a : Addr} {o : HO} (h : H a = some o) : Ex (only1 a o) H := fun b u e => by
  unfold only1 at e
  by_cases q : b = a
  · subst q
    rw [if_pos rfl] at e
    rw [h]; exact e
  · rw [if_neg q] at e; cases e
theorem nt1 {a : Addr} {o : HO} (h : ∀ ps, o ≠ .tbl ps) : ∀ b ps, only1 a o b ≠ some (.tbl ps) := fun b ps e => by
  unfold only1 at e
  by_cases q : b = a
  · rw [if_pos q] at e; exact h ps (Option.some.inj e)
  · rw [if_neg q] at e; cases e
/-- the law's promise from the head's heap -/
theorem sp_start {K : PySem.W.Frag} {T : Tbs} {H : Hp} {a : Addr} {ns : List Int} {E : XK} (hg : ∀ P ∈ T.g, H P = some (.tbl #[])) (hn : ∀ p ∈ T.n, H p.1 = some (.tbl #[])) (hS : SqL K H a (ns.map V.int)) :
    Pu T (fun (_ : List Int) => True) (fun ns => [isD K (iList ns)]) (fun _ => isD K (.bool true)) [.ref a] H (fun v _ => v = .bl true) E := by
  have tb : ∀ F : Hp, T.ok F H := fun F => ⟨fun P hP => ⟨#[], hg P hP, trivial⟩, fun p hp => ⟨#[], hn p hp, trivial, fun pos cv hh => by cases (show (none : Option Value) = some cv from hh)⟩⟩
  have key : ∀ F : Hp, Ex F H → (∀ b ps, F b ≠ some (.tbl ps)) → SqL K F a (ns.map V.int) → Pu T (fun (_ : List Int) => True) (fun ns => [isD K (iList ns)]) (fun _ => isD K (.bool true)) [.ref a] H (fun v _ => v = .bl true) E := fun F e nt s =>
    ⟨ns, F, trivial, ⟨e, nt, tb F⟩, .cons (show Dp K F (.ref a) (iList ns) from .lst s (dpAll_ints ns)) .nil, fun v F' H' l r => dp_bl r⟩
  rcases hS with (h | ⟨o, h⟩) | h
  · exact key (only1 a (.lst (ns.map V.int))) (ex1 h) (nt1 (fun ps z => by cases z)) (.inl (.inl (if_pos rfl)))
  · exact key (only1 a (.frz o (.lst (ns.map V.int)))) (ex1 h) (nt1 (fun ps z => by cases z)) (.inl (.inr ⟨o, if_pos rfl⟩))
  · exact key (fun _ => none) (fun b o e => by cases e) (fun b ps e => by cases e) (.inr h)
theorem tabB_g {base : Heap} {mg : Str → Option Value} {c P : Addr} (t : LamX.TabB base mg c P) : GxR.TabB base mg c P := ⟨t.code, t.bm, t.gP⟩

theorem all_mk {l : PySem.W.OpenLaw} {w : World} {K : PySem.W.Frag} {h : Heap} {q : Program} {loose : List Str} {mean : ExcName → Option Value} {mg mb : Str → Option Value} {fa : Addr} (X : K.In h) (G : Top q loose mean mg mb h) (hfa : mg "law" = some (.ref fa))
    {C fR : Addr}
    {f_ev : Addr} {od_ev an_ev : Option Addr} {sl_ev : Array (Option Value)} {oc_ev kV_ev dc_ev pm_ev ct_ev : Value}
    {c_ev p_ev : Addr} {occ_ev : Value} {odc_ev : Option Addr} {vs_ev : Array Value} {slc_ev : Array (Option Value)}
    {f_ac : Addr} {od_ac an_ac : Option Addr} {sl_ac : Array (Option Value)} {oc_ac kV_ac dc_ac pm_ac cd_ac ct_ac : Value}
    {f_rn : Addr} {od_rn an_rn : Option Addr} {sl_rn : Array (Option Value)} {oc_rn kV_rn dc_rn pm_rn cd_rn ct_rn : Value}
    {f_re : Addr} {od_re an_re : Option Addr} {sl_re : Array (Option Value)} {oc_re kV_re dc_re pm_re ct_re : Value}
    {c_re p_re : Addr} {occ_re : Value} {odc_re : Option Addr} {vs_re : Array Value} {slc_re : Array (Option Value)}
    {f_nu : Addr} {od_nu an_nu : Option Addr} {sl_nu : Array (Option Value)} {oc_nu kV_nu dc_nu pm_nu cd_nu ct_nu : Value}
    {f_nx : Addr} {od_nx an_nx : Option Addr} {sl_nx : Array (Option Value)} {oc_nx kV_nx dc_nx pm_nx cd_nx ct_nx : Value}
    {f_ro : Addr} {od_ro an_ro : Option Addr} {sl_ro : Array (Option Value)} {oc_ro kV_ro dc_ro pm_ro cd_ro ct_ro : Value}
    {f_sr : Addr} {od_sr an_sr : Option Addr} {sl_sr : Array (Option Value)} {oc_sr kV_sr dc_sr pm_sr cd_sr ct_sr : Value}
    {f_st : Addr} {od_st an_st : Option Addr} {sl_st : Array (Option Value)} {oc_st kV_st dc_st pm_st cd_st ct_st : Value}
    {f_cl : Addr} {od_cl an_cl : Option Addr} {sl_cl : Array (Option Value)} {oc_cl kV_cl dc_cl pm_cl ct_cl : Value}
    {c_cl p_cl : Addr} {occ_cl : Value} {odc_cl : Option Addr} {vs_cl : Array Value} {slc_cl : Array (Option Value)}
    {f_sm : Addr} {od_sm an_sm : Option Addr} {sl_sm : Array (Option Value)} {oc_sm kV_sm dc_sm pm_sm ct_sm : Value}
    {c_sm p_sm : Addr} {occ_sm : Value} {odc_sm : Option Addr} {vs_sm : Array Value} {slc_sm : Array (Option Value)}
    {f_lc : Addr} {od_lc an_lc : Option Addr} {sl_lc : Array (Option Value)} {oc_lc kV_lc dc_lc pm_lc cd_lc ct_lc : Value}
    {f_ld : Addr} {od_ld an_ld : Option Addr} {sl_ld : Array (Option Value)} {oc_ld kV_ld dc_ld pm_ld cd_ld ct_ld : Value}
    {f_ls : Addr} {od_ls an_ls : Option Addr} {sl_ls : Array (Option Value)} {oc_ls kV_ls dc_ls pm_ls cd_ls ct_ls : Value}
    {f_lm : Addr} {od_lm an_lm : Option Addr} {sl_lm : Array (Option Value)} {oc_lm kV_lm dc_lm pm_lm cd_lm ct_lm : Value}
    {f_lw : Addr} {od_lw an_lw : Option Addr} {sl_lw : Array (Option Value)} {oc_lw kV_lw dc_lw pm_lw cd_lw ct_lw : Value}
    {f_lo : Addr} {od_lo an_lo : Option Addr} {sl_lo : Array (Option Value)} {oc_lo kV_lo dc_lo pm_lo cd_lo ct_lo : Value}
    {f_lk : Addr} {od_lk an_lk : Option Addr} {sl_lk : Array (Option Value)} {oc_lk kV_lk dc_lk pm_lk cd_lk ct_lk : Value}
    {f_lr : Addr} {od_lr an_lr : Option Addr} {sl_lr : Array (Option Value)} {oc_lr kV_lr dc_lr pm_lr cd_lr ct_lr : Value}
    {f_lt : Addr} {od_lt an_lt : Option Addr} {sl_lt : Array (Option Value)} {oc_lt kV_lt dc_lt pm_lt cd_lt ct_lt : Value}
    {f_le : Addr} {od_le an_le : Option Addr} {sl_le : Array (Option Value)} {oc_le kV_le dc_le pm_le cd_le ct_le : Value}
    {f_lx : Addr} {od_lx an_lx : Option Addr} {sl_lx : Array (Option Value)} {oc_lx kV_lx dc_lx pm_lx cd_lx ct_lx : Value}
    {f_ly : Addr} {od_ly an_ly : Option Addr} {sl_ly : Array (Option Value)} {oc_ly kV_ly dc_ly pm_ly cd_ly ct_ly : Value}
    {f_li : Addr} {od_li an_li : Option Addr} {sl_li : Array (Option Value)} {oc_li kV_li dc_li pm_li cd_li ct_li : Value}
    {f_la : Addr} {od_la an_la : Option Addr} {sl_la : Array (Option Value)} {oc_la kV_la dc_la pm_la cd_la ct_la : Value}
    {f_mi : Addr} {od_mi an_mi : Option Addr} {sl_mi : Array (Option Value)} {oc_mi kV_mi dc_mi pm_mi cd_mi ct_mi : Value}
    {f_me : Addr} {od_me an_me : Option Addr} {sl_me : Array (Option Value)} {oc_me kV_me dc_me pm_me cd_me ct_me : Value}
    {f_mc : Addr} {od_mc an_mc : Option Addr} {sl_mc : Array (Option Value)} {oc_mc kV_mc dc_mc pm_mc cd_mc ct_mc : Value}
    {f_ml : Addr} {od_ml an_ml : Option Addr} {sl_ml : Array (Option Value)} {oc_ml kV_ml dc_ml pm_ml cd_ml ct_ml : Value}
    {t1 t2 t3 t4 t5 t6 u1 u2 u3 u4 u5 u6 : Tok} {dR : Option Addr} {nR : Nat} {slR : Array (Option Value)}
    (aC : PySem.W.nsIn K mainGlobals "System" = some (some (.ref C)))
    (a_ev : PySem.W.nsIn K mainGlobals "is_event" = some (some (.ref f_ev)))
    (l_ev : K.lookup f_ev = some ⟨oc_ev, od_ev, .func (PySem.W.fnOf "is_event" "is_event" (defArgs sEvent) (defBody sEvent) (defScope sEvent) .none kV_ev dc_ev pm_ev an_ev (.ref c_ev) ct_ev), sl_ev⟩)
    (k_ev : PySem.W.codeIn K (.ref c_ev) "is_event" = true)
    (q_ev : PySem.W.keepIn K (.ref f_ev) = true)
    (v_ev : K.lookup c_ev = some ⟨occ_ev, odc_ev, .fields vs_ev, slc_ev⟩)
    (w_ev : vs_ev[11]? = some (.ref p_ev))
    (n_ev : K.lookup p_ev = none)
    (t_ev : PySem.W.tabIn K "is_event" = some (c_ev, p_ev))
    (r_ev : ((recsOf q).find? fun e : DefRec => e.name == ("is_event" : Str)).isSome = true)
    (a_ac : PySem.W.nsIn K mainGlobals "is_action" = some (some (.ref f_ac)))
    (l_ac : K.lookup f_ac = some ⟨oc_ac, od_ac, .func (PySem.W.fnOf "is_action" "is_action" (defArgs sAction) (defBody sAction) (defScope sAction) .none kV_ac dc_ac pm_ac an_ac cd_ac ct_ac), sl_ac⟩)
    (k_ac : PySem.W.codeIn K cd_ac "is_action" = true)
    (q_ac : PySem.W.keepIn K (.ref f_ac) = true)
    (a_rn : PySem.W.nsIn K mainGlobals "renumbered_from" = some (some (.ref f_rn)))
    (l_rn : K.lookup f_rn = some ⟨oc_rn, od_rn, .func (PySem.W.fnOf "renumbered_from" "renumbered_from" (defArgs sRenum) (defBody sRenum) (defScope sRenum) .none kV_rn dc_rn pm_rn an_rn cd_rn ct_rn), sl_rn⟩)
    (k_rn : PySem.W.codeIn K cd_rn "renumbered_from" = true)
    (q_rn : PySem.W.keepIn K (.ref f_rn) = true)
    (a_re : PySem.W.nsIn K mainGlobals "reached" = some (some (.ref f_re)))
    (l_re : K.lookup f_re = some ⟨oc_re, od_re, .func (PySem.W.fnOf "reached" "reached" (defArgs sReached) (defBody sReached) (defScope sReached) .none kV_re dc_re pm_re an_re (.ref c_re) ct_re), sl_re⟩)
    (k_re : PySem.W.codeIn K (.ref c_re) "reached" = true)
    (q_re : PySem.W.keepIn K (.ref f_re) = true)
    (v_re : K.lookup c_re = some ⟨occ_re, odc_re, .fields vs_re, slc_re⟩)
    (w_re : vs_re[11]? = some (.ref p_re))
    (n_re : K.lookup p_re = none)
    (t_re : PySem.W.tabIn K "reached" = some (c_re, p_re))
    (r_re : ((recsOf q).find? fun e : DefRec => e.name == ("reached" : Str)).isSome = true)
    (a_nu : PySem.W.nsIn K mainGlobals "numbered" = some (some (.ref f_nu)))
    (l_nu : K.lookup f_nu = some ⟨oc_nu, od_nu, .func (PySem.W.fnOf "numbered" "numbered" (defArgs sNumbered) (defBody sNumbered) (defScope sNumbered) .none kV_nu dc_nu pm_nu an_nu cd_nu ct_nu), sl_nu⟩)
    (k_nu : PySem.W.codeIn K cd_nu "numbered" = true)
    (q_nu : PySem.W.keepIn K (.ref f_nu) = true)
    (a_nx : PySem.W.nsIn K mainGlobals "next_round" = some (some (.ref f_nx)))
    (l_nx : K.lookup f_nx = some ⟨oc_nx, od_nx, .func (PySem.W.fnOf "next_round" "next_round" (defArgs sNextR) (defBody sNextR) (defScope sNextR) .none kV_nx dc_nx pm_nx an_nx cd_nx ct_nx), sl_nx⟩)
    (k_nx : PySem.W.codeIn K cd_nx "next_round" = true)
    (q_nx : PySem.W.keepIn K (.ref f_nx) = true)
    (a_ro : PySem.W.nsIn K mainGlobals "rounds" = some (some (.ref f_ro)))
    (l_ro : K.lookup f_ro = some ⟨oc_ro, od_ro, .func (PySem.W.fnOf "rounds" "rounds" (defArgs sRounds) (defBody sRounds) (defScope sRounds) .none kV_ro dc_ro pm_ro an_ro cd_ro ct_ro), sl_ro⟩)
    (k_ro : PySem.W.codeIn K cd_ro "rounds" = true)
    (q_ro : PySem.W.keepIn K (.ref f_ro) = true)
    (a_sr : PySem.W.nsIn K mainGlobals "strong_rows" = some (some (.ref f_sr)))
    (l_sr : K.lookup f_sr = some ⟨oc_sr, od_sr, .func (PySem.W.fnOf "strong_rows" "strong_rows" (defArgs sStrRows) (defBody sStrRows) (defScope sStrRows) .none kV_sr dc_sr pm_sr an_sr cd_sr ct_sr), sl_sr⟩)
    (k_sr : PySem.W.codeIn K cd_sr "strong_rows" = true)
    (q_sr : PySem.W.keepIn K (.ref f_sr) = true)
    (a_st : PySem.W.nsIn K mainGlobals "strong_rounds" = some (some (.ref f_st)))
    (l_st : K.lookup f_st = some ⟨oc_st, od_st, .func (PySem.W.fnOf "strong_rounds" "strong_rounds" (defArgs sStrRounds) (defBody sStrRounds) (defScope sStrRounds) .none kV_st dc_st pm_st an_st cd_st ct_st), sl_st⟩)
    (k_st : PySem.W.codeIn K cd_st "strong_rounds" = true)
    (q_st : PySem.W.keepIn K (.ref f_st) = true)
    (a_cl : PySem.W.nsIn K mainGlobals "class_system" = some (some (.ref f_cl)))
    (l_cl : K.lookup f_cl = some ⟨oc_cl, od_cl, .func (PySem.W.fnOf "class_system" "class_system" (defArgs sClass) (defBody sClass) (defScope sClass) .none kV_cl dc_cl pm_cl an_cl (.ref c_cl) ct_cl), sl_cl⟩)
    (k_cl : PySem.W.codeIn K (.ref c_cl) "class_system" = true)
    (q_cl : PySem.W.keepIn K (.ref f_cl) = true)
    (v_cl : K.lookup c_cl = some ⟨occ_cl, odc_cl, .fields vs_cl, slc_cl⟩)
    (w_cl : vs_cl[11]? = some (.ref p_cl))
    (n_cl : K.lookup p_cl = none)
    (t_cl : PySem.W.tabIn K "class_system" = some (c_cl, p_cl))
    (r_cl : ((recsOf q).find? fun e : DefRec => e.name == ("class_system" : Str)).isSome = true)
    (a_sm : PySem.W.nsIn K mainGlobals "small" = some (some (.ref f_sm)))
    (l_sm : K.lookup f_sm = some ⟨oc_sm, od_sm, .func (PySem.W.fnOf "small" "small" (defArgs sSmall) (defBody sSmall) (defScope sSmall) .none kV_sm dc_sm pm_sm an_sm (.ref c_sm) ct_sm), sl_sm⟩)
    (k_sm : PySem.W.codeIn K (.ref c_sm) "small" = true)
    (q_sm : PySem.W.keepIn K (.ref f_sm) = true)
    (v_sm : K.lookup c_sm = some ⟨occ_sm, odc_sm, .fields vs_sm, slc_sm⟩)
    (w_sm : vs_sm[11]? = some (.ref p_sm))
    (n_sm : K.lookup p_sm = none)
    (t_sm : PySem.W.tabIn K "small" = some (c_sm, p_sm))
    (r_sm : ((recsOf q).find? fun e : DefRec => e.name == ("small" : Str)).isSome = true)
    (a_lc : PySem.W.nsIn K mainGlobals "_law_cell" = some (some (.ref f_lc)))
    (l_lc : K.lookup f_lc = some ⟨oc_lc, od_lc, .func (PySem.W.fnOf "_law_cell" "_law_cell" (defArgs sCell) (defBody sCell) (defScope sCell) .none kV_lc dc_lc pm_lc an_lc cd_lc ct_lc), sl_lc⟩)
    (k_lc : PySem.W.codeIn K cd_lc "_law_cell" = true)
    (q_lc : PySem.W.keepIn K (.ref f_lc) = true)
    (a_ld : PySem.W.nsIn K mainGlobals "_law_draws" = some (some (.ref f_ld)))
    (l_ld : K.lookup f_ld = some ⟨oc_ld, od_ld, .func (PySem.W.fnOf "_law_draws" "_law_draws" (defArgs sDraws) (defBody sDraws) (defScope sDraws) .none kV_ld dc_ld pm_ld an_ld cd_ld ct_ld), sl_ld⟩)
    (k_ld : PySem.W.codeIn K cd_ld "_law_draws" = true)
    (q_ld : PySem.W.keepIn K (.ref f_ld) = true)
    (a_ls : PySem.W.nsIn K mainGlobals "_law_system" = some (some (.ref f_ls)))
    (l_ls : K.lookup f_ls = some ⟨oc_ls, od_ls, .func (PySem.W.fnOf "_law_system" "_law_system" (defArgs sLSys) (defBody sLSys) (defScope sLSys) .none kV_ls dc_ls pm_ls an_ls cd_ls ct_ls), sl_ls⟩)
    (k_ls : PySem.W.codeIn K cd_ls "_law_system" = true)
    (q_ls : PySem.W.keepIn K (.ref f_ls) = true)
    (a_lm : PySem.W.nsIn K mainGlobals "_law_made" = some (some (.ref f_lm)))
    (l_lm : K.lookup f_lm = some ⟨oc_lm, od_lm, .func (PySem.W.fnOf "_law_made" "_law_made" (defArgs sMade) (defBody sMade) (defScope sMade) .none kV_lm dc_lm pm_lm an_lm cd_lm ct_lm), sl_lm⟩)
    (k_lm : PySem.W.codeIn K cd_lm "_law_made" = true)
    (q_lm : PySem.W.keepIn K (.ref f_lm) = true)
    (a_lw : PySem.W.nsIn K mainGlobals "_law_rows" = some (some (.ref f_lw)))
    (l_lw : K.lookup f_lw = some ⟨oc_lw, od_lw, .func (PySem.W.fnOf "_law_rows" "_law_rows" (defArgs sLRows) (defBody sLRows) (defScope sLRows) .none kV_lw dc_lw pm_lw an_lw cd_lw ct_lw), sl_lw⟩)
    (k_lw : PySem.W.codeIn K cd_lw "_law_rows" = true)
    (q_lw : PySem.W.keepIn K (.ref f_lw) = true)
    (a_lo : PySem.W.nsIn K mainGlobals "_law_once" = some (some (.ref f_lo)))
    (l_lo : K.lookup f_lo = some ⟨oc_lo, od_lo, .func (PySem.W.fnOf "_law_once" "_law_once" (defArgs sOnce) (defBody sOnce) (defScope sOnce) .none kV_lo dc_lo pm_lo an_lo cd_lo ct_lo), sl_lo⟩)
    (k_lo : PySem.W.codeIn K cd_lo "_law_once" = true)
    (q_lo : PySem.W.keepIn K (.ref f_lo) = true)
    (a_lk : PySem.W.nsIn K mainGlobals "_law_marks" = some (some (.ref f_lk)))
    (l_lk : K.lookup f_lk = some ⟨oc_lk, od_lk, .func (PySem.W.fnOf "_law_marks" "_law_marks" (defArgs sLMarks) (defBody sLMarks) (defScope sLMarks) .none kV_lk dc_lk pm_lk an_lk cd_lk ct_lk), sl_lk⟩)
    (k_lk : PySem.W.codeIn K cd_lk "_law_marks" = true)
    (q_lk : PySem.W.keepIn K (.ref f_lk) = true)
    (a_lr : PySem.W.nsIn K mainGlobals "_law_rounds" = some (some (.ref f_lr)))
    (l_lr : K.lookup f_lr = some ⟨oc_lr, od_lr, .func (PySem.W.fnOf "_law_rounds" "_law_rounds" (defArgs sLRounds) (defBody sLRounds) (defScope sLRounds) .none kV_lr dc_lr pm_lr an_lr cd_lr ct_lr), sl_lr⟩)
    (k_lr : PySem.W.codeIn K cd_lr "_law_rounds" = true)
    (q_lr : PySem.W.keepIn K (.ref f_lr) = true)
    (a_lt : PySem.W.nsIn K mainGlobals "_law_strong_rounds" = some (some (.ref f_lt)))
    (l_lt : K.lookup f_lt = some ⟨oc_lt, od_lt, .func (PySem.W.fnOf "_law_strong_rounds" "_law_strong_rounds" (defArgs sLStr) (defBody sLStr) (defScope sLStr) .none kV_lt dc_lt pm_lt an_lt cd_lt ct_lt), sl_lt⟩)
    (k_lt : PySem.W.codeIn K cd_lt "_law_strong_rounds" = true)
    (q_lt : PySem.W.keepIn K (.ref f_lt) = true)
    (a_le : PySem.W.nsIn K mainGlobals "_law_reached" = some (some (.ref f_le)))
    (l_le : K.lookup f_le = some ⟨oc_le, od_le, .func (PySem.W.fnOf "_law_reached" "_law_reached" (defArgs sLReached) (defBody sLReached) (defScope sLReached) .none kV_le dc_le pm_le an_le cd_le ct_le), sl_le⟩)
    (k_le : PySem.W.codeIn K cd_le "_law_reached" = true)
    (q_le : PySem.W.keepIn K (.ref f_le) = true)
    (a_lx : PySem.W.nsIn K mainGlobals "_law_class_system" = some (some (.ref f_lx)))
    (l_lx : K.lookup f_lx = some ⟨oc_lx, od_lx, .func (PySem.W.fnOf "_law_class_system" "_law_class_system" (defArgs sLClass) (defBody sLClass) (defScope sLClass) .none kV_lx dc_lx pm_lx an_lx cd_lx ct_lx), sl_lx⟩)
    (k_lx : PySem.W.codeIn K cd_lx "_law_class_system" = true)
    (q_lx : PySem.W.keepIn K (.ref f_lx) = true)
    (a_ly : PySem.W.nsIn K mainGlobals "_law_small" = some (some (.ref f_ly)))
    (l_ly : K.lookup f_ly = some ⟨oc_ly, od_ly, .func (PySem.W.fnOf "_law_small" "_law_small" (defArgs sLSmall) (defBody sLSmall) (defScope sLSmall) .none kV_ly dc_ly pm_ly an_ly cd_ly ct_ly), sl_ly⟩)
    (k_ly : PySem.W.codeIn K cd_ly "_law_small" = true)
    (q_ly : PySem.W.keepIn K (.ref f_ly) = true)
    (a_li : PySem.W.nsIn K mainGlobals "_law_like" = some (some (.ref f_li)))
    (l_li : K.lookup f_li = some ⟨oc_li, od_li, .func (PySem.W.fnOf "_law_like" "_law_like" (defArgs sLike) (defBody sLike) (defScope sLike) .none kV_li dc_li pm_li an_li cd_li ct_li), sl_li⟩)
    (k_li : PySem.W.codeIn K cd_li "_law_like" = true)
    (q_li : PySem.W.keepIn K (.ref f_li) = true)
    (a_la : PySem.W.nsIn K mainGlobals "law" = some (some (.ref f_la)))
    (l_la : K.lookup f_la = some ⟨oc_la, od_la, .func (PySem.W.fnOf "law" "law" (defArgs sLaw) (defBody sLaw) (defScope sLaw) .none kV_la dc_la pm_la an_la cd_la ct_la), sl_la⟩)
    (k_la : PySem.W.codeIn K cd_la "law" = true)
    (q_la : PySem.W.keepIn K (.ref f_la) = true)
    (a_mi : PySem.W.findIn K (.ref C) "__init__" = some (some (.ref f_mi)))
    (i_mi : PySem.W.isFn K (.ref f_mi) = true)
    (l_mi : K.lookup f_mi = some ⟨oc_mi, od_mi, .func (PySem.W.fnOf "__init__" "System.__init__" (defArgs sInit) (defBody sInit) (defScope sInit) .none kV_mi dc_mi pm_mi an_mi cd_mi ct_mi), sl_mi⟩)
    (k_mi : PySem.W.codeIn K cd_mi "System.__init__" = true)
    (q_mi : PySem.W.keepIn K (.ref f_mi) = true)
    (a_me : PySem.W.findIn K (.ref C) "__eq__" = some (some (.ref f_me)))
    (i_me : PySem.W.isFn K (.ref f_me) = true)
    (l_me : K.lookup f_me = some ⟨oc_me, od_me, .func (PySem.W.fnOf "__eq__" "System.__eq__" (defArgs sEq) (defBody sEq) (defScope sEq) .none kV_me dc_me pm_me an_me cd_me ct_me), sl_me⟩)
    (k_me : PySem.W.codeIn K cd_me "System.__eq__" = true)
    (q_me : PySem.W.keepIn K (.ref f_me) = true)
    (a_mc : PySem.W.findIn K (.ref C) "check_state" = some (some (.ref f_mc)))
    (i_mc : PySem.W.isFn K (.ref f_mc) = true)
    (l_mc : K.lookup f_mc = some ⟨oc_mc, od_mc, .func (PySem.W.fnOf "check_state" "System.check_state" (defArgs sCheck) (defBody sCheck) (defScope sCheck) .none kV_mc dc_mc pm_mc an_mc cd_mc ct_mc), sl_mc⟩)
    (k_mc : PySem.W.codeIn K cd_mc "System.check_state" = true)
    (q_mc : PySem.W.keepIn K (.ref f_mc) = true)
    (a_ml : PySem.W.findIn K (.ref C) "leaving" = some (some (.ref f_ml)))
    (i_ml : PySem.W.isFn K (.ref f_ml) = true)
    (l_ml : K.lookup f_ml = some ⟨oc_ml, od_ml, .func (PySem.W.fnOf "leaving" "System.leaving" (defArgs sLeaving) (defBody sLeaving) (defScope sLeaving) .none kV_ml dc_ml pm_ml an_ml cd_ml ct_ml), sl_ml⟩)
    (k_ml : PySem.W.codeIn K cd_ml "System.leaving" = true)
    (q_ml : PySem.W.keepIn K (.ref f_ml) = true)
    (pg : PySem.W.plainGet K C Str.empty = true)
    (hd : PySem.W.hasDictIn K C = true)
    (po : PySem.W.plainOver K C = true)
    (sa : PySem.W.findIn K (.ref C) "__setattr__" = some (some (.builtin "object.__setattr__")))
    (mk : PySem.W.makesIn K C = true)
    (kc : PySem.W.keepIn K (.ref C) = true)
    (nc : PySem.W.findIn K (.ref C) "count" = some none)
    (ne : PySem.W.findIn K (.ref C) "edges" = some none)
    (nr : PySem.W.findIn K (.ref C) "rows" = some none)
    (ha : PySem.W.findIn K (.ref C) "__class__" = some (some (.builtin "object.__class__")))
    (hn : PySem.W.specialIn K (.builtin "object.__class__") "__get__" = some (some (.builtin "getset_descriptor.__get__")))
    (htk : PySem.W.takesIn K (.builtin "object.__class__") = some true)
    (hmr : PySem.W.mroIn K C (.type "object") = some true)
    (hki : PySem.W.kitOne K (.ref C) (.ref C) = some true)
    (z_len : PySem.W.nsIn K mainGlobals "len" = some none)
    (z_all : PySem.W.nsIn K mainGlobals "all" = some none)
    (z_range : PySem.W.nsIn K mainGlobals "range" = some none)
    (z_list : PySem.W.nsIn K mainGlobals "list" = some none)
    (z_tuple : PySem.W.nsIn K mainGlobals "tuple" = some none)
    (z_sorted : PySem.W.nsIn K mainGlobals "sorted" = some none)
    (z_set : PySem.W.nsIn K mainGlobals "set" = some none)
    (z_abs : PySem.W.nsIn K mainGlobals "abs" = some none)
    (z_int : PySem.W.nsIn K mainGlobals "int" = some none)
    (z_isinstance : PySem.W.nsIn K mainGlobals "isinstance" = some none)
    (z_bool : PySem.W.nsIn K mainGlobals "bool" = some none)
    (z_str : PySem.W.nsIn K mainGlobals "str" = some none)
    (cLow : PySem.W.nsIn K mainGlobals "LOWER" = some (some (.str "abcdefghijklmnopqrstuvwxyz" t1)))
    (cDig : PySem.W.nsIn K mainGlobals "DIGITS" = some (some (.str "0123456789" t2)))
    (cLon : PySem.W.nsIn K mainGlobals "LONGEST" = some (some (.int 12 t3)))
    (cTau : PySem.W.nsIn K mainGlobals "TAU" = some (some (.str "tau" t4)))
    (cTick : PySem.W.nsIn K mainGlobals "TICK" = some (some (.str "tick" t5)))
    (cMost : PySem.W.nsIn K mainGlobals "MOST_STATES" = some (some (.int 20000 t6)))
    (cRes : PySem.W.nsIn K mainGlobals "RESERVED" = some (some (.ref fR)))
    (lRes : K.lookup fR = some ⟨.type "tuple", dR, .seq #[.str "stop" u1, .str "skip" u2, .str "tau" u3, .str "tick" u4, .str "true" u5, .str "loops" u6] nR, slR⟩)
    (d_re_ev : (p_re = p_ev) = False)
    (d_cl_ev : (p_cl = p_ev) = False)
    (d_cl_re : (p_cl = p_re) = False)
    (d_sm_ev : (p_sm = p_ev) = False)
    (d_sm_re : (p_sm = p_re) = False)
    (d_sm_cl : (p_sm = p_cl) = False) :
    LamX.LawAtS l w K CX0 9 63 "script" mg fa h := by
  have e := hfa.symm.trans (PySem.W.mg_of X G.g a_la)
  cases e
  have T_ev : PySem.W.CodeHd h c_ev p_ev ∧ h.get? p_ev = some (PySem.W.tabObj #[]) := by
    obtain ⟨d, hd⟩ := Option.isSome_iff_exists.mp r_ev
    exact PySem.W.tab_of G X hd t_ev
  have T_re : PySem.W.CodeHd h c_re p_re ∧ h.get? p_re = some (PySem.W.tabObj #[]) := by
    obtain ⟨d, hd⟩ := Option.isSome_iff_exists.mp r_re
    exact PySem.W.tab_of G X hd t_re
  have T_cl : PySem.W.CodeHd h c_cl p_cl ∧ h.get? p_cl = some (PySem.W.tabObj #[]) := by
    obtain ⟨d, hd⟩ := Option.isSome_iff_exists.mp r_cl
    exact PySem.W.tab_of G X hd t_cl
  have T_sm : PySem.W.CodeHd h c_sm p_sm ∧ h.get? p_sm = some (PySem.W.tabObj #[]) := by
    obtain ⟨d, hd⟩ := Option.isSome_iff_exists.mp r_sm
    exact PySem.W.tab_of G X hd t_sm
  have F_ev := fun_mk (st := sEvent) l_ev k_ev q_ev
  have b_ev := F_ev.binds (ps := ["word"]) fun _ _ _ _ _ _ us hl => match us, hl with | [_], _ => rfl
  have m_ev := PySem.W.mg_of X G.g a_ev
  have F_ac := fun_mk (st := sAction) l_ac k_ac q_ac
  have b_ac := F_ac.binds (ps := ["word"]) fun _ _ _ _ _ _ us hl => match us, hl with | [_], _ => rfl
  have m_ac := PySem.W.mg_of X G.g a_ac
  have F_rn := fun_mk (st := sRenum) l_rn k_rn q_rn
  have b_rn := F_rn.binds (ps := ["start", "rows_of"]) fun _ _ _ _ _ _ us hl => match us, hl with | [_, _], _ => rfl
  have m_rn := PySem.W.mg_of X G.g a_rn
  have F_re := fun_mk (st := sReached) l_re k_re q_re
  have b_re := F_re.binds (ps := ["system"]) fun _ _ _ _ _ _ us hl => match us, hl with | [_], _ => rfl
  have m_re := PySem.W.mg_of X G.g a_re
  have F_nu := fun_mk (st := sNumbered) l_nu k_nu q_nu
  have b_nu := F_nu.binds (ps := ["keys"]) fun _ _ _ _ _ _ us hl => match us, hl with | [_], _ => rfl
  have m_nu := PySem.W.mg_of X G.g a_nu
  have F_nx := fun_mk (st := sNextR) l_nx k_nx q_nx
  have b_nx := F_nx.binds (ps := ["rows", "marks"]) fun _ _ _ _ _ _ us hl => match us, hl with | [_, _], _ => rfl
  have m_nx := PySem.W.mg_of X G.g a_nx
  have F_ro := fun_mk (st := sRounds) l_ro k_ro q_ro
  have b_ro := F_ro.binds (ps := ["rows", "marks"]) fun _ _ _ _ _ _ us hl => match us, hl with | [_, _], _ => rfl
  have m_ro := PySem.W.mg_of X G.g a_ro
  have F_sr := fun_mk (st := sStrRows) l_sr k_sr q_sr
  have b_sr := F_sr.binds (ps := ["system"]) fun _ _ _ _ _ _ us hl => match us, hl with | [_], _ => rfl
  have m_sr := PySem.W.mg_of X G.g a_sr
  have F_st := fun_mk (st := sStrRounds) l_st k_st q_st
  have b_st := F_st.binds (ps := ["system"]) fun _ _ _ _ _ _ us hl => match us, hl with | [_], _ => rfl
  have m_st := PySem.W.mg_of X G.g a_st
  have F_cl := fun_mk (st := sClass) l_cl k_cl q_cl
  have b_cl := F_cl.binds (ps := ["system", "marks", "is_kept"]) fun _ _ _ _ _ _ us hl => match us, hl with | [_, _, _], _ => rfl
  have m_cl := PySem.W.mg_of X G.g a_cl
  have F_sm := fun_mk (st := sSmall) l_sm k_sm q_sm
  have b_sm := F_sm.binds (ps := ["system"]) fun _ _ _ _ _ _ us hl => match us, hl with | [_], _ => rfl
  have m_sm := PySem.W.mg_of X G.g a_sm
  have F_lc := fun_mk (st := sCell) l_lc k_lc q_lc
  have b_lc := F_lc.binds (ps := ["script", "k"]) fun _ _ _ _ _ _ us hl => match us, hl with | [_, _], _ => rfl
  have m_lc := PySem.W.mg_of X G.g a_lc
  have F_ld := fun_mk (st := sDraws) l_ld k_ld q_ld
  have b_ld := F_ld.binds (ps := ["cell", "count"]) fun _ _ _ _ _ _ us hl => match us, hl with | [_, _], _ => rfl
  have m_ld := PySem.W.mg_of X G.g a_ld
  have F_ls := fun_mk (st := sLSys) l_ls k_ls q_ls
  have b_ls := F_ls.binds (ps := ["cell", "most"]) fun _ _ _ _ _ _ us hl => match us, hl with | [_, _], _ => rfl
  have m_ls := PySem.W.mg_of X G.g a_ls
  have F_lm := fun_mk (st := sMade) l_lm k_lm q_lm
  have b_lm := F_lm.binds (ps := ["parts"]) fun _ _ _ _ _ _ us hl => match us, hl with | [_], _ => rfl
  have m_lm := PySem.W.mg_of X G.g a_lm
  have F_lw := fun_mk (st := sLRows) l_lw k_lw q_lw
  have b_lw := F_lw.binds (ps := ["parts"]) fun _ _ _ _ _ _ us hl => match us, hl with | [_], _ => rfl
  have m_lw := PySem.W.mg_of X G.g a_lw
  have F_lo := fun_mk (st := sOnce) l_lo k_lo q_lo
  have b_lo := F_lo.binds (ps := ["rows"]) fun _ _ _ _ _ _ us hl => match us, hl with | [_], _ => rfl
  have m_lo := PySem.W.mg_of X G.g a_lo
  have F_lk := fun_mk (st := sLMarks) l_lk k_lk q_lk
  have b_lk := F_lk.binds (ps := ["keys"]) fun _ _ _ _ _ _ us hl => match us, hl with | [_], _ => rfl
  have m_lk := PySem.W.mg_of X G.g a_lk
  have F_lr := fun_mk (st := sLRounds) l_lr k_lr q_lr
  have b_lr := F_lr.binds (ps := ["rows", "marks"]) fun _ _ _ _ _ _ us hl => match us, hl with | [_, _], _ => rfl
  have m_lr := PySem.W.mg_of X G.g a_lr
  have F_lt := fun_mk (st := sLStr) l_lt k_lt q_lt
  have b_lt := F_lt.binds (ps := ["parts"]) fun _ _ _ _ _ _ us hl => match us, hl with | [_], _ => rfl
  have m_lt := PySem.W.mg_of X G.g a_lt
  have F_le := fun_mk (st := sLReached) l_le k_le q_le
  have b_le := F_le.binds (ps := ["parts"]) fun _ _ _ _ _ _ us hl => match us, hl with | [_], _ => rfl
  have m_le := PySem.W.mg_of X G.g a_le
  have F_lx := fun_mk (st := sLClass) l_lx k_lx q_lx
  have b_lx := F_lx.binds (ps := ["parts", "marks", "edges"]) fun _ _ _ _ _ _ us hl => match us, hl with | [_, _, _], _ => rfl
  have m_lx := PySem.W.mg_of X G.g a_lx
  have F_ly := fun_mk (st := sLSmall) l_ly k_ly q_ly
  have b_ly := F_ly.binds (ps := ["parts"]) fun _ _ _ _ _ _ us hl => match us, hl with | [_], _ => rfl
  have m_ly := PySem.W.mg_of X G.g a_ly
  have F_li := fun_mk (st := sLike) l_li k_li q_li
  have b_li := F_li.binds (ps := ["actual", "due"]) fun _ _ _ _ _ _ us hl => match us, hl with | [_, _], _ => rfl
  have m_li := PySem.W.mg_of X G.g a_li
  have F_la := fun_mk (st := sLaw) l_la k_la q_la
  have b_la := F_la.binds (ps := ["script"]) fun _ _ _ _ _ _ us hl => match us, hl with | [_], _ => rfl
  have m_la := PySem.W.mg_of X G.g a_la
  have F_mi := fun_mk (st := sInit) l_mi k_mi q_mi
  have b_mi := F_mi.binds (ps := ["self", "count", "edges"]) fun _ _ _ _ _ _ us hl => match us, hl with | [_, _, _], _ => rfl
  have F_me := fun_mk (st := sEq) l_me k_me q_me
  have b_me := F_me.binds (ps := ["self", "other"]) fun _ _ _ _ _ _ us hl => match us, hl with | [_, _], _ => rfl
  have F_mc := fun_mk (st := sCheck) l_mc k_mc q_mc
  have b_mc := F_mc.binds (ps := ["self", "state"]) fun _ _ _ _ _ _ us hl => match us, hl with | [_, _], _ => rfl
  have F_ml := fun_mk (st := sLeaving) l_ml k_ml q_ml
  have b_ml := F_ml.binds (ps := ["self", "state"]) fun _ _ _ _ _ _ us hl => match us, hl with | [_, _], _ => rfl
  have y_len := PySem.W.mg_none_of X G.g z_len
  have y_all := PySem.W.mg_none_of X G.g z_all
  have y_range := PySem.W.mg_none_of X G.g z_range
  have y_list := PySem.W.mg_none_of X G.g z_list
  have y_tuple := PySem.W.mg_none_of X G.g z_tuple
  have y_sorted := PySem.W.mg_none_of X G.g z_sorted
  have y_set := PySem.W.mg_none_of X G.g z_set
  have y_abs := PySem.W.mg_none_of X G.g z_abs
  have y_int := PySem.W.mg_none_of X G.g z_int
  have y_isinstance := PySem.W.mg_none_of X G.g z_isinstance
  have y_bool := PySem.W.mg_none_of X G.g z_bool
  have y_str := PySem.W.mg_none_of X G.g z_str
  have hc : Cls K C := ⟨pg, hd, po, sa⟩
  have ic : C8.InsC K C := ⟨hc, ha, hn, htk, hmr, hki⟩
  have mS := PySem.W.mg_of X G.g aC
  have cs : Cst K mg := ⟨⟨_, PySem.W.mg_of X G.g cLow⟩, ⟨_, PySem.W.mg_of X G.g cDig⟩, ⟨_, PySem.W.mg_of X G.g cLon⟩, ⟨_, PySem.W.mg_of X G.g cRes, fun F => .tup (xs := resv.map V.str) (.inr ⟨_, _, _, lRes, rfl, rfl, by show 6 ≤ sizeLine; decide, .cons ⟨_, rfl⟩ (.cons ⟨_, rfl⟩ (.cons ⟨_, rfl⟩ (.cons ⟨_, rfl⟩ (.cons ⟨_, rfl⟩ (.cons ⟨_, rfl⟩ .nil)))))⟩) (.cons (.str _) (.cons (.str _) (.cons (.str _) (.cons (.str _) (.cons (.str _) (.cons (.str _) .nil))))))⟩, ⟨_, PySem.W.mg_of X G.g cTau⟩, ⟨_, PySem.W.mg_of X G.g cTick⟩, ⟨_, PySem.W.mg_of X G.g cMost⟩⟩
  let T : Tbs := ⟨[p_ev], [(p_re, nmR), (p_cl, nmC), (p_sm, nmS)]⟩
  have e_re_ev : p_re ≠ p_ev := of_eq_false d_re_ev
  have e_cl_ev : p_cl ≠ p_ev := of_eq_false d_cl_ev
  have e_cl_re : p_cl ≠ p_re := of_eq_false d_cl_re
  have e_sm_ev : p_sm ≠ p_ev := of_eq_false d_sm_ev
  have e_sm_re : p_sm ≠ p_re := of_eq_false d_sm_re
  have e_sm_cl : p_sm ≠ p_cl := of_eq_false d_sm_cl
  have hne : ∀ z ∈ T.n, z.1 ≠ p_ev := fun z hz => by
    simp only [T, List.mem_cons, List.not_mem_nil, or_false] at hz
    rcases hz with rfl | rfl | rfl
    · exact e_re_ev
    · exact e_cl_ev
    · exact e_sm_ev
  have huR : ∀ z ∈ T.n, z.1 = p_re → z.2 = nmR := fun z hz hh => by
    simp only [T, List.mem_cons, List.not_mem_nil, or_false] at hz
    rcases hz with rfl | rfl | rfl
    · rfl
    · exact absurd hh e_cl_re
    · exact absurd hh e_sm_re
  have huC : ∀ z ∈ T.n, z.1 = p_cl → z.2 = nmC := fun z hz hh => by
    simp only [T, List.mem_cons, List.not_mem_nil, or_false] at hz
    rcases hz with rfl | rfl | rfl
    · exact absurd hh.symm e_cl_re
    · rfl
    · exact absurd hh e_sm_cl
  have huS : ∀ z ∈ T.n, z.1 = p_sm → z.2 = nmS := fun z hz hh => by
    simp only [T, List.mem_cons, List.not_mem_nil, or_false] at hz
    rcases hz with rfl | rfl | rfl
    · exact absurd hh.symm e_sm_re
    · exact absurd hh.symm e_sm_cl
    · rfl
  let cds : List (Addr × Addr) := [(c_ev, p_ev), (c_re, p_re), (c_cl, p_cl), (c_sm, p_sm)]
  have all4 : ∀ {R : Addr × Addr → Prop}, R (c_ev, p_ev) → R (c_re, p_re) → R (c_cl, p_cl) → R (c_sm, p_sm) → ∀ p ∈ cds, R p := fun h1 h2 h3 h4 p hp => by
    simp only [cds, List.mem_cons, List.not_mem_nil, or_false] at hp
    rcases hp with rfl | rfl | rfl | rfl <;> assumption
  refine ⟨PySem.W.fnOf "law" "law" (defArgs sLaw) (defBody sLaw) (defScope sLaw) .none kV_la dc_la pm_la an_la cd_la ct_la, cds, Pu T (fun (_ : List Int) => True) (fun ns => [isD K (iList ns)]) (fun _ => isD K (.bool true)), all4 T_ev.2 T_re.2 T_cl.2 T_sm.2, all4 n_ev n_re n_cl n_sm, all4 T_ev.1 T_re.1 T_cl.1 T_sm.1, fun s v => .of_eq rfl, fun H a ns _ _ hH hS => sp_start ?_ ?_ hS, fun base _ _ hTB => ?_⟩
  · intro P hP
    rw [List.mem_singleton.mp hP]
    exact hH (c_ev, p_ev) (by simp [cds])
  · intro z hz
    simp only [T, List.mem_cons, List.not_mem_nil, or_false] at hz
    rcases hz with rfl | rfl | rfl
    · exact hH (c_re, p_re) (by simp [cds])
    · exact hH (c_cl, p_cl) (by simp [cds])
    · exact hH (c_sm, p_sm) (by simp [cds])
  have tE := tabB_g (hTB (c_ev, p_ev) (by simp [cds]))
  have tR := hTB (c_re, p_re) (by simp [cds])
  have tC := hTB (c_cl, p_cl) (by simp [cds])
  have tS := hTB (c_sm, p_sm) (by simp [cds])
  have dEv := df_event (P := l.prog) (w := w) (T := T) F_ev rfl m_ev b_ev cs y_len y_all tE (List.mem_singleton.mpr rfl) hne
  have dAc := df_action F_ac m_ac b_ac cs dEv
  have ini := ini_system F_mi ⟨mk, a_mi, i_mi, kc⟩ b_mi hc nc ne nr cs y_tuple y_sorted y_set y_range dAc
  have dCh := mf_check (P := l.prog) (w := w) (mg := mg) (base := base) (T := T) F_mc ⟨a_mc, i_mc, q_mc⟩ b_mc hc nc
  have dLe := mf_leaving F_ml ⟨a_ml, i_ml, q_ml⟩ b_ml hc nr y_list dCh
  have dEq := mf_eq (P := l.prog) (w := w) (base := base) (T := T) F_me ⟨a_me, i_me, q_me⟩ b_me hc nc ne ic mS y_isinstance
  have S : Sys l.prog w K mg base T C := ⟨hc, nc, ne, nr, mS, ini, dLe⟩
  have dRn := dh_renum (P := l.prog) (w := w) (base := base) (T := T) (j := 3) F_rn m_rn b_rn y_len
  have dRe := df_reached F_re rfl m_re b_re S y_len tR (.head _) huR dRn
  have dNu := df_numbered (P := l.prog) (w := w) (base := base) (T := T) F_nu m_nu b_nu y_len
  have dNx := df_next F_nx m_nx b_nx y_len y_range y_sorted y_tuple dNu
  have dRo := df_rounds F_ro m_ro b_ro y_len y_set dNx
  have dSr := df_strRows F_sr m_sr b_sr y_range S
  have dSt := df_strRounds F_st m_st b_st y_range S dSr dRo
  have dCl := dh_class (j := 1) F_cl rfl m_cl b_cl S y_len y_range y_sorted tC (.tail _ (.head _)) huC (by decide) dRn
  have dSm := df_small F_sm rfl m_sm b_sm tS (.tail _ (.tail _ (.head _))) huS dRe dSt dCl
  have dLc := df_cell (P := l.prog) (w := w) (base := base) (T := T) F_lc m_lc b_lc y_len y_abs y_int
  have dLd := df_draws (P := l.prog) (w := w) (base := base) (T := T) F_ld m_ld b_ld y_int y_range
  have dLs := df_lsys F_ls m_ls b_ls y_range dLd
  have dLm := df_made F_lm m_lm b_lm S y_list
  have dLw := df_lrows (P := l.prog) (w := w) (base := base) (T := T) F_lw m_lw b_lw y_range
  have dLo := df_once (P := l.prog) (w := w) (base := base) (T := T) F_lo m_lo b_lo
  have dLk := df_lmarks (P := l.prog) (w := w) (base := base) (T := T) F_lk m_lk b_lk y_len
  have dLr := df_lrounds F_lr m_lr b_lr y_len y_range y_sorted y_tuple dLo dLk
  have dLt := df_lstr F_lt m_lt b_lt y_range dLr dLw
  have dLe2 := df_lreached F_le m_le b_le y_len y_range y_sorted dLo dLw
  have dLx := df_lclass F_lx m_lx b_lx y_len y_range y_sorted y_tuple dLo
  have dLy := df_lsmall F_ly m_ly b_ly dLe2 dLt dLx
  have dLi := df_like (P := l.prog) (w := w) (base := base) (T := T) F_li m_li b_li ⟨y_isinstance, y_bool, y_str, y_int, y_list, y_tuple, y_len, y_range, y_all⟩ 2
  exact ok_law F_la S y_range y_isinstance ic dLc dLs dLm dSm dLy dLi dEq
end Kk

set_option Elab.async false
set_option autoImplicit false
set_option linter.all false
set_option maxRecDepth 100000

open PySem PySem.W PyProof.Rows in
set_option maxRecDepth 100000 in
set_option maxHeartbeats 0 in
theorem PySem.Challenge.cw_parley_k41_small_systems_holds : PySem.Challenge.rw_parley_k41_small_systems.Holds := by
  w_on; o_law; k_head; (case hw => w_witness2)
  k_fill
  refine Kk.walk_G (l := PySem.Challenge.rw_parley_k41_small_systems) (n := 63) (k := 9) (x := "script") (CX := fun _ => L2.CX0) rfl (by decide) rfl ⟨rfl, by decide, by decide⟩ (fun w h Y => PySem.W.km_in_of Y) ?F (fun _ _ _ _ _ z => z)
  case F =>
    intro w s₀ mg mb fa h G KX hmg
    refine' Kk.all_mk KX G.T hmg ?aC ?a_ev ?l_ev ?k_ev ?q_ev ?v_ev ?w_ev ?n_ev ?t_ev ?r_ev ?a_ac ?l_ac ?k_ac ?q_ac ?a_rn ?l_rn ?k_rn ?q_rn ?a_re ?l_re ?k_re ?q_re ?v_re ?w_re ?n_re ?t_re ?r_re ?a_nu ?l_nu ?k_nu ?q_nu ?a_nx ?l_nx ?k_nx ?q_nx ?a_ro ?l_ro ?k_ro ?q_ro ?a_sr ?l_sr ?k_sr ?q_sr ?a_st ?l_st ?k_st ?q_st ?a_cl ?l_cl ?k_cl ?q_cl ?v_cl ?w_cl ?n_cl ?t_cl ?r_cl ?a_sm ?l_sm ?k_sm ?q_sm ?v_sm ?w_sm ?n_sm ?t_sm ?r_sm ?a_lc ?l_lc ?k_lc ?q_lc ?a_ld ?l_ld ?k_ld ?q_ld ?a_ls ?l_ls ?k_ls ?q_ls ?a_lm ?l_lm ?k_lm ?q_lm ?a_lw ?l_lw ?k_lw ?q_lw ?a_lo ?l_lo ?k_lo ?q_lo ?a_lk ?l_lk ?k_lk ?q_lk ?a_lr ?l_lr ?k_lr ?q_lr ?a_lt ?l_lt ?k_lt ?q_lt ?a_le ?l_le ?k_le ?q_le ?a_lx ?l_lx ?k_lx ?q_lx ?a_ly ?l_ly ?k_ly ?q_ly ?a_li ?l_li ?k_li ?q_li ?a_la ?l_la ?k_la ?q_la ?a_mi ?i_mi ?l_mi ?k_mi ?q_mi ?a_me ?i_me ?l_me ?k_me ?q_me ?a_mc ?i_mc ?l_mc ?k_mc ?q_mc ?a_ml ?i_ml ?l_ml ?k_ml ?q_ml ?pg ?hd ?po ?sa ?mk ?kc ?nc ?ne ?nr ?ha ?hn ?htk ?hmr ?hki ?z_len ?z_all ?z_range ?z_list ?z_tuple ?z_sorted ?z_set ?z_abs ?z_int ?z_isinstance ?z_bool ?z_str ?cLow ?cDig ?cLon ?cTau ?cTick ?cMost ?cRes ?lRes ?d_re_ev ?d_cl_ev ?d_cl_re ?d_sm_ev ?d_sm_re ?d_sm_cl
    (case aC => k_is)
    (case a_ev => k_is)
    (case l_ev => k_is)
    (case k_ev => k_is)
    (case q_ev => k_is)
    (case v_ev => k_is)
    (case w_ev => exact rfl)
    (case n_ev => kernel_rfl)
    (case t_ev => kernel_rfl)
    (case r_ev => kernel_rfl)
    (case a_ac => k_is)
    (case l_ac => k_is)
    (case k_ac => k_is)
    (case q_ac => k_is)
    (case a_rn => k_is)
    (case l_rn => k_is)
    (case k_rn => k_is)
    (case q_rn => k_is)
    (case a_re => k_is)
    (case l_re => k_is)
    (case k_re => k_is)
    (case q_re => k_is)
    (case v_re => k_is)
    (case w_re => exact rfl)
    (case n_re => kernel_rfl)
    (case t_re => kernel_rfl)
    (case r_re => kernel_rfl)
    (case a_nu => k_is)
    (case l_nu => k_is)
    (case k_nu => k_is)
    (case q_nu => k_is)
    (case a_nx => k_is)
    (case l_nx => k_is)
    (case k_nx => k_is)
    (case q_nx => k_is)
    (case a_ro => k_is)
    (case l_ro => k_is)
    (case k_ro => k_is)
    (case q_ro => k_is)
    (case a_sr => k_is)
    (case l_sr => k_is)
    (case k_sr => k_is)
    (case q_sr => k_is)
    (case a_st => k_is)
    (case l_st => k_is)
    (case k_st => k_is)
    (case q_st => k_is)
    (case a_cl => k_is)
    (case l_cl => k_is)
    (case k_cl => k_is)
    (case q_cl => k_is)
    (case v_cl => k_is)
    (case w_cl => exact rfl)
    (case n_cl => kernel_rfl)
    (case t_cl => kernel_rfl)
    (case r_cl => kernel_rfl)
    (case a_sm => k_is)
    (case l_sm => k_is)
    (case k_sm => k_is)
    (case q_sm => k_is)
    (case v_sm => k_is)
    (case w_sm => exact rfl)
    (case n_sm => kernel_rfl)
    (case t_sm => kernel_rfl)
    (case r_sm => kernel_rfl)
    (case a_lc => k_is)
    (case l_lc => k_is)
    (case k_lc => k_is)
    (case q_lc => k_is)
    (case a_ld => k_is)
    (case l_ld => k_is)
    (case k_ld => k_is)
    (case q_ld => k_is)
    (case a_ls => k_is)
    (case l_ls => k_is)
    (case k_ls => k_is)
    (case q_ls => k_is)
    (case a_lm => k_is)
    (case l_lm => k_is)
    (case k_lm => k_is)
    (case q_lm => k_is)
    (case a_lw => k_is)
    (case l_lw => k_is)
    (case k_lw => k_is)
    (case q_lw => k_is)
    (case a_lo => k_is)
    (case l_lo => k_is)
    (case k_lo => k_is)
    (case q_lo => k_is)
    (case a_lk => k_is)
    (case l_lk => k_is)
    (case k_lk => k_is)
    (case q_lk => k_is)
    (case a_lr => k_is)
    (case l_lr => k_is)
    (case k_lr => k_is)
    (case q_lr => k_is)
    (case a_lt => k_is)
    (case l_lt => k_is)
    (case k_lt => k_is)
    (case q_lt => k_is)
    (case a_le => k_is)
    (case l_le => k_is)
    (case k_le => k_is)
    (case q_le => k_is)
    (case a_lx => k_is)
    (case l_lx => k_is)
    (case k_lx => k_is)
    (case q_lx => k_is)
    (case a_ly => k_is)
    (case l_ly => k_is)
    (case k_ly => k_is)
    (case q_ly => k_is)
    (case a_li => k_is)
    (case l_li => k_is)
    (case k_li => k_is)
    (case q_li => k_is)
    (case a_la => k_is)
    (case l_la => k_is)
    (case k_la => k_is)
    (case q_la => k_is)
    (case a_mi => k_is)
    (case i_mi => k_is)
    (case l_mi => k_is)
    (case k_mi => k_is)
    (case q_mi => k_is)
    (case a_me => k_is)
    (case i_me => k_is)
    (case l_me => k_is)
    (case k_me => k_is)
    (case q_me => k_is)
    (case a_mc => k_is)
    (case i_mc => k_is)
    (case l_mc => k_is)
    (case k_mc => k_is)
    (case q_mc => k_is)
    (case a_ml => k_is)
    (case i_ml => k_is)
    (case l_ml => k_is)
    (case k_ml => k_is)
    (case q_ml => k_is)
    (case pg => k_is)
    (case hd => k_is)
    (case po => k_is)
    (case sa => k_is)
    (case mk => k_is)
    (case kc => k_is)
    (case nc => k_is)
    (case ne => k_is)
    (case nr => k_is)
    (case ha => k_is)
    (case hn => k_is)
    (case htk => k_is)
    (case hmr => k_is)
    (case hki => kernel_rfl)
    (case z_len => k_is)
    (case z_all => k_is)
    (case z_range => k_is)
    (case z_list => k_is)
    (case z_tuple => k_is)
    (case z_sorted => k_is)
    (case z_set => k_is)
    (case z_abs => k_is)
    (case z_int => k_is)
    (case z_isinstance => k_is)
    (case z_bool => k_is)
    (case z_str => k_is)
    (case cLow => k_is)
    (case cDig => k_is)
    (case cLon => k_is)
    (case cTau => k_is)
    (case cTick => k_is)
    (case cMost => k_is)
    (case cRes => k_is)
    (case lRes => k_is)
    (case d_re_ev => exact eq_false (by decide))
    (case d_cl_ev => exact eq_false (by decide))
    (case d_cl_re => exact eq_false (by decide))
    (case d_sm_ev => exact eq_false (by decide))
    (case d_sm_re => exact eq_false (by decide))
    (case d_sm_cl => exact eq_false (by decide))
