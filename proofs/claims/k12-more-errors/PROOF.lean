import PyProof.Rows.All
import Wide.All
import OpenK.AllK
import Wide.FinOn
import HandS.ForMost
import HandS.Wide
import HandS.Conv
import HandS.IsInst
import HandS.Style
import HandS.FStr
import HandS.Steps
import HandS.Evl
import HandS.Walk
import HandS.ExcValue
import HandS.ExcIs
import HandS.ExcOwn
import HandS.WordsExc
import PyProof.SeqIndex
import HandS.NamedTupGet
import HandS.Text
import HandS.HotCalls
import PySem.Challenge.RW_firstdigits_k12_more_errors
set_option Elab.async false
set_option linter.all false
set_option maxRecDepth 100000
set_option maxHeartbeats 4000000
namespace FD
open PySem PySem.Spec PyProof.Rows L2 Evl
/-! ### names for readings -/
abbrev rAddI : R2 := rI0 fun i j => .int (i + j)
abbrev rSubI : R2 := rI0 fun i j => .int (i - j)
abbrev rMulX : R2 := rI IntMulOk fun i j => .int (i * j)
abbrev rDivW : R2 := rI CDivW fun i j => .int (i / j)
abbrev rModI : R2 := rI (fun _ j => 0 < j) fun i j => .int (i % j)
abbrev rPowI : R2 := rI CPow fun i j => .int (i ^ j.toNat)
abbrev rLtI : R2 := rI0 fun i j => .bl (decide (i < j))
abbrev rLeI : R2 := rI0 fun i j => .bl (decide (i ≤ j))
abbrev rGtI : R2 := rI0 fun i j => .bl (decide (j < i))
abbrev rGeI : R2 := rI0 fun i j => .bl (decide (j ≤ i))
abbrev rNeg : V → Hp → VK → Prop := rU fun i => .int (-i)
abbrev rAddS2 : R2 := fun x y H Q => ∃ i j, x = .str i ∧ y = .str j ∧ i.length + j.length ≤ sizeLine ∧ Q (.str (i ++ j)) H
abbrev rLenStr : List V → Hp → VK → Prop := fun xs H Q => ∃ z, xs = [.str z] ∧ z.length ≤ sizeLine ∧ Q (.int z.length) H
abbrev rLenSeq (K : PySem.W.Frag) : List V → Hp → VK → Prop := fun xs H Q => ∃ p ys, xs = [.ref p] ∧ (SqL K H p ys ∨ SqT K H p ys) ∧ Q (.int ys.length) H
/-- an int that str takes -/
structure StrOk (i : Int) : Prop where
  lt : i.natAbs < 10 ^ 4300
abbrev rStrInt : List V → Hp → VK → Prop := fun xs H Q => ∃ i, xs = [.int i] ∧ StrOk i ∧ Q (.str (toString i)) H
abbrev rIntStr : List V → Hp → VK → Prop := fun xs H Q => ∃ a n, xs = [.str a] ∧ PySem.intText? a = some n ∧ a.length ≤ 640 ∧ Q (.int n) H
abbrev rListOf (K : PySem.W.Frag) : List V → Hp → VK → Prop := fun xs H Q => ∃ p ys, xs = [.ref p] ∧ (SqL K H p ys ∨ SqT K H p ys) ∧ ∀ l, H l = none → Q (.ref l) (upd H l (.lst ys))
abbrev rMax2I : List V → Hp → VK → Prop := fun xs H Q => ∃ i j, xs = [.int i, .int j] ∧ Q (.int (if j > i then j else i)) H
abbrev rMin2I : List V → Hp → VK → Prop := fun xs H Q => ∃ i j, xs = [.int i, .int j] ∧ Q (.int (if j < i then j else i)) H
abbrev rAbs : List V → Hp → VK → Prop := fun xs H Q => ∃ i, xs = [.int i] ∧ Q (.int (if i < 0 then -i else i)) H
abbrev tJoined (ts : List TE) : TE := fun σ H Q => tJs ts Str.empty σ H fun out H1 => Q (.str out) H1
section
variable {X : Cx}
theorem op_mulX : OpR X (binaryOp .Mult) rMulX := opI fun _ _ _ _ _ _ _ hc q => mul_int q hc
theorem ns_none {K : PySem.W.Frag} {h : Heap} {ns : Addr} {mc : Str → Option Value} {n : Str} (hK : K.In h) (hN : h.Ns ns mc) (hq : PySem.W.nsIn K ns n = some none) : mc n = none := by
  obtain ⟨ob, ents, stamp, hget, hdata, hrest, hfind⟩ := hN
  revert hq
  unfold PySem.W.nsIn
  split
  · rename_i cl dd ents' stamp' slots hlook
    intro hq
    have hob := hK _ _ hlook
    rw [hget] at hob
    cases hob
    cases hdata
    split at hq
    · cases hq
    · rename_i hnone
      rw [← hfind]
      unfold nsFind findBy
      rw [← Array.find?_toList, hnone]
      rfl
  · intro hq; cases hq
theorem call_strB (hc : X.calm = true) (hd : PySem.W.nsIn X.K cStatics "sys.int_max_str_digits" = some none) : CallR X (.type "str") rStrInt := by
  intro pins s σ H xs us Q I r h
  obtain ⟨i, hx, hz, hQ⟩ := h
  subst hx
  obtain ⟨u, hu, t, ht⟩ := vals1 r
  subst hu
  subst ht
  obtain ⟨mc, hmc, _⟩ := I.nolimit
  exact str_of_int_or (I.ok.hd hc) ⟨mc, hmc, ns_none I.kIn hmc hd⟩ (fun _ => ⟨.str _, H, I.tok _, ⟨_, rfl⟩, hQ⟩) fun hge => absurd hz.lt (Nat.not_lt.mpr hge)
theorem iop_mulX : OpR X (inplaceOp .Mult) rMulX := opI fun _ _ _ _ _ _ _ hc q => imul_int q hc
end

/-! ### a def of the text that keeps a promise, by its name -/
structure Ok (P : Program) (w : World) (K : PySem.W.Frag) (mg : Str → Option Value) (base : Heap) (CX : CXT) (k : Nat) (x : Str) (ps : List Str) (sp : Sp) : Prop where
  ex : ∃ (f : Addr) (fd : FuncData), mg x = some (.ref f) ∧ PySem.W.keepIn K (.ref f) = true ∧ Binds K fd ps [] ∧ (∃ oc od osl, K.lookup f = some ⟨oc, od, .func fd, osl⟩) ∧ FnOk P w K mg base CX k f fd ps sp
structure FunAt (K : PySem.W.Frag) (mg : Str → Option Value) (x : Str) (st : Stmt) : Prop where
  ex : ∃ (f : Addr) (fd : FuncData), mg x = some (.ref f) ∧ Fun K x x st f fd
theorem pass0' {X : Cx} {E : XK} : Passes CX0 X E := fun _ _ _ _ _ _ _ h => h.elim
section
variable {X : Cx} {CX : CXT} {k : Nat} {ps : List Str} {sp : Sp} {E : XK} {x : Str} {p pos : Pos} {e : Expr} {es : List Expr} {t : TA}
theorem pe_ok (G : Ok X.prog X.w X.K X.mg X.base CX k x ps sp) (hr : Room k X.A) (hg : Gl X x) (hx : Passes CX X E) (ha : PA X (e :: es) t)
    (hdb : (x == ("__debug__" : Str)) = false := by decide) (he : starEach (e :: es) X.env = (false, eval e X.env) :: starEach es X.env := by rfl) (hpl : (backTo pos (starEach es X.env)).any (·.1) = false := by rfl) :
    PE X (.Call (.Name x p) (e :: es) [] pos) (tCall sp [] E t) := by
  obtain ⟨f, fd, hm, hk, hb, _, F⟩ := G.ex
  exact pe_call F hr hg hm hk hb .nil hx ha hdb he hpl
theorem pe_ok0 (G : Ok X.prog X.w X.K X.mg X.base CX k x ps sp) (hr : Room k X.A) (hg : Gl X x) (hx : Passes CX X E)
    (hdb : (x == ("__debug__" : Str)) = false := by decide) : PE X (.Call (.Name x p) [] [] pos) (tCall sp [] E tNil) := by
  obtain ⟨f, fd, hm, hk, hb, _, F⟩ := G.ex
  exact pe_call0 F hr hg hm hk hb .nil hx hdb
end
section
variable {P : Program} {w : World} {K : PySem.W.Frag} {mg : Str → Option Value} {base : Heap}
theorem Ok.of {x : Str} {st : Stmt} {N ps : List Str} {k : Nat} {sp : Sp} (F : FunAt K mg x st) (S : FnScope N ps (defScope st)) (len : ∀ vs H Q E, sp vs H Q E → vs.length = ps.length)
    (hb : ∀ (kV doc pm : Value) (an : Option Addr) (cdv ct : Value) (us : List Value), us.length = ps.length → bindArgs (PySem.W.fnOf x x (defArgs st) (defBody st) (defScope st) .none kV doc pm an cdv ct) ⟨us, []⟩ = pure (ps.zip us))
    (rd : TS) (pure : ∀ vs H Q E, sp vs H Q E → rd { nx := fun _ H' => Q .non H', rt := Q } (start N vs) H)
    (hbody : ∀ (f : Addr) (cdv : Value) (A : Around) (outer : List Env) (s : Shared) (H : Hp) (E : XK), Room k (A.deeper (envOfC x (defScope st) s.heap.objs.size f cdv)) →
      PSs (cxOf CX0 P w K mg base N x (defScope st) f cdv A outer s H E).nox (defBody st) rd) : Ok P w K mg base CX0 (k + 1) x ps sp := by
  obtain ⟨f, fd, hm, F⟩ := F.ex
  obtain ⟨oc, od, kV, doc, pm, an, cd, ct, osl, e1, e2, e3⟩ := F.ex
  exact ⟨f, fd, hm, F.kp, F.binds hb, ⟨oc, od, osl, e2⟩, F.ok S len fun cdv A outer s H vs Q E hr h => ⟨rd, hbody f cdv A outer s H E hr, pure vs H Q E h⟩⟩
end
theorem funAt_of {K : PySem.W.Frag} {h : Heap} {mg : Str → Option Value} {x : Str} {st : Stmt} {f : Addr} {od an : Option Addr} {sl : Array (Option Value)} {oc kV dc pm cd ct : Value} (X : K.In h) (G : h.Ns mainGlobals mg)
    (a : PySem.W.nsIn K mainGlobals x = some (some (.ref f))) (l : K.lookup f = some ⟨oc, od, .func (PySem.W.fnOf x x (defArgs st) (defBody st) (defScope st) .none kV dc pm an cd ct), sl⟩)
    (c : PySem.W.codeIn K cd x = true) (k : PySem.W.keepIn K (.ref f) = true) : FunAt K mg x st := ⟨f, _, PySem.W.mg_of X G a, fun_mk (st := st) l c k⟩
theorem dig_of {K : PySem.W.Frag} {h : Heap} (_X : K.In h) (e : PySem.W.nsIn K cStatics "sys.int_max_str_digits" = some none) : PySem.W.nsIn K cStatics "sys.int_max_str_digits" = some none := e
theorem law_out {P : Program} {w : World} {K : PySem.W.Frag} {mg : Str → Option Value} {x y : Str} {st : Stmt} {fa : Addr} {k : Nat} {CX : CXT} {sp : Sp} (F : FunAt K mg x st) (hmg : mg x = some (.ref fa))
    (hb : ∀ (kV doc pm : Value) (an : Option Addr) (cdv ct : Value) (us : List Value), us.length = [y].length → bindArgs (PySem.W.fnOf x x (defArgs st) (defBody st) (defScope st) .none kV doc pm an cdv ct) ⟨us, []⟩ = pure ([y].zip us))
    (h : ∀ base : Heap, Ok P w K mg base CX k x [y] sp) :
    ∃ fd : FuncData, (∀ (s : Shared) (u : Value), BindsTo s fd ⟨[u], []⟩ [(y, u)]) ∧ ∀ base : Heap, K.In base → base.Ns mainGlobals mg → FnOk P w K mg base CX k fa fd [y] sp := by
  obtain ⟨f, fd, hm, F⟩ := F.ex
  obtain ⟨oc, od, kV, doc, pm, an, cd, ct, osl, e1, e2, e3⟩ := F.ex
  have ef : fa = f := by
    have := hmg.symm.trans hm
    injection this with this
    injection this
  subst ef
  refine ⟨fd, fun s u => ?_, fun base _ _ => ?_⟩
  · rw [e1]; exact BindsTo.of_eq (hb kV doc pm an cd ct [u] rfl)
  · obtain ⟨f', fd', hm', _, _, ⟨oc', od', osl', l'⟩, G⟩ := (h base).ex
    have ef : fa = f' := by
      have := hmg.symm.trans hm'
      injection this with this
      injection this
    subst ef
    have := e2.symm.trans l'
    injection this with this
    injection this with _ _ this _
    injection this with this
    rw [this]
    exact G
/-- the built-in names that the texts use stand as at the start -/
structure Blt (K : PySem.W.Frag) (mg : Str → Option Value) : Prop where
  range : mg "range" = none
  len : mg "len" = none
  str : mg "str" = none
  int : mg "int" = none
  bool : mg "bool" = none
  list : mg "list" = none
  min : mg "min" = none
  max : mg "max" = none
  sum : mg "sum" = none
  any : mg "any" = none
  all : mg "all" = none
  abs : mg "abs" = none
  isinstance : mg "isinstance" = none
  enumerate : mg "enumerate" = none
  zip : mg "zip" = none
  sorted : mg "sorted" = none
  set : mg "set" = none
  dig : PySem.W.nsIn K cStatics "sys.int_max_str_digits" = some none
/-! ### promises by shapes -/
def sp0 (f : Hp → VK → Prop) : Sp := fun vs H Q _ => match vs with
  | [] => f H Q
  | _ => False
def sp1 (f : V → Hp → VK → Prop) : Sp := fun vs H Q _ => match vs with
  | [a] => f a H Q
  | _ => False
def sp2 (f : V → V → Hp → VK → Prop) : Sp := fun vs H Q _ => match vs with
  | [a, b] => f a b H Q
  | _ => False
def sp3 (f : V → V → V → Hp → VK → Prop) : Sp := fun vs H Q _ => match vs with
  | [a, b, c] => f a b c H Q
  | _ => False
def sp4 (f : V → V → V → V → Hp → VK → Prop) : Sp := fun vs H Q _ => match vs with
  | [a, b, c, d] => f a b c d H Q
  | _ => False
def sp5 (f : V → V → V → V → V → Hp → VK → Prop) : Sp := fun vs H Q _ => match vs with
  | [a, b, c, d, e] => f a b c d e H Q
  | _ => False
theorem sp0_len {f} {ps : List Str} (h : ps.length = 0) : ∀ vs H Q E, sp0 f vs H Q E → vs.length = ps.length := fun vs H Q E x => by
  match vs, x with
  | [], _ => exact h.symm
theorem sp1_len {f} {ps : List Str} (h : ps.length = 1) : ∀ vs H Q E, sp1 f vs H Q E → vs.length = ps.length := fun vs H Q E x => by
  match vs, x with
  | [_], _ => exact h.symm
theorem sp2_len {f} {ps : List Str} (h : ps.length = 2) : ∀ vs H Q E, sp2 f vs H Q E → vs.length = ps.length := fun vs H Q E x => by
  match vs, x with
  | [_, _], _ => exact h.symm
theorem sp3_len {f} {ps : List Str} (h : ps.length = 3) : ∀ vs H Q E, sp3 f vs H Q E → vs.length = ps.length := fun vs H Q E x => by
  match vs, x with
  | [_, _, _], _ => exact h.symm
theorem sp4_len {f} {ps : List Str} (h : ps.length = 4) : ∀ vs H Q E, sp4 f vs H Q E → vs.length = ps.length := fun vs H Q E x => by
  match vs, x with
  | [_, _, _, _], _ => exact h.symm
theorem sp5_len {f} {ps : List Str} (h : ps.length = 5) : ∀ vs H Q E, sp5 f vs H Q E → vs.length = ps.length := fun vs H Q E x => by
  match vs, x with
  | [_, _, _, _, _], _ => exact h.symm
/-- ints in, a flat value out; the heap may grow -/
abbrev spI1 (C : Int → Prop) (g : Int → V) : Sp := sp1 fun a H Q => ∃ n, a = .int n ∧ C n ∧ ∀ H', Ex H H' → Q (g n) H'
abbrev spI2 (C : Int → Int → Prop) (g : Int → Int → V) : Sp := sp2 fun a b H Q => ∃ n m, a = .int n ∧ b = .int m ∧ C n m ∧ ∀ H', Ex H H' → Q (g n m) H'
abbrev spI3 (C : Int → Int → Int → Prop) (g : Int → Int → Int → V) : Sp := sp3 fun a b c H Q => ∃ n m k, a = .int n ∧ b = .int m ∧ c = .int k ∧ C n m k ∧ ∀ H', Ex H H' → Q (g n m k) H'
/-- ints in, a new list out -/
abbrev spL1 (C : Int → Prop) (g : Int → List V) : Sp := sp1 fun a H Q => ∃ n, a = .int n ∧ C n ∧ ∀ p H', H p = none → Ex H H' → H' p = some (.lst (g n)) → Q (.ref p) H'
abbrev spL2 (C : Int → Int → Prop) (g : Int → Int → List V) : Sp := sp2 fun a b H Q => ∃ n m, a = .int n ∧ b = .int m ∧ C n m ∧ ∀ p H', H p = none → Ex H H' → H' p = some (.lst (g n m)) → Q (.ref p) H'
abbrev spL3 (C : Int → Int → Int → Prop) (g : Int → Int → Int → List V) : Sp := sp3 fun a b c H Q => ∃ n m k, a = .int n ∧ b = .int m ∧ c = .int k ∧ C n m k ∧ ∀ p H', H p = none → Ex H H' → H' p = some (.lst (g n m k)) → Q (.ref p) H'
/-- ints in, a new tuple out -/
abbrev spU2 (C : Int → Int → Prop) (g : Int → Int → List V) : Sp := sp2 fun a b H Q => ∃ n m, a = .int n ∧ b = .int m ∧ C n m ∧ ∀ p H', H p = none → Ex H H' → H' p = some (.tup (g n m)) → Q (.ref p) H'
abbrev spU3 (C : Int → Int → Int → Prop) (g : Int → Int → Int → List V) : Sp := sp3 fun a b c H Q => ∃ n m k, a = .int n ∧ b = .int m ∧ c = .int k ∧ C n m k ∧ ∀ p H', H p = none → Ex H H' → H' p = some (.tup (g n m k)) → Q (.ref p) H'
section
variable {σ : L2.St} {H : Hp} {ta tb te : TE} {t : TA} {x y z v : V} {n m k : Int} {sp : Sp} {vs xs : List V} {E : XK}
def SpU (sp : Sp) (vs : List V) (H : Hp) (xs : List V) : Prop := ∀ H1, Ex H H1 → ∀ Q : VK, (∀ p H2, H1 p = none → Ex H1 H2 → H2 p = some (.tup xs) → Q (.ref p) H2) → ∀ E : XK, sp vs H1 Q E
theorem ev_ok (h : EvA t σ H vs) (hs : SpV sp vs H z) : Ev (tCall sp [] E t) σ H z := ev_call h (by rw [List.append_nil]; exact hs)
theorem el_ok (h : EvA t σ H vs) (hs : SpL sp vs H xs) : EvL (tCall sp [] E t) σ H xs := el_call h (by rw [List.append_nil]; exact hs)
theorem eu_ok (h : EvA t σ H vs) (hs : SpU sp vs H xs) : EvU (tCall sp [] E t) σ H xs := fun H1 e Q q =>
  h H1 e _ fun H2 e2 => by
    show sp (vs ++ []) H2 Q E
    rw [List.append_nil]
    exact hs H2 (e.trans e2) Q (fun p H3 hp e3 h3 => q p H3 (fresh_back e2 hp) (e2.trans e3) h3) E
theorem spv_I1 {C : Int → Prop} {g : Int → V} (hc : C n) : SpV (spI1 C g) [.int n] H (g n) := fun H1 _ Q q _ => ⟨n, rfl, hc, q⟩
theorem spv_I2 {C : Int → Int → Prop} {g : Int → Int → V} (hc : C n m) : SpV (spI2 C g) [.int n, .int m] H (g n m) := fun H1 _ Q q _ => ⟨n, m, rfl, rfl, hc, q⟩
theorem spv_I3 {C : Int → Int → Int → Prop} {g : Int → Int → Int → V} (hc : C n m k) : SpV (spI3 C g) [.int n, .int m, .int k] H (g n m k) := fun H1 _ Q q _ => ⟨n, m, k, rfl, rfl, rfl, hc, q⟩
theorem spv_L1 {C : Int → Prop} {g : Int → List V} (hc : C n) : SpL (spL1 C g) [.int n] H (g n) := fun H1 _ Q q _ => ⟨n, rfl, hc, q⟩
theorem spv_L2 {C : Int → Int → Prop} {g : Int → Int → List V} (hc : C n m) : SpL (spL2 C g) [.int n, .int m] H (g n m) := fun H1 _ Q q _ => ⟨n, m, rfl, rfl, hc, q⟩
theorem spv_L3 {C : Int → Int → Int → Prop} {g : Int → Int → Int → List V} (hc : C n m k) : SpL (spL3 C g) [.int n, .int m, .int k] H (g n m k) := fun H1 _ Q q _ => ⟨n, m, k, rfl, rfl, rfl, hc, q⟩
theorem spv_U2 {C : Int → Int → Prop} {g : Int → Int → List V} (hc : C n m) : SpU (spU2 C g) [.int n, .int m] H (g n m) := fun H1 _ Q q _ => ⟨n, m, rfl, rfl, hc, q⟩
theorem spv_U3 {C : Int → Int → Int → Prop} {g : Int → Int → Int → List V} (hc : C n m k) : SpU (spU3 C g) [.int n, .int m, .int k] H (g n m k) := fun H1 _ Q q _ => ⟨n, m, k, rfl, rfl, rfl, hc, q⟩
/-! calls of built-ins -/
theorem rc_lenStr {s : Str} (h : s.length ≤ 100000) : RC rLenStr [.str s] H (.int s.length) := fun H1 _ Q q => ⟨s, rfl, sz_of h, q H1 (Ex.refl _)⟩
theorem rc_strInt (h : StrOk n) : RC rStrInt [.int n] H (.str (toString n)) := fun H1 _ Q q => ⟨n, rfl, h, q H1 (Ex.refl _)⟩
theorem rc_intStr {s : Str} (h : PySem.intText? s = some n) (hl : s.length ≤ 640) : RC rIntStr [.str s] H (.int n) := fun H1 _ Q q => ⟨s, n, rfl, h, hl, q H1 (Ex.refl _)⟩
theorem rc_lenL {K : PySem.W.Frag} {p : Addr} (h : SqL K H p xs) : RC (rLenSeq K) [.ref p] H (.int xs.length) := fun H1 e Q q => ⟨p, xs, rfl, .inl (ex_l e h), q H1 (Ex.refl _)⟩
theorem rc_max2 : RC rMax2I [.int n, .int m] H (.int (max n m)) := fun H1 _ Q q => ⟨n, m, rfl, by
  have e : (if m > n then m else n) = max n m := by omega
  rw [e]; exact q H1 (Ex.refl _)⟩
theorem rc_min2 : RC rMin2I [.int n, .int m] H (.int (min n m)) := fun H1 _ Q q => ⟨n, m, rfl, by
  have e : (if m < n then m else n) = min n m := by omega
  rw [e]; exact q H1 (Ex.refl _)⟩
theorem ru_negI : RU rNeg (.int n) H (.int (-n)) := fun H1 _ _ q => ⟨n, rfl, q H1 (Ex.refl H1)⟩
theorem rv_isB {a b : Bool} : RV rIsB (.bl a) (.bl b) H (.bl (decide (a = b))) := fun H1 _ _ q => ⟨a, b, rfl, rfl, q H1 (Ex.refl H1)⟩
theorem rv_notB {a b : Bool} : RV rNotB (.bl a) (.bl b) H (.bl (!decide (a = b))) := fun H1 _ _ q => ⟨a, b, rfl, rfl, q H1 (Ex.refl H1)⟩
theorem rv_isN : RV rIsN x .non H (.bl (decide (x = .non))) := fun H1 _ _ q => ⟨rfl, q H1 (Ex.refl H1)⟩
theorem rv_notN : RV rNotN x .non H (.bl (!decide (x = .non))) := fun H1 _ _ q => ⟨rfl, q H1 (Ex.refl H1)⟩
theorem rv_eqI : RV rEq (.int n) (.int m) H (.bl (decide (n = m))) := fun H1 _ _ q => ⟨rfl, by
  have e : decide (n = m) = decide (V.int n = V.int m) := by rw [decide_eq_decide]; exact ⟨fun h => by rw [h], V.int.inj⟩
  rw [← e]
  exact q H1 (Ex.refl H1)⟩
theorem rv_neI : RV rNe (.int n) (.int m) H (.bl (!decide (n = m))) := fun H1 _ _ q => ⟨rfl, by
  have e : decide (n = m) = decide (V.int n = V.int m) := by rw [decide_eq_decide]; exact ⟨fun h => by rw [h], V.int.inj⟩
  rw [← e]
  exact q H1 (Ex.refl H1)⟩
theorem rv_eqS {a b : Str} : RV rEq (.str a) (.str b) H (.bl (decide (a = b))) := fun H1 _ _ q => ⟨rfl, by
  have e : decide (a = b) = decide (V.str a = V.str b) := by rw [decide_eq_decide]; exact ⟨fun h => by rw [h], V.str.inj⟩
  rw [← e]
  exact q H1 (Ex.refl H1)⟩
theorem ev_slS {s : Str} {tl th : TO} {lo hi : Option Int} (h : Ev te σ H (.str s)) (h1 : EvO tl σ H lo) (h2 : EvO th σ H hi) (hl : s.length ≤ 100000) : Ev (tSl rSlS te tl th) σ H (.str (cutS s lo hi)) := fun H1 e _ q =>
  h H1 e _ fun H2 e2 => h1 H2 (e.trans e2) _ fun H3 e3 => h2 H3 ((e.trans e2).trans e3) _ fun H4 e4 => ⟨s, rfl, sz_of hl, q H4 ((e2.trans e3).trans e4)⟩
theorem el_rg2 {a b : Int} (ha : Ev ta σ H (.int a)) (hb : Ev tb σ H (.int b)) (h : RgOk a b) : EvL (tLstRg (tRg2 ta tb)) σ H (rgV a b) := fun H1 e _ q =>
  ha H1 e _ fun H2 e2 => hb H2 (e.trans e2) _ fun H3 e3 => ⟨a, b, rfl, rfl, h, fun l hl => q l _ (fresh_back (e2.trans e3) hl) ((e2.trans e3).trans (Ex.new hl)) upd_same⟩
end
/-- a product of ints one of which is small -/
theorem mulOk_l {i j : Int} (h0 : -(2 ^ 64) < i) (h1 : i < 2 ^ 64) : IntMulOk i j := CMul.ok (.inl ⟨h0, h1⟩)
theorem mulOk_r {i j : Int} (h0 : -(2 ^ 64) < j) (h1 : j < 2 ^ 64) : IntMulOk i j := CMul.ok (.inr ⟨h0, h1⟩)
end FD

namespace FD
open PySem PySem.Spec PyProof.Rows L2 Evl TL
/-! ### digits of natural numbers -/
/-- how many digits (1 for 0) -/
def sz (n : Nat) : Nat := (numL n).length
theorem sz_lt {n : Nat} (h : n < 10) : sz n = 1 := by unfold sz; rw [numL_lt h]; rfl
theorem sz_step {n : Nat} (h : 10 ≤ n) : sz n = sz (n / 10) + 1 := by unfold sz; rw [numL_step h, List.length_append]; rfl
theorem sz_pos (n : Nat) : 0 < sz n := by
  by_cases h : n < 10
  · rw [sz_lt h]; decide
  · rw [sz_step (by omega)]; omega
theorem ten_pos (k : Nat) : 0 < 10 ^ k := Nat.pow_pos (by decide)
theorem sz_le_iff (k n : Nat) : sz n ≤ k + 1 ↔ n < 10 ^ (k + 1) := by
  induction k generalizing n with
  | zero =>
    by_cases h : n < 10
    · rw [sz_lt h]; simpa using h
    · have := sz_pos (n / 10)
      rw [sz_step (by omega)]
      constructor
      · intro h2; omega
      · intro h2; simp at h2; omega
  | succ k ih =>
    by_cases h : n < 10
    · rw [sz_lt h]
      have := ten_pos (k + 1)
      constructor
      · intro _; rw [Nat.pow_succ]; omega
      · intro _; omega
    · rw [sz_step (by omega), Nat.add_le_add_iff_right, ih, Nat.pow_succ 10 (k + 1)]
      constructor
      · intro h2; omega
      · intro h2; omega
theorem sz_lt_pow (n : Nat) : n < 10 ^ sz n := by
  have h := sz_pos n
  obtain ⟨k, hk⟩ : ∃ k, sz n = k + 1 := ⟨sz n - 1, by omega⟩
  have := (sz_le_iff k n).mp (by omega)
  rw [hk]; exact this
theorem pow_le_of_sz {n : Nat} (h : 0 < n) : 10 ^ (sz n - 1) ≤ n := by
  by_cases h1 : sz n = 1
  · rw [h1]; simp; omega
  · have hp := sz_pos n
    obtain ⟨k, hk⟩ : ∃ k, sz n = k + 2 := ⟨sz n - 2, by omega⟩
    have h2 : ¬ sz n ≤ k + 1 := by omega
    rw [sz_le_iff] at h2
    rw [hk]; show 10 ^ (k + 1) ≤ n; omega
theorem sz_eq {n k : Nat} (h : 10 ^ k ≤ n) (h2 : n < 10 ^ (k + 1)) : sz n = k + 1 := by
  have a := (sz_le_iff k n).mpr h2
  by_cases hk : k = 0
  · have := sz_pos n; omega
  · obtain ⟨j, hj⟩ : ∃ j, k = j + 1 := ⟨k - 1, by omega⟩
    have b : ¬ sz n ≤ j + 1 := by rw [sz_le_iff, ← hj]; omega
    omega
theorem sz_mono {m n : Nat} (h : m ≤ n) : sz m ≤ sz n := by
  have hp := sz_pos n
  obtain ⟨k, hk⟩ : ∃ k, sz n = k + 1 := ⟨sz n - 1, by omega⟩
  have := (sz_le_iff k n).mp (by omega)
  have := (sz_le_iff k m).mpr (by omega)
  omega
/-- the first k digits -/
theorem numL_take (k : Nat) : ∀ n : Nat, 0 < k → k ≤ sz n → (numL n).take k = numL (n / 10 ^ (sz n - k)) := by
  intro n
  induction n using Nat.strongRecOn with
  | _ n ih =>
    intro hk hle
    by_cases h : n < 10
    · rw [sz_lt h] at hle
      have : k = 1 := by omega
      subst this
      rw [sz_lt h, numL_lt h]; simp [numL_lt h]
    · by_cases he : k = sz n
      · subst he
        rw [Nat.sub_self]; simp [sz]
      · have hs := sz_step (n := n) (by omega)
        rw [numL_step (by omega), List.take_append_of_le_length (by show k ≤ sz (n / 10); omega), ih (n / 10) (by omega) hk (by omega)]
        rw [Nat.div_div_eq_div_mul]
        congr 2
        rw [hs, show sz (n / 10) + 1 - k = (sz (n / 10) - k) + 1 by omega, Nat.pow_succ, Nat.mul_comm]
theorem numL_take_all {k n : Nat} (h : sz n ≤ k) : (numL n).take k = numL n := List.take_of_length_le h
theorem sz_div {n k : Nat} (h : k < sz n) : sz (n / 10 ^ k) = sz n - k := by
  induction k with
  | zero => simp
  | succ k ih =>
    have e := ih (by omega)
    have h10 : 10 ≤ n / 10 ^ k := by
      by_cases h9 : n / 10 ^ k < 10
      · rw [sz_lt h9] at e; omega
      · omega
    have s : sz (n / 10 ^ k) = sz (n / 10 ^ (k + 1)) + 1 := by
      rw [sz_step h10, Nat.div_div_eq_div_mul, ← Nat.pow_succ]
    rw [e] at s
    omega
theorem sz_mul_ten {n k : Nat} (h : 0 < n) : sz (n * 10 ^ k) = sz n + k := by
  have a := pow_le_of_sz h
  have b := sz_lt_pow n
  have p := sz_pos n
  have q := ten_pos k
  have e : sz n + k = (sz n - 1 + k) + 1 := by omega
  rw [e]
  apply sz_eq
  · rw [Nat.pow_add]; exact Nat.mul_le_mul_right _ a
  · rw [show sz n - 1 + k + 1 = sz n + k by omega, Nat.pow_add]; exact Nat.mul_lt_mul_of_pos_right b q
/-! ### the same for ints -/
def size (n : Int) : Int := (sz n.toNat : Nat)
def tenI (k : Int) : Int := 10 ^ k.toNat
def first (n m : Int) : Int := if m < size n then n / tenI (size n - m) else n
def begins (n b : Int) : Bool := decide (size b ≤ size n) && decide (first n (size b) = b)
theorem tenI_nat (k : Int) : tenI k = ((10 ^ k.toNat : Nat) : Int) := by unfold tenI; exact (Int.natCast_pow 10 k.toNat).symm
theorem tenI_pos (k : Int) : 0 < tenI k := by rw [tenI_nat]; exact Int.natCast_pos.mpr (ten_pos _)
theorem size_pos (n : Int) : 0 < size n := by unfold size; have := sz_pos n.toNat; omega
theorem str_num {n : Int} (h : 0 ≤ n) : tl (Str.ofString (toString n)) = numL n.toNat := by
  have e : n = ((n.toNat : Nat) : Int) := by omega
  rw [e]; exact tl_num _
theorem str_len {n : Int} (h : 0 ≤ n) : (Str.ofString (toString n)).length = sz n.toNat := by rw [len_tl, str_num h]; rfl
theorem str_inj {a b : Int} (ha : 0 ≤ a) (hb : 0 ≤ b) : (Str.ofString (toString a) = Str.ofString (toString b)) ↔ a = b := by
  constructor
  · intro h
    have e := congrArg tl h
    rw [str_num ha, str_num hb] at e
    have := numL_inj e
    omega
  · intro h; rw [h]
theorem first_nat {n m : Nat} (h : m < sz n) : first (n : Int) (m : Int) = ((n / 10 ^ (sz n - m) : Nat) : Int) := by
  unfold first size
  rw [Int.toNat_natCast, if_pos (by omega), tenI_nat, show ((sz n : Int) - (m : Int)).toNat = sz n - m by omega]
  rfl
theorem cut_take (z : Str) (m : Nat) : tl (cutS z none (some (m : Int))) = (tl z).take m := by
  have hl := len_tl z
  unfold cutS
  show ((tl z).drop _).take _ = _
  rw [HT.sIx_none, HT.sIx_nat, List.drop_zero, Nat.sub_zero]
  by_cases h : m ≤ z.length
  · rw [Nat.min_eq_left h]
  · rw [Nat.min_eq_right (by omega), List.take_of_length_le (by omega), List.take_of_length_le (by omega)]
/-- str(n)[:m] -/
theorem cut_num {n m : Int} (h : 0 ≤ n) (hm : 0 < m) : cutS (Str.ofString (toString n)) none (some m) = Str.ofString (toString (first n m)) := by
  obtain ⟨n, rfl⟩ := Int.eq_ofNat_of_zero_le h
  obtain ⟨m, rfl⟩ := Int.eq_ofNat_of_zero_le (show 0 ≤ m by omega)
  apply ext_toList
  show tl _ = tl _
  rw [cut_take, tl_num]
  by_cases hlt : m < sz n
  · rw [first_nat hlt, tl_num, ← numL_take m n (by omega) (by omega)]
  · have ef : first (n : Int) (m : Int) = n := by
      unfold first size; rw [Int.toNat_natCast, if_neg (by omega)]
    rw [ef, tl_num, numL_take_all (by omega)]
theorem first_nonneg {n m : Int} (h : 0 ≤ n) : 0 ≤ first n m := by
  unfold first
  split
  · exact Int.ediv_nonneg h (Int.le_of_lt (tenI_pos _))
  · exact h
theorem first_le {n m : Int} (h : 0 ≤ n) : first n m ≤ n := by
  unfold first
  split
  · exact Int.ediv_le_self _ h
  · exact Int.le_refl _
theorem size_le_iff {n : Int} (h : 0 ≤ n) (k : Nat) : size n ≤ k + 1 ↔ n < 10 ^ (k + 1) := by
  obtain ⟨n, rfl⟩ := Int.eq_ofNat_of_zero_le h
  unfold size
  rw [Int.toNat_natCast]
  have := sz_le_iff k n
  have e : ((10 : Int) ^ (k + 1)) = ((10 ^ (k + 1) : Nat) : Int) := (Int.natCast_pow 10 (k + 1)).symm
  rw [e, Int.ofNat_lt, ← this]
  omega
/-- int(str(n)[:m]) -/
theorem int_first {n m : Int} (h : 0 ≤ n) (hs : size n ≤ 640) : intText? (Str.ofString (toString (first n m))) = some (first n m) ∧ (Str.ofString (toString (first n m))).length ≤ 640 := by
  have hf := first_nonneg (m := m) h
  have hle := first_le (m := m) h
  have hl : (Str.ofString (toString (first n m))).length ≤ 640 := by
    rw [str_len hf]
    have := sz_mono (m := (first n m).toNat) (n := n.toNat) (by omega)
    unfold size at hs
    omega
  refine ⟨?_, hl⟩
  obtain ⟨k, hk⟩ := Int.eq_ofNat_of_zero_le hf
  rw [hk] at hl ⊢
  rw [len_tl, tl_num] at hl
  exact int_num (by omega)
theorem decide_iff_eq {p q : Prop} [Decidable p] [Decidable q] (h : p ↔ q) : decide p = decide q := decide_eq_decide.mpr h
/-- str(n)[:size(b)] == str(b) -/
theorem begins_text {n b : Int} (hn : 0 ≤ n) (hb : 0 ≤ b) : decide (cutS (Str.ofString (toString n)) none (some (size b)) = Str.ofString (toString b)) = begins n b := by
  rw [cut_num hn (size_pos b), decide_iff_eq (str_inj (first_nonneg hn) hb)]
  unfold begins
  by_cases h : first n (size b) = b
  · have h2 : size b ≤ size n := by
      by_cases h3 : size b ≤ size n
      · exact h3
      · have : first n (size b) = n := by unfold first; rw [if_neg (by omega)]
        rw [this] at h
        rw [h]; exact Int.le_refl _
    simp [h, h2]
  · simp [h]
end FD

namespace FD
open PySem PySem.Spec PyProof.Rows L2 Evl TL
section
variable {K : PySem.W.Frag} {σ : L2.St} {H : Hp} {ta tb tc te : TE} {n a b : Int}
theorem rc_isiI : RC (rIsi K) [.int n, .ty "int"] H (.bl true) := fun H1 _ Q q => ⟨.int n, .ty "int", .type "int", .type "int", true, rfl, .ty _, .base (.int n), kit_ty (by decide +kernel), q H1 (Ex.refl _)⟩
theorem rc_isiB : RC (rIsi K) [.int n, .ty "bool"] H (.bl false) := fun H1 _ Q q => ⟨.int n, .ty "bool", .type "int", .type "bool", false, rfl, .ty _, .base (.int n), kit_ty (by decide +kernel), q H1 (Ex.refl _)⟩
theorem ev_chainI {g g' : Int → Int → Bool} {c : Int} (ha : Ev ta σ H (.int a)) (hb : Ev tb σ H (.int b)) (hc : Ev tc σ H (.int c)) : Ev (tChain (rI0 fun i j => .bl (g i j)) (rI0 fun i j => .bl (g' i j)) ta tb tc) σ H (.bl (g a b && g' b c)) := fun H1 e Q q =>
  ha H1 e _ fun H2 e2 => hb H2 (e.trans e2) _ fun H3 e3 => ⟨a, b, rfl, rfl, g a b, rfl, by
    cases hg : g a b with
    | true =>
      rw [hg] at q
      show tc σ H3 _
      exact hc H3 ((e.trans e2).trans e3) _ fun H4 e4 => ⟨b, c, rfl, rfl, q H4 ((e2.trans e3).trans e4)⟩
    | false =>
      rw [hg] at q
      exact q H3 (e2.trans e3)⟩
end
local macro_rules | `(tactic| walk_at "ev") => `(tactic| repeat' (first | (with_reducible exact ev_c) | ((with_reducible apply ev_var); rfl) | (with_reducible exact ea_nil) | (with_reducible apply ea_cons) | (with_reducible apply ev_op) | (with_reducible exact rv_I0) | (with_reducible apply rv_I) | (with_reducible exact rv_eqI) | (with_reducible exact rv_neI) | (with_reducible exact rv_eqS) | (with_reducible apply ev_ok) | (with_reducible apply ev_cb) | (with_reducible apply spv_I1) | (with_reducible apply spv_I2) | (with_reducible apply spv_I3) | (with_reducible apply et_test) | (with_reducible apply et_B) | (with_reducible apply et_not) | (with_reducible apply ev_notV) | (with_reducible apply ev_un) | (with_reducible exact ru_negI) | (with_reducible exact rc_max2) | (with_reducible exact rc_min2) | (with_reducible exact rv_isB) | (with_reducible exact rv_notB) | (with_reducible exact rv_isN) | (with_reducible exact rv_notN) | (with_reducible apply ev_chainI) | (with_reducible exact rc_isiI) | (with_reducible exact rc_isiB)))
/-! ### bounds -/
structure NumC (n : Int) : Prop where
  lo : 1 ≤ n
  hi : n < 10 ^ 60
instance (n : Int) : Decidable (NumC n) := decidable_of_iff (1 ≤ n ∧ n < 10 ^ 60) ⟨fun h => ⟨h.1, h.2⟩, fun h => ⟨h.lo, h.hi⟩⟩
structure BegC (n : Int) : Prop where
  lo : 1 ≤ n
  hi : n ≤ 9999
instance (n : Int) : Decidable (BegC n) := decidable_of_iff (1 ≤ n ∧ n ≤ 9999) ⟨fun h => ⟨h.1, h.2⟩, fun h => ⟨h.lo, h.hi⟩⟩
/-- an int whose text is of a size that the layer's rule takes -/
structure TxtC (n : Int) : Prop where
  lo : 0 ≤ n
  hi : n < 10 ^ 640
theorem str_ok {n : Int} (h : TxtC n) : StrOk n := ⟨by
  have e : n.natAbs < 10 ^ 640 := by
    have h2 := h.hi
    have h3 := h.lo
    have e : ((10 : Int) ^ 640) = ((10 ^ 640 : Nat) : Int) := (Int.natCast_pow 10 640).symm
    rw [e] at h2
    omega
  exact Nat.lt_of_lt_of_le e (Nat.pow_le_pow_right (by decide) (by decide))⟩
theorem size_txt {n : Int} (h : TxtC n) : size n ≤ 640 := (size_le_iff h.lo 639).mpr h.hi
/-! ### errors.py -/
abbrev sp_is_int : Sp := spI3 (fun _ _ _ => True) (fun v lo hi => .bl (decide (lo ≤ v) && decide (v ≤ hi)))
def rd_is_int (K : PySem.W.Frag) : TS :=
      (tRet (tAndV (tCB (rIsi K) (tCons (tVar 0) (tCons (tC (.ty "int")) tNil))) (tAndV (tNotV (tCB (rIsi K) (tCons (tVar 0) (tCons (tC (.ty "bool")) tNil)))) (tChain rLeI rLeI (tVar 1) (tVar 0) (tVar 2)))))
def N_is_int : List Str := ["value", "low", "high"]
theorem pure_is_int {K : PySem.W.Frag} (vs : List V) (H : Hp) (Q : VK) (E : XK) (h : sp_is_int vs H Q E) : rd_is_int K { nx := fun _ H' => Q .non H', rt := Q } (start N_is_int vs) H := by
  match vs, h with
  | [a, b, c], h =>
    obtain ⟨v, lo, hi, rfl, rfl, rfl, -, q⟩ := h
    refine s_ret (v := .bl (true && (true && (decide (lo ≤ v) && decide (v ≤ hi))))) (ev_andV ?_ fun _ => ev_andV (ev_is ?_ (by rfl)) fun _ => ?_) (fun H1 e => ?_)
    · walk_at "ev"
    · exact ev_notV (a := false) (by walk_at "ev")
    · exact ev_chainI (by walk_at "ev") (by walk_at "ev") (by walk_at "ev")
    · simpa using q H1 e
section
variable {K : PySem.W.Frag} {σ : L2.St} {H : Hp} {te : TE} {D : Ends} {i : Nat} {a b : Int}
theorem s_augX {C : Int → Int → Prop} {g : Int → Int → V} (hx : σ[i]? = some (some (.int a))) (h : Ev te σ H (.int b)) (hc : C a b) (k : ∀ H1, Ex H H1 → D.nx (σ.set i (some (g a b))) H1) : tAug i te (rI C g) D σ H :=
  ⟨.int a, hx, h H (Ex.refl H) _ fun H1 e => ⟨a, b, rfl, rfl, hc, k H1 e⟩⟩
theorem s_aug0 {g : Int → Int → V} (hx : σ[i]? = some (some (.int a))) (h : Ev te σ H (.int b)) (k : ∀ H1, Ex H H1 → D.nx (σ.set i (some (g a b))) H1) : tAug i te (rI0 g) D σ H :=
  ⟨.int a, hx, h H (Ex.refl H) _ fun H1 e => ⟨a, b, rfl, rfl, k H1 e⟩⟩
variable {tu tA tB : TS} {v : V} {xs : List V} {t : TT}
theorem q_asg (h : Ev te σ H v) (k : ∀ H1, Ex H H1 → tu D (σ.set i (some v)) H1) : tSeq (tAsg te (gName i)) tu D σ H := s_asg h k
theorem q_asgL (h : EvL te σ H xs) (k : ∀ p H1, H p = none → Ex H H1 → H1 p = some (.lst xs) → tu D (σ.set i (some (.ref p))) H1) : tSeq (tAsg te (gName i)) tu D σ H := s_asgL h k
theorem q_asgU (h : EvU te σ H xs) (k : ∀ p H1, H p = none → Ex H H1 → H1 p = some (.tup xs) → tu D (σ.set i (some (.ref p))) H1) : tSeq (tAsg te (gName i)) tu D σ H := s_asgU h k
theorem q_drop (h : Ev te σ H v) (k : ∀ H1, Ex H H1 → tu D σ H1) : tSeq (tDrop te) tu D σ H := s_drop h k
theorem q_if {b : Bool} (h : EvT t σ H b) (h1 : b = true → ∀ H1, Ex H H1 → tA { D with nx := tu D } σ H1) (h2 : b = false → ∀ H1, Ex H H1 → tB { D with nx := tu D } σ H1) : tSeq (tIfS t tA tB) tu D σ H := s_if h h1 h2
/-- if t: .. (nothing else) -/
theorem q_if1 {b : Bool} (h : EvT t σ H b) (h1 : b = true → ∀ H1, Ex H H1 → tA { D with nx := tu D } σ H1) (h2 : b = false → ∀ H1, Ex H H1 → tu D σ H1) : tSeq (tIfS t tA tNext) tu D σ H := s_if h h1 h2
theorem q_aug0 {g : Int → Int → V} (hx : σ[i]? = some (some (.int a))) (h : Ev te σ H (.int b)) (k : ∀ H1, Ex H H1 → tu D (σ.set i (some (g a b))) H1) : tSeq (tAug i te (rI0 g)) tu D σ H := s_aug0 hx h k
theorem q_augX {C : Int → Int → Prop} {g : Int → Int → V} (hx : σ[i]? = some (some (.int a))) (h : Ev te σ H (.int b)) (hc : C a b) (k : ∀ H1, Ex H H1 → tu D (σ.set i (some (g a b))) H1) : tSeq (tAug i te (rI C g)) tu D σ H := s_augX hx h hc k
theorem q_par {j : Nat} {ta : TA} {v w : V} (h : EvA ta σ H [v, w]) (k : ∀ H1, Ex H H1 → tu D ((σ.set i (some v)).set j (some w)) H1) : tSeq (tPar i j ta) tu D σ H :=
  h H (Ex.refl H) _ fun H1 e => ⟨v, w, rfl, k H1 e⟩
theorem q_forR1 {tb : TS} {ta : TA} {j : Nat} {n : Int} (h : EvA ta σ H [.int n]) (hn : 0 ≤ n ∧ n ≤ 100000) (Pv : Nat → L2.St → Hp → Prop) (h0 : ∀ H1, Ex H H1 → Pv 0 σ H1)
    (hs : ∀ (i : Nat) σ' H', (i : Int) < n → Pv i σ' H' → tb { D with nx := Pv (i + 1), ct := Pv (i + 1), bk := tu D } (σ'.set j (some (.int (i : Int)))) H') (hd : ∀ σ' H', Pv n.toNat σ' H' → tu D σ' H') : tSeq (tFor (iRng1 ta) (gName j) tb) tu D σ H :=
  s_forR1 (D := { D with nx := tu D }) h hn Pv h0 hs hd
theorem q_forR2 {tb : TS} {ta : TA} {j : Nat} {lo n : Int} (h : EvA ta σ H [.int lo, .int n]) (hn : 0 ≤ lo ∧ lo ≤ 100000 ∧ -100000 ≤ n ∧ n ≤ 100000) (Pv : Nat → L2.St → Hp → Prop) (h0 : ∀ H1, Ex H H1 → Pv 0 σ H1)
    (hs : ∀ (i : Nat) σ' H', lo + (i : Int) < n → Pv i σ' H' → tb { D with nx := Pv (i + 1), ct := Pv (i + 1), bk := tu D } (σ'.set j (some (.int (lo + (i : Int))))) H') (hd : ∀ σ' H', Pv (n - lo).toNat σ' H' → tu D σ' H') : tSeq (tFor (iRng2 ta) (gName j) tb) tu D σ H :=
  s_forR2 (D := { D with nx := tu D }) h hn Pv h0 hs hd
theorem q_while {tb : TS} (W : Nat → L2.St → Hp → Prop) (m0 : Nat) (h0 : W m0 σ H)
    (hs : ∀ m σ' H', W m σ' H' → ∃ b, EvT t σ' H' b ∧ (b = true → ∀ H1, Ex H' H1 → ∃ N : L2.St → Hp → Prop, (∀ σ2 H2, N σ2 H2 → ∃ m', m' < m ∧ W m' σ2 H2) ∧ tb { D with nx := N, ct := N, bk := tu D } σ' H1) ∧ (b = false → ∀ H1, Ex H' H1 → tu D σ' H1)) : tSeq (tWhile t tb) tu D σ H :=
  s_while (D := { D with nx := tu D }) W m0 h0 hs
/-- a, b = x, y -/
theorem s_par {j : Nat} {ta : TA} {v w : V} (h : EvA ta σ H [v, w]) (k : ∀ H1, Ex H H1 → D.nx ((σ.set i (some v)).set j (some w)) H1) : tPar i j ta D σ H :=
  h H (Ex.refl H) _ fun H1 e => ⟨v, w, rfl, k H1 e⟩
end
theorem pow_i (i : Nat) : (10 : Int) ^ i * 10 = 10 ^ (i + 1) := (Int.pow_succ 10 i).symm
abbrev sp_ten_to : Sp := spI1 (fun n => 0 ≤ n ∧ n ≤ 1000) (fun n => .int (tenI n))
def rd_ten_to (K : PySem.W.Frag) : TS :=
      (tSeq (tAsg (tC (.int 1)) (gName 1))
      (tSeq (tFor (iRng1 (tCons (tVar 0) tNil)) (gName 2)
        (tAug 1 (tC (.int 10)) rMulX))
      (tRet (tVar 1))))
def N_ten_to : List Str := ["exponent", "found", "turn"]
theorem pure_ten_to {K : PySem.W.Frag} (vs : List V) (H : Hp) (Q : VK) (E : XK) (h : sp_ten_to vs H Q E) : rd_ten_to K { nx := fun _ H' => Q .non H', rt := Q } (start N_ten_to vs) H := by
  match vs, h with
  | [a], h =>
    obtain ⟨n, rfl, hc, q⟩ := h
    unfold rd_ten_to
    refine q_asg (v := .int 1) (by walk_at "ev") fun H1 e1 => ?_
    refine q_forR1 (n := n) (by walk_at "ev") ⟨hc.1, by omega⟩ (fun i σ' H' => ∃ y, σ' = [some (.int n), some (.int (10 ^ i)), y] ∧ Ex H H') (fun H2 e2 => ⟨none, rfl, e1.trans e2⟩) (fun i σ' H' hi hp => ?_) (fun σ' H' hp => ?_)
    · obtain ⟨y, rfl, e⟩ := hp
      refine s_augX (a := 10 ^ i) (b := 10) rfl (by walk_at "ev") (mulOk_r (by decide) (by decide)) fun H2 e2 => ?_
      exact ⟨_, by rw [← pow_i]; rfl, e.trans e2⟩
    · obtain ⟨y, rfl, e⟩ := hp
      exact s_ret (v := .int (tenI n)) (ev_var rfl) fun H2 e2 => q H2 (e.trans e2)
abbrev sp_is_number : Sp := spI1 (fun _ => True) (fun n => .bl (decide (NumC n)))
def rd_is_number (K : PySem.W.Frag) : TS :=
      (tRet (tCall (sp_is_int) [] E0 (tCons (tVar 0) (tCons (tC (.int 1)) (tCons (tOp rSubI (tCall (sp_ten_to) [] E0 (tCons (tC (.int 60)) tNil)) (tC (.int 1))) tNil)))))
def N_is_number : List Str := ["value"]
theorem ten60 : tenI 60 = 10 ^ 60 := rfl
theorem pure_is_number {K : PySem.W.Frag} (vs : List V) (H : Hp) (Q : VK) (E : XK) (h : sp_is_number vs H Q E) : rd_is_number K { nx := fun _ H' => Q .non H', rt := Q } (start N_is_number vs) H := by
  match vs, h with
  | [a], h =>
    obtain ⟨n, rfl, -, q⟩ := h
    refine s_ret (ev_is (w := .bl (decide (NumC n))) (by
      walk_at "ev"
      all_goals first | trivial | decide) ?_) q
    rw [ten60]
    congr 1
    rw [← Bool.decide_and]
    exact decide_iff_eq ⟨fun h => ⟨h.1, by omega⟩, fun h => ⟨h.lo, by have := h.hi; omega⟩⟩
abbrev sp_is_beginning : Sp := spI1 (fun _ => True) (fun n => .bl (decide (BegC n)))
def rd_is_beginning (K : PySem.W.Frag) : TS :=
      (tRet (tCall (sp_is_int) [] E0 (tCons (tVar 0) (tCons (tC (.int 1)) (tCons (tC (.int 9999)) tNil)))))
def N_is_beginning : List Str := ["value"]
theorem pure_is_beginning {K : PySem.W.Frag} (vs : List V) (H : Hp) (Q : VK) (E : XK) (h : sp_is_beginning vs H Q E) : rd_is_beginning K { nx := fun _ H' => Q .non H', rt := Q } (start N_is_beginning vs) H := by
  match vs, h with
  | [a], h =>
    obtain ⟨n, rfl, -, q⟩ := h
    refine s_ret (ev_is (w := .bl (decide (BegC n))) (by
      walk_at "ev"
      all_goals first | trivial | decide) ?_) q
    congr 1
    rw [← Bool.decide_and]
    exact decide_iff_eq ⟨fun h => ⟨h.1, h.2⟩, fun h => ⟨h.lo, h.hi⟩⟩
abbrev sp_check_number : Sp := spI1 NumC (fun _ => .non)
def rd_check_number (K : PySem.W.Frag) : TS :=
      (tIfS (tNot (tB (tCall (sp_is_number) [] E0 (tCons (tVar 0) tNil))))
        tNever
        tNext)
def N_check_number : List Str := ["value"]
theorem pure_check_number {K : PySem.W.Frag} (vs : List V) (H : Hp) (Q : VK) (E : XK) (h : sp_check_number vs H Q E) : rd_check_number K { nx := fun _ H' => Q .non H', rt := Q } (start N_check_number vs) H := by
  match vs, h with
  | [a], h =>
    obtain ⟨n, rfl, hc, q⟩ := h
    refine s_if (b := !decide (NumC n)) (by
      walk_at "ev"
      all_goals first | trivial | decide) (fun h => ?_) (fun _ H1 e => q H1 e)
    rw [decide_eq_true hc] at h
    cases h
abbrev sp_check_beginning : Sp := spI1 BegC (fun _ => .non)
def rd_check_beginning (K : PySem.W.Frag) : TS :=
      (tIfS (tNot (tB (tCall (sp_is_beginning) [] E0 (tCons (tVar 0) tNil))))
        tNever
        tNext)
def N_check_beginning : List Str := ["value"]
theorem pure_check_beginning {K : PySem.W.Frag} (vs : List V) (H : Hp) (Q : VK) (E : XK) (h : sp_check_beginning vs H Q E) : rd_check_beginning K { nx := fun _ H' => Q .non H', rt := Q } (start N_check_beginning vs) H := by
  match vs, h with
  | [a], h =>
    obtain ⟨n, rfl, hc, q⟩ := h
    refine s_if (b := !decide (BegC n)) (by
      walk_at "ev"
      all_goals first | trivial | decide) (fun h => ?_) (fun _ H1 e => q H1 e)
    rw [decide_eq_true hc] at h
    cases h
abbrev sp_check_count : Sp := spI3 (fun v lo hi => lo ≤ v ∧ v ≤ hi) (fun _ _ _ => .non)
def rd_check_count (K : PySem.W.Frag) : TS :=
      (tIfS (tNot (tB (tCall (sp_is_int) [] E0 (tCons (tVar 0) (tCons (tVar 1) (tCons (tVar 2) tNil))))))
        tNever
        tNext)
def N_check_count : List Str := ["value", "low", "high"]
theorem pure_check_count {K : PySem.W.Frag} (vs : List V) (H : Hp) (Q : VK) (E : XK) (h : sp_check_count vs H Q E) : rd_check_count K { nx := fun _ H' => Q .non H', rt := Q } (start N_check_count vs) H := by
  match vs, h with
  | [a, b, c], h =>
    obtain ⟨v, lo, hi, rfl, rfl, rfl, hc, q⟩ := h
    refine s_if (b := !(decide (lo ≤ v) && decide (v ≤ hi))) (by
      walk_at "ev"
      all_goals first | trivial | decide) (fun h => ?_) (fun _ H1 e => q H1 e)
    rw [decide_eq_true hc.1, decide_eq_true hc.2] at h
    cases h
/-! ### digits.py -/
abbrev sp_size_of : Sp := spI1 TxtC (fun n => .int (size n))
def rd_size_of (K : PySem.W.Frag) : TS :=
      (tRet (tCB rLenStr (tCons (tCB rStrInt (tCons (tVar 0) tNil)) tNil)))
def N_size_of : List Str := ["number"]
theorem pure_size_of {K : PySem.W.Frag} (vs : List V) (H : Hp) (Q : VK) (E : XK) (h : sp_size_of vs H Q E) : rd_size_of K { nx := fun _ H' => Q .non H', rt := Q } (start N_size_of vs) H := by
  match vs, h with
  | [a], h =>
    obtain ⟨n, rfl, hc, q⟩ := h
    have hs := size_txt hc
    have e : (((Str.ofString (toString n)).length : Nat) : Int) = size n := by rw [str_len hc.lo]; rfl
    refine s_ret (ev_is (w := .int (size n)) (ev_cb (ea_cons (ev_cb (ea_cons (ev_var rfl) ea_nil) (rc_strInt (str_ok hc))) ea_nil) (rc_lenStr (by omega))) (by rw [← e])) q
abbrev sp_first_of : Sp := spI2 (fun n m => TxtC n ∧ 0 < m) (fun n m => .int (first n m))
def rd_first_of (K : PySem.W.Frag) : TS :=
      (tRet (tCB rIntStr (tCons (tSl rSlS (tCB rStrInt (tCons (tVar 0) tNil)) tNoPart (tPart (tVar 1))) tNil)))
def N_first_of : List Str := ["number", "many"]
theorem pure_first_of {K : PySem.W.Frag} (vs : List V) (H : Hp) (Q : VK) (E : XK) (h : sp_first_of vs H Q E) : rd_first_of K { nx := fun _ H' => Q .non H', rt := Q } (start N_first_of vs) H := by
  match vs, h with
  | [a, b], h =>
    obtain ⟨n, m, rfl, rfl, ⟨hc, hm⟩, q⟩ := h
    have hs := size_txt hc
    have hl : (Str.ofString (toString n)).length = sz n.toNat := str_len hc.lo
    have hl2 : size n = (sz n.toNat : Nat) := rfl
    have hi := int_first (m := m) hc.lo (by omega)
    refine s_ret (ev_cb (ea_cons (ev_is (ev_slS (ev_cb (ea_cons (ev_var rfl) ea_nil) (rc_strInt (str_ok hc))) eo_none (eo_some (ev_var rfl)) ?_) (congrArg V.str (cut_num hc.lo hm))) ea_nil) (rc_intStr hi.1 hi.2)) q
    show (Str.ofString (toString n)).length ≤ 100000
    omega
abbrev sp_begins_of : Sp := spI2 (fun n b => TxtC n ∧ TxtC b) (fun n b => .bl (begins n b))
def rd_begins_of (K : PySem.W.Frag) : TS :=
      (tRet (tOp rEq (tSl rSlS (tCB rStrInt (tCons (tVar 0) tNil)) tNoPart (tPart (tCall (sp_size_of) [] E0 (tCons (tVar 1) tNil)))) (tCB rStrInt (tCons (tVar 1) tNil))))
def N_begins_of : List Str := ["number", "beginning"]
theorem pure_begins_of {K : PySem.W.Frag} (vs : List V) (H : Hp) (Q : VK) (E : XK) (h : sp_begins_of vs H Q E) : rd_begins_of K { nx := fun _ H' => Q .non H', rt := Q } (start N_begins_of vs) H := by
  match vs, h with
  | [a, b], h =>
    obtain ⟨n, m, rfl, rfl, ⟨hc, hm⟩, q⟩ := h
    have hs := size_txt hc
    have hl : (Str.ofString (toString n)).length = sz n.toNat := str_len hc.lo
    have hl2 : size n = (sz n.toNat : Nat) := rfl
    refine s_ret (ev_is (ev_op (ev_slS (ev_cb (ea_cons (ev_var rfl) ea_nil) (rc_strInt (str_ok hc))) eo_none (eo_some (ev_ok (ea_cons (ev_var rfl) ea_nil) (spv_I1 hm))) ?_) (ev_cb (ea_cons (ev_var rfl) ea_nil) (rc_strInt (str_ok hm))) rv_eqS) (congrArg V.bl (begins_text hc.lo hm.lo))) q
    show (Str.ofString (toString n)).length ≤ 100000
    omega
theorem pow_lt {a b : Nat} (h : a ≤ b) : (10 : Int) ^ a ≤ 10 ^ b := by
  have e1 : ((10 : Int) ^ a) = ((10 ^ a : Nat) : Int) := (Int.natCast_pow 10 a).symm
  have e2 : ((10 : Int) ^ b) = ((10 ^ b : Nat) : Int) := (Int.natCast_pow 10 b).symm
  rw [e1, e2]
  exact Int.ofNat_le.mpr (Nat.pow_le_pow_right (by decide) h)
theorem NumC.txt {n : Int} (h : NumC n) : TxtC n := ⟨by have := h.lo; omega, Int.lt_of_lt_of_le h.hi (pow_lt (by decide))⟩
theorem BegC.num {n : Int} (h : BegC n) : NumC n := ⟨h.lo, Int.lt_of_le_of_lt h.hi (by decide)⟩
theorem BegC.txt {n : Int} (h : BegC n) : TxtC n := h.num.txt
abbrev sp_digit_count : Sp := spI1 NumC (fun n => .int (size n))
def rd_digit_count (K : PySem.W.Frag) : TS :=
      (tSeq (tDrop (tCall (sp_check_number) [] E0 (tCons (tVar 0) tNil)))
      (tRet (tCall (sp_size_of) [] E0 (tCons (tVar 0) tNil))))
def N_digit_count : List Str := ["number"]
theorem pure_digit_count {K : PySem.W.Frag} (vs : List V) (H : Hp) (Q : VK) (E : XK) (h : sp_digit_count vs H Q E) : rd_digit_count K { nx := fun _ H' => Q .non H', rt := Q } (start N_digit_count vs) H := by
  match vs, h with
  | [a], h =>
    obtain ⟨n, rfl, hc, q⟩ := h
    unfold rd_digit_count
    refine q_drop (v := .non) (by walk_at "ev"; exact hc) fun H1 e1 => ?_
    exact s_ret (v := .int (size n)) (by walk_at "ev"; exact hc.txt) fun H2 e2 => q H2 (e1.trans e2)
abbrev sp_first_digits : Sp := spI2 (fun n m => NumC n ∧ 1 ≤ m ∧ m ≤ 4) (fun n m => .int (first n m))
def rd_first_digits (K : PySem.W.Frag) : TS :=
      (tSeq (tDrop (tCall (sp_check_number) [] E0 (tCons (tVar 0) tNil)))
      (tSeq (tDrop (tCall (sp_check_count) [] E0 (tCons (tVar 1) (tCons (tC (.int 1)) (tCons (tC (.int 4)) tNil)))))
      (tRet (tCall (sp_first_of) [] E0 (tCons (tVar 0) (tCons (tVar 1) tNil))))))
def N_first_digits : List Str := ["number", "many"]
theorem pure_first_digits {K : PySem.W.Frag} (vs : List V) (H : Hp) (Q : VK) (E : XK) (h : sp_first_digits vs H Q E) : rd_first_digits K { nx := fun _ H' => Q .non H', rt := Q } (start N_first_digits vs) H := by
  match vs, h with
  | [a, b], h =>
    obtain ⟨n, m, rfl, rfl, ⟨hc, hm⟩, q⟩ := h
    unfold rd_first_digits
    refine q_drop (v := .non) (by walk_at "ev"; exact hc) fun H1 e1 => ?_
    refine q_drop (v := .non) (by walk_at "ev"; exact hm) fun H2 e2 => ?_
    exact s_ret (v := .int (first n m)) (by walk_at "ev"; exact ⟨hc.txt, by omega⟩) fun H3 e3 => q H3 ((e1.trans e2).trans e3)
abbrev sp_begins : Sp := spI2 (fun n b => NumC n ∧ BegC b) (fun n b => .bl (begins n b))
def rd_begins (K : PySem.W.Frag) : TS :=
      (tSeq (tDrop (tCall (sp_check_number) [] E0 (tCons (tVar 0) tNil)))
      (tSeq (tDrop (tCall (sp_check_beginning) [] E0 (tCons (tVar 1) tNil)))
      (tRet (tCall (sp_begins_of) [] E0 (tCons (tVar 0) (tCons (tVar 1) tNil))))))
def N_begins : List Str := ["number", "beginning"]
theorem pure_begins {K : PySem.W.Frag} (vs : List V) (H : Hp) (Q : VK) (E : XK) (h : sp_begins vs H Q E) : rd_begins K { nx := fun _ H' => Q .non H', rt := Q } (start N_begins vs) H := by
  match vs, h with
  | [a, b], h =>
    obtain ⟨n, m, rfl, rfl, ⟨hc, hm⟩, q⟩ := h
    unfold rd_begins
    refine q_drop (v := .non) (by walk_at "ev"; exact hc) fun H1 e1 => ?_
    refine q_drop (v := .non) (by walk_at "ev"; exact hm) fun H2 e2 => ?_
    exact s_ret (v := .bl (begins n m)) (by walk_at "ev"; exact ⟨hc.txt, hm.txt⟩) fun H3 e3 => q H3 ((e1.trans e2).trans e3)
abbrev sp_is_within : Sp := spI2 (fun n b => BegC n ∧ BegC b) (fun n b => .bl (begins n b))
def rd_is_within (K : PySem.W.Frag) : TS :=
      (tSeq (tDrop (tCall (sp_check_beginning) [] E0 (tCons (tVar 0) tNil)))
      (tSeq (tDrop (tCall (sp_check_beginning) [] E0 (tCons (tVar 1) tNil)))
      (tRet (tCall (sp_begins_of) [] E0 (tCons (tVar 0) (tCons (tVar 1) tNil))))))
def N_is_within : List Str := ["one", "other"]
theorem pure_is_within {K : PySem.W.Frag} (vs : List V) (H : Hp) (Q : VK) (E : XK) (h : sp_is_within vs H Q E) : rd_is_within K { nx := fun _ H' => Q .non H', rt := Q } (start N_is_within vs) H := by
  match vs, h with
  | [a, b], h =>
    obtain ⟨n, m, rfl, rfl, ⟨hc, hm⟩, q⟩ := h
    unfold rd_is_within
    refine q_drop (v := .non) (by walk_at "ev"; exact hc) fun H1 e1 => ?_
    refine q_drop (v := .non) (by walk_at "ev"; exact hm) fun H2 e2 => ?_
    exact s_ret (v := .bl (begins n m)) (by walk_at "ev"; exact ⟨hc.txt, hm.txt⟩) fun H3 e3 => q H3 ((e1.trans e2).trans e3)
abbrev sp_are_apart : Sp := spI2 (fun n b => BegC n ∧ BegC b) (fun n b => .bl (!begins n b && !begins b n))
def rd_are_apart (K : PySem.W.Frag) : TS :=
      (tSeq (tDrop (tCall (sp_check_beginning) [] E0 (tCons (tVar 0) tNil)))
      (tSeq (tDrop (tCall (sp_check_beginning) [] E0 (tCons (tVar 1) tNil)))
      (tRet (tAndV (tNotV (tCall (sp_begins_of) [] E0 (tCons (tVar 0) (tCons (tVar 1) tNil)))) (tNotV (tCall (sp_begins_of) [] E0 (tCons (tVar 1) (tCons (tVar 0) tNil))))))))
def N_are_apart : List Str := ["one", "other"]
theorem pure_are_apart {K : PySem.W.Frag} (vs : List V) (H : Hp) (Q : VK) (E : XK) (h : sp_are_apart vs H Q E) : rd_are_apart K { nx := fun _ H' => Q .non H', rt := Q } (start N_are_apart vs) H := by
  match vs, h with
  | [a, b], h =>
    obtain ⟨n, m, rfl, rfl, ⟨hc, hm⟩, q⟩ := h
    unfold rd_are_apart
    refine q_drop (v := .non) (by walk_at "ev"; exact hc) fun H1 e1 => ?_
    refine q_drop (v := .non) (by walk_at "ev"; exact hm) fun H2 e2 => ?_
    exact s_ret (v := .bl (!begins n m && !begins m n)) (ev_andV (by walk_at "ev"; exact ⟨hc.txt, hm.txt⟩) fun _ => by walk_at "ev"; exact ⟨hm.txt, hc.txt⟩) fun H3 e3 => q H3 ((e1.trans e2).trans e3)
/-- the beginnings of so many digits within one -/
def longerL (b m : Int) : List Int := if m < size b then [] else (List.range ((b + 1) * tenI (m - size b) - b * tenI (m - size b)).toNat).map fun i => b * tenI (m - size b) + (i : Nat)
abbrev sp_longer : Sp := spL2 (fun b m => BegC b ∧ 1 ≤ m ∧ m ≤ 4) (fun b m => (longerL b m).map V.int)
def rd_longer (K : PySem.W.Frag) : TS :=
      (tSeq (tDrop (tCall (sp_check_beginning) [] E0 (tCons (tVar 0) tNil)))
      (tSeq (tDrop (tCall (sp_check_count) [] E0 (tCons (tVar 1) (tCons (tC (.int 1)) (tCons (tC (.int 4)) tNil)))))
      (tSeq (tAsg (tOp rSubI (tVar 1) (tCall (sp_size_of) [] E0 (tCons (tVar 0) tNil))) (gName 2))
      (tSeq (tIfS (tTest (tOp rLtI (tVar 2) (tC (.int 0))))
        (tRet (tLst tNil))
        tNext)
      (tRet (tLstRg (tRg2 (tOp rMulX (tVar 0) (tCall (sp_ten_to) [] E0 (tCons (tVar 2) tNil))) (tOp rMulX (tOp rAddI (tVar 0) (tC (.int 1))) (tCall (sp_ten_to) [] E0 (tCons (tVar 2) tNil))))))))))
def N_longer : List Str := ["beginning", "many", "more"]
theorem tenI_le {k : Int} {n : Nat} (h : k ≤ n) : tenI k ≤ 10 ^ n := by unfold tenI; exact pow_lt (by omega)
theorem pure_longer {K : PySem.W.Frag} (vs : List V) (H : Hp) (Q : VK) (E : XK) (h : sp_longer vs H Q E) : rd_longer K { nx := fun _ H' => Q .non H', rt := Q } (start N_longer vs) H := by
  match vs, h with
  | [a, b], h =>
    obtain ⟨n, m, rfl, rfl, ⟨hc, hm⟩, q⟩ := h
    have hp := size_pos n
    unfold rd_longer
    refine q_drop (v := .non) (by walk_at "ev"; exact hc) fun H1 e1 => ?_
    refine q_drop (v := .non) (by walk_at "ev"; exact hm) fun H2 e2 => ?_
    refine q_asg (v := .int (m - size n)) (by walk_at "ev"; exact hc.txt) fun H3 e3 => ?_
    have e13 := (e1.trans e2).trans e3
    refine q_if1 (b := decide (m - size n < 0)) (by walk_at "ev") (fun hb H4 e4 => ?_) (fun hb H4 e4 => ?_)
    · have hlt : m < size n := by have := of_decide_eq_true hb; omega
      refine s_retL (el_lst (vs := []) (by walk_at "ev") (by decide)) fun p H5 hp e5 h5 => q p H5 (fresh_back (e13.trans e4) hp) ((e13.trans e4).trans e5) ?_
      rw [h5]; dsimp only; unfold longerL; rw [if_pos hlt]; rfl
    · have hge : ¬ m < size n := fun h => by rw [decide_eq_true (show m - size n < 0 by omega)] at hb; cases hb
      have ht := tenI_pos (m - size n)
      have ht2 : tenI (m - size n) ≤ 10 ^ 3 := tenI_le (by omega)
      have h1 := hc.lo
      have h2 := hc.hi
      have hm1 : n * tenI (m - size n) ≤ 9999 * 1000 := Int.mul_le_mul h2 ht2 (by omega) (by decide)
      have hm0 : 0 ≤ n * tenI (m - size n) := Int.mul_nonneg (by omega) (by omega)
      have hm2 : (n + 1) * tenI (m - size n) = n * tenI (m - size n) + tenI (m - size n) := by rw [Int.add_mul, Int.one_mul]
      refine s_retL (el_rg2 (a := n * tenI (m - size n)) (b := (n + 1) * tenI (m - size n)) ?_ ?_ (RgOk.of_le hm0 (by omega) (by omega) (by omega))) fun p H5 hp e5 h5 => q p H5 (fresh_back (e13.trans e4) hp) ((e13.trans e4).trans e5) ?_
      · walk_at "ev"
        · omega
        · exact mulOk_l (by omega) (by omega)
      · walk_at "ev"
        · omega
        · exact mulOk_l (by omega) (by omega)
      · rw [h5]; dsimp only; unfold longerL rgV; rw [if_neg hge, List.map_map]; rfl
end FD

namespace FD
open PySem PySem.Spec PyProof.Rows L2 Evl TL
local macro_rules | `(tactic| walk_at "ev") => `(tactic| repeat' (first | (with_reducible exact ev_c) | ((with_reducible apply ev_var); rfl) | (with_reducible exact ea_nil) | (with_reducible apply ea_cons) | (with_reducible apply ev_op) | (with_reducible exact rv_I0) | (with_reducible apply rv_I) | (with_reducible exact rv_eqI) | (with_reducible exact rv_neI) | (with_reducible exact rv_eqS) | (with_reducible apply ev_ok) | (with_reducible apply ev_cb) | (with_reducible apply spv_I1) | (with_reducible apply spv_I2) | (with_reducible apply spv_I3) | (with_reducible apply et_test) | (with_reducible apply et_B) | (with_reducible apply et_not) | (with_reducible apply ev_notV) | (with_reducible apply ev_un) | (with_reducible exact ru_negI) | (with_reducible exact rc_max2) | (with_reducible exact rc_min2) | (with_reducible exact rv_isB) | (with_reducible exact rv_notB) | (with_reducible exact rv_isN) | (with_reducible exact rv_notN) | (with_reducible apply ev_chainI) | (with_reducible exact rc_isiI) | (with_reducible exact rc_isiB)))
/-! ### the law's own plain helpers -/
abbrev sp_law_true : Sp := sp2 fun a b H Q => ∃ x y : Bool, a = .bl x ∧ b = .bl y ∧ ∀ H', Ex H H' → Q (.bl (x == y)) H'
theorem spv_true {x y : Bool} {H : Hp} : SpV sp_law_true [.bl x, .bl y] H (.bl (x == y)) := fun H1 _ Q q _ => ⟨x, y, rfl, rfl, q⟩
section
variable {K : PySem.W.Frag} {σ : L2.St} {H : Hp} {x y : Bool}
theorem rc_isiBB : RC (rIsi K) [.bl x, .ty "bool"] H (.bl true) := fun H1 _ Q q => ⟨.bl x, .ty "bool", .type "bool", .type "bool", true, rfl, .ty _, .base (.bl x), kit_ty (by decide +kernel), q H1 (Ex.refl _)⟩
theorem rv_eqB : RV rEq (.bl x) (.bl y) H (.bl (x == y)) := fun H1 _ _ q => ⟨rfl, by
  have e : (x == y) = decide (V.bl x = V.bl y) := by cases x <;> cases y <;> decide
  rw [← e]
  exact q H1 (Ex.refl H1)⟩
end
def rd_law_true (K : PySem.W.Frag) : TS :=
      (tRet (tAndV (tCB (rIsi K) (tCons (tVar 0) (tCons (tC (.ty "bool")) tNil))) (tOp rEq (tVar 0) (tVar 1))))
def N_law_true : List Str := ["value", "expected"]
theorem pure_law_true {K : PySem.W.Frag} (vs : List V) (H : Hp) (Q : VK) (E : XK) (h : sp_law_true vs H Q E) : rd_law_true K { nx := fun _ H' => Q .non H', rt := Q } (start N_law_true vs) H := by
  match vs, h with
  | [a, b], h =>
    obtain ⟨x, y, rfl, rfl, q⟩ := h
    unfold rd_law_true
    exact s_ret (v := .bl (x == y)) (ev_is (ev_andV (a := true) (b := x == y) (ev_cb (ea_cons (ev_var rfl) (ea_cons ev_c ea_nil)) rc_isiBB) fun _ => ev_op (ev_var rfl) (ev_var rfl) rv_eqB) (by simp)) q
abbrev sp_law_ten : Sp := spI1 (fun n => 0 ≤ n ∧ n ≤ 1000) (fun n => .int (tenI n))
def rd_law_ten (K : PySem.W.Frag) : TS :=
      (tSeq (tAsg (tC (.int 1)) (gName 1))
      (tSeq (tFor (iRng1 (tCons (tVar 0) tNil)) (gName 2)
        (tAsg (tOp rMulX (tVar 1) (tC (.int 10))) (gName 1)))
      (tRet (tVar 1))))
def N_law_ten : List Str := ["exponent", "found", "turn"]
theorem pure_law_ten {K : PySem.W.Frag} (vs : List V) (H : Hp) (Q : VK) (E : XK) (h : sp_law_ten vs H Q E) : rd_law_ten K { nx := fun _ H' => Q .non H', rt := Q } (start N_law_ten vs) H := by
  match vs, h with
  | [a], h =>
    obtain ⟨n, rfl, hc, q⟩ := h
    unfold rd_law_ten
    refine q_asg (v := .int 1) (by walk_at "ev") fun H1 e1 => ?_
    refine q_forR1 (n := n) (by walk_at "ev") ⟨hc.1, by omega⟩ (fun i σ' H' => ∃ y, σ' = [some (.int n), some (.int (10 ^ i)), y] ∧ Ex H H') (fun H2 e2 => ⟨none, rfl, e1.trans e2⟩) (fun i σ' H' hi hp => ?_) (fun σ' H' hp => ?_)
    · obtain ⟨y, rfl, e⟩ := hp
      refine s_asg (v := .int (10 ^ i * 10)) (by walk_at "ev"; exact mulOk_r (by decide) (by decide)) fun H2 e2 => ?_
      exact ⟨_, by rw [← pow_i]; rfl, e.trans e2⟩
    · obtain ⟨y, rfl, e⟩ := hp
      exact s_ret (v := .int (tenI n)) (ev_var rfl) fun H2 e2 => q H2 (e.trans e2)
abbrev sp_law_size : Sp := spI1 (fun n => 1 ≤ n) (fun n => .int (size n))
def rd_law_size (K : PySem.W.Frag) : TS :=
      (tSeq (tPar 1 2 (tCons (tC (.int 0)) (tCons (tVar 0) tNil)))
      (tSeq (tWhile (tTest (tOp rGtI (tVar 2) (tC (.int 0))))
        (tPar 1 2 (tCons (tOp rAddI (tVar 1) (tC (.int 1))) (tCons (tOp rDivW (tVar 2) (tC (.int 10))) tNil))))
      (tRet (tVar 1))))
def N_law_size : List Str := ["number", "found", "left"]
theorem size_step {n : Int} (h : 10 ≤ n) : size n = size (n / 10) + 1 := by
  unfold size
  rw [show (n / 10).toNat = n.toNat / 10 by omega, sz_step (n := n.toNat) (by omega)]
  omega
theorem size_one {n : Int} (h0 : 0 ≤ n) (h : n < 10) : size n = 1 := by
  unfold size
  rw [sz_lt (n := n.toNat) (by omega)]
  rfl
theorem div10 (i : Int) : CDivW i 10 := ⟨by decide, by decide⟩
theorem pure_law_size {K : PySem.W.Frag} (vs : List V) (H : Hp) (Q : VK) (E : XK) (h : sp_law_size vs H Q E) : rd_law_size K { nx := fun _ H' => Q .non H', rt := Q } (start N_law_size vs) H := by
  match vs, h with
  | [a], h =>
    obtain ⟨n, rfl, hc, q⟩ := h
    unfold rd_law_size
    refine q_par (v := .int 0) (w := .int n) (by walk_at "ev") fun H1 e1 => ?_
    refine q_while (fun m σ' H' => ∃ f l : Int, σ' = [some (.int n), some (.int f), some (.int l)] ∧ m = l.toNat ∧ 0 ≤ l ∧ (l = 0 → f = size n) ∧ (0 < l → f + size l = size n) ∧ Ex H H') n.toNat ⟨0, n, rfl, rfl, by omega, fun h => by omega, fun _ => by omega, e1⟩ fun m σ' H' hw => ?_
    obtain ⟨f, l, rfl, rfl, hl, h0, h1, e⟩ := hw
    refine ⟨decide (0 < l), by walk_at "ev", fun hb H2 e2 => ?_, fun hb H2 e2 => ?_⟩
    · have hl1 : 0 < l := of_decide_eq_true hb
      refine ⟨_, fun σ2 H3 hN => hN, ?_⟩
      refine s_par (v := .int (f + 1)) (w := .int (l / 10)) (by walk_at "ev"; exact div10 _) fun H3 e3 => ?_
      refine ⟨(l / 10).toNat, by omega, f + 1, l / 10, rfl, rfl, by omega, fun hz => ?_, fun hz => ?_, (e.trans e2).trans e3⟩
      · have := h1 hl1
        rw [size_one (n := l) (by omega) (by omega)] at this
        omega
      · have := h1 hl1
        rw [size_step (n := l) (by omega)] at this
        omega
    · have hl0 : l = 0 := by
        have : ¬ 0 < l := fun h => by rw [decide_eq_true h] at hb; cases hb
        omega
      exact s_ret (v := .int f) (by walk_at "ev") fun H3 e3 => by rw [h0 hl0]; exact q H3 ((e.trans e2).trans e3)
/-- an int from 1 on with at most 1000 digits -/
structure BigC (n : Int) : Prop where
  lo : 1 ≤ n
  hi : n < 10 ^ 1000
theorem NumC.big {n : Int} (h : NumC n) : BigC n := ⟨h.lo, Int.lt_of_lt_of_le h.hi (pow_lt (by decide))⟩
theorem BegC.big {n : Int} (h : BegC n) : BigC n := h.num.big
theorem BigC.of {n : Int} (h0 : 1 ≤ n) (h : n ≤ 1000000000000000000) : BigC n := ⟨h0, Int.lt_of_le_of_lt h (Int.lt_of_lt_of_le (b := 10 ^ 19) (by decide) (pow_lt (by decide)))⟩
abbrev sp_law_first : Sp := spI2 (fun n m => BigC n ∧ 0 ≤ m) (fun n m => .int (first n m))
def rd_law_first (K : PySem.W.Frag) : TS :=
      (tSeq (tAsg (tCall (sp_law_size) [] E0 (tCons (tVar 0) tNil)) (gName 2))
      (tRet (tIf (tTest (tOp rGtI (tVar 2) (tVar 1))) (tOp rDivW (tVar 0) (tCall (sp_law_ten) [] E0 (tCons (tOp rSubI (tVar 2) (tVar 1)) tNil))) (tVar 0))))
def N_law_first : List Str := ["number", "many", "size"]
theorem ten_log {k : Int} (h : k ≤ 1000) : (tenI k).natAbs.log2 < 9000 := by
  rw [tenI_nat]
  have hp := ten_pos k.toNat
  rw [Int.natAbs_natCast, Nat.log2_lt (by omega)]
  exact Nat.lt_of_le_of_lt (Nat.pow_le_pow_right (n := 10) (by decide) (show k.toNat ≤ 1000 by omega)) (by decide +kernel)
theorem div_ten (i : Int) {k : Int} (h : k ≤ 1000) : CDivW i (tenI k) := ⟨tenI_pos k, ten_log h⟩
theorem pure_law_first {K : PySem.W.Frag} (vs : List V) (H : Hp) (Q : VK) (E : XK) (h : sp_law_first vs H Q E) : rd_law_first K { nx := fun _ H' => Q .non H', rt := Q } (start N_law_first vs) H := by
  match vs, h with
  | [a, b], h =>
    obtain ⟨n, m, rfl, rfl, ⟨hB, hm⟩, q⟩ := h
    have hc := hB.lo
    have hs : size n ≤ 1000 := (size_le_iff (by omega) 999).mpr hB.hi
    unfold rd_law_first
    refine q_asg (v := .int (size n)) (by walk_at "ev"; exact hc) fun H1 e1 => ?_
    refine s_ret (v := .int (first n m)) (ev_if (b := decide (m < size n)) (by walk_at "ev") (fun hb => ?_) (fun hb => ?_)) fun H2 e2 => q H2 (e1.trans e2)
    · have hlt : m < size n := of_decide_eq_true hb
      refine ev_is (v := .int (n / tenI (size n - m))) (by
        walk_at "ev"
        · show 0 ≤ size n - m ∧ size n - m ≤ 1000
          omega
        · exact div_ten _ (by omega)) ?_
      unfold first; rw [if_pos hlt]
    · have hge : ¬ m < size n := fun h => by rw [decide_eq_true h] at hb; cases hb
      refine ev_is (v := .int n) (by walk_at "ev") ?_
      unfold first; rw [if_neg hge]
abbrev sp_law_begins : Sp := spI2 (fun n b => BigC n ∧ 1 ≤ b) (fun n b => .bl (begins n b))
def rd_law_begins (K : PySem.W.Frag) : TS :=
      (tSeq (tAsg (tCall (sp_law_size) [] E0 (tCons (tVar 1) tNil)) (gName 2))
      (tRet (tAndV (tOp rGeI (tCall (sp_law_size) [] E0 (tCons (tVar 0) tNil)) (tVar 2)) (tOp rEq (tCall (sp_law_first) [] E0 (tCons (tVar 0) (tCons (tVar 2) tNil))) (tVar 1)))))
def N_law_begins : List Str := ["number", "beginning", "size"]
theorem pure_law_begins {K : PySem.W.Frag} (vs : List V) (H : Hp) (Q : VK) (E : XK) (h : sp_law_begins vs H Q E) : rd_law_begins K { nx := fun _ H' => Q .non H', rt := Q } (start N_law_begins vs) H := by
  match vs, h with
  | [a, b], h =>
    obtain ⟨n, m, rfl, rfl, ⟨hB, hm⟩, q⟩ := h
    have hc := hB.lo
    have hp := size_pos m
    unfold rd_law_begins
    refine q_asg (v := .int (size m)) (by walk_at "ev"; exact hm) fun H1 e1 => ?_
    refine s_ret (v := .bl (begins n m)) (ev_andV (by walk_at "ev"; exact hc) fun _ => by
      walk_at "ev"
      exact ⟨hB, by omega⟩) fun H2 e2 => q H2 (e1.trans e2)
end FD

namespace FD
open PySem PySem.Spec PyProof.Rows L2 Evl TL
local macro_rules | `(tactic| walk_at "ev") => `(tactic| repeat' (first | (with_reducible exact ev_c) | ((with_reducible apply ev_var); rfl) | (with_reducible exact ea_nil) | (with_reducible apply ea_cons) | (with_reducible apply ev_op) | (with_reducible exact rv_I0) | (with_reducible apply rv_I) | (with_reducible exact rv_eqI) | (with_reducible exact rv_neI) | (with_reducible exact rv_eqS) | (with_reducible apply ev_ok) | (with_reducible apply ev_cb) | (with_reducible apply spv_I1) | (with_reducible apply spv_I2) | (with_reducible apply spv_I3) | (with_reducible apply et_test) | (with_reducible apply et_B) | (with_reducible apply et_not) | (with_reducible apply ev_notV) | (with_reducible apply ev_un) | (with_reducible exact ru_negI) | (with_reducible exact rc_max2) | (with_reducible exact rc_min2) | (with_reducible exact rv_isB) | (with_reducible exact rv_notB) | (with_reducible exact rv_isN) | (with_reducible exact rv_notN) | (with_reducible apply ev_chainI) | (with_reducible exact rc_isiI) | (with_reducible exact rc_isiB)))
/-! ### draws: a list that holds the numbers' list and a counter -/
def Dr (d nn : Addr) (H : Hp) : Prop := ∃ (ns : List Int) (c : Int), H d = some (.lst [.ref nn, .int c]) ∧ H nn = some (.lst (ns.map V.int)) ∧ 0 < ns.length ∧ ns.length ≤ 1000
/-- all but the draws' two lists stays, and these are as they must be -/
structure Go (d nn : Addr) (H H' : Hp) : Prop where
  dr : Dr d nn H'
  st : ∀ a o, a ≠ d → a ≠ nn → H a = some o → H' a = some o
  fr : ∀ a, H' a = none → H a = none
theorem Dr.ne {d nn : Addr} {H : Hp} (h : Dr d nn H) : d ≠ nn := by
  obtain ⟨ns, c, h1, h2, hl, _⟩ := h
  refine ne_of h1 h2 fun e => ?_
  injection e with e
  cases ns with
  | nil => simp at hl
  | cons x r => cases e
theorem Dr.ex {d nn : Addr} {H H' : Hp} (h : Dr d nn H) (e : Ex H H') : Dr d nn H' := by
  obtain ⟨ns, c, h1, h2, h3⟩ := h
  exact ⟨ns, c, e _ _ h1, e _ _ h2, h3⟩
theorem Go.of {d nn : Addr} {H H' : Hp} (h : Dr d nn H) (e : Ex H H') : Go d nn H H' := ⟨h.ex e, fun a o _ _ q => e a o q, fun _ q => fresh_back e q⟩
theorem Go.refl {d nn : Addr} {H : Hp} (h : Dr d nn H) : Go d nn H H := .of h (Ex.refl _)
theorem Go.trans {d nn : Addr} {H H1 H2 : Hp} (a : Go d nn H H1) (b : Go d nn H1 H2) : Go d nn H H2 := ⟨b.dr, fun x o h1 h2 q => b.st x o h1 h2 (a.st x o h1 h2 q), fun x q => a.fr x (b.fr x q)⟩
theorem Go.ex {d nn : Addr} {H H1 H2 : Hp} (a : Go d nn H H1) (e : Ex H1 H2) : Go d nn H H2 := a.trans (.of a.dr e)
theorem Go.nd {d nn p : Addr} {H H1 : Hp} (a : Go d nn H H1) (hp : H1 p = none) : p ≠ d ∧ p ≠ nn := by
  obtain ⟨ns, c, h1, h2, _⟩ := a.dr
  exact ⟨(ne_of_none h1 hp).symm, (ne_of_none h2 hp).symm⟩
abbrev LimC (L : Int) : Prop := 0 < L ∧ L.natAbs.log2 < 9000
abbrev sp_law_draw : Sp := sp2 fun a b H Q => ∃ d nn L, a = .ref d ∧ b = .int L ∧ LimC L ∧ Dr d nn H ∧ ∀ r H', 0 ≤ r → r < L → Go d nn H H' → Q (.int r) H'
def rd_law_draw (K : PySem.W.Frag) : TS :=
      (tSeq (tAsg (tOp (rIxL K) (tVar 0) (tC (.int 0))) (gName 2))
      (tSeq (tAsg (tOp rAddI (tOp (rIxL K) (tVar 0) (tC (.int 1))) (tC (.int 1))) (gSub (tVar 0) (tC (.int 1)) rSetL))
      (tSeq (tAsg (tOp rModI (tOp (rIxL K) (tVar 0) (tC (.int 1))) (tCB (rLenSeq K) (tCons (tVar 2) tNil))) (gName 3))
      (tSeq (tAsg (tOp (rIxL K) (tVar 2) (tVar 3)) (gName 4))
      (tSeq (tIfS (tTest (tOp rGeI (tVar 4) (tC (.int 1000000000000000000))))
        (tSeq (tAsg (tOp rDivW (tVar 4) (tVar 1)) (gSub (tVar 2) (tVar 3) rSetL))
      (tRet (tOp rModI (tVar 4) (tVar 1))))
        tNext)
      (tSeq (tAsg (tOp rModI (tOp rAddI (tVar 4) (tOp rMulX (tC (.int 104729)) (tOp (rIxL K) (tVar 0) (tC (.int 1))))) (tC (.int 4294967291))) (gName 5))
      (tSeq (tAsg (tOp rModI (tOp rPowI (tVar 5) (tC (.int 5))) (tC (.int 4294967279))) (gName 5))
      (tRet (tOp rModI (tOp rDivW (tOp rModI (tOp rAddI (tOp rMulX (tOp rDivW (tVar 5) (tC (.int 64))) (tC (.int 69621))) (tVar 5)) (tC (.int 4294967231))) (tC (.int 8))) (tVar 1))))))))))
def N_law_draw : List Str := ["draws", "limit", "numbers", "at", "cell", "mixed"]
section
variable {σ : L2.St} {H : Hp} {D : Ends} {tu : TS} {ta tb te : TE} {v : V}
theorem q_setL {l : Addr} {xs : List V} {j : Nat} (hl : H l = some (.lst xs)) (h : Ev te σ H v) (ho : Ev ta σ H (.ref l)) (hi : Ev tb σ H (.int (j : Int))) (hj : j < xs.length) (k : ∀ H1, Ex H H1 → tu D σ (upd H1 l (.lst (xs.set j v)))) :
    tSeq (tAsg te (gSub ta tb rSetL)) tu D σ H := s_setL hl h ho hi hj k
end
theorem mod_at {ns : List Int} {c : Int} (hl : 0 < ns.length) : ∃ z, atI (ns.map V.int) (c % (ns.map V.int).length) = some (.int z) ∧ ∃ j : Nat, (j : Int) = c % (ns.map V.int).length ∧ j < ns.length := by
  rw [List.length_map]
  have h0 : 0 ≤ c % (ns.length : Int) := Int.emod_nonneg _ (by omega)
  have h1 : c % (ns.length : Int) < ns.length := Int.emod_lt_of_pos _ (by omega)
  obtain ⟨j, hj⟩ := Int.eq_ofNat_of_zero_le h0
  have hjl : j < ns.length := by omega
  refine ⟨ns[j], ?_, j, hj.symm, hjl⟩
  rw [hj]
  apply atI_nat
  rw [List.getElem?_map, List.getElem?_eq_getElem hjl]
  rfl
theorem pow5 {z : Int} (h0 : 0 ≤ z) (h : z < 4294967291) : CPow z 5 := ⟨by decide, by decide, by omega⟩
theorem pure_law_draw {K : PySem.W.Frag} (vs : List V) (H : Hp) (Q : VK) (E : XK) (h : sp_law_draw vs H Q E) : rd_law_draw K { nx := fun _ H' => Q .non H', rt := Q } (start N_law_draw vs) H := by
  match vs, h with
  | [a, b], h =>
    obtain ⟨d, nn, L, rfl, rfl, hL, hD, q⟩ := h
    have hne := hD.ne
    obtain ⟨ns, c, hd, hn, hl, hl2⟩ := hD
    unfold rd_law_draw
    refine q_asg (v := .ref nn) (ev_op (ev_var rfl) ev_c (rv_ixL (sq_of hd) (atI_nat (j := 0) rfl))) fun H1 e1 => ?_
    have hd1 := e1 _ _ hd
    refine q_setL (l := d) (j := 1) hd1 (v := .int (c + 1)) (ev_op (ev_op (ev_var rfl) ev_c (rv_ixL (sq_of hd1) (atI_nat (j := 1) rfl))) ev_c rv_I0) (ev_var rfl) ev_c (by simp) fun H2 e2 => ?_
    have hd3 : (upd H2 d (.lst [.ref nn, .int (c + 1)])) d = some (.lst [.ref nn, .int (c + 1)]) := upd_same
    have hn3 : (upd H2 d (.lst [.ref nn, .int (c + 1)])) nn = some (.lst (ns.map V.int)) := by rw [upd_ne hne.symm]; exact e2 _ _ (e1 _ _ hn)
    obtain ⟨z, hz, j, hj, hjl⟩ := mod_at (ns := ns) (c := c + 1) hl
    refine q_asg (v := .int ((c + 1) % (ns.map V.int).length)) (ev_op (ev_op (ev_var rfl) ev_c (rv_ixL (sq_of hd3) (atI_nat (j := 1) rfl))) (ev_cb (ea_cons (ev_var rfl) ea_nil) (rc_lenL (sq_of hn3))) (rv_I (by rw [List.length_map]; omega))) fun H3 e3 => ?_
    have hn4 := e3 _ _ hn3
    have hd4 := e3 _ _ hd3
    refine q_asg (v := .int z) (ev_op (ev_var rfl) (ev_var rfl) (rv_ixL (sq_of hn4) hz)) fun H4 e4 => ?_
    have keep : ∀ a o, a ≠ d → a ≠ nn → H a = some o → H4 a = some o := fun a o h1 _ hq => e4 _ _ (e3 _ _ (by rw [upd_ne h1]; exact e2 _ _ (e1 _ _ hq)))
    have fresh : ∀ a, H4 a = none → H a = none := fun a hq => by
      have h3 := fresh_back (e3.trans e4) hq
      have hne2 : a ≠ d := fun e => by rw [e, upd_same] at h3; cases h3
      rw [upd_ne hne2] at h3
      exact fresh_back (e1.trans e2) h3
    refine q_if1 (b := decide (1000000000000000000 ≤ z)) (by walk_at "ev") (fun hb H5 e5 => ?_) (fun hb H5 e5 => ?_)
    · have hn6 := e5 _ _ (e4 _ _ hn4)
      refine q_setL (l := nn) (j := j) hn6 (v := .int (z / L)) (by walk_at "ev"; exact hL) (ev_var rfl) (by rw [hj]; exact ev_var rfl) (by rw [List.length_map]; exact hjl) fun H6 e6 => ?_
      refine s_ret (v := .int (z % L)) (by walk_at "ev"; exact hL.1) fun H7 e7 => ?_
      have k6 := (e4.trans e5).trans e6
      refine q _ _ (Int.emod_nonneg _ (by have := hL.1; omega)) (Int.emod_lt_of_pos _ hL.1) ⟨⟨ns.set j (z / L), c + 1, ?_, ?_, by rw [List.length_set]; exact hl, by rw [List.length_set]; exact hl2⟩, fun a o h1 h2 hq => ?_, fun a hq => ?_⟩
      · apply e7; rw [upd_ne hne]; exact k6 _ _ hd4
      · apply e7; rw [upd_same, List.map_set]
      · apply e7; rw [upd_ne h2]; exact (e5.trans e6) _ _ (keep a o h1 h2 hq)
      · have h8 := fresh_back e7 hq
        have hne2 : a ≠ nn := fun e => by rw [e, upd_same] at h8; cases h8
        rw [upd_ne hne2] at h8
        exact fresh a (fresh_back (e5.trans e6) h8)
    · have hd6 := e5 _ _ (e4 _ _ hd4)
      have b1 : ∀ x : Int, 0 ≤ x % 4294967291 ∧ x % 4294967291 < 4294967291 := fun x => by omega
      refine q_asg (v := .int ((z + 104729 * (c + 1)) % 4294967291)) (ev_op (ev_op (ev_var rfl) (ev_op ev_c (ev_op (ev_var rfl) ev_c (rv_ixL (sq_of hd6) (atI_nat (j := 1) rfl))) (rv_I (mulOk_l (by decide) (by decide)))) rv_I0) ev_c (rv_I (by decide))) fun H6 e6 => ?_
      have hb1 := b1 (z + 104729 * (c + 1))
      generalize (z + 104729 * (c + 1)) % 4294967291 = m1 at hb1
      refine q_asg (v := .int (m1 ^ (5 : Int).toNat % 4294967279)) (by
        walk_at "ev"
        · exact pow5 hb1.1 hb1.2
        · decide) fun H7 e7 => ?_
      generalize m1 ^ (5 : Int).toNat % 4294967279 = m2
      refine s_ret (v := .int ((m2 / 64 * 69621 + m2) % 4294967231 / 8 % L)) (by
        walk_at "ev"
        · exact ⟨by decide, by decide⟩
        · exact mulOk_r (by decide) (by decide)
        · decide
        · exact ⟨by decide, by decide⟩
        · exact hL.1) fun H8 e8 => ?_
      have k8 := ((e5.trans e6).trans e7).trans e8
      exact q _ _ (Int.emod_nonneg _ (by have := hL.1; omega)) (Int.emod_lt_of_pos _ hL.1) ⟨⟨ns, c + 1, k8 _ _ (e4 _ _ hd4), k8 _ _ (e4 _ _ hn4), hl, hl2⟩, fun a o h1 h2 hq => k8 _ _ (keep a o h1 h2 hq), fun a hq => fresh a (fresh_back k8 hq)⟩
/-! ### expressions that draw -/
/-- it gives some value of which P holds; draws may have gone on -/
def EvD (d nn : Addr) (te : TE) (σ : L2.St) (H : Hp) (P : V → Prop) : Prop := ∀ H1, Go d nn H H1 → ∀ Q : VK, (∀ v H2, P v → Go d nn H1 H2 → Q v H2) → te σ H1 Q
def EvDA (d nn : Addr) (ta : TA) (σ : L2.St) (H : Hp) (P : List V → Prop) : Prop := ∀ H1, Go d nn H H1 → ∀ Q : List V → Hp → Prop, (∀ vs H2, P vs → Go d nn H1 H2 → Q vs H2) → ta σ H1 Q
/-- a new list of such values -/
def EvDL (d nn : Addr) (te : TE) (σ : L2.St) (H : Hp) (P : List V → Prop) : Prop := ∀ H1, Go d nn H H1 → ∀ Q : VK, (∀ p xs H2, P xs → H1 p = none → Go d nn H1 H2 → H2 p = some (.lst xs) → p ≠ d → p ≠ nn → Q (.ref p) H2) → te σ H1 Q
section
variable {d nn : Addr} {σ : L2.St} {H : Hp} {ta tb te : TE} {tr : TA} {v : V} {E : XK}
theorem ed_ev (h : ∀ H1, Go d nn H H1 → Ev te σ H1 v) : EvD d nn te σ H (fun x => x = v) := fun H1 g Q q => h H1 g H1 (Ex.refl _) Q fun H2 e2 => q v H2 rfl (.of g.dr e2)
theorem ed_c : EvD d nn (tC v) σ H (fun x => x = v) := ed_ev fun _ _ => ev_c
theorem ed_mono {P P' : V → Prop} (h : EvD d nn te σ H P) (k : ∀ v, P v → P' v) : EvD d nn te σ H P' := fun H1 g Q q => h H1 g Q fun v H2 hv g2 => q v H2 (k v hv) g2
theorem ed_draw {P : V → Prop} (h : EvD d nn te σ H fun x => ∃ L, x = .int L ∧ LimC L ∧ ∀ r, 0 ≤ r → r < L → P (.int r)) {i : Nat} (hi : σ[i]? = some (some (.ref d))) : EvD d nn (tCall sp_law_draw [] E (tCons (tVar i) (tCons te tNil))) σ H P := fun H1 g Q q =>
  ⟨.ref d, hi, h H1 g _ fun x H2 hx g2 => by
    obtain ⟨L, rfl, hL, k⟩ := hx
    exact ⟨d, nn, L, rfl, rfl, hL, g2.dr, fun r H3 h0 h1 g3 => q _ H3 (k r h0 h1) (g2.trans g3)⟩⟩
theorem ed_op {r : R2} {P1 P2 P : V → Prop} (ha : EvD d nn ta σ H P1) (hb : EvD d nn tb σ H P2) (hr : ∀ x y H', P1 x → P2 y → ∃ z, P z ∧ RV r x y H' z) : EvD d nn (tOp r ta tb) σ H P := fun H1 g Q q =>
  ha H1 g _ fun x H2 hx g2 => hb H2 (g.trans g2) _ fun y H3 hy g3 => by
    obtain ⟨z, hz, hv⟩ := hr x y H3 hx hy
    exact hv H3 (Ex.refl _) Q fun H4 e4 => q z H4 hz ((g2.trans g3).ex e4)
theorem eda_nil : EvDA d nn tNil σ H (fun vs => vs = []) := fun H1 g Q q => q [] H1 rfl (.refl g.dr)
theorem eda_cons {P : V → Prop} {R : List V → Prop} (ha : EvD d nn ta σ H P) (hr : EvDA d nn tr σ H R) : EvDA d nn (tCons ta tr) σ H (fun vs => ∃ x r, vs = x :: r ∧ P x ∧ R r) := fun H1 g Q q =>
  ha H1 g _ fun x H2 hx g2 => hr H2 (g.trans g2) _ fun vs H3 hv g3 => q _ H3 ⟨x, vs, rfl, hx, hv⟩ (g2.trans g3)
theorem edl_lst {ta : TA} {P : List V → Prop} (h : EvDA d nn ta σ H P) (hl : ∀ vs, P vs → vs.length ≤ 100000) : EvDL d nn (tLst ta) σ H P := fun H1 g Q q =>
  h H1 g _ fun vs H2 hv g2 => ⟨sz_of (hl vs hv), fun p hp => q p vs _ hv (g2.fr _ hp) (g2.ex (Ex.new hp)) upd_same (Go.nd g2 hp).1 (Go.nd g2 hp).2⟩
end
abbrev sp_law_pick : Sp := sp2 fun a b H Q => ∃ d nn l xs, a = .ref d ∧ b = .ref l ∧ Dr d nn H ∧ H l = some (.lst xs) ∧ l ≠ d ∧ l ≠ nn ∧ 0 < xs.length ∧ xs.length ≤ 100000 ∧ ∀ x H', x ∈ xs → Go d nn H H' → Q x H'
def rd_law_pick (K : PySem.W.Frag) : TS :=
      (tRet (tOp (rIxL K) (tVar 1) (tCall (sp_law_draw) [] E0 (tCons (tVar 0) (tCons (tCB (rLenSeq K) (tCons (tVar 1) tNil)) tNil)))))
def N_law_pick : List Str := ["draws", "choices"]
theorem lim_of {L : Int} (h : 0 < L) (h2 : L < 10 ^ 1000) : LimC L := ⟨h, by
  rw [Nat.log2_lt (by omega)]
  have e : ((10 : Int) ^ 1000) = ((10 ^ 1000 : Nat) : Int) := (Int.natCast_pow 10 1000).symm
  rw [e] at h2
  exact Nat.lt_of_lt_of_le (show L.natAbs < 10 ^ 1000 by omega) (by decide +kernel)⟩
theorem lim_small {L : Int} (h : 0 < L) (h2 : L ≤ 1000000000000) : LimC L := lim_of h (Int.lt_of_le_of_lt h2 (Int.lt_of_lt_of_le (b := 10 ^ 13) (by decide) (pow_lt (by decide))))
theorem pure_law_pick {K : PySem.W.Frag} (vs : List V) (H : Hp) (Q : VK) (E : XK) (h : sp_law_pick vs H Q E) : rd_law_pick K { nx := fun _ H' => Q .non H', rt := Q } (start N_law_pick vs) H := by
  match vs, h with
  | [a, b], h =>
    obtain ⟨d, nn, l, xs, rfl, rfl, hD, hl, n1, n2, h0, h1, q⟩ := h
    unfold rd_law_pick
    refine ⟨.ref l, rfl, .ref d, rfl, .ref l, rfl, l, xs, rfl, .inl (sq_of hl), d, nn, (xs.length : Int), rfl, rfl, lim_small (by omega) (by omega), hD, fun r H' r0 r1 g => ?_⟩
    obtain ⟨j, rfl⟩ := Int.eq_ofNat_of_zero_le r0
    have hj : j < xs.length := by omega
    exact ⟨l, xs, _, xs[j], rfl, rfl, sq_of (g.st _ _ n1 n2 hl), atI_nat (List.getElem?_eq_getElem hj), q _ _ (List.getElem_mem hj) g⟩
section
variable {d nn : Addr} {σ : L2.St} {H : Hp} {ta tb te : TE} {tr : TA} {v : V} {E : XK}
theorem ed_pick {P : List V → Prop} {P' : V → Prop} {i : Nat} (hi : σ[i]? = some (some (.ref d))) (h : EvDL d nn te σ H P) (hl : ∀ xs, P xs → 0 < xs.length ∧ xs.length ≤ 100000 ∧ ∀ x ∈ xs, P' x) : EvD d nn (tCall sp_law_pick [] E (tCons (tVar i) (tCons te tNil))) σ H P' := fun H1 g Q q =>
  ⟨.ref d, hi, h H1 g _ fun p xs H2 hx hp g2 h2 n1 n2 => ⟨d, nn, p, xs, rfl, rfl, g2.dr, h2, n1, n2, (hl xs hx).1, (hl xs hx).2.1, fun x H3 hm g3 => q x H3 ((hl xs hx).2.2 x hm) (g2.trans g3)⟩⟩
/-- 1 + a draw below L -/
theorem ed_one {L : Int} {i : Nat} (hL : LimC L) (hi : σ[i]? = some (some (.ref d))) : EvD d nn (tOp rAddI (tC (.int 1)) (tCall sp_law_draw [] E (tCons (tVar i) (tCons (tC (.int L)) tNil)))) σ H (fun x => ∃ r, x = .int r ∧ 1 ≤ r ∧ r ≤ L) :=
  ed_op (P1 := fun x => x = .int 1) (P2 := fun x => ∃ r, x = .int r ∧ 0 ≤ r ∧ r < L) ed_c (ed_draw (ed_mono ed_c fun x hx => ⟨L, hx, hL, fun r h0 h1 => ⟨r, rfl, h0, h1⟩⟩) hi) fun x y H' hx hy => by
    subst hx
    obtain ⟨r, rfl, h0, h1⟩ := hy
    exact ⟨.int (1 + r), ⟨1 + r, rfl, by omega, by omega⟩, rv_I0⟩
end
abbrev sp_law_beginning : Sp := sp1 fun a H Q => ∃ d nn, a = .ref d ∧ Dr d nn H ∧ ∀ b H', BegC b → Go d nn H H' → Q (.int b) H'
def rd_law_beginning (K : PySem.W.Frag) : TS :=
      (tRet (tCall (sp_law_pick) [] E0 (tCons (tVar 0) (tCons (tLst (tCons (tOp rAddI (tC (.int 1)) (tCall (sp_law_draw) [] E0 (tCons (tVar 0) (tCons (tC (.int 9)) tNil)))) (tCons (tOp rAddI (tC (.int 1)) (tCall (sp_law_draw) [] E0 (tCons (tVar 0) (tCons (tC (.int 99)) tNil)))) (tCons (tOp rAddI (tC (.int 1)) (tCall (sp_law_draw) [] E0 (tCons (tVar 0) (tCons (tC (.int 999)) tNil)))) (tCons (tOp rAddI (tC (.int 1)) (tCall (sp_law_draw) [] E0 (tCons (tVar 0) (tCons (tC (.int 9999)) tNil)))) tNil))))) tNil))))
def N_law_beginning : List Str := ["draws"]
theorem pure_law_beginning {K : PySem.W.Frag} (vs : List V) (H : Hp) (Q : VK) (E : XK) (h : sp_law_beginning vs H Q E) : rd_law_beginning K { nx := fun _ H' => Q .non H', rt := Q } (start N_law_beginning vs) H := by
  match vs, h with
  | [a], h =>
    obtain ⟨d, nn, rfl, hD, q⟩ := h
    unfold rd_law_beginning
    refine ed_pick (d := d) (nn := nn) (P' := fun x => ∃ b, x = .int b ∧ BegC b) rfl (edl_lst (eda_cons (ed_one (lim_small (by decide) (by decide)) rfl) (eda_cons (ed_one (lim_small (by decide) (by decide)) rfl) (eda_cons (ed_one (lim_small (by decide) (by decide)) rfl) (eda_cons (ed_one (lim_small (by decide) (by decide)) rfl) eda_nil)))) ?_) ?_ H (.refl hD) Q ?_
    · rintro vs ⟨_, _, rfl, _, _, _, rfl, _, _, _, rfl, _, _, _, rfl, _, rfl⟩
      simp
    · rintro vs ⟨_, _, rfl, ⟨a, rfl, _, _⟩, _, _, rfl, ⟨b, rfl, _, _⟩, _, _, rfl, ⟨c, rfl, _, _⟩, _, _, rfl, ⟨e, rfl, _, _⟩, rfl⟩
      refine ⟨by simp, by simp, fun x hx => ?_⟩
      simp only [List.mem_cons, List.not_mem_nil, or_false] at hx
      rcases hx with rfl | rfl | rfl | rfl
      · exact ⟨a, rfl, by omega, by omega⟩
      · exact ⟨b, rfl, by omega, by omega⟩
      · exact ⟨c, rfl, by omega, by omega⟩
      · exact ⟨e, rfl, by omega, by omega⟩
    · rintro v H2 ⟨b, rfl, hb⟩ g
      exact q b H2 hb g
abbrev sp_law_number : Sp := sp1 fun a H Q => ∃ d nn, a = .ref d ∧ Dr d nn H ∧ ∀ b H', NumC b → Go d nn H H' → Q (.int b) H'
def rd_law_number (K : PySem.W.Frag) : TS :=
      (tRet (tOp rAddI (tC (.int 1)) (tCall (sp_law_draw) [] E0 (tCons (tVar 0) (tCons (tCall (sp_law_pick) [] E0 (tCons (tVar 0) (tCons (tLst (tCons (tC (.int 9)) (tCons (tC (.int 99)) (tCons (tC (.int 2000)) (tCons (tC (.int 1000000)) (tCons (tCall (sp_law_ten) [] E0 (tCons (tC (.int 20)) tNil)) (tCons (tOp rSubI (tCall (sp_law_ten) [] E0 (tCons (tC (.int 60)) tNil)) (tC (.int 1))) tNil))))))) tNil))) tNil)))))
def N_law_number : List Str := ["draws"]
theorem pure_law_number {K : PySem.W.Frag} (vs : List V) (H : Hp) (Q : VK) (E : XK) (h : sp_law_number vs H Q E) : rd_law_number K { nx := fun _ H' => Q .non H', rt := Q } (start N_law_number vs) H := by
  match vs, h with
  | [a], h =>
    obtain ⟨d, nn, rfl, hD, q⟩ := h
    have t20 : tenI 20 = 10 ^ 20 := rfl
    have t60 : tenI 60 = 10 ^ 60 := rfl
    unfold rd_law_number
    refine ed_op (d := d) (nn := nn) (P1 := fun x => x = .int 1) (P2 := fun x => ∃ r : Int, x = .int r ∧ 0 ≤ r ∧ r < 10 ^ 60 - 1) (P := fun x => ∃ b, x = .int b ∧ NumC b) ed_c (ed_draw (ed_pick (P' := fun x => ∃ L, x = .int L ∧ LimC L ∧ ∀ r, 0 ≤ r → r < L → ∃ r', V.int r = .int r' ∧ 0 ≤ r' ∧ r' < 10 ^ 60 - 1) rfl (edl_lst (eda_cons ed_c (eda_cons ed_c (eda_cons ed_c (eda_cons ed_c (eda_cons (ed_ev (v := .int (10 ^ 20)) fun H1 _ => ?_) (eda_cons (ed_ev (v := .int (10 ^ 60 - 1)) fun H1 _ => ?_) eda_nil)))))) ?_) ?_) rfl) ?_ H (.refl hD) Q ?_
    · exact ev_is (by walk_at "ev"; decide) (congrArg V.int t20)
    · exact ev_is (by walk_at "ev"; decide) (congrArg (fun z : Int => V.int (z - 1)) t60)
    · rintro vs ⟨_, _, rfl, _, _, _, rfl, _, _, _, rfl, _, _, _, rfl, _, _, _, rfl, _, _, _, rfl, _, rfl⟩
      simp
    · rintro vs ⟨_, _, rfl, rfl, _, _, rfl, rfl, _, _, rfl, rfl, _, _, rfl, rfl, _, _, rfl, rfl, _, _, rfl, rfl, rfl⟩
      have hh : ∀ L : Int, 0 < L → L ≤ 10 ^ 60 - 1 → ∃ L', V.int L = .int L' ∧ LimC L' ∧ ∀ r, 0 ≤ r → r < L' → ∃ r', V.int r = .int r' ∧ 0 ≤ r' ∧ r' < 10 ^ 60 - 1 := fun L h0 h1 =>
        ⟨L, rfl, lim_of h0 (Int.lt_of_le_of_lt h1 (Int.lt_of_lt_of_le (b := 10 ^ 60) (by omega) (pow_lt (by decide)))), fun r h2 h3 => ⟨r, rfl, h2, by omega⟩⟩
      refine ⟨by simp, by simp, fun x hx => ?_⟩
      simp only [List.mem_cons, List.not_mem_nil, or_false] at hx
      rcases hx with rfl | rfl | rfl | rfl | rfl | rfl
      · exact hh _ (by decide) (by decide)
      · exact hh _ (by decide) (by decide)
      · exact hh _ (by decide) (by decide)
      · exact hh _ (by decide) (by decide)
      · exact hh _ (by decide) (by decide)
      · exact hh _ (by decide) (by decide)
    · rintro x y H' rfl ⟨r, rfl, h0, h1⟩
      exact ⟨.int (1 + r), ⟨1 + r, rfl, by omega, by omega⟩, rv_I0⟩
    · rintro v H2 ⟨b, rfl, hb⟩ g
      exact q b H2 hb g
/-! ### two lists of ints compared -/
theorem dp_ints {K : PySem.W.Frag} {H : Hp} : ∀ ns : List Int, DpAll K H (ns.map V.int) (ns.map PyData.int)
  | [] => .nil
  | n :: r => .cons (.int n) (dp_ints r)
theorem shaped_il (ns : List Int) : SeqAt.shaped (.list (ns.map PyData.int)) = true := by
  have h1 : ∀ ns : List Int, PyData.canLayAll0 (ns.map PyData.int) = true := fun ns => by
    induction ns with
    | nil => rfl
    | cons n r ih => simp only [List.map_cons, PyData.canLayAll0, PyData.canLay0, ih]; rfl
  have h2 : ∀ ns : List Int, PyData.depthAll (ns.map PyData.int) = 0 := fun ns => by
    induction ns with
    | nil => rfl
    | cons n r ih => simp only [List.map_cons, PyData.depthAll, PyData.depth, ih]; rfl
  unfold SeqAt.shaped
  simp only [PyData.canLay0, h1, PyData.depth, h2]
  decide
section
variable {K : PySem.W.Frag} {H : Hp} {a b : Addr} {ns ms : List Int}
theorem rv_neL (ha : SqL K H a (ns.map V.int)) (hb : SqL K H b (ms.map V.int)) : RV (rNeD K) (.ref a) (.ref b) H (.bl (!decide (ns = ms))) := fun H1 e Q q =>
  ⟨_, _, .lst (ex_l e ha) (dp_ints ns), .lst (ex_l e hb) (dp_ints ms), shaped_il ns, shaped_il ms, by
    have := PySem.W.ked_eqvAll ns ms
    simp only [PyData.eqv, this]
    exact q H1 (Ex.refl _)⟩
theorem rv_eqL (ha : SqL K H a (ns.map V.int)) (hb : SqL K H b (ms.map V.int)) : RV (rEqD K) (.ref a) (.ref b) H (.bl (decide (ns = ms))) := fun H1 e Q q =>
  ⟨_, _, .lst (ex_l e ha) (dp_ints ns), .lst (ex_l e hb) (dp_ints ms), shaped_il ns, shaped_il ms, by
    have := PySem.W.ked_eqvAll ns ms
    simp only [PyData.eqv, this]
    exact q H1 (Ex.refl _)⟩
end
abbrev sp_law_start (K : PySem.W.Frag) : Sp := sp1 fun a H Q => ∃ (s : Addr) (ns : List Int), a = .ref s ∧ SqL K H s (ns.map V.int) ∧ ns.length ≤ 63 ∧ ∀ d nn H', Ex H H' → Dr d nn H' → H d = none → H nn = none → Q (.ref d) H'
def rd_law_start (K : PySem.W.Frag) : TS :=
      (tRet (tLst (tCons (tIf (tTest (tOp (rNeD K) (tVar 0) (tLst tNil))) (tCB (rListOf K) (tCons (tVar 0) tNil)) (tLst (tCons (tC (.int 0)) tNil))) (tCons (tC (.int 0)) tNil))))
def N_law_start : List Str := ["script"]
theorem pure_law_start {K : PySem.W.Frag} (vs : List V) (H : Hp) (Q : VK) (E : XK) (h : sp_law_start K vs H Q E) : rd_law_start K { nx := fun _ H' => Q .non H', rt := Q } (start N_law_start vs) H := by
  match vs, h with
  | [a], h =>
    obtain ⟨s, ns, rfl, hS, hl, q⟩ := h
    unfold rd_law_start
    have ht : EvT (tTest (tOp (rNeD K) (tVar 0) (tLst tNil))) (start N_law_start [.ref s]) H (!decide (ns = [])) :=
      et_test (ev_opL (xs := ([] : List Int).map V.int) (ev_var rfl) (el_lst ea_nil (by decide)) fun p H1 hp e => rv_neL (ex_l e hS) (sq_of hp))
    -- the numbers' list
    have hE : EvL (tIf (tTest (tOp (rNeD K) (tVar 0) (tLst tNil))) (tCB (rListOf K) (tCons (tVar 0) tNil)) (tLst (tCons (tC (.int 0)) tNil))) (start N_law_start [.ref s]) H ((if ns = [] then [0] else ns).map V.int) := fun H1 e Q q => ht H1 e _ fun H2 e2 => by
      by_cases hn : ns = []
      · rw [decide_eq_true hn]
        rw [if_pos hn] at q
        show tLst (tCons (tC (.int 0)) tNil) _ H2 Q
        exact el_lst (H := H2) (ea_cons ev_c ea_nil) (by decide) H2 (Ex.refl _) Q fun p H3 hp e3 h3 => q p H3 (fresh_back e2 hp) (e2.trans e3) h3
      · rw [decide_eq_false hn]
        rw [if_neg hn] at q
        show tCB (rListOf K) (tCons (tVar 0) tNil) _ H2 Q
        exact ⟨.ref s, rfl, s, _, rfl, .inl (ex_l (e.trans e2) hS), fun l hl => q l _ (fresh_back e2 hl) (e2.trans (Ex.new hl)) upd_same⟩
    refine hE H (Ex.refl _) _ fun p H1 hp e h1 => ?_
    refine ⟨by show 2 ≤ sizeLine; decide, fun d hd => ?_⟩
    have hpd : p ≠ d := ne_of_none h1 hd
    refine q d p _ (e.trans (Ex.new hd)) ⟨if ns = [] then [0] else ns, 0, upd_same, ?_, ?_, ?_⟩ (fresh_back e hd) hp
    · rw [upd_ne hpd]; exact h1
    · split
      · decide
      · rename_i hn
        exact List.length_pos_iff.mpr hn
    · split
      · decide
      · omega
end FD

namespace FD
open PySem PySem.Spec PyProof.Rows L2 Evl TL
local macro_rules | `(tactic| walk_at "ev") => `(tactic| repeat' (first | (with_reducible exact ev_c) | ((with_reducible apply ev_var); rfl) | (with_reducible exact ea_nil) | (with_reducible apply ea_cons) | (with_reducible apply ev_op) | (with_reducible exact rv_I0) | (with_reducible apply rv_I) | (with_reducible exact rv_eqI) | (with_reducible exact rv_neI) | (with_reducible exact rv_eqS) | (with_reducible apply ev_ok) | (with_reducible apply ev_cb) | (with_reducible apply spv_I1) | (with_reducible apply spv_I2) | (with_reducible apply spv_I3) | (with_reducible apply et_test) | (with_reducible apply et_B) | (with_reducible apply et_not) | (with_reducible apply ev_notV) | (with_reducible apply ev_un) | (with_reducible exact ru_negI) | (with_reducible exact rc_max2) | (with_reducible exact rc_min2) | (with_reducible exact rv_isB) | (with_reducible exact rv_notB) | (with_reducible exact rv_isN) | (with_reducible exact rv_notN) | (with_reducible apply ev_chainI) | (with_reducible exact rc_isiI) | (with_reducible exact rc_isiB)))
/-! ### ranges of ints -/
def rgI (a b : Int) : List Int := (List.range (b - a).toNat).map fun (i : Nat) => a + (i : Int)
theorem rgV_eq (a b : Int) : rgV a b = (rgI a b).map V.int := by unfold rgV rgI; rw [List.map_map]; rfl
theorem rgI_length (a b : Int) : (rgI a b).length = (b - a).toNat := by unfold rgI; rw [List.length_map, List.length_range]
theorem mem_rgI {a b z : Int} : z ∈ rgI a b ↔ a ≤ z ∧ z < b := by
  unfold rgI
  simp only [List.mem_map, List.mem_range]
  constructor
  · rintro ⟨i, hi, rfl⟩; omega
  · rintro ⟨h0, h1⟩; exact ⟨(z - a).toNat, by omega, by omega⟩
theorem rgI_nil {a b : Int} (h : b ≤ a) : rgI a b = [] := by unfold rgI; rw [show (b - a).toNat = 0 by omega]; rfl
theorem rgI_append {a b c : Int} (h1 : a ≤ b) (h2 : b ≤ c) : rgI a c = rgI a b ++ rgI b c := by
  unfold rgI
  rw [show (c - a).toNat = (b - a).toNat + (c - b).toNat by omega, List.range_add, List.map_append, List.map_map]
  congr 1
  apply List.map_congr_left
  intro i _
  show a + (((b - a).toNat + i : Nat) : Int) = b + (i : Int)
  omega
theorem rgI_cons {a b : Int} (h : a < b) : rgI a b = a :: rgI (a + 1) b := by
  rw [rgI_append (a := a) (b := a + 1) (c := b) (by omega) (by omega)]
  have : rgI a (a + 1) = [a] := by
    unfold rgI
    rw [show (a + 1 - a).toNat = 1 by omega]
    simp
  rw [this]; rfl
theorem rgI_snoc {a b : Int} (h : a ≤ b) : rgI a (b + 1) = rgI a b ++ [b] := by
  rw [rgI_append (a := a) (b := b) (c := b + 1) h (by omega)]
  congr 1
  unfold rgI
  rw [show (b + 1 - b).toNat = 1 by omega]
  simp
theorem filter_true {α : Type} {l : List α} {p : α → Bool} (h : ∀ x ∈ l, p x = true) : l.filter p = l := List.filter_eq_self.mpr h
theorem filter_false {α : Type} {l : List α} {p : α → Bool} (h : ∀ x ∈ l, p x = false) : l.filter p = [] := List.filter_eq_nil_iff.mpr fun x hx => by rw [h x hx]; decide
/-- a range, filtered by a stretch of it -/
theorem rgI_filter {a c x y : Int} {p : Int → Bool} (h1 : a ≤ x) (h2 : x ≤ y) (h3 : y ≤ c) (hp : ∀ z, a ≤ z → z < c → (p z = true ↔ x ≤ z ∧ z < y)) : (rgI a c).filter p = rgI x y := by
  rw [rgI_append (a := a) (b := x) (c := c) h1 (by omega), rgI_append (a := x) (b := y) (c := c) h2 h3, List.filter_append, List.filter_append]
  rw [filter_false (l := rgI a x), filter_true (l := rgI x y), filter_false (l := rgI y c)]
  · simp
  · intro z hz; rw [mem_rgI] at hz
    have := hp z (by omega) (by omega)
    cases hq : p z with
    | true => rw [hq] at this; have := this.mp rfl; omega
    | false => rfl
  · intro z hz; rw [mem_rgI] at hz
    exact (hp z (by omega) (by omega)).mpr ⟨by omega, by omega⟩
  · intro z hz; rw [mem_rgI] at hz
    have := hp z (by omega) (by omega)
    cases hq : p z with
    | true => rw [hq] at this; have := this.mp rfl; omega
    | false => rfl
/-! ### powers of ten, sizes -/
theorem tenI_zero {k : Int} (h : k ≤ 0) : tenI k = 1 := by unfold tenI; rw [show k.toNat = 0 by omega]; rfl
theorem tenI_add {a b : Int} (ha : 0 ≤ a) (hb : 0 ≤ b) : tenI (a + b) = tenI a * tenI b := by
  unfold tenI
  rw [show (a + b).toNat = a.toNat + b.toNat by omega, Int.pow_add]
theorem tenI_succ {a : Int} (ha : 0 ≤ a) : tenI (a + 1) = tenI a * 10 := by rw [tenI_add ha (by decide)]; rfl
theorem tenI_mono {a b : Int} (h : a ≤ b) : tenI a ≤ tenI b := by unfold tenI; exact pow_lt (by omega)
theorem tenI_lt {a b : Int} (ha : 0 ≤ a) (h : a < b) : tenI a < tenI b := by
  have h1 := tenI_mono (a := a + 1) (b := b) (by omega)
  rw [tenI_succ ha] at h1
  have := tenI_pos a
  omega
theorem lt_ten_size {n : Int} (h : 0 ≤ n) : n < tenI (size n) := by
  obtain ⟨n, rfl⟩ := Int.eq_ofNat_of_zero_le h
  rw [tenI_nat]
  unfold size
  rw [Int.toNat_natCast, Int.toNat_natCast]
  exact Int.ofNat_lt.mpr (sz_lt_pow n)
theorem ten_size_le {n : Int} (h : 1 ≤ n) : tenI (size n - 1) ≤ n := by
  obtain ⟨n, rfl⟩ := Int.eq_ofNat_of_zero_le (show 0 ≤ n by omega)
  rw [tenI_nat]
  unfold size
  rw [Int.toNat_natCast, show ((sz n : Int) - 1).toNat = sz n - 1 by omega]
  exact Int.ofNat_le.mpr (pow_le_of_sz (by omega))
theorem size_eq {n k : Int} (hk : 1 ≤ k) (h1 : tenI (k - 1) ≤ n) (h2 : n < tenI k) : size n = k := by
  have hp := tenI_pos (k - 1)
  obtain ⟨n, rfl⟩ := Int.eq_ofNat_of_zero_le (show 0 ≤ n by omega)
  obtain ⟨j, hj⟩ := Int.eq_ofNat_of_zero_le (show 0 ≤ k - 1 by omega)
  have ek : k = ((j + 1 : Nat) : Int) := by omega
  rw [tenI_nat, hj, Int.toNat_natCast] at h1
  rw [tenI_nat, ek, Int.toNat_natCast] at h2
  unfold size
  rw [Int.toNat_natCast, sz_eq (Int.ofNat_le.mp h1) (Int.ofNat_lt.mp h2), ek]
theorem size_le_of {n k : Int} (h0 : 0 ≤ n) (hk : 1 ≤ k) (h : n < tenI k) : size n ≤ k := by
  by_cases hn : n = 0
  · rw [hn, size_one (by decide) (by decide)]; exact hk
  · by_cases hc : size n ≤ k
    · exact hc
    · have h1 := ten_size_le (n := n) (by omega)
      have h2 := tenI_mono (a := k) (b := size n - 1) (by omega)
      omega
theorem le_size_of {n k : Int} (hk : 1 ≤ k) (h : tenI (k - 1) ≤ n) : k ≤ size n := by
  by_cases hc : k ≤ size n
  · exact hc
  · have hp := tenI_pos (k - 1)
    have h1 := lt_ten_size (n := n) (by omega)
    have h2 := tenI_mono (a := size n) (b := k - 1) (by omega)
    omega
theorem size_mono {m n : Int} (h : m ≤ n) : size m ≤ size n := by
  unfold size
  have := sz_mono (m := m.toNat) (n := n.toNat) (by omega)
  omega
theorem size_beg {b : Int} (h : BegC b) : 1 ≤ size b ∧ size b ≤ 4 := ⟨by have := size_pos b; omega, size_le_of (by have := h.lo; omega) (by decide) (by have := h.hi; show b < 10 ^ 4; omega)⟩
theorem size_num {n : Int} (h : NumC n) : 1 ≤ size n ∧ size n ≤ 60 := ⟨by have := size_pos n; omega, size_le_of (by have := h.lo; omega) (by decide) (by have := h.hi; show n < 10 ^ 60; exact this)⟩
/-! ### beginnings as stretches -/
theorem ediv_eq_iff {n t b : Int} (ht : 0 < t) : n / t = b ↔ b * t ≤ n ∧ n < (b + 1) * t := by
  constructor
  · rintro rfl
    exact ⟨(Int.le_ediv_iff_mul_le ht).mp (Int.le_refl _), (Int.ediv_lt_iff_lt_mul ht).mp (by omega)⟩
  · rintro ⟨h1, h2⟩
    have a := (Int.le_ediv_iff_mul_le ht).mpr h1
    have b' := (Int.ediv_lt_iff_lt_mul ht).mpr h2
    omega
theorem first_eq {n m : Int} (h : m ≤ size n) : first n m = n / tenI (size n - m) := by
  unfold first
  by_cases hm : m < size n
  · rw [if_pos hm]
  · rw [if_neg hm, tenI_zero (by omega), Int.ediv_one]
theorem begins_iff {n b : Int} : begins n b = true ↔ size b ≤ size n ∧ b * tenI (size n - size b) ≤ n ∧ n < (b + 1) * tenI (size n - size b) := by
  unfold begins
  rw [Bool.and_eq_true, decide_eq_true_eq, decide_eq_true_eq]
  constructor
  · rintro ⟨h1, h2⟩
    rw [first_eq h1, ediv_eq_iff (tenI_pos _)] at h2
    exact ⟨h1, h2⟩
  · rintro ⟨h1, h2⟩
    refine ⟨h1, ?_⟩
    rw [first_eq h1, ediv_eq_iff (tenI_pos _)]
    exact h2
/-- a number of a stretch -/
theorem size_stretch {n b k : Int} (hb : 1 ≤ b) (hk : 0 ≤ k) (h1 : b * tenI k ≤ n) (h2 : n < (b + 1) * tenI k) : size n = size b + k := by
  have hp := size_pos b
  have ht := tenI_pos k
  refine size_eq (by omega) ?_ ?_
  · rw [show size b + k - 1 = (size b - 1) + k by omega, tenI_add (by omega) hk]
    exact Int.le_trans (Int.mul_le_mul_of_nonneg_right (ten_size_le hb) (by omega)) h1
  · rw [tenI_add (by omega) hk]
    exact Int.lt_of_lt_of_le h2 (Int.mul_le_mul_of_nonneg_right (by have := lt_ten_size (n := b) (by omega); omega) (by omega))
theorem begins_stretch {n b k : Int} (hb : 1 ≤ b) (hk : 0 ≤ k) (h1 : b * tenI k ≤ n) (h2 : n < (b + 1) * tenI k) : begins n b = true := by
  have hs := size_stretch hb hk h1 h2
  rw [begins_iff, hs]
  rw [show size b + k - size b = k by omega]
  exact ⟨by omega, h1, h2⟩
theorem begins_self {b : Int} (hb : 1 ≤ b) : begins b b = true := begins_stretch (k := 0) hb (by decide) (by rw [tenI_zero (by decide)]; omega) (by rw [tenI_zero (by decide)]; omega)
/-! ### comprehensions over ints -/
section
variable {K : PySem.W.Frag} {σ : L2.St} {H : Hp} {t : TT} {te : TE} {ta : TA} {j : Nat} {vs : List Nat}
theorem given_rg {a b : Int} (p : Int → Bool) (v : Int → V) : given (b - a).toNat (fun i => p (a + (i : Nat))) (fun i => v (a + (i : Nat))) = ((rgI a b).filter p).map v := by
  unfold given rgI
  rw [List.filter_map, List.map_map]
  rfl
theorem el_lcR2 {a b : Int} (p : Int → Bool) (v : Int → V) (h : EvA ta σ H [.int a, .int b]) (hb : -100000 ≤ a ∧ a ≤ 100000 ∧ -100000 ≤ b ∧ b ≤ 100000 ∧ b - a ≤ 40000) (hw : ∀ x, wipe ((wipe σ vs).set j (some x)) vs = wipe σ vs)
    (ht : ∀ z H1, Ex H H1 → a ≤ z → z < b → EvT t ((wipe σ vs).set j (some (.int z))) H1 (p z)) (he : ∀ z H1, Ex H H1 → a ≤ z → z < b → p z = true → Ev te ((wipe σ vs).set j (some (.int z))) H1 (v z)) :
    EvL (tLc (iRng2 ta) (gName j) t te vs) σ H (((rgI a b).filter p).map v) := fun H0 e Q q => h H0 e _ fun H1 e1 => ⟨a, b, rfl, ⟨by omega, by omega, by omega, by omega⟩, fun Dl hD =>
  lc_range (lo := a) (n := (b - a).toNat) (Cw H1 (fun i => p (a + (i : Nat))) (fun i => v (a + (i : Nat))) Dl) ⟨hD, Ex.new hD, upd_same⟩ (fun i H' hi p' =>
    ⟨hw _, cw_turn p' (by omega) (ht _ H1 (e.trans e1) (by omega) (by omega)) (fun hf => he _ H1 (e.trans e1) (by omega) (by omega) hf)⟩) (fun H' p' => by
      obtain ⟨p1, p2, p3⟩ := p'
      rw [given_rg] at p3
      exact q Dl H' (fresh_back e1 p1) (e1.trans p2) p3)⟩
theorem given_list (xs : List Int) (p : Int → Bool) (v : Int → V) : given xs.length (fun i => p (xs.getD i 0)) (fun i => v (xs.getD i 0)) = (xs.filter p).map v := by
  have e : (List.range xs.length).map (fun i => xs.getD i 0) = xs := by
    apply List.ext_getElem?
    intro i
    rw [List.getElem?_map]
    by_cases h : i < xs.length
    · rw [List.getElem?_range h]
      simp [List.getD, List.getElem?_eq_getElem h]
    · rw [List.getElem?_eq_none (by simpa using h), List.getElem?_eq_none (by omega)]
      rfl
  unfold given
  conv => rhs; rw [← e, List.filter_map, List.map_map]
  rfl
theorem el_lcLI {a : Addr} {xs : List Int} {tl : TE} (p : Int → Bool) (v : Int → V) (h : Ev tl σ H (.ref a)) (hx : SqL K H a (xs.map V.int)) (hz : xs.length ≤ 40000) (hw : ∀ x, wipe ((wipe σ vs).set j (some x)) vs = wipe σ vs)
    (ht : ∀ z H1, Ex H H1 → z ∈ xs → EvT t ((wipe σ vs).set j (some (.int z))) H1 (p z)) (he : ∀ z H1, Ex H H1 → z ∈ xs → p z = true → Ev te ((wipe σ vs).set j (some (.int z))) H1 (v z)) :
    EvL (tLc (iList K tl) (gName j) t te vs) σ H ((xs.filter p).map v) := by
  have at_ : ∀ (i : Nat) (x : V), (xs.map V.int)[i]? = some x → x = .int (xs.getD i 0) ∧ xs.getD i 0 ∈ xs := fun i x hi => by
    rw [List.getElem?_map] at hi
    cases hq : xs[i]? with
    | none => rw [hq] at hi; cases hi
    | some z =>
      rw [hq] at hi
      have e : xs.getD i 0 = z := by rw [List.getD, hq]; rfl
      rw [e]
      exact ⟨(Option.some.inj hi).symm, List.mem_of_getElem? hq⟩
  have := el_lcL (K := K) (t := t) (te := te) (j := j) (vs := vs) (fun i => p (xs.getD i 0)) (fun i => v (xs.getD i 0)) h hx (by rw [List.length_map]; exact hz) hw (fun i x H1 e hi => by
    obtain ⟨rfl, hm⟩ := at_ i x hi
    exact ht _ H1 e hm) (fun i x H1 e hi hf => by
    obtain ⟨rfl, hm⟩ := at_ i x hi
    exact he _ H1 e hm hf)
  rw [List.length_map, given_list] at this
  exact this
theorem el_lcNLI {xs : List Int} {tl : TE} (p : Int → Bool) (v : Int → V) (h : EvL tl σ H (xs.map V.int)) (hz : xs.length ≤ 40000) (hw : ∀ x, wipe ((wipe σ vs).set j (some x)) vs = wipe σ vs)
    (ht : ∀ z H1, Ex H H1 → z ∈ xs → EvT t ((wipe σ vs).set j (some (.int z))) H1 (p z)) (he : ∀ z H1, Ex H H1 → z ∈ xs → p z = true → Ev te ((wipe σ vs).set j (some (.int z))) H1 (v z)) :
    EvL (tLc (iList K tl) (gName j) t te vs) σ H ((xs.filter p).map v) := by
  have at_ : ∀ (i : Nat) (x : V), (xs.map V.int)[i]? = some x → x = .int (xs.getD i 0) ∧ xs.getD i 0 ∈ xs := fun i x hi => by
    rw [List.getElem?_map] at hi
    cases hq : xs[i]? with
    | none => rw [hq] at hi; cases hi
    | some z =>
      rw [hq] at hi
      have e : xs.getD i 0 = z := by rw [List.getD, hq]; rfl
      rw [e]
      exact ⟨(Option.some.inj hi).symm, List.mem_of_getElem? hq⟩
  have := el_lcNL (K := K) (t := t) (te := te) (j := j) (vs := vs) (fun i => p (xs.getD i 0)) (fun i => v (xs.getD i 0)) h (by rw [List.length_map]; exact hz) hw (fun i x H1 e hi => by
    obtain ⟨rfl, hm⟩ := at_ i x hi
    exact ht _ H1 e hm) (fun i x H1 e hi hf => by
    obtain ⟨rfl, hm⟩ := at_ i x hi
    exact he _ H1 e hm hf)
  rw [List.length_map, given_list] at this
  exact this
end
/-! ### first digits of first digits -/
theorem size_first {n m : Int} (hn : 1 ≤ n) (hm : 1 ≤ m) (h : m ≤ size n) : size (first n m) = m := by
  rw [first_eq h]
  have h1 := ten_size_le hn
  have h2 := lt_ten_size (n := n) (by omega)
  have hp := tenI_pos (size n - m)
  refine size_eq hm ?_ ?_
  · rw [Int.le_ediv_iff_mul_le hp, ← tenI_add (by omega) (by omega), show m - 1 + (size n - m) = size n - 1 by omega]
    exact h1
  · rw [Int.ediv_lt_iff_lt_mul hp, ← tenI_add (by omega) (by omega), show m + (size n - m) = size n by omega]
    exact h2
theorem first_pos {n m : Int} (hn : 1 ≤ n) (hm : 1 ≤ m) : 1 ≤ first n m := by
  by_cases h : m ≤ size n
  · have h1 := ten_size_le hn
    have hp := tenI_pos (size n - m)
    rw [first_eq h]
    have : tenI (m - 1) ≤ n / tenI (size n - m) := by
      rw [Int.le_ediv_iff_mul_le hp, ← tenI_add (by omega) (by omega), show m - 1 + (size n - m) = size n - 1 by omega]
      exact h1
    have := tenI_pos (m - 1)
    omega
  · unfold first; rw [if_neg (by omega)]; exact hn
theorem first_first {n m k : Int} (hn : 1 ≤ n) (hm : 1 ≤ m) (hk : m ≤ k) (h : k ≤ size n) : first (first n k) m = first n m := by
  have hs := size_first hn (by omega) h
  rw [first_eq (n := first n k) (by omega), hs, first_eq h, first_eq (n := n) (m := m) (by omega), Int.ediv_ediv_of_nonneg (Int.le_of_lt (tenI_pos _)), ← tenI_add (by omega) (by omega)]
  congr 2
  omega
theorem begins_def {n b : Int} : begins n b = true ↔ size b ≤ size n ∧ first n (size b) = b := by
  unfold begins
  rw [Bool.and_eq_true, decide_eq_true_eq, decide_eq_true_eq]
theorem begins_first {n m : Int} (hn : 1 ≤ n) (hm : 1 ≤ m) (h : m ≤ size n) : begins n (first n m) = true := by
  rw [begins_def, size_first hn hm h]
  exact ⟨h, rfl⟩
/-- two beginnings of one number: the longer one begins with the shorter -/
theorem begins_both {n a c : Int} (hn : 1 ≤ n) (h1 : begins n a = true) (h2 : begins n c = true) (h : size a ≤ size c) : begins c a = true := by
  rw [begins_def] at h1 h2 ⊢
  refine ⟨h, ?_⟩
  have := first_first (n := n) (m := size a) (k := size c) hn (by have := size_pos a; omega) h h2.1
  rw [h2.2, h1.2] at this
  exact this
theorem begins_trans {n a c : Int} (hn : 1 ≤ n) (h1 : begins n a = true) (h2 : begins a c = true) : begins n c = true := by
  rw [begins_def] at h1 h2 ⊢
  refine ⟨by omega, ?_⟩
  have := first_first (n := n) (m := size c) (k := size a) hn (by have := size_pos c; omega) h2.1 h1.1
  rw [h1.2, h2.2] at this
  exact this.symm
theorem BegC.first {n m : Int} (hn : 1 ≤ n) (hm : 1 ≤ m) (h4 : m ≤ 4) (h : m ≤ size n) : BegC (first n m) := by
  have h1 := first_pos hn hm
  have h2 := lt_ten_size (n := FD.first n m) (by omega)
  rw [size_first hn hm h] at h2
  have h3 : tenI m ≤ tenI 4 := tenI_mono h4
  have h5 : tenI 4 = 10000 := rfl
  exact ⟨h1, by omega⟩
/-! ### statements that draw -/
section
variable {K : PySem.W.Frag} {d nn : Addr} {σ : L2.St} {H : Hp} {ta tb te : TE} {tu : TS} {D : Ends} {i j : Nat} {E : XK}
theorem q_start {s : Addr} {ns : List Int} (hi : σ[i]? = some (some (.ref s))) (hS : SqL K H s (ns.map V.int)) (hl : ns.length ≤ 63) (k : ∀ d nn H1, Ex H H1 → Dr d nn H1 → H d = none → H nn = none → tu D (σ.set j (some (.ref d))) H1) :
    tSeq (tAsg (tCall (sp_law_start K) [] E (tCons (tVar i) tNil)) (gName j)) tu D σ H := ⟨.ref s, hi, s, ns, rfl, hS, hl, k⟩
theorem q_asgD {P : V → Prop} (hD : Dr d nn H) (h : EvD d nn te σ H P) (k : ∀ v H1, P v → Go d nn H H1 → tu D (σ.set i (some v)) H1) : tSeq (tAsg te (gName i)) tu D σ H := h H (.refl hD) _ k
theorem s_asgD {P : V → Prop} (hD : Dr d nn H) (h : EvD d nn te σ H P) (k : ∀ v H1, P v → Go d nn H H1 → D.nx (σ.set i (some v)) H1) : tAsg te (gName i) D σ H := h H (.refl hD) _ k
theorem q_parD {P P' : V → Prop} (hD : Dr d nn H) (h1 : EvD d nn ta σ H P) (h2 : EvD d nn tb σ H P') (k : ∀ v w H1, P v → P' w → Go d nn H H1 → tu D ((σ.set i (some v)).set j (some w)) H1) : tSeq (tPar i j (tCons ta (tCons tb tNil))) tu D σ H :=
  h1 H (.refl hD) _ fun v H1 hv g1 => h2 H1 g1 _ fun w H2 hw g2 => ⟨v, w, rfl, k v w H2 hv hw (g1.trans g2)⟩
theorem ed_beginning (hi : σ[i]? = some (some (.ref d))) : EvD d nn (tCall sp_law_beginning [] E (tCons (tVar i) tNil)) σ H (fun x => ∃ b, x = .int b ∧ BegC b) := fun H1 g Q q =>
  ⟨.ref d, hi, d, nn, rfl, g.dr, fun b H2 hb g2 => q _ H2 ⟨b, rfl, hb⟩ g2⟩
theorem ed_number (hi : σ[i]? = some (some (.ref d))) : EvD d nn (tCall sp_law_number [] E (tCons (tVar i) tNil)) σ H (fun x => ∃ b, x = .int b ∧ NumC b) := fun H1 g Q q =>
  ⟨.ref d, hi, d, nn, rfl, g.dr, fun b H2 hb g2 => q _ H2 ⟨b, rfl, hb⟩ g2⟩
/-- a draw below a written limit -/
theorem ed_drawC {L : Int} (hL : LimC L) (hi : σ[i]? = some (some (.ref d))) : EvD d nn (tCall sp_law_draw [] E (tCons (tVar i) (tCons (tC (.int L)) tNil))) σ H (fun x => ∃ r, x = .int r ∧ 0 ≤ r ∧ r < L) :=
  ed_draw (ed_mono ed_c fun x hx => ⟨L, hx, hL, fun r h0 h1 => ⟨r, rfl, h0, h1⟩⟩) hi
/-- c + a draw below a written limit -/
theorem ed_plus {c L : Int} (hL : LimC L) (hi : σ[i]? = some (some (.ref d))) : EvD d nn (tOp rAddI (tC (.int c)) (tCall sp_law_draw [] E (tCons (tVar i) (tCons (tC (.int L)) tNil)))) σ H (fun x => ∃ r, x = .int r ∧ c ≤ r ∧ r < c + L) :=
  ed_op (P1 := fun x => x = .int c) (P2 := fun x => ∃ r, x = .int r ∧ 0 ≤ r ∧ r < L) ed_c (ed_drawC hL hi) fun x y H' hx hy => by
    subst hx
    obtain ⟨r, rfl, h0, h1⟩ := hy
    exact ⟨.int (c + r), ⟨c + r, rfl, by omega, by omega⟩, rv_I0⟩
theorem ed_cb2 {r : List V → Hp → VK → Prop} {P1 P2 P : V → Prop} (ha : EvD d nn ta σ H P1) (hb : EvD d nn tb σ H P2) (hr : ∀ x y H', P1 x → P2 y → ∃ z, P z ∧ RC r [x, y] H' z) : EvD d nn (tCB r (tCons ta (tCons tb tNil))) σ H P := fun H1 g Q q =>
  ha H1 g _ fun x H2 hx g2 => hb H2 (g.trans g2) _ fun y H3 hy g3 => by
    obtain ⟨z, hz, hv⟩ := hr x y H3 hx hy
    exact hv H3 (Ex.refl _) Q fun H4 e4 => q z H4 hz ((g2.trans g3).ex e4)
end
end FD

namespace FD
open PySem PySem.Spec PyProof.Rows L2 Evl TL
local macro_rules | `(tactic| walk_at "ev") => `(tactic| repeat' (first | (with_reducible exact ev_c) | ((with_reducible apply ev_var); rfl) | (with_reducible exact ea_nil) | (with_reducible apply ea_cons) | (with_reducible apply ev_op) | (with_reducible exact rv_I0) | (with_reducible apply rv_I) | (with_reducible exact rv_eqI) | (with_reducible exact rv_neI) | (with_reducible exact rv_eqS) | (with_reducible apply ev_ok) | (with_reducible apply ev_cb) | (with_reducible apply spv_I1) | (with_reducible apply spv_I2) | (with_reducible apply spv_I3) | (with_reducible apply et_test) | (with_reducible apply et_B) | (with_reducible apply et_not) | (with_reducible apply ev_notV) | (with_reducible apply ev_un) | (with_reducible exact ru_negI) | (with_reducible exact rc_max2) | (with_reducible exact rc_min2) | (with_reducible exact rv_isB) | (with_reducible exact rv_notB) | (with_reducible exact rv_isN) | (with_reducible exact rv_notN) | (with_reducible apply ev_chainI) | (with_reducible exact rc_isiI) | (with_reducible exact rc_isiB)))
section
variable {K : PySem.W.Frag} {σ : L2.St} {H : Hp} {te : TE} {tu : TS} {D : Ends} {i j : Nat} {v w : V} {xs : List V}
/-- a, b = a new pair -/
theorem s_asgT (h : EvU te σ H [v, w]) (k : ∀ H1, Ex H H1 → D.nx ((σ.set i (some v)).set j (some w)) H1) : tAsg te (gTup K 2 (gCons (gName i) (gCons (gName j) gNil))) D σ H :=
  h H (Ex.refl _) _ fun p H1 hp e1 h1 => ⟨p, [v, w], rfl, st_of h1, rfl, v, [w], rfl, w, [], rfl, rfl, k H1 e1⟩
theorem q_asgT (h : EvU te σ H [v, w]) (k : ∀ H1, Ex H H1 → tu D ((σ.set i (some v)).set j (some w)) H1) : tSeq (tAsg te (gTup K 2 (gCons (gName i) (gCons (gName j) gNil)))) tu D σ H := s_asgT h k
theorem ev_ixU {z : Int} (h : EvU te σ H xs) (ha : atI xs z = some v) : Ev (tOp (rIxT K) te (tC (.int z))) σ H v := fun H1 e Q q =>
  h H1 e _ fun p H2 hp e2 h2 => ⟨p, xs, z, v, rfl, rfl, st_of h2, ha, q H2 e2⟩
/-- for x in range(a, b, -1) -/
theorem q_forDn {tb : TS} {ta : TA} {lo n : Int} (h : EvA ta σ H [.int lo, .int n, .int (-1)]) (hn : -100000 ≤ lo ∧ lo ≤ 100000 ∧ -100000 ≤ n ∧ n ≤ 100000) (Pv : Nat → L2.St → Hp → Prop) (h0 : ∀ H1, Ex H H1 → Pv 0 σ H1)
    (hs : ∀ (i : Nat) σ' H', n < lo - (i : Int) → Pv i σ' H' → tb { D with nx := Pv (i + 1), ct := Pv (i + 1), bk := tu D } (σ'.set j (some (.int (lo - (i : Int))))) H') (hd : ∀ σ' H', Pv (lo - n).toNat σ' H' → tu D σ' H') : tSeq (tFor (iRng3 ta) (gName j) tb) tu D σ H :=
  h H (Ex.refl H) _ fun H1 e => ⟨lo, n, -1, (lo - n).toNat, rfl, RgC.neg (by omega) (by omega) (by omega) (by omega), for_rangeC (lo := lo) (c := -1) (n := (lo - n).toNat) (D := { D with nx := tu D }) Pv (h0 H1 e) (fun i σ' H' hi p => by
    have e0 : lo + (i : Nat) * (-1) = lo - (i : Int) := by omega
    show tb { D with nx := Pv (i + 1), ct := Pv (i + 1), bk := tu D } (σ'.set j (some (.int (lo + (i : Nat) * (-1))))) H'
    rw [e0]
    exact hs i σ' H' (by omega) p) hd⟩
end
theorem rgI_toNat (a b : Int) : rgI a (a + ((b - a).toNat : Nat)) = rgI a b := by unfold rgI; rw [show (a + ((b - a).toNat : Nat) - a).toNat = (b - a).toNat by omega]
/-! ### stretches.py -/
def stF (b c : Int) : Int := b * tenI (c - size b)
def stL (b c : Int) : Int := (b + 1) * tenI (c - size b) - 1
abbrev sp_stretch_of : Sp := spU2 (fun b c => BegC b ∧ size b ≤ c ∧ c ≤ 900) (fun b c => [.int (stF b c), .int (stL b c)])
def rd_stretch_of (K : PySem.W.Frag) : TS :=
      (tSeq (tAsg (tCall (sp_ten_to) [] E0 (tCons (tOp rSubI (tVar 1) (tCall (sp_size_of) [] E0 (tCons (tVar 0) tNil))) tNil)) (gName 2))
      (tRet (tTup (tCons (tOp rMulX (tVar 0) (tVar 2)) (tCons (tOp rSubI (tOp rMulX (tOp rAddI (tVar 0) (tC (.int 1))) (tVar 2)) (tC (.int 1))) tNil)))))
def N_stretch_of : List Str := ["beginning", "count", "more"]
theorem pure_stretch_of {K : PySem.W.Frag} (vs : List V) (H : Hp) (Q : VK) (E : XK) (h : sp_stretch_of vs H Q E) : rd_stretch_of K { nx := fun _ H' => Q .non H', rt := Q } (start N_stretch_of vs) H := by
  match vs, h with
  | [a, b], h =>
    obtain ⟨b, c, rfl, rfl, ⟨hb, h1, h2⟩, q⟩ := h
    have hb0 := hb.lo
    have hb1 := hb.hi
    have hp := size_pos b
    unfold rd_stretch_of
    refine q_asg (v := .int (tenI (c - size b))) (by
      walk_at "ev"
      · exact hb.txt
      · show 0 ≤ c - size b ∧ c - size b ≤ 1000
        omega) fun H1 e1 => ?_
    refine s_retU (xs := [.int (b * tenI (c - size b)), .int ((b + 1) * tenI (c - size b) - 1)]) (eu_tup (by
      walk_at "ev"
      · exact mulOk_l (by omega) (by omega)
      · exact mulOk_l (by omega) (by omega)) (by simp)) fun p H2 hp e2 h2 => q p H2 (fresh_back e1 hp) (e1.trans e2) h2
abbrev sp_stretch : Sp := spU2 (fun b c => BegC b ∧ size b ≤ c ∧ c ≤ 60) (fun b c => [.int (stF b c), .int (stL b c)])
def rd_stretch (K : PySem.W.Frag) : TS :=
      (tSeq (tDrop (tCall (sp_check_beginning) [] E0 (tCons (tVar 0) tNil)))
      (tSeq (tDrop (tCall (sp_check_count) [] E0 (tCons (tVar 1) (tCons (tC (.int 1)) (tCons (tC (.int 60)) tNil)))))
      (tSeq (tIfS (tTest (tOp rLtI (tVar 1) (tCall (sp_size_of) [] E0 (tCons (tVar 0) tNil))))
        tNever
        tNext)
      (tRet (tCall (sp_stretch_of) [] E0 (tCons (tVar 0) (tCons (tVar 1) tNil)))))))
def N_stretch : List Str := ["beginning", "count"]
theorem pure_stretch {K : PySem.W.Frag} (vs : List V) (H : Hp) (Q : VK) (E : XK) (h : sp_stretch vs H Q E) : rd_stretch K { nx := fun _ H' => Q .non H', rt := Q } (start N_stretch vs) H := by
  match vs, h with
  | [a, b], h =>
    obtain ⟨b, c, rfl, rfl, ⟨hb, h1, h2⟩, q⟩ := h
    have hp := size_pos b
    unfold rd_stretch
    refine q_drop (v := .non) (by walk_at "ev"; exact hb) fun H1 e1 => ?_
    refine q_drop (v := .non) (by walk_at "ev"; show 1 ≤ c ∧ c ≤ 60; omega) fun H2 e2 => ?_
    refine q_if1 (b := decide (c < size b)) (et_test (by walk_at "ev"; exact hb.txt)) (fun hb' => by have := of_decide_eq_true hb'; omega) (fun _ H3 e3 => ?_)
    exact s_retU (eu_ok (by walk_at "ev") (spv_U2 ⟨hb, h1, by omega⟩)) fun p H4 hp e4 h4 => q p H4 (fresh_back ((e1.trans e2).trans e3) hp) (((e1.trans e2).trans e3).trans e4) h4
/-- how many of so many digits, up to n -/
def upTerm (b n c : Int) : Int := if stF b c ≤ n then min (stL b c) n - stF b c + 1 else 0
def upTo (b n : Int) : Int := ((rgI (size b) (size n + 1)).map (upTerm b n)).sum
abbrev sp_up_to_of : Sp := spI2 (fun b n => BegC b ∧ TxtC n) (fun b n => .int (upTo b n))
def rd_up_to_of (K : PySem.W.Frag) : TS :=
      (tSeq (tAsg (tC (.int 0)) (gName 2))
      (tSeq (tFor (iRng2 (tCons (tCall (sp_size_of) [] E0 (tCons (tVar 0) tNil)) (tCons (tOp rAddI (tCall (sp_size_of) [] E0 (tCons (tVar 1) tNil)) (tC (.int 1))) tNil))) (gName 3)
        (tSeq (tAsg (tCall (sp_stretch_of) [] E0 (tCons (tVar 0) (tCons (tVar 3) tNil))) (gTup K 2 (gCons (gName 4) (gCons (gName 5) gNil))))
      (tIfS (tTest (tOp rGeI (tVar 1) (tVar 4)))
        (tAug 2 (tOp rAddI (tOp rSubI (tCB rMin2I (tCons (tVar 5) (tCons (tVar 1) tNil))) (tVar 4)) (tC (.int 1))) rAddI)
        tNext)))
      (tRet (tVar 2))))
def N_up_to_of : List Str := ["beginning", "number", "found", "count", "first", "last"]
theorem pure_up_to_of {K : PySem.W.Frag} (vs : List V) (H : Hp) (Q : VK) (E : XK) (h : sp_up_to_of vs H Q E) : rd_up_to_of K { nx := fun _ H' => Q .non H', rt := Q } (start N_up_to_of vs) H := by
  match vs, h with
  | [a, b], h =>
    obtain ⟨b, n, rfl, rfl, ⟨hb, hn⟩, q⟩ := h
    have hs := size_txt hn
    have hs2 := size_beg hb
    have hp := size_pos n
    unfold rd_up_to_of
    refine q_asg (v := .int 0) (by walk_at "ev") fun H1 e1 => ?_
    refine q_forR2 (lo := size b) (n := size n + 1) (by walk_at "ev"; exact hb.txt; exact hn) (by omega) (fun i σ' H' => ∃ y3 y4 y5, σ' = [some (.int b), some (.int n), some (.int ((rgI (size b) (size b + (i : Nat))).map (upTerm b n)).sum), y3, y4, y5] ∧ Ex H H')
      (fun H2 e2 => ⟨none, none, none, by rw [rgI_nil (by omega)]; rfl, e1.trans e2⟩) (fun i σ' H' hi hp => ?_) (fun σ' H' hp => ?_)
    · obtain ⟨y3, y4, y5, rfl, e⟩ := hp
      refine q_asgT (v := .int (stF b (size b + i))) (w := .int (stL b (size b + i))) (eu_ok (by walk_at "ev") (spv_U2 ⟨hb, by omega, by omega⟩)) fun H2 e2 => ?_
      have next : ∀ z, z = upTerm b n (size b + i) → ((rgI (size b) (size b + (i : Nat))).map (upTerm b n)).sum + z = ((rgI (size b) (size b + ((i + 1 : Nat) : Int))).map (upTerm b n)).sum := fun z hz => by
        rw [show size b + ((i + 1 : Nat) : Int) = (size b + (i : Int)) + 1 by omega, rgI_snoc (by omega), List.map_append, List.sum_append, hz]
        simp
      refine s_if (b := decide (stF b (size b + i) ≤ n)) (et_test (by walk_at "ev")) (fun hb' H3 e3 => ?_) (fun hb' H3 e3 => ?_)
      · refine s_aug0 (a := ((rgI (size b) (size b + (i : Nat))).map (upTerm b n)).sum) (b := min (stL b (size b + i)) n - stF b (size b + i) + 1) rfl (by walk_at "ev") fun H4 e4 => ?_
        refine ⟨some (.int (size b + i)), some (.int (stF b (size b + i))), some (.int (stL b (size b + i))), ?_, ((e.trans e2).trans e3).trans e4⟩
        rw [← next _ (show min (stL b (size b + i)) n - stF b (size b + i) + 1 = upTerm b n (size b + i) by unfold upTerm; rw [if_pos (of_decide_eq_true hb')])]
        rfl
      · refine ⟨some (.int (size b + i)), some (.int (stF b (size b + i))), some (.int (stL b (size b + i))), ?_, (e.trans e2).trans e3⟩
        rw [← next 0 (by unfold upTerm; rw [if_neg (of_decide_eq_false hb')]), Int.add_zero]
        rfl
    · obtain ⟨y3, y4, y5, rfl, e⟩ := hp
      refine s_ret (v := .int (upTo b n)) (ev_is (ev_var rfl) ?_) fun H2 e2 => q H2 (e.trans e2)
      unfold upTo
      rw [rgI_toNat]
abbrev sp_count_up_to : Sp := spI2 (fun b n => BegC b ∧ NumC n) (fun b n => .int (upTo b n))
def rd_count_up_to (K : PySem.W.Frag) : TS :=
      (tSeq (tDrop (tCall (sp_check_beginning) [] E0 (tCons (tVar 0) tNil)))
      (tSeq (tDrop (tCall (sp_check_number) [] E0 (tCons (tVar 1) tNil)))
      (tRet (tCall (sp_up_to_of) [] E0 (tCons (tVar 0) (tCons (tVar 1) tNil))))))
def N_count_up_to : List Str := ["beginning", "number"]
theorem pure_count_up_to {K : PySem.W.Frag} (vs : List V) (H : Hp) (Q : VK) (E : XK) (h : sp_count_up_to vs H Q E) : rd_count_up_to K { nx := fun _ H' => Q .non H', rt := Q } (start N_count_up_to vs) H := by
  match vs, h with
  | [a, b], h =>
    obtain ⟨b, n, rfl, rfl, ⟨hb, hn⟩, q⟩ := h
    unfold rd_count_up_to
    refine q_drop (v := .non) (by walk_at "ev"; exact hb) fun H1 e1 => ?_
    refine q_drop (v := .non) (by walk_at "ev"; exact hn) fun H2 e2 => ?_
    exact s_ret (v := .int (upTo b n)) (by walk_at "ev"; exact ⟨hb, hn.txt⟩) fun H3 e3 => q H3 ((e1.trans e2).trans e3)
/-- how many from l to h -/
def between (b l h : Int) : Int := if h < l then 0 else upTo b h - (if 1 < l then upTo b (l - 1) else 0)
abbrev sp_count_between : Sp := spI3 (fun b l h => BegC b ∧ NumC l ∧ NumC h) (fun b l h => .int (between b l h))
def rd_count_between (K : PySem.W.Frag) : TS :=
      (tSeq (tDrop (tCall (sp_check_beginning) [] E0 (tCons (tVar 0) tNil)))
      (tSeq (tDrop (tCall (sp_check_number) [] E0 (tCons (tVar 1) tNil)))
      (tSeq (tDrop (tCall (sp_check_number) [] E0 (tCons (tVar 2) tNil)))
      (tSeq (tIfS (tTest (tOp rGtI (tVar 1) (tVar 2)))
        (tRet (tC (.int 0)))
        tNext)
      (tRet (tOp rSubI (tCall (sp_up_to_of) [] E0 (tCons (tVar 0) (tCons (tVar 2) tNil))) (tIf (tTest (tOp rGtI (tVar 1) (tC (.int 1)))) (tCall (sp_up_to_of) [] E0 (tCons (tVar 0) (tCons (tOp rSubI (tVar 1) (tC (.int 1))) tNil))) (tC (.int 0)))))))))
def N_count_between : List Str := ["beginning", "low", "high"]
theorem pure_count_between {K : PySem.W.Frag} (vs : List V) (H : Hp) (Q : VK) (E : XK) (h : sp_count_between vs H Q E) : rd_count_between K { nx := fun _ H' => Q .non H', rt := Q } (start N_count_between vs) H := by
  match vs, h with
  | [a, b, c], h =>
    obtain ⟨b, l, h, rfl, rfl, rfl, ⟨hb, hl, hh⟩, q⟩ := h
    unfold rd_count_between
    refine q_drop (v := .non) (by walk_at "ev"; exact hb) fun H1 e1 => ?_
    refine q_drop (v := .non) (by walk_at "ev"; exact hl) fun H2 e2 => ?_
    refine q_drop (v := .non) (by walk_at "ev"; exact hh) fun H3 e3 => ?_
    have e13 := (e1.trans e2).trans e3
    refine q_if1 (b := decide (h < l)) (et_test (by walk_at "ev")) (fun hb' H4 e4 => ?_) (fun hb' H4 e4 => ?_)
    · refine s_ret (v := .int (between b l h)) (ev_is ev_c ?_) fun H5 e5 => q H5 ((e13.trans e4).trans e5)
      unfold between; rw [if_pos (of_decide_eq_true hb')]
    · refine s_ret (v := .int (between b l h)) (ev_is (ev_op (x := .int (upTo b h)) (y := .int (if 1 < l then upTo b (l - 1) else 0)) (by walk_at "ev"; exact ⟨hb, hh.txt⟩) (ev_if (b := decide (1 < l)) (et_test (by walk_at "ev")) (fun h1 => ?_) (fun h1 => ?_)) rv_I0) ?_) fun H5 e5 => q H5 ((e13.trans e4).trans e5)
      · have h1 := of_decide_eq_true h1
        have hlo := hl.lo
        have hhi := hl.hi
        rw [if_pos h1]
        walk_at "ev"
        exact ⟨hb, NumC.txt ⟨by omega, by omega⟩⟩
      · rw [if_neg (of_decide_eq_false h1)]
        exact ev_c
      · unfold between; rw [if_neg (of_decide_eq_false hb')]
def leastF (b n : Int) : Int := if begins n b = true then n else if n ≤ stF b (max (size n) (size b)) then stF b (max (size n) (size b)) else stF b (max (size n) (size b) + 1)
abbrev sp_least_from : Sp := spI2 (fun b n => BegC b ∧ NumC n) (fun b n => .int (leastF b n))
def rd_least_from (K : PySem.W.Frag) : TS :=
      (tSeq (tDrop (tCall (sp_check_beginning) [] E0 (tCons (tVar 0) tNil)))
      (tSeq (tDrop (tCall (sp_check_number) [] E0 (tCons (tVar 1) tNil)))
      (tSeq (tIfS (tB (tCall (sp_begins_of) [] E0 (tCons (tVar 1) (tCons (tVar 0) tNil))))
        (tRet (tVar 1))
        tNext)
      (tSeq (tAsg (tCB rMax2I (tCons (tCall (sp_size_of) [] E0 (tCons (tVar 1) tNil)) (tCons (tCall (sp_size_of) [] E0 (tCons (tVar 0) tNil)) tNil))) (gName 2))
      (tSeq (tAsg (tCall (sp_stretch_of) [] E0 (tCons (tVar 0) (tCons (tVar 2) tNil))) (gTup K 2 (gCons (gName 3) (gCons (gName 4) gNil))))
      (tRet (tIf (tTest (tOp rGeI (tVar 3) (tVar 1))) (tVar 3) (tOp (rIxT K) (tCall (sp_stretch_of) [] E0 (tCons (tVar 0) (tCons (tOp rAddI (tVar 2) (tC (.int 1))) tNil))) (tC (.int 0))))))))))
def N_least_from : List Str := ["beginning", "number", "count", "first", "last"]
theorem pure_least_from {K : PySem.W.Frag} (vs : List V) (H : Hp) (Q : VK) (E : XK) (h : sp_least_from vs H Q E) : rd_least_from K { nx := fun _ H' => Q .non H', rt := Q } (start N_least_from vs) H := by
  match vs, h with
  | [a, b], h =>
    obtain ⟨b, n, rfl, rfl, ⟨hb, hn⟩, q⟩ := h
    have hs1 := size_beg hb
    have hs2 := size_num hn
    unfold rd_least_from
    refine q_drop (v := .non) (by walk_at "ev"; exact hb) fun H1 e1 => ?_
    refine q_drop (v := .non) (by walk_at "ev"; exact hn) fun H2 e2 => ?_
    have e12 := e1.trans e2
    refine q_if1 (b := begins n b) (et_B (by walk_at "ev"; exact ⟨hn.txt, hb.txt⟩)) (fun hb' H3 e3 => ?_) (fun hb' H3 e3 => ?_)
    · refine s_ret (v := .int (leastF b n)) (ev_is (ev_var rfl) ?_) fun H4 e4 => q H4 ((e12.trans e3).trans e4)
      unfold leastF; rw [if_pos hb']
    · refine q_asg (v := .int (max (size n) (size b))) (ev_cb (ea_cons (x := .int (size n)) (by walk_at "ev"; exact hn.txt) (ea_cons (x := .int (size b)) (by walk_at "ev"; exact hb.txt) ea_nil)) rc_max2) fun H4 e4 => ?_
      refine q_asgT (v := .int (stF b (max (size n) (size b)))) (w := .int (stL b (max (size n) (size b)))) (eu_ok (by walk_at "ev") (spv_U2 ⟨hb, by omega, by omega⟩)) fun H5 e5 => ?_
      refine s_ret (v := .int (leastF b n)) (ev_if (b := decide (n ≤ stF b (max (size n) (size b)))) (et_test (by walk_at "ev")) (fun h1 => ?_) (fun h1 => ?_)) fun H6 e6 => q H6 ((((e12.trans e3).trans e4).trans e5).trans e6)
      · refine ev_is (ev_var rfl) ?_
        unfold leastF; rw [if_neg (by rw [hb']; decide), if_pos (of_decide_eq_true h1)]
      · refine ev_is (ev_ixU (xs := [.int (stF b (max (size n) (size b) + 1)), .int (stL b (max (size n) (size b) + 1))]) (eu_ok (by walk_at "ev") (spv_U2 ⟨hb, by omega, by omega⟩)) (atI_nat (j := 0) rfl)) ?_
        unfold leastF; rw [if_neg (by rw [hb']; decide), if_neg (of_decide_eq_false h1)]
abbrev sp_last_before : Sp := sp2 fun a a' H Q => ∃ b n, a = .int b ∧ a' = .int n ∧ BegC b ∧ NumC n ∧ b < n ∧ ∀ c, size b ≤ c → c ≤ size n → stF b c < n → (∀ c', c < c' → c' ≤ size n → n ≤ stF b c') → ∀ H', Ex H H' → Q (.int (min (stL b c) (n - 1))) H'
def rd_last_before (K : PySem.W.Frag) : TS :=
      (tSeq (tDrop (tCall (sp_check_beginning) [] E0 (tCons (tVar 0) tNil)))
      (tSeq (tDrop (tCall (sp_check_number) [] E0 (tCons (tVar 1) tNil)))
      (tSeq (tFor (iRng3 (tCons (tCall (sp_size_of) [] E0 (tCons (tVar 1) tNil)) (tCons (tOp rSubI (tCall (sp_size_of) [] E0 (tCons (tVar 0) tNil)) (tC (.int 1))) (tCons (tUn rNeg (tC (.int 1))) tNil)))) (gName 2)
        (tSeq (tAsg (tCall (sp_stretch_of) [] E0 (tCons (tVar 0) (tCons (tVar 2) tNil))) (gTup K 2 (gCons (gName 3) (gCons (gName 4) gNil))))
      (tIfS (tTest (tOp rLtI (tVar 3) (tVar 1)))
        (tRet (tCB rMin2I (tCons (tVar 4) (tCons (tOp rSubI (tVar 1) (tC (.int 1))) tNil))))
        tNext)))
      tNever)))
def N_last_before : List Str := ["beginning", "number", "count", "first", "last"]
theorem stF_self (b : Int) : stF b (size b) = b := by unfold stF; rw [tenI_zero (by omega), Int.mul_one]
theorem pure_last_before {K : PySem.W.Frag} (vs : List V) (H : Hp) (Q : VK) (E : XK) (h : sp_last_before vs H Q E) : rd_last_before K { nx := fun _ H' => Q .non H', rt := Q } (start N_last_before vs) H := by
  match vs, h with
  | [a, b], h =>
    obtain ⟨b, n, rfl, rfl, hb, hn, hlt, q⟩ := h
    have hs1 := size_beg hb
    have hs2 := size_num hn
    have hle := size_mono (m := b) (n := n) (by omega)
    unfold rd_last_before
    refine q_drop (v := .non) (by walk_at "ev"; exact hb) fun H1 e1 => ?_
    refine q_drop (v := .non) (by walk_at "ev"; exact hn) fun H2 e2 => ?_
    refine q_forDn (lo := size n) (n := size b - 1) (by walk_at "ev"; exact hn.txt; exact hb.txt) (by omega) (fun i σ' H' => ∃ y2 y3 y4, σ' = [some (.int b), some (.int n), y2, y3, y4] ∧ Ex H H' ∧ ∀ c', size n - (i : Int) < c' → c' ≤ size n → n ≤ stF b c')
      (fun H3 e3 => ⟨none, none, none, rfl, (e1.trans e2).trans e3, fun c' h1 h2 => by omega⟩) (fun i σ' H' hi hp => ?_) (fun σ' H' hp => ?_)
    · obtain ⟨y2, y3, y4, rfl, e, hall⟩ := hp
      refine q_asgT (v := .int (stF b (size n - i))) (w := .int (stL b (size n - i))) (eu_ok (by walk_at "ev") (spv_U2 ⟨hb, by omega, by omega⟩)) fun H3 e3 => ?_
      refine s_if (b := decide (stF b (size n - i) < n)) (et_test (by walk_at "ev")) (fun hb' H4 e4 => ?_) (fun hb' H4 e4 => ?_)
      · exact s_ret (v := .int (min (stL b (size n - i)) (n - 1))) (by walk_at "ev") fun H5 e5 => q _ (by omega) (by omega) (of_decide_eq_true hb') hall H5 (((e.trans e3).trans e4).trans e5)
      · refine ⟨_, _, _, rfl, (e.trans e3).trans e4, fun c' h1 h2 => ?_⟩
        have := of_decide_eq_false hb'
        by_cases hc : c' = size n - (i : Int)
        · rw [hc]; omega
        · exact hall c' (by omega) h2
    · obtain ⟨y2, y3, y4, rfl, e, hall⟩ := hp
      have := hall (size b) (by omega) hle
      rw [stF_self] at this
      omega
/-- 1 + 10 + .. (k of them) -/
def rep (k : Int) : Int := (tenI k - 1) / 9
theorem rep0 (r : Int) : r = rep 0 + r := by
  have : rep 0 = 0 := rfl
  omega
theorem rep_succ {k : Int} (h : 0 ≤ k) : rep (k + 1) = rep k + tenI k := by
  unfold rep; rw [tenI_succ h]
  omega
abbrev sp_number_at : Sp := sp2 fun a a' H Q => ∃ b r, a = .int b ∧ a' = .int r ∧ BegC b ∧ 0 ≤ r ∧ r ≤ 1000000000 ∧ ∀ k l, 0 ≤ k → 0 ≤ l → l < tenI k → r = rep k + l → ∀ H', Ex H H' → Q (.int (b * tenI k + l)) H'
def rd_number_at (K : PySem.W.Frag) : TS :=
      (tSeq (tDrop (tCall (sp_check_beginning) [] E0 (tCons (tVar 0) tNil)))
      (tSeq (tDrop (tCall (sp_check_count) [] E0 (tCons (tVar 1) (tCons (tC (.int 0)) (tCons (tC (.int 1000000000)) tNil)))))
      (tSeq (tPar 2 3 (tCons (tVar 1) (tCons (tC (.int 0)) tNil)))
      (tSeq (tWhile (tTest (tOp rGeI (tVar 2) (tCall (sp_ten_to) [] E0 (tCons (tVar 3) tNil))))
        (tSeq (tAug 2 (tCall (sp_ten_to) [] E0 (tCons (tVar 3) tNil)) rSubI)
      (tAug 3 (tC (.int 1)) rAddI)))
      (tRet (tOp rAddI (tOp rMulX (tVar 0) (tCall (sp_ten_to) [] E0 (tCons (tVar 3) tNil))) (tVar 2)))))))
def N_number_at : List Str := ["beginning", "rank", "left", "more"]
theorem pure_number_at {K : PySem.W.Frag} (vs : List V) (H : Hp) (Q : VK) (E : XK) (h : sp_number_at vs H Q E) : rd_number_at K { nx := fun _ H' => Q .non H', rt := Q } (start N_number_at vs) H := by
  match vs, h with
  | [a, b], h =>
    obtain ⟨b, r, rfl, rfl, hb, h0, h1, q⟩ := h
    have hb0 := hb.lo
    have hb1 := hb.hi
    unfold rd_number_at
    refine q_drop (v := .non) (by walk_at "ev"; exact hb) fun H1 e1 => ?_
    refine q_drop (v := .non) (by walk_at "ev"; exact ⟨h0, h1⟩) fun H2 e2 => ?_
    refine q_par (v := .int r) (w := .int 0) (by walk_at "ev") fun H3 e3 => ?_
    refine q_while (fun m σ' H' => ∃ l k : Int, σ' = [some (.int b), some (.int r), some (.int l), some (.int k)] ∧ m = l.toNat ∧ 0 ≤ l ∧ 0 ≤ k ∧ k ≤ 20 ∧ r = rep k + l ∧ (k = 0 ∨ tenI (k - 1) ≤ r) ∧ Ex H H') r.toNat ⟨r, 0, rfl, rfl, h0, by decide, by decide, rep0 r, .inl rfl, (e1.trans e2).trans e3⟩ fun m σ' H' hw => ?_
    obtain ⟨l, k, rfl, rfl, hl, hk, hk2, hr, hk3, e⟩ := hw
    have htp := tenI_pos k
    refine ⟨decide (tenI k ≤ l), et_test (by walk_at "ev"; show 0 ≤ k ∧ k ≤ 1000; omega), fun hb' H4 e4 => ?_, fun hb' H4 e4 => ?_⟩
    · have hge := of_decide_eq_true hb'
      refine ⟨_, fun σ2 H3 hN => hN, ?_⟩
      refine q_aug0 (a := l) (b := tenI k) rfl (by walk_at "ev"; show 0 ≤ k ∧ k ≤ 1000; omega) fun H5 e5 => ?_
      refine s_aug0 (a := k) (b := 1) rfl (by walk_at "ev") fun H6 e6 => ?_
      have hrp : 0 ≤ rep k := by unfold rep; omega
      have hk20 : k < 20 := by
        by_cases hc : k < 20
        · exact hc
        · have hmono := tenI_mono (a := 20) (b := k) (by omega)
          have : tenI 20 = 10 ^ 20 := rfl
          omega
      exact ⟨(l - tenI k).toNat, by omega, l - tenI k, k + 1, rfl, rfl, by omega, by omega, by omega, by rw [rep_succ hk]; omega, .inr (by rw [show k + 1 - 1 = k by omega]; omega), ((e.trans e4).trans e5).trans e6⟩
    · have hlt := of_decide_eq_false hb'
      exact s_ret (v := .int (b * tenI k + l)) (by
        walk_at "ev"
        · show 0 ≤ k ∧ k ≤ 1000
          omega
        · exact mulOk_l (by omega) (by omega)) fun H5 e5 => q k l hk hl (by omega) hr H5 ((e.trans e4).trans e5)
abbrev sp_rank_of : Sp := spI2 (fun b n => BegC b ∧ NumC n ∧ begins n b = true) (fun b n => .int (upTo b n - 1))
def rd_rank_of (K : PySem.W.Frag) : TS :=
      (tSeq (tDrop (tCall (sp_check_beginning) [] E0 (tCons (tVar 0) tNil)))
      (tSeq (tDrop (tCall (sp_check_number) [] E0 (tCons (tVar 1) tNil)))
      (tSeq (tIfS (tNot (tB (tCall (sp_begins_of) [] E0 (tCons (tVar 1) (tCons (tVar 0) tNil)))))
        tNever
        tNext)
      (tRet (tOp rSubI (tCall (sp_up_to_of) [] E0 (tCons (tVar 0) (tCons (tVar 1) tNil))) (tC (.int 1)))))))
def N_rank_of : List Str := ["beginning", "number"]
theorem pure_rank_of {K : PySem.W.Frag} (vs : List V) (H : Hp) (Q : VK) (E : XK) (h : sp_rank_of vs H Q E) : rd_rank_of K { nx := fun _ H' => Q .non H', rt := Q } (start N_rank_of vs) H := by
  match vs, h with
  | [a, b], h =>
    obtain ⟨b, n, rfl, rfl, ⟨hb, hn, hbe⟩, q⟩ := h
    unfold rd_rank_of
    refine q_drop (v := .non) (by walk_at "ev"; exact hb) fun H1 e1 => ?_
    refine q_drop (v := .non) (by walk_at "ev"; exact hn) fun H2 e2 => ?_
    refine q_if1 (b := !begins n b) (et_not (et_B (by walk_at "ev"; exact ⟨hn.txt, hb.txt⟩))) (fun hb' => by rw [hbe] at hb'; cases hb') (fun hb' H3 e3 => ?_)
    exact s_ret (v := .int (upTo b n - 1)) (by walk_at "ev"; exact ⟨hb, hn.txt⟩) fun H4 e4 => q H4 (((e1.trans e2).trans e3).trans e4)
/-! ### multiples.py -/
structure StepC (n : Int) : Prop where
  lo : 1 ≤ n
  hi : n ≤ 1000000
theorem StepC.div {n : Int} (h : StepC n) (i : Int) : CDivW i n := ⟨by have := h.lo; omega, by
  have h1 := h.lo
  have h2 := h.hi
  rw [Nat.log2_lt (by omega)]
  exact Nat.lt_of_lt_of_le (show n.natAbs < 2 ^ 20 by omega) (by decide +kernel)⟩
abbrev sp_check_step : Sp := spI1 StepC (fun _ => .non)
def rd_check_step (K : PySem.W.Frag) : TS :=
      (tIfS (tNot (tB (tCall (sp_is_int) [] E0 (tCons (tVar 0) (tCons (tC (.int 1)) (tCons (tC (.int 1000000)) tNil))))))
        tNever
        tNext)
def N_check_step : List Str := ["value"]
theorem pure_check_step {K : PySem.W.Frag} (vs : List V) (H : Hp) (Q : VK) (E : XK) (h : sp_check_step vs H Q E) : rd_check_step K { nx := fun _ H' => Q .non H', rt := Q } (start N_check_step vs) H := by
  match vs, h with
  | [a], h =>
    obtain ⟨n, rfl, hc, q⟩ := h
    unfold rd_check_step
    refine s_if (b := !(decide (1 ≤ n) && decide (n ≤ 1000000))) (et_not (et_B (by walk_at "ev"; trivial))) (fun h => ?_) (fun _ H1 e => q H1 e)
    rw [decide_eq_true hc.lo, decide_eq_true hc.hi] at h
    cases h
/-- the least multiple of n from f on -/
def ceilM (n f : Int) : Int := (f + n - 1) / n * n
abbrev sp_first_of_stretch : Sp := spI3 (fun n _ _ => StepC n) (fun n f l => if ceilM n f ≤ l then .int (ceilM n f) else .non)
def rd_first_of_stretch (K : PySem.W.Frag) : TS :=
      (tSeq (tAsg (tOp rMulX (tOp rDivW (tOp rSubI (tOp rAddI (tVar 1) (tVar 0)) (tC (.int 1))) (tVar 0)) (tVar 0)) (gName 3))
      (tRet (tIf (tTest (tOp rLeI (tVar 3) (tVar 2))) (tVar 3) (tC .non))))
def N_first_of_stretch : List Str := ["number", "first", "last", "found"]
theorem pure_first_of_stretch {K : PySem.W.Frag} (vs : List V) (H : Hp) (Q : VK) (E : XK) (h : sp_first_of_stretch vs H Q E) : rd_first_of_stretch K { nx := fun _ H' => Q .non H', rt := Q } (start N_first_of_stretch vs) H := by
  match vs, h with
  | [a, b, c], h =>
    obtain ⟨n, f, l, rfl, rfl, rfl, hc, q⟩ := h
    have h0 := hc.lo
    have h1 := hc.hi
    unfold rd_first_of_stretch
    refine q_asg (v := .int ((f + n - 1) / n * n)) (by
      walk_at "ev"
      · exact hc.div _
      · exact mulOk_r (by omega) (by omega)) fun H1 e1 => ?_
    show tRet _ _ [some (.int n), some (.int f), some (.int l), some (.int (ceilM n f))] H1
    refine s_ret (v := if ceilM n f ≤ l then .int (ceilM n f) else .non) (ev_if (b := decide (ceilM n f ≤ l)) (et_test (by walk_at "ev")) (fun h1 => ?_) (fun h1 => ?_)) fun H2 e2 => q H2 (e1.trans e2)
    · rw [if_pos (of_decide_eq_true h1)]; exact ev_var rfl
    · rw [if_neg (of_decide_eq_false h1)]; exact ev_c
theorem ceilM_ge {n f : Int} (h : 1 ≤ n) : f ≤ ceilM n f ∧ ceilM n f < f + n := by
  unfold ceilM
  have := Int.emod_add_mul_ediv (f + n - 1) n
  have h1 := Int.emod_nonneg (f + n - 1) (show n ≠ 0 by omega)
  have h2 := Int.emod_lt_of_pos (f + n - 1) (show 0 < n by omega)
  rw [Int.mul_comm] at this
  omega
/-- at so many digits there is one -/
def hasM (n b c : Int) : Prop := ceilM n (stF b c) ≤ stL b c
abbrev sp_first_multiple : Sp := sp2 fun a a' H Q => ∃ n b, a = .int n ∧ a' = .int b ∧ StepC n ∧ BegC b ∧ ∀ c, size b ≤ c → c ≤ size b + 6 → hasM n b c → (∀ c', size b ≤ c' → c' < c → ¬ hasM n b c') → ∀ H', Ex H H' → Q (.int (ceilM n (stF b c))) H'
def rd_first_multiple (K : PySem.W.Frag) : TS :=
      (tSeq (tDrop (tCall (sp_check_step) [] E0 (tCons (tVar 0) tNil)))
      (tSeq (tDrop (tCall (sp_check_beginning) [] E0 (tCons (tVar 1) tNil)))
      (tSeq (tAsg (tCall (sp_size_of) [] E0 (tCons (tVar 1) tNil)) (gName 2))
      (tSeq (tAsg (tCall (sp_stretch_of) [] E0 (tCons (tVar 1) (tCons (tVar 2) tNil))) (gTup K 2 (gCons (gName 3) (gCons (gName 4) gNil))))
      (tSeq (tWhile (tTest (tOp rIsN (tCall (sp_first_of_stretch) [] E0 (tCons (tVar 0) (tCons (tVar 3) (tCons (tVar 4) tNil)))) (tC .non)))
        (tSeq (tAug 2 (tC (.int 1)) rAddI)
      (tAsg (tCall (sp_stretch_of) [] E0 (tCons (tVar 1) (tCons (tVar 2) tNil))) (gTup K 2 (gCons (gName 3) (gCons (gName 4) gNil))))))
      (tRet (tCall (sp_first_of_stretch) [] E0 (tCons (tVar 0) (tCons (tVar 3) (tCons (tVar 4) tNil))))))))))
def N_first_multiple : List Str := ["number", "beginning", "count", "first", "last"]
theorem stL_eq (b c : Int) : stL b c = stF b c + tenI (c - size b) - 1 := by unfold stL stF; rw [Int.add_mul, Int.one_mul]
theorem hasM_six {n b c : Int} (hn : StepC n) (h : size b + 6 ≤ c) : hasM n b c := by
  unfold hasM
  rw [stL_eq]
  have h1 := (ceilM_ge (f := stF b c) hn.lo).2
  have h2 := tenI_mono (a := 6) (b := c - size b) (by omega)
  have h3 : tenI 6 = 1000000 := rfl
  have h4 := hn.hi
  omega
theorem pure_first_multiple {K : PySem.W.Frag} (vs : List V) (H : Hp) (Q : VK) (E : XK) (h : sp_first_multiple vs H Q E) : rd_first_multiple K { nx := fun _ H' => Q .non H', rt := Q } (start N_first_multiple vs) H := by
  match vs, h with
  | [a, b], h =>
    obtain ⟨n, b, rfl, rfl, hn, hb, q⟩ := h
    have hs := size_beg hb
    unfold rd_first_multiple
    refine q_drop (v := .non) (by walk_at "ev"; exact hn) fun H1 e1 => ?_
    refine q_drop (v := .non) (by walk_at "ev"; exact hb) fun H2 e2 => ?_
    refine q_asg (v := .int (size b)) (by walk_at "ev"; exact hb.txt) fun H3 e3 => ?_
    refine q_asgT (v := .int (stF b (size b))) (w := .int (stL b (size b))) (eu_ok (by walk_at "ev") (spv_U2 ⟨hb, by omega, by omega⟩)) fun H4 e4 => ?_
    refine q_while (fun m σ' H' => ∃ c : Int, σ' = [some (.int n), some (.int b), some (.int c), some (.int (stF b c)), some (.int (stL b c))] ∧ m = (size b + 7 - c).toNat ∧ size b ≤ c ∧ c ≤ size b + 6 ∧ (∀ c', size b ≤ c' → c' < c → ¬ hasM n b c') ∧ Ex H H') 7 ⟨size b, rfl, by omega, by omega, by omega, fun c' h1 h2 => by omega, ((e1.trans e2).trans e3).trans e4⟩ fun m σ' H' hw => ?_
    obtain ⟨c, rfl, rfl, hc1, hc2, hno, e⟩ := hw
    have ht : EvT (tTest (tOp rIsN (tCall (sp_first_of_stretch) [] E0 (tCons (tVar 0) (tCons (tVar 3) (tCons (tVar 4) tNil)))) (tC .non))) [some (.int n), some (.int b), some (.int c), some (.int (stF b c)), some (.int (stL b c))] H' (decide ((if ceilM n (stF b c) ≤ stL b c then V.int (ceilM n (stF b c)) else V.non) = .non)) := et_test (by walk_at "ev"; exact hn)
    by_cases hh : hasM n b c
    · refine ⟨false, et_is ht ?_, (fun hb' => by cases hb'), fun _ H5 e5 => ?_⟩
      · unfold hasM at hh
        rw [if_pos hh]
        exact decide_eq_false (fun h => by cases h)
      · refine s_ret (v := .int (ceilM n (stF b c))) (ev_is (by walk_at "ev"; exact hn) ?_) fun H6 e6 => q c hc1 hc2 hh hno H6 ((e.trans e5).trans e6)
        unfold hasM at hh
        rw [if_pos hh]
    · refine ⟨true, et_is ht ?_, fun _ H5 e5 => ?_, fun hb' => by cases hb'⟩
      · unfold hasM at hh
        rw [if_neg hh]
        exact decide_eq_true rfl
      · have hc6 : c < size b + 6 := by
          by_cases h6 : c < size b + 6
          · exact h6
          · exact absurd (hasM_six hn (by omega)) hh
        refine ⟨_, fun σ2 H3 hN => hN, ?_⟩
        refine q_aug0 (a := c) (b := 1) rfl (by walk_at "ev") fun H6 e6 => ?_
        refine s_asgT (v := .int (stF b (c + 1))) (w := .int (stL b (c + 1))) (eu_ok (by walk_at "ev") (spv_U2 ⟨hb, by omega, by omega⟩)) fun H7 e7 => ?_
        refine ⟨(size b + 7 - (c + 1)).toNat, by omega, c + 1, rfl, rfl, by omega, by omega, fun c' h1 h2 => ?_, ((e.trans e5).trans e6).trans e7⟩
        by_cases hcc : c' = c
        · rw [hcc]; exact hh
        · exact hno c' h1 (by omega)
abbrev sp_multiple_places : Sp := spL3 (fun n b m => StepC n ∧ BegC b ∧ 1 ≤ m ∧ m ≤ 1000) (fun n b m => ((rgI 1 (m + 1)).filter fun f => begins (n * f) b).map V.int)
def rd_multiple_places (K : PySem.W.Frag) : TS :=
      (tSeq (tDrop (tCall (sp_check_step) [] E0 (tCons (tVar 0) tNil)))
      (tSeq (tDrop (tCall (sp_check_beginning) [] E0 (tCons (tVar 1) tNil)))
      (tSeq (tDrop (tCall (sp_check_count) [] E0 (tCons (tVar 2) (tCons (tC (.int 1)) (tCons (tC (.int 1000)) tNil)))))
      (tRet (tLc (iRng2 (tCons (tC (.int 1)) (tCons (tOp rAddI (tVar 2) (tC (.int 1))) tNil))) (gName 3) (tB (tCall (sp_begins_of) [] E0 (tCons (tOp rMulX (tVar 0) (tVar 3)) (tCons (tVar 1) tNil)))) (tVar 3) [3])))))
def N_multiple_places : List Str := ["number", "beginning", "most", "factor"]
theorem wipe3 {a b c d : Option V} : ∀ x, wipe ((wipe [a, b, c, d] [3]).set 3 (some x)) [3] = wipe [a, b, c, d] [3] := fun _ => rfl
theorem txt_mul {n f : Int} (hn : StepC n) (h0 : 1 ≤ f) (h1 : f ≤ 1000) : TxtC (n * f) ∧ 1 ≤ n * f ∧ n * f ≤ 1000000000 := by
  have h2 : n * f ≤ 1000000 * 1000 := Int.mul_le_mul hn.hi h1 (by omega) (by decide)
  have h3 : 1 * 1 ≤ n * f := Int.mul_le_mul hn.lo h0 (by decide) (by have := hn.lo; omega)
  exact ⟨⟨by omega, Int.lt_of_le_of_lt (b := 1000000000) (by omega) (Int.lt_of_lt_of_le (b := 10 ^ 10) (by decide) (pow_lt (by decide)))⟩, by omega, by omega⟩
theorem pure_multiple_places {K : PySem.W.Frag} (vs : List V) (H : Hp) (Q : VK) (E : XK) (h : sp_multiple_places vs H Q E) : rd_multiple_places K { nx := fun _ H' => Q .non H', rt := Q } (start N_multiple_places vs) H := by
  match vs, h with
  | [a, b, c], h =>
    obtain ⟨n, b, m, rfl, rfl, rfl, ⟨hn, hb, h0, h1⟩, q⟩ := h
    have hn0 := hn.lo
    have hn1 := hn.hi
    unfold rd_multiple_places
    refine q_drop (v := .non) (by walk_at "ev"; exact hn) fun H1 e1 => ?_
    refine q_drop (v := .non) (by walk_at "ev"; exact hb) fun H2 e2 => ?_
    refine q_drop (v := .non) (by walk_at "ev"; exact ⟨h0, h1⟩) fun H3 e3 => ?_
    have e13 := (e1.trans e2).trans e3
    refine s_retL (el_lcR2 (a := 1) (b := m + 1) (fun f => begins (n * f) b) V.int (by walk_at "ev") (by omega) wipe3 (fun z H4 e4 z0 z1 => et_B (by
      walk_at "ev"
      · exact mulOk_l (by omega) (by omega)
      · exact ⟨(txt_mul hn z0 (by omega)).1, hb.txt⟩)) (fun z H4 e4 z0 z1 hz => ev_var rfl)) fun p H4 hp e4 h4 => q p H4 (fresh_back e13 hp) (e13.trans e4) h4
def cntM (n b c : Int) : Int := if c < size b then 0 else stL b c / n - (stF b c - 1) / n
abbrev sp_count_multiples : Sp := spI3 (fun n b c => StepC n ∧ BegC b ∧ 1 ≤ c ∧ c ≤ 60) (fun n b c => .int (cntM n b c))
def rd_count_multiples (K : PySem.W.Frag) : TS :=
      (tSeq (tDrop (tCall (sp_check_step) [] E0 (tCons (tVar 0) tNil)))
      (tSeq (tDrop (tCall (sp_check_beginning) [] E0 (tCons (tVar 1) tNil)))
      (tSeq (tDrop (tCall (sp_check_count) [] E0 (tCons (tVar 2) (tCons (tC (.int 1)) (tCons (tC (.int 60)) tNil)))))
      (tSeq (tIfS (tTest (tOp rLtI (tVar 2) (tCall (sp_size_of) [] E0 (tCons (tVar 1) tNil))))
        (tRet (tC (.int 0)))
        tNext)
      (tSeq (tAsg (tCall (sp_stretch_of) [] E0 (tCons (tVar 1) (tCons (tVar 2) tNil))) (gTup K 2 (gCons (gName 3) (gCons (gName 4) gNil))))
      (tRet (tOp rSubI (tOp rDivW (tVar 4) (tVar 0)) (tOp rDivW (tOp rSubI (tVar 3) (tC (.int 1))) (tVar 0)))))))))
def N_count_multiples : List Str := ["number", "beginning", "count", "first", "last"]
theorem pure_count_multiples {K : PySem.W.Frag} (vs : List V) (H : Hp) (Q : VK) (E : XK) (h : sp_count_multiples vs H Q E) : rd_count_multiples K { nx := fun _ H' => Q .non H', rt := Q } (start N_count_multiples vs) H := by
  match vs, h with
  | [a, b, c], h =>
    obtain ⟨n, b, c, rfl, rfl, rfl, ⟨hn, hb, h0, h1⟩, q⟩ := h
    unfold rd_count_multiples
    refine q_drop (v := .non) (by walk_at "ev"; exact hn) fun H1 e1 => ?_
    refine q_drop (v := .non) (by walk_at "ev"; exact hb) fun H2 e2 => ?_
    refine q_drop (v := .non) (by walk_at "ev"; exact ⟨h0, h1⟩) fun H3 e3 => ?_
    have e13 := (e1.trans e2).trans e3
    refine q_if1 (b := decide (c < size b)) (et_test (by walk_at "ev"; exact hb.txt)) (fun hb' H4 e4 => ?_) (fun hb' H4 e4 => ?_)
    · refine s_ret (v := .int (cntM n b c)) (ev_is ev_c ?_) fun H5 e5 => q H5 ((e13.trans e4).trans e5)
      unfold cntM; rw [if_pos (of_decide_eq_true hb')]
    · have hge := of_decide_eq_false hb'
      refine q_asgT (v := .int (stF b c)) (w := .int (stL b c)) (eu_ok (by walk_at "ev") (spv_U2 ⟨hb, by omega, by omega⟩)) fun H5 e5 => ?_
      refine s_ret (v := .int (cntM n b c)) (ev_is (by
        walk_at "ev"
        · exact hn.div _
        · exact hn.div _) ?_) fun H6 e6 => q H6 (((e13.trans e4).trans e5).trans e6)
      unfold cntM; rw [if_neg hge]
end FD

namespace FD
open PySem PySem.Spec PyProof.Rows L2 Evl TL
local macro_rules | `(tactic| walk_at "ev") => `(tactic| repeat' (first | (with_reducible exact ev_c) | ((with_reducible apply ev_var); rfl) | (with_reducible exact ea_nil) | (with_reducible apply ea_cons) | (with_reducible apply ev_op) | (with_reducible exact rv_I0) | (with_reducible apply rv_I) | (with_reducible exact rv_eqI) | (with_reducible exact rv_neI) | (with_reducible exact rv_eqS) | (with_reducible apply ev_ok) | (with_reducible apply ev_cb) | (with_reducible apply spv_I1) | (with_reducible apply spv_I2) | (with_reducible apply spv_I3) | (with_reducible apply et_test) | (with_reducible apply et_B) | (with_reducible apply et_not) | (with_reducible apply ev_notV) | (with_reducible apply ev_un) | (with_reducible exact ru_negI) | (with_reducible exact rc_max2) | (with_reducible exact rc_min2) | (with_reducible exact rv_isB) | (with_reducible exact rv_notB) | (with_reducible exact rv_isN) | (with_reducible exact rv_notN) | (with_reducible apply ev_chainI) | (with_reducible exact rc_isiI) | (with_reducible exact rc_isiB)))
theorem q_raw {σ : L2.St} {H : Hp} {te : TE} {tu : TS} {D : Ends} {i : Nat} (h : te σ H fun v H1 => tu D (σ.set i (some v)) H1) : tSeq (tAsg te (gName i)) tu D σ H := h
theorem rv_neB {x y : Bool} {H : Hp} : RV rNe (.bl x) (.bl y) H (.bl (x != y)) := fun H1 _ _ q => ⟨rfl, by
  have e : (x != y) = !decide (V.bl x = V.bl y) := by cases x <;> cases y <;> decide
  rw [← e]
  exact q H1 (Ex.refl H1)⟩
abbrev sp_law (K : PySem.W.Frag) : Sp := sp1 fun a H Q => ∃ (s : Addr) (ns : List Int), a = .ref s ∧ SqL K H s (ns.map V.int) ∧ ns.length ≤ 63 ∧ ∀ H', Q (.bl true) H'
theorem law_in (K : PySem.W.Frag) {H : Hp} {a : Addr} {ns : List Int} (hl : ns.length ≤ 63) (hS : SqL K H a (ns.map V.int)) : sp_law K [.ref a] H (fun v _ => v = .bl true) fun _ _ _ => False := ⟨a, ns, rfl, hS, hl, fun _ => rfl⟩
end FD

namespace FD
open PySem PySem.Spec PyProof.Rows L2 Evl TL
local macro_rules | `(tactic| walk_at "ev") => `(tactic| repeat' (first | (with_reducible exact ev_c) | ((with_reducible apply ev_var); rfl) | (with_reducible exact ea_nil) | (with_reducible apply ea_cons) | (with_reducible apply ev_op) | (with_reducible exact rv_I0) | (with_reducible apply rv_I) | (with_reducible exact rv_eqI) | (with_reducible exact rv_neI) | (with_reducible exact rv_eqS) | (with_reducible apply ev_ok) | (with_reducible apply ev_cb) | (with_reducible apply spv_I1) | (with_reducible apply spv_I2) | (with_reducible apply spv_I3) | (with_reducible apply et_test) | (with_reducible apply et_B) | (with_reducible apply et_not) | (with_reducible apply ev_notV) | (with_reducible apply ev_un) | (with_reducible exact ru_negI) | (with_reducible exact rc_max2) | (with_reducible exact rc_min2) | (with_reducible exact rv_isB) | (with_reducible exact rv_notB) | (with_reducible exact rv_isN) | (with_reducible exact rv_notN) | (with_reducible apply ev_chainI) | (with_reducible exact rc_isiI) | (with_reducible exact rc_isiB)))
/-- one more digit: ten times it -/
theorem stF_succ {b c : Int} (h : size b ≤ c) : stF b (c + 1) = stF b c * 10 := by
  unfold stF
  rw [show c + 1 - size b = (c - size b) + 1 by omega, tenI_succ (by omega), Int.mul_assoc]
theorem stL_succ {b c : Int} (h : size b ≤ c) : stL b (c + 1) = (stL b c + 1) * 10 - 1 := by
  unfold stL
  rw [show c + 1 - size b = (c - size b) + 1 by omega, tenI_succ (by omega), show (b + 1) * tenI (c - size b) - 1 + 1 = (b + 1) * tenI (c - size b) by omega, Int.mul_assoc]
theorem in_stretch {b c z : Int} (hb : 1 ≤ b) (h : size b ≤ c) (h1 : stF b c ≤ z) (h2 : z ≤ stL b c) : begins z b = true ∧ size z = c := by
  unfold stF at h1
  unfold stL at h2
  have hs := size_stretch (n := z) hb (show 0 ≤ c - size b by omega) h1 (by omega)
  exact ⟨begins_stretch hb (show 0 ≤ c - size b by omega) h1 (by omega), by omega⟩
theorem stretch_of_begins {b z : Int} (h : begins z b = true) : size b ≤ size z ∧ stF b (size z) ≤ z ∧ z ≤ stL b (size z) := by
  rw [begins_iff] at h
  unfold stF stL
  exact ⟨h.1, h.2.1, by omega⟩
/-! ### counting -/
def ind (p : Bool) : Int := if p = true then 1 else 0
theorem ind_true {p : Bool} (h : p = true) : ind p = 1 := if_pos h
theorem ind_false {p : Bool} (h : p = false) : ind p = 0 := if_neg (by rw [h]; decide)
def cntR (p : Int → Bool) (a b : Int) : Int := ((rgI a b).map fun z => ind (p z)).sum
theorem cnt_filter (p : Int → Bool) : ∀ l : List Int, (l.map fun z => ind (p z)).sum = ((l.filter p).length : Int)
  | [] => rfl
  | z :: r => by
    rw [List.map_cons, List.sum_cons, cnt_filter p r, List.filter_cons]
    by_cases h : p z = true
    · rw [if_pos h, ind_true h, List.length_cons]; omega
    · rw [if_neg h, ind_false (by simpa using h)]; omega
theorem cntR_eq (p : Int → Bool) (a b : Int) : cntR p a b = (((rgI a b).filter p).length : Int) := cnt_filter p _
theorem cntR_nonneg (p : Int → Bool) (a b : Int) : 0 ≤ cntR p a b := by rw [cntR_eq]; omega
theorem cntR_split {p : Int → Bool} {a b c : Int} (h1 : a ≤ b) (h2 : b ≤ c) : cntR p a c = cntR p a b + cntR p b c := by
  unfold cntR; rw [rgI_append h1 h2, List.map_append, List.sum_append]
theorem cntR_nil {p : Int → Bool} {a b : Int} (h : b ≤ a) : cntR p a b = 0 := by unfold cntR; rw [rgI_nil h]; rfl
theorem sum_congr {f g : Int → Int} : ∀ {l : List Int}, (∀ z ∈ l, f z = g z) → (l.map f).sum = (l.map g).sum
  | [], _ => rfl
  | z :: r, h => by
    rw [List.map_cons, List.map_cons, List.sum_cons, List.sum_cons, h z List.mem_cons_self, sum_congr fun y hy => h y (List.mem_cons_of_mem _ hy)]
theorem sum_add (f g : Int → Int) : ∀ l : List Int, (l.map fun z => f z + g z).sum = (l.map f).sum + (l.map g).sum
  | [] => rfl
  | z :: r => by rw [List.map_cons, List.map_cons, List.map_cons, List.sum_cons, List.sum_cons, List.sum_cons, sum_add f g r]; omega
theorem sum_zero {f : Int → Int} {l : List Int} (h : ∀ z ∈ l, f z = 0) : (l.map f).sum = 0 := by
  rw [sum_congr (g := fun _ => 0) h]
  induction l with
  | nil => rfl
  | cons z r ih => rw [List.map_cons, List.sum_cons, ih fun y hy => h y (List.mem_cons_of_mem _ hy)]; rfl
theorem sum_swap (f : Int → Int → Int) (l : List Int) : ∀ m : List Int, (l.map fun x => (m.map fun y => f x y).sum).sum = (m.map fun y => (l.map fun x => f x y).sum).sum
  | [] => by
    rw [List.map_nil, List.sum_nil]
    exact sum_zero fun _ _ => rfl
  | y :: r => by
    rw [List.map_cons, List.sum_cons, ← sum_swap f l r, ← sum_add]
    exact sum_congr fun x _ => by rw [List.map_cons, List.sum_cons]
theorem cntR_zero {p : Int → Bool} {a b : Int} (h : ∀ z, a ≤ z → z < b → p z = false) : cntR p a b = 0 := sum_zero fun z hz => by
  rw [mem_rgI] at hz
  exact ind_false (h z hz.1 hz.2)
theorem cntR_pos {p : Int → Bool} {a b z : Int} (h1 : a ≤ z) (h2 : z < b) (h : p z = true) : 0 < cntR p a b := by
  rw [cntR_eq]
  have : z ∈ (rgI a b).filter p := by rw [List.mem_filter, mem_rgI]; exact ⟨⟨h1, h2⟩, h⟩
  have := List.length_pos_of_mem this
  omega
/-- the count of an interval's part -/
theorem cntR_iv {p : Int → Bool} {a c x y : Int} (h1 : a ≤ x) (h2 : x ≤ y) (h3 : y ≤ c) (hp : ∀ z, a ≤ z → z < c → (p z = true ↔ x ≤ z ∧ z < y)) : cntR p a c = y - x := by
  rw [cntR_eq, rgI_filter h1 h2 h3 hp, rgI_length]; omega
/-- one block: the numbers of c digits up to n -/
theorem cnt_block {b n c : Int} (hb : 1 ≤ b) (hc : 1 ≤ c) (h1 : tenI (c - 1) ≤ n) (h2 : n < tenI c) : cntR (fun z => begins z b) (tenI (c - 1)) (n + 1) = if size b ≤ c then upTerm b n c else 0 := by
  by_cases h : size b ≤ c
  · rw [if_pos h]
    have hF : tenI (c - 1) ≤ stF b c := by
      unfold stF
      have hp := size_pos b
      rw [show c - 1 = (size b - 1) + (c - size b) by omega, tenI_add (by omega) (by omega)]
      exact Int.mul_le_mul_of_nonneg_right (ten_size_le hb) (Int.le_of_lt (tenI_pos _))
    have hL := stL_eq b c
    have ht := tenI_pos (c - size b)
    have key : ∀ z, tenI (c - 1) ≤ z → z < n + 1 → (begins z b = true ↔ stF b c ≤ z ∧ z ≤ stL b c) := fun z h3 h4 => by
      have hz : size z = c := size_eq hc h3 (by omega)
      constructor
      · intro hbz
        have := stretch_of_begins hbz
        rw [hz] at this
        exact this.2
      · rintro ⟨h5, h6⟩
        exact (in_stretch hb h h5 h6).1
    unfold upTerm
    by_cases hn : stF b c ≤ n
    · rw [if_pos hn, cntR_iv (x := stF b c) (y := min (stL b c) n + 1) hF (by omega) (by omega) fun z h3 h4 => by rw [key z h3 h4]; omega]
      omega
    · rw [if_neg hn]
      exact cntR_zero fun z h3 h4 => by
        cases hq : begins z b with
        | false => rfl
        | true => have := (key z h3 h4).mp hq; omega
  · rw [if_neg h]
    exact cntR_zero fun z h3 h4 => by
      cases hq : begins z b with
      | false => rfl
      | true =>
        have := (stretch_of_begins hq).1
        rw [size_eq (n := z) hc h3 (by omega)] at this
        omega
theorem upTerm_full {b n c : Int} (h1 : size b ≤ c) (h2 : tenI c ≤ n) : upTerm b n c = tenI (c - size b) := by
  unfold upTerm
  have hL := stL_eq b c
  have ht := tenI_pos (c - size b)
  have hLt : stL b c < tenI c := by
    unfold stL
    have hp := size_pos b
    by_cases hb : 0 ≤ b
    · have h3 := lt_ten_size (n := b) hb
      have : (b + 1) * tenI (c - size b) ≤ tenI (size b) * tenI (c - size b) := Int.mul_le_mul_of_nonneg_right (by omega) (by omega)
      rw [← tenI_add (by omega) (by omega), show size b + (c - size b) = c by omega] at this
      omega
    · have : (b + 1) * tenI (c - size b) ≤ 0 := by
        have := Int.mul_le_mul_of_nonneg_right (show b + 1 ≤ 0 by omega) (Int.le_of_lt ht)
        rw [Int.zero_mul] at this
        exact this
      have := tenI_pos c
      omega
  rw [if_pos (by omega)]
  omega
/-- the numbers of at most k digits -/
theorem cnt_pow {b : Int} (hb : 1 ≤ b) : ∀ k : Nat, cntR (fun z => begins z b) 1 (tenI k) = ((rgI (size b) (k + 1)).map fun c => tenI (c - size b)).sum
  | 0 => by
    have hp := size_pos b
    rw [rgI_nil (by omega), cntR_nil (by have : tenI ((0 : Nat) : Int) = 1 := rfl
                                         omega)]
    rfl
  | k + 1 => by
    have ih := cnt_pow hb k
    have hp := size_pos b
    have h1 := tenI_pos (k : Int)
    have h2 := tenI_lt (a := (k : Int)) (b := ((k + 1 : Nat) : Int)) (by omega) (by omega)
    have blk := cnt_block (b := b) (n := tenI ((k + 1 : Nat) : Int) - 1) (c := ((k + 1 : Nat) : Int)) hb (by omega) (by rw [show ((k + 1 : Nat) : Int) - 1 = (k : Int) by omega]; omega) (by omega)
    rw [show tenI ((k + 1 : Nat) : Int) - 1 + 1 = tenI ((k + 1 : Nat) : Int) by omega, show ((k + 1 : Nat) : Int) - 1 = (k : Int) by omega] at blk
    rw [cntR_split (a := 1) (b := tenI (k : Int)) (c := tenI ((k + 1 : Nat) : Int)) (by omega) (by omega), ih, blk]
    by_cases h : size b ≤ ((k + 1 : Nat) : Int)
    · rw [if_pos h, rgI_snoc (a := size b) (b := ((k + 1 : Nat) : Int)) h, List.map_append, List.sum_append, show ((k : Int) + 1) = ((k + 1 : Nat) : Int) by omega]
      congr 1
      rw [List.map_singleton, List.sum_singleton]
      -- the whole block
      have hL := stL_eq b ((k + 1 : Nat) : Int)
      have ht := tenI_pos (((k + 1 : Nat) : Int) - size b)
      have hLt : stL b ((k + 1 : Nat) : Int) < tenI ((k + 1 : Nat) : Int) := by
        unfold stL
        have h3 := lt_ten_size (n := b) (by omega)
        have : (b + 1) * tenI (((k + 1 : Nat) : Int) - size b) ≤ tenI (size b) * tenI (((k + 1 : Nat) : Int) - size b) := Int.mul_le_mul_of_nonneg_right (by omega) (by omega)
        rw [← tenI_add (by omega) (by omega), show size b + (((k + 1 : Nat) : Int) - size b) = ((k + 1 : Nat) : Int) by omega] at this
        omega
      unfold upTerm
      rw [if_pos (by omega)]
      omega
    · rw [if_neg h, rgI_nil (a := size b) (by omega), rgI_nil (a := size b) (by omega)]
      rfl
/-- THE COUNT: how many from 1 to n begin so -/
theorem upTo_cnt {b n : Int} (hb : 1 ≤ b) (hn : 1 ≤ n) : upTo b n = cntR (fun z => begins z b) 1 (n + 1) := by
  have hp := size_pos b
  have hs := size_pos n
  obtain ⟨k, hk⟩ := Int.eq_ofNat_of_zero_le (show 0 ≤ size n - 1 by omega)
  have h1 := ten_size_le hn
  have h2 := lt_ten_size (n := n) (by omega)
  rw [cntR_split (a := 1) (b := tenI (size n - 1)) (c := n + 1) (by have := tenI_pos (size n - 1); omega) (by omega), cnt_block hb (by omega) h1 h2, hk, cnt_pow hb k]
  unfold upTo
  by_cases h : size b ≤ size n
  · rw [if_pos h, rgI_snoc h, List.map_append, List.sum_append, show (k : Int) + 1 = size n by omega]
    congr 1
    · apply sum_congr
      intro c hc
      rw [mem_rgI] at hc
      have := tenI_mono (a := c) (b := size n - 1) (by omega)
      exact upTerm_full hc.1 (by omega)
    · rw [List.map_singleton, List.sum_singleton]
  · rw [if_neg h, rgI_nil (a := size b) (by omega), rgI_nil (a := size b) (by omega)]
    rfl
theorem between_cnt {b l h : Int} (hb : 1 ≤ b) (hl : 1 ≤ l) : between b l h = cntR (fun z => begins z b) l (h + 1) := by
  unfold between
  by_cases hh : h < l
  · rw [if_pos hh, cntR_nil (by omega)]
  · rw [if_neg hh, upTo_cnt hb (by omega)]
    by_cases h1 : 1 < l
    · rw [if_pos h1, upTo_cnt hb (by omega), cntR_split (a := 1) (b := l) (c := h + 1) hl (by omega), show l - 1 + 1 = l by omega]
      omega
    · rw [if_neg h1, show l = 1 by omega]; omega
/-! ### the least one from n on -/
theorem stF_mono {b c c' : Int} (hb : 0 ≤ b) (h : c ≤ c') : stF b c ≤ stF b c' := by
  unfold stF
  exact Int.mul_le_mul_of_nonneg_left (tenI_mono (by omega)) hb
theorem stF_begins {b c : Int} (hb : 1 ≤ b) (h : size b ≤ c) : begins (stF b c) b = true ∧ size (stF b c) = c := in_stretch hb h (Int.le_refl _) (by
  rw [stL_eq]; have := tenI_pos (c - size b); omega)
theorem least_ok {b n : Int} (hb : 1 ≤ b) (hn : 1 ≤ n) : n ≤ leastF b n ∧ begins (leastF b n) b = true ∧ size (leastF b n) ≤ max (size n) (size b) + 1 ∧ ∀ z, n ≤ z → begins z b = true → leastF b n ≤ z := by
  unfold leastF
  by_cases hbe : begins n b = true
  · rw [if_pos hbe]
    exact ⟨Int.le_refl _, hbe, by omega, fun z hz _ => hz⟩
  · rw [if_neg hbe]
    have hc : size b ≤ max (size n) (size b) := by omega
    by_cases h1 : n ≤ stF b (max (size n) (size b))
    · rw [if_pos h1]
      have hs := stF_begins hb hc
      refine ⟨h1, hs.1, by omega, fun z hz hbz => ?_⟩
      have h2 := stretch_of_begins hbz
      have h3 := size_mono hz
      exact Int.le_trans (stF_mono (by omega) (by omega)) h2.2.1
    · rw [if_neg h1]
      have hs := stF_begins (c := max (size n) (size b) + 1) hb (by omega)
      have hge : size b ≤ size n := by
        by_cases hge : size b ≤ size n
        · exact hge
        · exfalso
          rw [show max (size n) (size b) = size b by omega, stF_self] at h1
          have := size_mono (m := b) (n := n) (by omega)
          omega
      have hm : max (size n) (size b) = size n := by omega
      rw [hm] at h1 hs ⊢
      have hp := size_pos n
      have hn2 := lt_ten_size (n := n) (by omega)
      have hs2 := ten_size_le (n := stF b (size n + 1)) (by
        have : 1 * 1 ≤ stF b (size n + 1) := Int.mul_le_mul hb (by have := tenI_pos (size n + 1 - size b); omega) (by decide) (by omega)
        omega)
      rw [hs.2, show size n + 1 - 1 = size n by omega] at hs2
      refine ⟨by omega, hs.1, by omega, fun z hz hbz => ?_⟩
      have h2 := stretch_of_begins hbz
      have h3 := size_mono hz
      by_cases h4 : size z = size n
      · exfalso
        rw [h4] at h2
        have : ¬ (stF b (size n) ≤ n ∧ n ≤ stL b (size n)) := fun h => hbe (in_stretch hb hge h.1 h.2).1
        omega
      · exact Int.le_trans (stF_mono (by omega) (by omega)) h2.2.1
/-! ### beginnings of one size -/
theorem begins_same {z x k : Int} (hx : size x = k) : begins z x = (decide (k ≤ size z) && decide (first z k = x)) := by
  unfold begins; rw [hx]
theorem sum_one {lo hi y : Int} : ((rgI lo hi).map fun x => ind (decide (y = x))).sum = ind (decide (lo ≤ y ∧ y < hi)) := by
  have h := cnt_filter (fun x => decide (y = x)) (rgI lo hi)
  rw [h]
  by_cases hy : lo ≤ y ∧ y < hi
  · rw [decide_eq_true hy, rgI_filter (x := y) (y := y + 1) hy.1 (by omega) (by omega) fun z h1 h2 => by rw [decide_eq_true_eq]; omega, rgI_length]
    unfold ind; rw [if_pos rfl]; omega
  · rw [decide_eq_false hy, filter_false (fun z hz => by rw [mem_rgI] at hz; exact decide_eq_false (by omega))]
    rfl
/-- all beginnings of one size within a stretch -/
theorem sum_begins {lo hi k z : Int} (hs : ∀ x, lo ≤ x → x < hi → size x = k) : ((rgI lo hi).map fun x => ind (begins z x)).sum = ind (decide (k ≤ size z) && decide (lo ≤ first z k ∧ first z k < hi)) := by
  rw [sum_congr (g := fun x => ind (decide (k ≤ size z) && decide (first z k = x))) fun x hx => by rw [mem_rgI] at hx; rw [begins_same (hs x hx.1 hx.2)]]
  by_cases h : k ≤ size z
  · rw [decide_eq_true h, Bool.true_and, ← sum_one]
    exact sum_congr fun x _ => by rw [Bool.true_and]
  · rw [decide_eq_false h, Bool.false_and]
    exact sum_zero fun x _ => by rw [Bool.false_and]; rfl
theorem size_part {b x : Int} (hb : 1 ≤ b) (h1 : b * 10 ≤ x) (h2 : x < b * 10 + 10) : size x = size b + 1 := by
  have := size_step (n := x) (by omega)
  rw [show x / 10 = b by omega] at this
  exact this
/-- a beginning is itself and its ten longer ones -/
theorem ind_parts {b z : Int} (hb : 1 ≤ b) (hz : 1 ≤ z) : ind (begins z b) = ((rgI (b * 10) (b * 10 + 10)).map fun x => ind (begins z x)).sum + ind (decide (z = b)) := by
  rw [sum_begins (k := size b + 1) fun x h1 h2 => size_part hb h1 h2]
  have hp := size_pos b
  by_cases h : size b + 1 ≤ size z
  · have hne : z ≠ b := fun e => by rw [e] at h; omega
    rw [decide_eq_true h, Bool.true_and, decide_eq_false hne]
    have hs := size_first hz (show 1 ≤ size b + 1 by omega) h
    have hff := first_first (n := z) (m := size b) (k := size b + 1) hz (by omega) (by omega) h
    have h10 : first (first z (size b + 1)) (size b) = first z (size b + 1) / 10 := by
      rw [first_eq (by omega), hs, show size b + 1 - size b = 1 by omega]; rfl
    have : begins z b = decide (b * 10 ≤ first z (size b + 1) ∧ first z (size b + 1) < b * 10 + 10) := by
      unfold begins
      rw [decide_eq_true (show size b ≤ size z by omega), Bool.true_and, ← hff, h10]
      exact decide_iff_eq (by omega)
    rw [this]
    show _ = _ + 0
    omega
  · rw [decide_eq_false h, Bool.false_and]
    show _ = 0 + _
    rw [Int.zero_add]
    congr 1
    unfold begins
    by_cases h2 : size b ≤ size z
    · have : first z (size b) = z := by unfold first; rw [if_neg (by omega)]
      rw [decide_eq_true h2, Bool.true_and, this]
    · rw [decide_eq_false h2, Bool.false_and]
      exact (decide_eq_false (fun e => by rw [e] at h2; omega)).symm
theorem cnt_parts {b lo hi : Int} (hb : 1 ≤ b) (hl : 1 ≤ lo) : cntR (fun z => begins z b) lo hi = ((rgI (b * 10) (b * 10 + 10)).map fun x => cntR (fun z => begins z x) lo hi).sum + ind (decide (lo ≤ b ∧ b < hi)) := by
  unfold cntR
  rw [sum_swap (fun x z => ind (begins z x)), ← sum_one (y := b), ← sum_add]
  apply sum_congr
  intro z hz
  rw [mem_rgI] at hz
  rw [ind_parts hb (by omega)]
  congr 2
  exact decide_iff_eq eq_comm
theorem cnt_firsts {m n : Int} (hm : 1 ≤ m) (hn : 1 ≤ n) : ((rgI (tenI (m - 1)) (tenI m)).map fun x => cntR (fun z => begins z x) 1 (n + 1)).sum = n - min n (tenI (m - 1) - 1) := by
  unfold cntR
  rw [sum_swap (fun x z => ind (begins z x))]
  have ht := tenI_pos (m - 1)
  have key : ∀ z, z ∈ rgI 1 (n + 1) → ((rgI (tenI (m - 1)) (tenI m)).map fun x => ind (begins z x)).sum = ind (decide (tenI (m - 1) ≤ z)) := fun z hz => by
    rw [mem_rgI] at hz
    rw [sum_begins (k := m) fun x h1 h2 => size_eq hm h1 h2]
    congr 1
    by_cases h : m ≤ size z
    · have hs := size_first (n := z) (m := m) (by omega) hm h
      have h1 := ten_size_le (n := first z m) (first_pos (by omega) hm)
      have h2 := lt_ten_size (n := first z m) (first_nonneg (by omega))
      rw [hs] at h1 h2
      rw [decide_eq_true h, decide_eq_true ⟨h1, h2⟩]
      have h3 := ten_size_le (n := z) (by omega)
      have h4 := tenI_mono (a := m - 1) (b := size z - 1) (by omega)
      exact (decide_eq_true (by omega)).symm
    · rw [decide_eq_false h, Bool.false_and]
      refine (decide_eq_false fun hh => h (le_size_of hm hh)).symm
  rw [sum_congr key]
  have := cntR_iv (p := fun z => decide (tenI (m - 1) ≤ z)) (a := 1) (c := n + 1) (x := min (n + 1) (tenI (m - 1))) (y := n + 1) (by omega) (by omega) (by omega) fun z h1 h2 => by rw [decide_eq_true_eq]; omega
  unfold cntR at this
  rw [this]
  omega
end FD

namespace FD
open PySem PySem.Spec PyProof.Rows L2 Evl TL
local macro_rules | `(tactic| walk_at "ev") => `(tactic| repeat' (first | (with_reducible exact ev_c) | ((with_reducible apply ev_var); rfl) | (with_reducible exact ea_nil) | (with_reducible apply ea_cons) | (with_reducible apply ev_op) | (with_reducible exact rv_I0) | (with_reducible apply rv_I) | (with_reducible exact rv_eqI) | (with_reducible exact rv_neI) | (with_reducible exact rv_eqS) | (with_reducible apply ev_ok) | (with_reducible apply ev_cb) | (with_reducible apply spv_I1) | (with_reducible apply spv_I2) | (with_reducible apply spv_I3) | (with_reducible apply et_test) | (with_reducible apply et_B) | (with_reducible apply et_not) | (with_reducible apply ev_notV) | (with_reducible apply ev_un) | (with_reducible exact ru_negI) | (with_reducible exact rc_max2) | (with_reducible exact rc_min2) | (with_reducible exact rv_isB) | (with_reducible exact rv_notB) | (with_reducible exact rv_isN) | (with_reducible exact rv_notN) | (with_reducible apply ev_chainI) | (with_reducible exact rc_isiI) | (with_reducible exact rc_isiB)))
section
variable {K : PySem.W.Frag} {d nn : Addr} {σ : L2.St} {H : Hp} {t : TT} {ta tb te tl : TE} {tu tz : TS} {D : Ends} {i j : Nat} {vs : List Nat} {E : XK}
theorem et_yes : EvT tYes σ H true := fun H1 _ _ q => q H1 (Ex.refl _)
theorem el_is {xs ys : List V} (h : EvL te σ H xs) (e : xs = ys) : EvL te σ H ys := e ▸ h
theorem map_all {xs : List Int} (f : Int → V) : (xs.filter fun _ => true).map f = xs.map f := by rw [filter_true fun _ _ => rfl]
/-- [e for x in range(n)] -/
theorem el_lcR1y {ta : TA} {n : Int} (v : Int → V) (h : EvA ta σ H [.int n]) (hn : 0 ≤ n ∧ n ≤ 40000) (hw : ∀ x, wipe ((wipe σ vs).set j (some x)) vs = wipe σ vs)
    (he : ∀ z H1, Ex H H1 → 0 ≤ z → z < n → Ev te ((wipe σ vs).set j (some (.int z))) H1 (v z)) : EvL (tLc (iRng1 ta) (gName j) tYes te vs) σ H ((rgI 0 n).map v) := by
  refine el_is (el_lcR1 (fun _ => true) (fun i => v (i : Int)) h hn hw (fun i H1 _ _ => et_yes) fun i H1 e hi _ => he _ H1 e (by omega) hi) ?_
  unfold given rgI
  rw [List.filter_eq_self.mpr (fun _ _ => rfl), List.map_map, Int.sub_zero]
  apply List.map_congr_left
  intro i _
  show v (i : Int) = v (0 + (i : Int))
  rw [Int.zero_add]
/-- [e for x in a list of ints] -/
theorem el_lcLy {a : Addr} {xs : List Int} (v : Int → V) (h : Ev tl σ H (.ref a)) (hx : SqL K H a (xs.map V.int)) (hz : xs.length ≤ 40000) (hw : ∀ x, wipe ((wipe σ vs).set j (some x)) vs = wipe σ vs)
    (he : ∀ z H1, Ex H H1 → z ∈ xs → Ev te ((wipe σ vs).set j (some (.int z))) H1 (v z)) : EvL (tLc (iList K tl) (gName j) tYes te vs) σ H (xs.map v) :=
  el_is (el_lcLI (fun _ => true) v h hx hz hw (fun z H1 _ _ => et_yes) fun z H1 e hm _ => he z H1 e hm) (map_all v)
theorem el_lcR2y {ta : TA} {a b : Int} (v : Int → V) (h : EvA ta σ H [.int a, .int b]) (hb : -100000 ≤ a ∧ a ≤ 100000 ∧ -100000 ≤ b ∧ b ≤ 100000 ∧ b - a ≤ 40000) (hw : ∀ x, wipe ((wipe σ vs).set j (some x)) vs = wipe σ vs)
    (he : ∀ z H1, Ex H H1 → a ≤ z → z < b → Ev te ((wipe σ vs).set j (some (.int z))) H1 (v z)) : EvL (tLc (iRng2 ta) (gName j) tYes te vs) σ H ((rgI a b).map v) :=
  el_is (el_lcR2 (fun _ => true) v h hb hw (fun z H1 _ _ _ => et_yes) fun z H1 e h1 h2 _ => he z H1 e h1 h2) (map_all v)
theorem map_int (xs : List Int) (f : Int → Int) : (xs.map fun z => V.int (f z)) = (xs.map f).map V.int := by rw [List.map_map]; rfl
/-- sum of a new list -/
theorem ev_sumL {ns : List Int} (h : EvL te σ H (ns.map V.int)) : Ev (tCB (rSum K) (tCons te tNil)) σ H (.int ns.sum) := fun H1 e Q q =>
  h H1 e _ fun p H2 hp e2 h2 => ⟨p, ns, rfl, sq_of h2, q H2 e2⟩
/-- a comparison of a list with a written empty one -/
theorem et_neNil {a : Addr} {xs : List Int} (h : Ev ta σ H (.ref a)) (hx : SqL K H a (xs.map V.int)) : EvT (tTest (tOp (rNeD K) ta (tLst tNil))) σ H (!decide (xs = [])) :=
  et_test (ev_opL (xs := ([] : List Int).map V.int) h (el_lst ea_nil (by decide)) fun p H1 hp e => rv_neL (ex_l e hx) (sq_of hp))
/-- a new list against the empty one -/
theorem et_neNilN {xs : List Int} (h : EvL ta σ H (xs.map V.int)) : EvT (tTest (tOp (rNeD K) ta (tLst tNil))) σ H (!decide (xs = [])) :=
  et_test (ev_opLL (xs := xs.map V.int) (ys := ([] : List Int).map V.int) h (el_lst ea_nil (by decide)) fun p q H1 hp hq e => rv_neL (sq_of hp) (sq_of hq))
/-- a new list against one at hand -/
theorem et_neNL {a : Addr} {xs ys : List Int} (h : EvL ta σ H (xs.map V.int)) (hb : ∀ H1, Ex H H1 → Ev tb σ H1 (.ref a)) (hy : SqL K H a (ys.map V.int)) : EvT (tTest (tOp (rNeD K) ta tb)) σ H (!decide (xs = ys)) :=
  et_test (ev_opL1 h hb fun p H1 hp e => rv_neL (sq_of hp) (ex_l e hy))
/-- a, b = x, y with draws, by a tuple -/
theorem q_asgTD {P P' : V → Prop} (hD : Dr d nn H) (h1 : EvD d nn ta σ H P) (h2 : EvD d nn tb σ H P') (k : ∀ v w H1, P v → P' w → Go d nn H H1 → tu D ((σ.set i (some v)).set j (some w)) H1) :
    tSeq (tAsg (tTup (tCons ta (tCons tb tNil))) (gTup K 2 (gCons (gName i) (gCons (gName j) gNil)))) tu D σ H :=
  h1 H (.refl hD) _ fun v H1 hv g1 => h2 H1 g1 _ fun w H2 hw g2 => ⟨by show 2 ≤ sizeLine; decide, fun p hp => ⟨p, [v, w], rfl, st_of upd_same, rfl, v, [w], rfl, w, [], rfl, rfl, k v w _ hv hw ((g1.trans g2).ex (Ex.new hp))⟩⟩
end
end FD

namespace FD
open PySem PySem.Spec PyProof.Rows L2 Evl TL
local macro_rules | `(tactic| walk_at "ev") => `(tactic| repeat' (first | (with_reducible exact ev_c) | ((with_reducible apply ev_var); rfl) | (with_reducible exact ea_nil) | (with_reducible apply ea_cons) | (with_reducible apply ev_op) | (with_reducible exact rv_I0) | (with_reducible apply rv_I) | (with_reducible exact rv_eqI) | (with_reducible exact rv_neI) | (with_reducible exact rv_eqS) | (with_reducible apply ev_ok) | (with_reducible apply ev_cb) | (with_reducible apply spv_I1) | (with_reducible apply spv_I2) | (with_reducible apply spv_I3) | (with_reducible apply et_test) | (with_reducible apply et_B) | (with_reducible apply et_not) | (with_reducible apply ev_notV) | (with_reducible apply ev_un) | (with_reducible exact ru_negI) | (with_reducible exact rc_max2) | (with_reducible exact rc_min2) | (with_reducible exact rv_isB) | (with_reducible exact rv_notB) | (with_reducible exact rv_isN) | (with_reducible exact rv_notN) | (with_reducible apply ev_chainI) | (with_reducible exact rc_isiI) | (with_reducible exact rc_isiB)))
section
variable {K : PySem.W.Frag} {σ : L2.St} {H : Hp} {t : TT} {ta tb te tl : TE} {ja jb : Nat} {vs : List Nat}
theorem cw_ex {H' H'' : Hp} {f : Nat → Bool} {v : Nat → V} {Dl : Addr} {i : Nat} (p : Cw H f v Dl i H') (e : Ex H' H'') : Cw H f v Dl i H'' := ⟨p.1, p.2.1.trans e, e _ _ p.2.2⟩
/-- [.. for i, x in enumerate(a new list of ints) if ..] -/
theorem el_lcEnum {xs : List Int} (p : Int → Bool) (v : Int → V) (h : EvL tl σ H (xs.map V.int)) (hz : xs.length ≤ 40000) (hw : ∀ x y, wipe (((wipe σ vs).set ja (some x)).set jb (some y)) vs = wipe σ vs)
    (ht : ∀ (i : Nat) z H1, Ex H H1 → xs[i]? = some z → EvT t (((wipe σ vs).set ja (some (.int (i : Int)))).set jb (some (.int z))) H1 (p i))
    (he : ∀ (i : Nat) z H1, Ex H H1 → xs[i]? = some z → p i = true → Ev te (((wipe σ vs).set ja (some (.int (i : Int)))).set jb (some (.int z))) H1 (v i)) :
    EvL (tLc (iEnum K (tCons tl tNil)) (gTup K 2 (gCons (gName ja) (gCons (gName jb) gNil))) t te vs) σ H (((rgI 0 xs.length).filter p).map v) := fun H0 e Q q =>
  h H0 e _ fun a H1 ha e1 hx => ⟨a, xs.map V.int, rfl, sq_of hx, fun Dl hD =>
    lc_it (walk_enum (K := K) (a := a) (xs := xs.map V.int)) (Cw H1 (fun i => p i) (fun i => v i) Dl) ⟨hD, Ex.new hD, upd_same⟩ (fun i H' _ p' => sq_of (p'.2.1 a _ hx)) (fun i x H' H'' hi p' y => by
      obtain ⟨T, x1, x2, rfl, hT, rfl, h1, h2⟩ := y
      have h1 : .int (i : Int) = x1 := Option.some.inj h1
      rw [List.length_map] at hi
      have h3 : (xs.map V.int)[i]? = some (.int xs[i]) := by rw [List.getElem?_map, List.getElem?_eq_getElem hi]; rfl
      have h4 : .int xs[i] = x2 := Option.some.inj (h3.symm.trans h2)
      subst h1
      subst h4
      have p2 := cw_ex p' (Ex.new (o := .tup [.int (i : Int), .int xs[i]]) hT)
      refine ⟨T, _, rfl, st_of upd_same, rfl, _, _, rfl, _, _, rfl, rfl, hw _ _, ?_⟩
      exact cw_turn p2 (by omega) (ht i _ H1 (e.trans e1) (List.getElem?_eq_getElem hi)) (fun hf => he i _ H1 (e.trans e1) (List.getElem?_eq_getElem hi) hf)) (fun H' p' => by
      obtain ⟨p1, p2, p3⟩ := p'
      rw [List.length_map] at p3
      have hg := given_rg (a := 0) (b := (xs.length : Int)) p v
      rw [Int.sub_zero, Int.toNat_natCast] at hg
      have hfun : given xs.length (fun i => p i) (fun i => v i) = ((rgI 0 xs.length).filter p).map v := by
        rw [← hg]
        unfold given
        congr 1
        · funext i; rw [Int.zero_add]
        · congr 1
          funext i; rw [Int.zero_add]
      rw [hfun] at p3
      exact q Dl H' (fresh_back e1 p1) (e1.trans p2) p3)⟩
/-- [f(x, y) for x, y in zip(xs, ys)] -/
theorem el_lcZip {a : Addr} {xs ys : List Int} (f : Int → Int → Int) (h : Ev ta σ H (.ref a)) (hx : SqL K H a (xs.map V.int)) (h2 : EvL tb σ H (ys.map V.int)) (hz : xs.length ≤ 40000) (hl : ys.length ≤ xs.length) (hw : ∀ x y, wipe (((wipe σ vs).set ja (some x)).set jb (some y)) vs = wipe σ vs)
    (he : ∀ x y H1, Ex H H1 → Ev te (((wipe σ vs).set ja (some (.int x))).set jb (some (.int y))) H1 (.int (f x y))) :
    EvL (tLc (iZip K (tCons ta (tCons tb tNil))) (gTup K 2 (gCons (gName ja) (gCons (gName jb) gNil))) tYes te vs) σ H ((List.zipWith f xs ys).map V.int) := fun H0 e Q q =>
  h H0 e _ fun H1 e1 => h2 H1 (e.trans e1) _ fun b H2 hb e2 hy => ⟨a, b, xs.map V.int, ys.map V.int, rfl, ex_l ((e.trans e1).trans e2) hx, sq_of hy, fun Dl hD =>
    lc_it (walk_zip (K := K) (a := a) (b := b) (xs := xs.map V.int) (ys := ys.map V.int) (n := ys.length) (by rw [List.length_map, List.length_map]; omega)) (Cw H2 (fun _ => true) (fun i => .int (f (xs.getD i 0) (ys.getD i 0))) Dl) ⟨hD, Ex.new hD, upd_same⟩ (fun i H' _ p' => ⟨ex_l (((e.trans e1).trans e2).trans p'.2.1) hx, sq_of (p'.2.1 b _ hy)⟩) (fun i x H' H'' hi p' y => by
      obtain ⟨T, x1, x2, rfl, hT, rfl, h1, h3⟩ := y
      have hi2 : i < xs.length := by omega
      have g1 : (xs.map V.int)[i]? = some (.int (xs.getD i 0)) := by rw [List.getElem?_map, List.getD, List.getElem?_eq_getElem hi2]; rfl
      have g2 : (ys.map V.int)[i]? = some (.int (ys.getD i 0)) := by rw [List.getElem?_map, List.getD, List.getElem?_eq_getElem hi]; rfl
      have h1 : .int (xs.getD i 0) = x1 := Option.some.inj (g1.symm.trans h1)
      have h3 : .int (ys.getD i 0) = x2 := Option.some.inj (g2.symm.trans h3)
      subst h1
      subst h3
      have p2 := cw_ex p' (Ex.new (o := .tup [.int (xs.getD i 0), .int (ys.getD i 0)]) hT)
      refine ⟨T, _, rfl, st_of upd_same, rfl, _, _, rfl, _, _, rfl, rfl, hw _ _, ?_⟩
      exact cw_turn p2 (by omega) et_yes (fun _ => he _ _ H2 ((e.trans e1).trans e2))) (fun H' p' => by
      obtain ⟨p1, p2, p3⟩ := p'
      have hfun : given ys.length (fun _ => true) (fun i => V.int (f (xs.getD i 0) (ys.getD i 0))) = (List.zipWith f xs ys).map V.int := by
        unfold given
        rw [List.filter_eq_self.mpr (fun _ _ => rfl)]
        apply List.ext_getElem?
        intro i
        rw [List.getElem?_map, List.getElem?_map, List.getElem?_zipWith]
        by_cases hi : i < ys.length
        · have hi2 : i < xs.length := by omega
          rw [List.getElem?_range hi]
          simp [List.getD, List.getElem?_eq_getElem hi, List.getElem?_eq_getElem hi2]
        · rw [List.getElem?_eq_none (by simpa using hi), List.getElem?_eq_none (l := ys) (by omega)]
          cases xs[i]? <;> rfl
      rw [hfun] at p3
      exact q Dl H' (fresh_back (e1.trans e2) p1) ((e1.trans e2).trans p2) p3)⟩
end
/-! ### powers.py -/
structure BaseC (b : Int) : Prop where
  lo : 2 ≤ b
  hi : b ≤ 99
abbrev sp_check_base : Sp := spI1 BaseC (fun _ => .non)
def rd_check_base (K : PySem.W.Frag) : TS :=
      (tIfS (tNot (tB (tCall (sp_is_int) [] E0 (tCons (tVar 0) (tCons (tC (.int 2)) (tCons (tC (.int 99)) tNil))))))
        tNever
        tNext)
def N_check_base : List Str := ["value"]
theorem pure_check_base {K : PySem.W.Frag} (vs : List V) (H : Hp) (Q : VK) (E : XK) (h : sp_check_base vs H Q E) : rd_check_base K { nx := fun _ H' => Q .non H', rt := Q } (start N_check_base vs) H := by
  match vs, h with
  | [a], h =>
    obtain ⟨n, rfl, hc, q⟩ := h
    unfold rd_check_base
    refine s_if (b := !(decide (2 ≤ n) && decide (n ≤ 99))) (et_not (et_B (by walk_at "ev"; trivial))) (fun h => ?_) (fun _ H1 e => q H1 e)
    rw [decide_eq_true hc.lo, decide_eq_true hc.hi] at h
    cases h
/-- the powers of b up to the exponent m -/
def powL (b : Int) (m : Nat) : List Int := (List.range (m + 1)).map fun i => b ^ i
theorem powL_succ (b : Int) (m : Nat) : powL b (m + 1) = powL b m ++ [b ^ (m + 1)] := by unfold powL; rw [List.range_succ, List.map_append]; rfl
theorem powL_length (b : Int) (m : Nat) : (powL b m).length = m + 1 := by unfold powL; rw [List.length_map, List.length_range]
theorem powL_get {b : Int} {m i : Nat} (h : i ≤ m) : (powL b m)[i]? = some (b ^ i) := by unfold powL; rw [List.getElem?_map, List.getElem?_range (by omega)]; rfl
theorem powL_last (b : Int) (m : Nat) : ∃ l, powL b m = l ++ [b ^ m] := by
  cases m with
  | zero => exact ⟨[], rfl⟩
  | succ m => exact ⟨powL b m, powL_succ b m⟩
theorem pow_bd {b : Int} (h : BaseC b) (i : Nat) : 1 ≤ b ^ i ∧ b ^ i ≤ 10 ^ (2 * i) := by
  have h0 := h.lo
  have h1 := h.hi
  induction i with
  | zero => exact ⟨by rw [Int.pow_zero]; decide, by rw [Int.pow_zero]; decide⟩
  | succ i ih =>
    rw [Int.pow_succ, show 2 * (i + 1) = 2 * i + 1 + 1 by omega, Int.pow_succ, Int.pow_succ]
    constructor
    · have : 1 * 1 ≤ b ^ i * b := Int.mul_le_mul ih.1 (by omega) (by decide) (by omega)
      omega
    · have : b ^ i * b ≤ 10 ^ (2 * i) * 100 := Int.mul_le_mul ih.2 (by omega) (by omega) (by omega)
      omega
theorem pow_txt {b : Int} (h : BaseC b) {i : Nat} (hi : i ≤ 300) : TxtC (b ^ i) := by
  have h1 := pow_bd h i
  exact ⟨by omega, Int.lt_of_le_of_lt h1.2 (Int.lt_of_le_of_lt (b := 10 ^ 600) (pow_lt (by omega)) (by
    have e1 : ((10 : Int) ^ 600) = ((10 ^ 600 : Nat) : Int) := (Int.natCast_pow 10 600).symm
    have e2 : ((10 : Int) ^ 640) = ((10 ^ 640 : Nat) : Int) := (Int.natCast_pow 10 640).symm
    rw [e1, e2]
    exact Int.ofNat_lt.mpr (Nat.pow_lt_pow_right (by decide) (by decide))))⟩
abbrev sp_powers_of : Sp := spL2 (fun b m => BaseC b ∧ 0 ≤ m ∧ m ≤ 300) (fun b m => (powL b m.toNat).map V.int)
/-- the list of the powers, grown step by step -/
def rd_grow (K : PySem.W.Frag) : TS :=
      (tSeq (tAsg (tLst (tCons (tC (.int 1)) tNil)) (gName 2))
      (tSeq (tFor (iRng1 (tCons (tVar 1) tNil)) (gName 3)
        (tDrop (tBM K "list" rAppend (tVar 2) (tCons (tOp rMulX (tOp (rIxL K) (tVar 2) (tUn rNeg (tC (.int 1)))) (tVar 0)) tNil))))
      (tRet (tVar 2))))
theorem pure_grow {K : PySem.W.Frag} (vs : List V) (H : Hp) (Q : VK) (E : XK) (h : sp_powers_of vs H Q E) : rd_grow K { nx := fun _ H' => Q .non H', rt := Q } (vs.map some ++ [none, none]) H := by
  match vs, h with
  | [a, b], h =>
    obtain ⟨b, m, rfl, rfl, ⟨hb, h0, h1⟩, q⟩ := h
    have hb0 := hb.lo
    have hb1 := hb.hi
    unfold rd_grow
    refine q_asgL (xs := (powL b 0).map V.int) (el_is (el_lst (vs := [.int 1]) (by walk_at "ev") (by simp)) (by unfold powL; simp)) fun p H1 hp e1 h1' => ?_
    show tSeq _ _ _ [some (.int b), some (.int m), some (.ref p), none] H1
    refine q_forR1 (n := m) (by walk_at "ev") ⟨h0, by omega⟩ (fun i σ' H' => ∃ y3, σ' = [some (.int b), some (.int m), some (.ref p), y3] ∧ Ex H H' ∧ H' p = some (.lst ((powL b i).map V.int))) (fun H2 e2 => ⟨none, rfl, e1.trans e2, e2 _ _ h1'⟩) (fun i σ' H' hi hp' => ?_) (fun σ' H' hp' => ?_)
    · obtain ⟨y3, rfl, e, hH⟩ := hp'
      obtain ⟨l, hl⟩ := powL_last b i
      have hat : atI ((powL b i).map V.int) (-1) = some (.int (b ^ i)) := by rw [hl, List.map_append]; exact atI_last _ _
      refine s_app (v := .int (b ^ i * b)) hH (ev_var rfl) (ev_op (ev_op (ev_var rfl) (by walk_at "ev") (rv_ixL (sq_of hH) hat)) (ev_var rfl) (rv_I (mulOk_r (by omega) (by omega)))) (by rw [List.length_map, powL_length]; omega) fun H2 e2 => ?_
      refine ⟨_, rfl, Ex.mut (e.trans e2) hp, ?_⟩
      rw [upd_same, powL_succ, List.map_append, Int.pow_succ]
      rfl
    · obtain ⟨y3, rfl, e, hH⟩ := hp'
      exact ⟨.ref p, rfl, q p H' hp e hH⟩
def rd_powers_of (K : PySem.W.Frag) : TS :=
      (tSeq (tAsg (tLst (tCons (tC (.int 1)) tNil)) (gName 2))
      (tSeq (tFor (iRng1 (tCons (tVar 1) tNil)) (gName 3)
        (tDrop (tBM K "list" rAppend (tVar 2) (tCons (tOp rMulX (tOp (rIxL K) (tVar 2) (tUn rNeg (tC (.int 1)))) (tVar 0)) tNil))))
      (tRet (tVar 2))))
def N_powers_of : List Str := ["base", "most", "found", "turn"]
theorem pure_powers_of {K : PySem.W.Frag} (vs : List V) (H : Hp) (Q : VK) (E : XK) (h : sp_powers_of vs H Q E) : rd_powers_of K { nx := fun _ H' => Q .non H', rt := Q } (start N_powers_of vs) H := by
  have := pure_grow (K := K) vs H Q E h
  match vs, h with
  | [a, b], h => exact this
/-- the exponents from 0 to m whose powers begin so -/
def placesL (b g m : Int) : List Int := (rgI 0 (m + 1)).filter fun i => begins (b ^ i.toNat) g
abbrev sp_places_of : Sp := spL3 (fun b g m => BaseC b ∧ BegC g ∧ 0 ≤ m ∧ m ≤ 300) (fun b g m => (placesL b g m).map V.int)
def rd_places_of (K : PySem.W.Frag) : TS :=
      (tRet (tLc (iEnum K (tCons (tCall (sp_powers_of) [] E0 (tCons (tVar 0) (tCons (tVar 2) tNil))) tNil)) (gTup K 2 (gCons (gName 3) (gCons (gName 4) gNil))) (tB (tCall (sp_begins_of) [] E0 (tCons (tVar 4) (tCons (tVar 1) tNil)))) (tVar 3) [3, 4]))
def N_places_of : List Str := ["base", "beginning", "most", "place", "number"]
theorem pow_at {b m : Int} {i : Nat} {z : Int} (h0 : 0 ≤ m) (h : (powL b m.toNat)[i]? = some z) : (i : Int) ≤ m ∧ z = b ^ i := by
  have hi : i < (powL b m.toNat).length := (List.getElem?_eq_some_iff.mp h).1
  rw [powL_length] at hi
  rw [powL_get (by omega)] at h
  exact ⟨by omega, (Option.some.inj h).symm⟩
theorem pure_places_of {K : PySem.W.Frag} (vs : List V) (H : Hp) (Q : VK) (E : XK) (h : sp_places_of vs H Q E) : rd_places_of K { nx := fun _ H' => Q .non H', rt := Q } (start N_places_of vs) H := by
  match vs, h with
  | [a, b, c], h =>
    obtain ⟨b, g, m, rfl, rfl, rfl, ⟨hb, hg, h0, h1⟩, q⟩ := h
    unfold rd_places_of
    refine s_retL (xs := (placesL b g m).map V.int) (el_is (el_lcEnum (xs := powL b m.toNat) (fun i => begins (b ^ i.toNat) g) V.int (el_ok (by walk_at "ev") (spv_L2 ⟨hb, h0, h1⟩)) (by rw [powL_length]; omega) (fun _ _ => rfl) (fun i z H1 e1 hz => ?_) (fun i z H1 e1 hz hf => ev_var rfl)) ?_) q
    · obtain ⟨hi, rfl⟩ := pow_at h0 hz
      exact et_B (ev_ok (vs := [.int (b ^ i), .int g]) (by walk_at "ev") (spv_I2 (g := fun n b => .bl (begins n b)) ⟨pow_txt hb (by omega), hg.txt⟩))
    · rw [powL_length]
      unfold placesL
      rw [show ((m.toNat + 1 : Nat) : Int) = m + 1 by omega]
abbrev sp_check_all : Sp := spI3 (fun b g m => BaseC b ∧ BegC g ∧ 0 ≤ m ∧ m ≤ 300) (fun _ _ _ => .non)
def rd_check_all (K : PySem.W.Frag) : TS :=
      (tSeq (tDrop (tCall (sp_check_base) [] E0 (tCons (tVar 0) tNil)))
      (tSeq (tDrop (tCall (sp_check_beginning) [] E0 (tCons (tVar 1) tNil)))
      (tDrop (tCall (sp_check_count) [] E0 (tCons (tVar 2) (tCons (tC (.int 0)) (tCons (tC (.int 300)) tNil)))))))
def N_check_all : List Str := ["base", "beginning", "most"]
theorem pure_check_all {K : PySem.W.Frag} (vs : List V) (H : Hp) (Q : VK) (E : XK) (h : sp_check_all vs H Q E) : rd_check_all K { nx := fun _ H' => Q .non H', rt := Q } (start N_check_all vs) H := by
  match vs, h with
  | [a, b, c], h =>
    obtain ⟨b, g, m, rfl, rfl, rfl, ⟨hb, hg, h0, h1⟩, q⟩ := h
    unfold rd_check_all
    refine q_drop (v := .non) (by walk_at "ev"; exact hb) fun H1 e1 => ?_
    refine q_drop (v := .non) (by walk_at "ev"; exact hg) fun H2 e2 => ?_
    exact s_drop (v := .non) (by walk_at "ev"; exact ⟨h0, h1⟩) fun H3 e3 => q H3 ((e1.trans e2).trans e3)
abbrev sp_power_places : Sp := spL3 (fun b g m => BaseC b ∧ BegC g ∧ 0 ≤ m ∧ m ≤ 300) (fun b g m => (placesL b g m).map V.int)
def rd_power_places (K : PySem.W.Frag) : TS :=
      (tSeq (tDrop (tCall (sp_check_all) [] E0 (tCons (tVar 0) (tCons (tVar 1) (tCons (tVar 2) tNil)))))
      (tRet (tCall (sp_places_of) [] E0 (tCons (tVar 0) (tCons (tVar 1) (tCons (tVar 2) tNil))))))
def N_power_places : List Str := ["base", "beginning", "most"]
theorem pure_power_places {K : PySem.W.Frag} (vs : List V) (H : Hp) (Q : VK) (E : XK) (h : sp_power_places vs H Q E) : rd_power_places K { nx := fun _ H' => Q .non H', rt := Q } (start N_power_places vs) H := by
  match vs, h with
  | [a, b, c], h =>
    obtain ⟨b, g, m, rfl, rfl, rfl, hc, q⟩ := h
    unfold rd_power_places
    refine q_drop (v := .non) (by walk_at "ev"; exact hc) fun H1 e1 => ?_
    exact s_retL (el_ok (by walk_at "ev") (spv_L3 hc)) fun p H2 hp e2 h2 => q p H2 (fresh_back e1 hp) (e1.trans e2) h2
/-- the first of a list, or None -/
def headV : List Int → V
  | [] => .non
  | x :: _ => .int x
abbrev sp_first_power : Sp := spI3 (fun b g m => BaseC b ∧ BegC g ∧ 0 ≤ m ∧ m ≤ 300) (fun b g m => headV (placesL b g m))
def rd_first_power (K : PySem.W.Frag) : TS :=
      (tSeq (tDrop (tCall (sp_check_all) [] E0 (tCons (tVar 0) (tCons (tVar 1) (tCons (tVar 2) tNil)))))
      (tSeq (tAsg (tCall (sp_places_of) [] E0 (tCons (tVar 0) (tCons (tVar 1) (tCons (tVar 2) tNil)))) (gName 3))
      (tRet (tIf (tTest (tOp (rNeD K) (tVar 3) (tLst tNil))) (tOp (rIxL K) (tVar 3) (tC (.int 0))) (tC .non)))))
def N_first_power : List Str := ["base", "beginning", "most", "found"]
theorem pure_first_power {K : PySem.W.Frag} (vs : List V) (H : Hp) (Q : VK) (E : XK) (h : sp_first_power vs H Q E) : rd_first_power K { nx := fun _ H' => Q .non H', rt := Q } (start N_first_power vs) H := by
  match vs, h with
  | [a, b, c], h =>
    obtain ⟨b, g, m, rfl, rfl, rfl, hc, q⟩ := h
    unfold rd_first_power
    refine q_drop (v := .non) (by walk_at "ev"; exact hc) fun H1 e1 => ?_
    refine q_asgL (el_ok (by walk_at "ev") (spv_L3 hc)) fun p H2 hp e2 h2 => ?_
    refine s_ret (v := headV (placesL b g m)) (ev_if (b := !decide (placesL b g m = [])) (et_neNil (ev_var rfl) (sq_of h2)) (fun hn => ?_) (fun hn => ?_)) fun H3 e3 => q H3 ((e1.trans e2).trans e3)
    · cases hq : placesL b g m with
      | nil => rw [hq] at hn; cases hn
      | cons x r =>
        have hat : atI ((placesL b g m).map V.int) 0 = some (.int x) := by rw [hq]; exact atI_nat (j := 0) rfl
        exact ev_op (ev_var rfl) ev_c (rv_ixL (sq_of h2) hat)
    · have : placesL b g m = [] := by
        by_cases he : placesL b g m = []
        · exact he
        · rw [decide_eq_false he] at hn; cases hn
      rw [this]
      exact ev_c
/-- the differences from each to the next -/
def gapsL (l : List Int) : List Int := List.zipWith (fun x y => y - x) l (l.drop 1)
abbrev sp_waits : Sp := spL3 (fun b g m => BaseC b ∧ BegC g ∧ 0 ≤ m ∧ m ≤ 300) (fun b g m => (gapsL (placesL b g m)).map V.int)
def rd_waits (K : PySem.W.Frag) : TS :=
      (tSeq (tDrop (tCall (sp_check_all) [] E0 (tCons (tVar 0) (tCons (tVar 1) (tCons (tVar 2) tNil)))))
      (tSeq (tAsg (tCall (sp_places_of) [] E0 (tCons (tVar 0) (tCons (tVar 1) (tCons (tVar 2) tNil)))) (gName 3))
      (tRet (tLc (iZip K (tCons (tVar 3) (tCons (tSl (rSlL K) (tVar 3) (tPart (tC (.int 1))) tNoPart) tNil))) (gTup K 2 (gCons (gName 4) (gCons (gName 5) gNil))) tYes (tOp rSubI (tVar 5) (tVar 4)) [4, 5]))))
def N_waits : List Str := ["base", "beginning", "most", "found", "one", "other"]
theorem cut_drop1 (xs : List V) : cutV xs (some 1) none = xs.drop 1 := by
  unfold cutV
  have h1 : HT.sIx xs.length 0 (some 1) = min 1 xs.length := HT.sIx_nat xs.length 0 1
  rw [h1, HT.sIx_none]
  cases xs with
  | nil => rfl
  | cons x r =>
    have h2 : min 1 (x :: r).length = 1 := by rw [List.length_cons]; omega
    rw [h2]
    exact List.take_of_length_le (by simp)
theorem placesL_len (b g m : Int) : (placesL b g m).length ≤ (m + 1).toNat := by
  unfold placesL
  have := List.length_filter_le (fun i => begins (b ^ i.toNat) g) (rgI 0 (m + 1))
  rw [rgI_length] at this
  omega
theorem el_gaps {K : PySem.W.Frag} {σ : L2.St} {H : Hp} {i j k : Nat} {p : Addr} {l : List Int} (hi : σ[i]? = some (some (.ref p))) (hl : SqL K H p (l.map V.int)) (hz : l.length ≤ 1000) (hw : ∀ x y, wipe (((wipe σ [j, k]).set j (some x)).set k (some y)) [j, k] = wipe σ [j, k])
    (h1 : ∀ x y, (((wipe σ [j, k]).set j (some x)).set k (some y))[j]? = some (some x)) (h2 : ∀ x y, (((wipe σ [j, k]).set j (some x)).set k (some y))[k]? = some (some y)) :
    EvL (tLc (iZip K (tCons (tVar i) (tCons (tSl (rSlL K) (tVar i) (tPart (tC (.int 1))) tNoPart) tNil))) (gTup K 2 (gCons (gName j) (gCons (gName k) gNil))) tYes (tOp rSubI (tVar k) (tVar j)) [j, k]) σ H ((gapsL l).map V.int) :=
  el_lcZip (xs := l) (ys := l.drop 1) (fun x y => y - x) (ev_var hi) hl (el_is (el_sl (ev_var hi) (eo_some ev_c) eo_none hl) (by rw [cut_drop1, List.map_drop])) (by omega) (by rw [List.length_drop]; omega) hw (fun x y H1 e1 => ev_op (ev_var (h2 _ _)) (ev_var (h1 _ _)) rv_I0)
theorem pure_waits {K : PySem.W.Frag} (vs : List V) (H : Hp) (Q : VK) (E : XK) (h : sp_waits vs H Q E) : rd_waits K { nx := fun _ H' => Q .non H', rt := Q } (start N_waits vs) H := by
  match vs, h with
  | [a, b, c], h =>
    obtain ⟨b, g, m, rfl, rfl, rfl, hc, q⟩ := h
    have hl := placesL_len b g m
    unfold rd_waits
    refine q_drop (v := .non) (by walk_at "ev"; exact hc) fun H1 e1 => ?_
    refine q_asgL (el_ok (by walk_at "ev") (spv_L3 hc)) fun p H2 hp e2 h2 => ?_
    exact s_retL (el_gaps (p := p) rfl (sq_of h2) (by omega) (fun _ _ => rfl) (fun _ _ => rfl) (fun _ _ => rfl)) fun p3 H3 hp3 e3 h3 => q p3 H3 (fresh_back (e1.trans e2) hp3) ((e1.trans e2).trans e3) h3
end FD

namespace FD
open PySem PySem.Spec PyProof.Rows L2 Evl TL
local macro_rules | `(tactic| walk_at "ev") => `(tactic| repeat' (first | (with_reducible exact ev_c) | ((with_reducible apply ev_var); rfl) | (with_reducible exact ea_nil) | (with_reducible apply ea_cons) | (with_reducible apply ev_op) | (with_reducible exact rv_I0) | (with_reducible apply rv_I) | (with_reducible exact rv_eqI) | (with_reducible exact rv_neI) | (with_reducible exact rv_eqS) | (with_reducible apply ev_ok) | (with_reducible apply ev_cb) | (with_reducible apply spv_I1) | (with_reducible apply spv_I2) | (with_reducible apply spv_I3) | (with_reducible apply et_test) | (with_reducible apply et_B) | (with_reducible apply et_not) | (with_reducible apply ev_notV) | (with_reducible apply ev_un) | (with_reducible exact ru_negI) | (with_reducible exact rc_max2) | (with_reducible exact rc_min2) | (with_reducible exact rv_isB) | (with_reducible exact rv_notB) | (with_reducible exact rv_isN) | (with_reducible exact rv_notN) | (with_reducible apply ev_chainI) | (with_reducible exact rc_isiI) | (with_reducible exact rc_isiB)))
/-! ### multiples: the mathematics -/
theorem ceilM_dvd (n f : Int) : ∃ k, ceilM n f = n * k := ⟨(f + n - 1) / n, by unfold ceilM; rw [Int.mul_comm]⟩
theorem ceilM_le {n f k : Int} (hn : 1 ≤ n) (h : f ≤ n * k) : ceilM n f ≤ n * k := by
  unfold ceilM
  have h1 : (f + n - 1) / n ≤ k := by
    have : (f + n - 1) / n < k + 1 := by
      rw [Int.ediv_lt_iff_lt_mul (by omega), Int.add_mul, Int.one_mul, Int.mul_comm k n]
      omega
    omega
  rw [Int.mul_comm n k]
  exact Int.mul_le_mul_of_nonneg_right h1 (by omega)
theorem ceilM_floor {n f : Int} (hn : 1 ≤ n) : ceilM n f = ((f - 1) / n + 1) * n := by
  unfold ceilM
  rw [show f + n - 1 = (f - 1) + n * 1 by omega, Int.add_mul_ediv_left _ _ (by omega)]
theorem cnt_pos {n f l : Int} (hn : 1 ≤ n) : 0 < l / n - (f - 1) / n ↔ ceilM n f ≤ l := by
  rw [ceilM_floor hn, ← Int.le_ediv_iff_mul_le (by omega)]
  omega
theorem floor_add {n a T : Int} (hn : 1 ≤ n) : T / n ≤ (a + T) / n - a / n ∧ (a + T) / n - a / n ≤ T / n + 1 := by
  have h1 := Int.emod_add_mul_ediv a n
  have h2 := Int.emod_nonneg a (show n ≠ 0 by omega)
  have h3 := Int.emod_lt_of_pos a (show 0 < n by omega)
  have h4 := Int.emod_add_mul_ediv T n
  have h5 := Int.emod_nonneg T (show n ≠ 0 by omega)
  have h6 := Int.emod_lt_of_pos T (show 0 < n by omega)
  have e : (a + T) / n = a / n + T / n + (a % n + T % n) / n := by
    have : a + T = (a % n + T % n) + n * (a / n + T / n) := by rw [Int.mul_add]; omega
    rw [this, Int.add_mul_ediv_left _ _ (by omega)]
    omega
  have h7 : 0 ≤ (a % n + T % n) / n := Int.ediv_nonneg (by omega) (by omega)
  have h8 : (a % n + T % n) / n < 2 := by rw [Int.ediv_lt_iff_lt_mul (by omega)]; omega
  omega
theorem hasM_succ {n b c : Int} (hn : 1 ≤ n) (h : size b ≤ c) (hh : hasM n b c) : hasM n b (c + 1) := by
  unfold hasM at hh ⊢
  obtain ⟨k, hk⟩ := ceilM_dvd n (stF b c)
  have h1 := (ceilM_ge (f := stF b c) hn).1
  rw [stF_succ h, stL_succ h]
  have h2 : n * k * 10 = n * (k * 10) := Int.mul_assoc _ _ _
  have := ceilM_le (n := n) (f := stF b c * 10) (k := k * 10) hn (by omega)
  omega
/-- told: the least multiple that begins so, of c digits -/
structure Told (n b c told : Int) : Prop where
  c1 : size b ≤ c
  c2 : c ≤ size b + 6
  has : hasM n b c
  no : ∀ c', size b ≤ c' → c' < c → ¬ hasM n b c'
  eq : told = ceilM n (stF b c)
theorem Told.stretch {n b c told : Int} (hn : 1 ≤ n) (t : Told n b c told) : stF b c ≤ told ∧ told ≤ stL b c := by
  have h := t.has
  unfold hasM at h
  have := (ceilM_ge (f := stF b c) hn).1
  rw [t.eq]; omega
theorem Told.begins {n b c told : Int} (hn : 1 ≤ n) (hb : 1 ≤ b) (t : Told n b c told) : FD.begins told b = true ∧ size told = c := in_stretch hb t.c1 (t.stretch hn).1 (t.stretch hn).2
theorem Told.least {n b c told f : Int} (hn : 1 ≤ n) (hb : 1 ≤ b) (t : Told n b c told) (h : FD.begins (n * f) b = true) : told ≤ n * f := by
  obtain ⟨h1, h2, h3⟩ := stretch_of_begins h
  have hle := ceilM_le (n := n) (f := stF b (size (n * f))) (k := f) hn h2
  have hh : hasM n b (size (n * f)) := by unfold hasM; omega
  have hc : c ≤ size (n * f) := by
    by_cases hc : c ≤ size (n * f)
    · exact hc
    · exact absurd hh (t.no _ h1 (by omega))
  by_cases he : c = size (n * f)
  · rw [t.eq, he]; exact hle
  · by_cases hlt : told ≤ n * f
    · exact hlt
    · have := size_mono (m := n * f) (n := told) (by omega)
      rw [(t.begins hn hb).2] at this
      omega
/-- at least two numbers of digits: which have one -/
theorem Told.good {n b c told k : Int} (hn : 1 ≤ n) (t : Told n b c told) (h : size b ≤ k) (hk : k ≤ c + 1) : hasM n b k ↔ c ≤ k := by
  constructor
  · intro hh
    by_cases hc : c ≤ k
    · exact hc
    · exact absurd hh (t.no k h (by omega))
  · intro hc
    by_cases he : k = c
    · rw [he]; exact t.has
    · rw [show k = c + 1 by omega]; exact hasM_succ hn t.c1 t.has
theorem spv_fm {n b z : Int} {H : Hp} (hn : StepC n) (hb : BegC b) (h : ∀ c, Told n b c (ceilM n (stF b c)) → ceilM n (stF b c) = z) : SpV sp_first_multiple [.int n, .int b] H (.int z) := fun H1 _ Q q _ =>
  ⟨n, b, rfl, rfl, hn, hb, fun c h1 h2 h3 h4 H2 e2 => by rw [h c ⟨h1, h2, h3, h4, rfl⟩]; exact q H2 e2⟩
/-- a stretch whose first number is a multiple itself -/
theorem fm_self {n b : Int} (hn : 1 ≤ n) (hb : 1 ≤ b) (hd : ∃ k, b = n * k) : ∀ c, Told n b c (ceilM n (stF b c)) → ceilM n (stF b c) = b := by
  intro c t
  obtain ⟨k, hk⟩ := hd
  have h0 : ceilM n b = b := by
    have h1 := (ceilM_ge (f := b) hn).1
    have h2 := ceilM_le (n := n) (f := b) (k := k) hn (by omega)
    omega
  have hh : hasM n b (size b) := by
    unfold hasM
    rw [stF_self, h0, stL_eq, stF_self]
    have := tenI_pos (size b - size b)
    omega
  have hc : c = size b := by
    by_cases hc : c = size b
    · exact hc
    · have h1 := t.c1
      exact absurd hh (t.no (size b) (by omega) (by omega))
  rw [hc, stF_self]
  exact h0
theorem filter_head {p : Int → Bool} {a b x : Int} {r : List Int} (h : (rgI a b).filter p = x :: r) : p x = true ∧ a ≤ x ∧ x < b ∧ ∀ z, a ≤ z → z < b → p z = true → x ≤ z := by
  have hx : x ∈ (rgI a b).filter p := by rw [h]; exact List.mem_cons_self
  rw [List.mem_filter, mem_rgI] at hx
  refine ⟨hx.2, hx.1.1, hx.1.2, fun z h1 h2 hz => ?_⟩
  by_cases hle : x ≤ z
  · exact hle
  · exfalso
    -- z stands ahead of x in the range
    rw [rgI_append (a := a) (b := z + 1) (c := b) (by omega) (by omega), List.filter_append] at h
    have hz2 : z ∈ (rgI a (z + 1)).filter p := by rw [List.mem_filter, mem_rgI]; exact ⟨⟨by omega, by omega⟩, hz⟩
    cases hq : (rgI a (z + 1)).filter p with
    | nil => rw [hq] at hz2; cases hz2
    | cons y s =>
      rw [hq] at h
      have hy : y ∈ (rgI a (z + 1)).filter p := by rw [hq]; exact List.mem_cons_self
      rw [List.mem_filter, mem_rgI] at hy
      have : y = x := by injection h
      omega
/-! ### ranks -/
theorem sum_rep (s : Int) : ∀ k : Nat, ((rgI s (s + (k : Int))).map fun c => tenI (c - s)).sum = rep k
  | 0 => by rw [rgI_nil (by omega)]; rfl
  | k + 1 => by
    rw [show s + ((k + 1 : Nat) : Int) = (s + (k : Int)) + 1 by omega, rgI_snoc (by omega), List.map_append, List.sum_append, sum_rep s k, List.map_singleton, List.sum_singleton, show s + (k : Int) - s = (k : Int) by omega, show ((k + 1 : Nat) : Int) = (k : Int) + 1 by omega, rep_succ (by omega)]
/-- the number with the rank r: k digits behind, of the worth l -/
structure NA (b r v k l : Int) : Prop where
  k0 : 0 ≤ k
  l0 : 0 ≤ l
  l1 : l < tenI k
  r : r = rep k + l
  v : v = b * tenI k + l
theorem NA.size {b r v k l : Int} (hb : 1 ≤ b) (h : NA b r v k l) : FD.size v = FD.size b + k ∧ begins v b = true := by
  have h1 : b * tenI k ≤ v := by rw [h.v]; have := h.l0; omega
  have h2 : v < (b + 1) * tenI k := by rw [h.v, Int.add_mul, Int.one_mul]; have := h.l1; omega
  exact ⟨size_stretch hb h.k0 h1 h2, begins_stretch hb h.k0 h1 h2⟩
theorem NA.pos {b r v k l : Int} (hb : 1 ≤ b) (h : NA b r v k l) : 1 ≤ v := by
  have h1 : 1 * 1 ≤ b * tenI k := Int.mul_le_mul hb (by have := tenI_pos k; omega) (by decide) (by omega)
  have := h.l0
  rw [h.v]; omega
theorem NA.rank {b r v k l : Int} (hb : 1 ≤ b) (h : NA b r v k l) : upTo b v = r + 1 := by
  have hs := (h.size hb).1
  have hp := size_pos b
  have hk := h.k0
  obtain ⟨j, hj⟩ := Int.eq_ofNat_of_zero_le hk
  unfold upTo
  rw [hs, rgI_snoc (by omega), List.map_append, List.sum_append, List.map_singleton, List.sum_singleton]
  have h1 : ((rgI (FD.size b) (FD.size b + k)).map (upTerm b v)).sum = rep k := by
    rw [hj, ← sum_rep (FD.size b) j]
    apply sum_congr
    intro c hc
    rw [mem_rgI] at hc
    refine upTerm_full hc.1 ?_
    have h2 := ten_size_le (h.pos hb)
    have h3 := tenI_mono (a := c) (b := FD.size v - 1) (by omega)
    omega
  rw [h1, h.r]
  unfold upTerm stF stL
  rw [show FD.size b + k - FD.size b = k by omega, Int.add_mul, Int.one_mul, h.v]
  have := h.l0
  have := h.l1
  rw [if_pos (by omega)]
  omega
theorem rep_mono {k k' : Int} (h0 : 0 ≤ k) (h : k < k') : rep k + tenI k ≤ rep k' := by
  rw [← rep_succ h0]
  unfold rep
  have := tenI_mono (a := k + 1) (b := k') (by omega)
  omega
theorem NA.lt {b r v k l r' v' k' l' : Int} (hb : 1 ≤ b) (h : NA b r v k l) (h' : NA b r' v' k' l') (hr : r < r') : v < v' := by
  have e1 := h.r
  have e2 := h'.r
  have l0 := h.l0
  have l1 := h.l1
  have l0' := h'.l0
  have l1' := h'.l1
  by_cases hk : k < k'
  · have h1 := (h.size hb).1
    have h2 := (h'.size hb).1
    by_cases hv : v < v'
    · exact hv
    · have := size_mono (m := v') (n := v) (by omega)
      omega
  · have hk2 : k = k' := by
      by_cases hk2 : k' < k
      · have := rep_mono h'.k0 hk2
        omega
      · omega
    subst hk2
    rw [h.v, h'.v]
    omega
theorem NA.inj {b r v k l v' k' l' : Int} (hb : 1 ≤ b) (h : NA b r v k l) (h' : NA b r v' k' l') : v = v' := by
  have e1 := h.r
  have e2 := h'.r
  have l0 := h.l0
  have l1 := h.l1
  have l0' := h'.l0
  have l1' := h'.l1
  have hk2 : k = k' := by
    by_cases hk : k < k'
    · have := rep_mono h.k0 hk
      omega
    · by_cases hk2 : k' < k
      · have := rep_mono h'.k0 hk2
        omega
      · omega
  subst hk2
  rw [h.v, h'.v]
  omega
/-- every number that begins so has its rank -/
theorem NA.of {b z : Int} (hz : begins z b = true) : ∃ k l, NA b (rep k + l) z k l := by
  have h := begins_iff.mp hz
  refine ⟨FD.size z - FD.size b, z - b * tenI (FD.size z - FD.size b), by omega, by omega, ?_, rfl, by omega⟩
  rw [Int.add_mul, Int.one_mul] at h
  omega
theorem NA.lt_iff {b r v k l r' v' k' l' : Int} (hb : 1 ≤ b) (h : NA b r v k l) (h' : NA b r' v' k' l') : v < v' ↔ r < r' := by
  constructor
  · intro hv
    by_cases hr : r < r'
    · exact hr
    · by_cases he : r = r'
      · subst he
        have := h.inj hb h'
        omega
      · have := h'.lt hb h (by omega)
        omega
  · exact h.lt hb h'
/-- the next one -/
theorem NA.next {b r v k l v' k' l' : Int} (hb : 1 ≤ b) (h : NA b r v k l) (h' : NA b (r + 1) v' k' l') : leastF b (v + 1) = v' := by
  have hv := h.pos hb
  obtain ⟨a1, a2, _, a4⟩ := least_ok (b := b) (n := v + 1) hb (by omega)
  have hlt := h.lt hb h' (by omega)
  have h1 := a4 v' (by omega) (h'.size hb).2
  obtain ⟨kz, lz, hz⟩ := NA.of a2
  have h2 := (h.lt_iff hb hz).mp (by omega)
  by_cases he : leastF b (v + 1) = v'
  · exact he
  · have := (hz.lt_iff hb h').mp (by omega)
    omega
/-- the one before -/
theorem NA.prev {b r v k l v' k' l' c : Int} (hb : 1 ≤ b) (h : NA b r v k l) (h' : NA b (r - 1) v' k' l') (hc1 : FD.size b ≤ c) (hc3 : stF b c < v) (hno : ∀ c', c < c' → c' ≤ FD.size v → v ≤ stF b c') : min (stL b c) (v - 1) = v' := by
  have hL := stL_eq b c
  have ht := tenI_pos (c - FD.size b)
  have hw : begins (min (stL b c) (v - 1)) b = true := (in_stretch hb hc1 (by omega) (by omega)).1
  have hlt := h'.lt hb h (by omega)
  obtain ⟨kz, lz, hz⟩ := NA.of hw
  have h1 : min (stL b c) (v - 1) ≤ v' := by
    by_cases hle : min (stL b c) (v - 1) ≤ v'
    · exact hle
    · have a := (h'.lt_iff hb hz).mp (by omega)
      have b' := (hz.lt_iff hb h).mp (by omega)
      omega
  have h2 : v' ≤ min (stL b c) (v - 1) := by
    have hs := stretch_of_begins (h'.size hb).2
    have hsz := size_mono (m := v') (n := v) (by omega)
    have hcle : FD.size v' ≤ c := by
      by_cases hcle : FD.size v' ≤ c
      · exact hcle
      · have := hno (FD.size v') (by omega) hsz
        omega
    by_cases he : FD.size v' = c
    · rw [he] at hs
      omega
    · have hF := (stF_begins hb hc1).2
      by_cases hlt2 : v' < stF b c
      · omega
      · have := size_mono (m := stF b c) (n := v') (by omega)
        omega
  omega
theorem NA.between {b r v k l r' v' k' l' : Int} (hb : 1 ≤ b) (h : NA b r v k l) (h' : NA b r' v' k' l') (hr : r ≤ r') : FD.between b v v' = r' - r + 1 := by
  have hv := h.pos hb
  have hle : v ≤ v' := by
    by_cases he : r = r'
    · subst he
      have := h.inj hb h'
      omega
    · have := h.lt hb h' (by omega)
      omega
  have u1 := h.rank hb
  have u2 := h'.rank hb
  rw [upTo_cnt hb (by omega)] at u1 u2
  rw [between_cnt hb hv]
  have s1 := cntR_split (p := fun z => begins z b) (a := 1) (b := v) (c := v' + 1) hv (by omega)
  have s2 := cntR_split (p := fun z => begins z b) (a := 1) (b := v) (c := v + 1) hv (by omega)
  have s3 : cntR (fun z => begins z b) v (v + 1) = 1 := by
    unfold cntR
    rw [rgI_cons (by omega), rgI_nil (by omega)]
    show ind (begins v b) + 0 = 1
    rw [ind_true (h.size hb).2]
    rfl
  omega
theorem NA.num {b r v k l : Int} (hb : BegC b) (h : NA b r v k l) (hr : r ≤ 10000000000) : NumC v ∧ k ≤ 11 ∧ v ≤ 10 ^ 15 := by
  have hk : k ≤ 11 := by
    by_cases hk : k ≤ 11
    · exact hk
    · have h1 := tenI_mono (a := 12) (b := k) (by omega)
      have h2 : tenI 12 = 10 ^ 12 := rfl
      have h3 : 10 ^ 11 ≤ rep k := by unfold rep; omega
      have := h.r
      have := h.l0
      omega
  have h1 := lt_ten_size (n := v) (by have := h.pos hb.lo; omega)
  have h2 := (h.size hb.lo).1
  have h3 := (size_beg hb).2
  have h4 : tenI (FD.size v) ≤ 10 ^ 15 := tenI_le (by omega)
  exact ⟨⟨h.pos hb.lo, Int.lt_of_lt_of_le (b := 10 ^ 15) (by omega) (pow_lt (by decide))⟩, hk, by omega⟩
/-- the value that number_at gives -/
theorem spv_na {b r z : Int} {H : Hp} (hb : BegC b) (h0 : 0 ≤ r) (h1 : r ≤ 1000000000) (h : ∀ v k l, NA b r v k l → v = z) : SpV sp_number_at [.int b, .int r] H (.int z) := fun H1 _ Q q _ =>
  ⟨b, r, rfl, rfl, hb, h0, h1, fun k l k0 l0 l1 hr H2 e2 => by rw [h _ k l ⟨k0, l0, l1, hr, rfl⟩]; exact q H2 e2⟩
/-- there is one with each rank -/
theorem NA.ex (b : Int) : ∀ r : Nat, ∃ v k l, NA b r v k l
  | 0 => ⟨b, 0, 0, by decide, by decide, by decide, by decide, by show b = b * 1 + 0; omega⟩
  | r + 1 => by
    obtain ⟨v, k, l, h⟩ := NA.ex b r
    have h0 := h.l0
    have h1 := h.l1
    have hk := h.k0
    have hr := h.r
    by_cases hl : l + 1 < tenI k
    · exact ⟨b * tenI k + (l + 1), k, l + 1, hk, by omega, hl, by omega, rfl⟩
    · exact ⟨b * tenI (k + 1) + 0, k + 1, 0, by omega, by decide, tenI_pos _, by rw [rep_succ hk]; omega, rfl⟩
theorem el_sorted {K : PySem.W.Frag} {σ : L2.St} {H : Hp} {ta : TE} {a : Addr} {ns : List Int} (h : Ev ta σ H (.ref a)) (hx : SqL K H a (ns.map V.int)) (hl : ns.length < 64) (hs : ns.Pairwise (· ≤ ·)) : EvL (tCB (rSorted K) (tCons ta tNil)) σ H (ns.map V.int) := fun H1 e Q q =>
  h H1 e _ fun H2 e2 => ⟨a, ns, rfl, ex_l (e.trans e2) hx, hl, fun ns' p hp hw hn => by
    have : ns' = ns := PySem.W.ksm_same hp hw hs
    subst this
    exact q p _ (fresh_back e2 hn) (e2.trans (Ex.new hn)) upd_same⟩
end FD

namespace FD
open PySem PySem.Spec PyProof.Rows L2 Evl TL
local macro_rules | `(tactic| walk_at "ev") => `(tactic| repeat' (first | (with_reducible exact ev_c) | ((with_reducible apply ev_var); rfl) | (with_reducible exact ea_nil) | (with_reducible apply ea_cons) | (with_reducible apply ev_op) | (with_reducible exact rv_I0) | (with_reducible apply rv_I) | (with_reducible exact rv_eqI) | (with_reducible exact rv_neI) | (with_reducible exact rv_eqS) | (with_reducible apply ev_ok) | (with_reducible apply ev_cb) | (with_reducible apply spv_I1) | (with_reducible apply spv_I2) | (with_reducible apply spv_I3) | (with_reducible apply et_test) | (with_reducible apply et_B) | (with_reducible apply et_not) | (with_reducible apply ev_notV) | (with_reducible apply ev_un) | (with_reducible exact ru_negI) | (with_reducible exact rc_max2) | (with_reducible exact rc_min2) | (with_reducible exact rv_isB) | (with_reducible exact rv_notB) | (with_reducible exact rv_isN) | (with_reducible exact rv_notN) | (with_reducible apply ev_chainI) | (with_reducible exact rc_isiI) | (with_reducible exact rc_isiB)))
/-! ### xs[i] += e -/
abbrev rGetL (K : PySem.W.Frag) : V → V → Hp → VK → Prop := fun o i H Q => ∃ p xs j v, o = .ref p ∧ i = .int ((j : Nat) : Int) ∧ SqL K H p xs ∧ xs[j]? = some v ∧ Q v H
theorem get_list {X : Cx} : PGet X (rGetL X.K) := by
  intro pins s σ H o i ov iv Q I ro ri h
  obtain ⟨p, xs, j, v, ho, hi, hS, ha, hQ⟩ := h
  subst ho
  subst hi
  cases ro
  obtain ⟨tok, htok⟩ := ri
  subst htok
  obtain ⟨its, rel, plain, small⟩ := I.list hS
  obtain ⟨u, hu, ru⟩ := rel.get ha
  have hjl : j < xs.length := (List.getElem?_eq_some_iff.mp ha).1
  have h63 := line63
  refine wpAny_getItem_list plain.isList (by omega) (by omega) ?_ ⟨v, H, I, ru, hQ⟩
  rw [Int.toNat_natCast]
  simpa using hu
/-! ### digit_table -/
def tabF (l : List Int) : List Int := (rgI 1 10).map fun d => ((l.filter fun z => decide (first z 1 = d)).length : Int)
theorem tabF_length (l : List Int) : (tabF l).length = 9 := by unfold tabF; rw [List.length_map, rgI_length]; rfl
theorem rgI_get {a b : Int} {i : Nat} (h : (i : Int) < b - a) : (rgI a b)[i]? = some (a + i) := by
  unfold rgI
  rw [List.getElem?_map, List.getElem?_range (by omega)]
  rfl
theorem tabF_get {l : List Int} {i : Nat} (h : i < 9) : (tabF l)[i]? = some (((l.filter fun z => decide (first z 1 = 1 + (i : Int))).length : Nat) : Int) := by
  unfold tabF
  rw [List.getElem?_map, rgI_get (by omega)]
  rfl
theorem tabF_snoc {l : List Int} {z : Int} {j : Nat} {c : Int} (hj : j < 9) (hz : first z 1 = 1 + (j : Int)) (hc : (tabF l)[j]? = some c) : (tabF l).set j (c + 1) = tabF (l ++ [z]) := by
  apply List.ext_getElem?
  intro i
  by_cases hi : i < 9
  · rw [tabF_get hi, List.filter_append, List.length_append]
    by_cases he : j = i
    · subst he
      rw [List.getElem?_set_self (by rw [tabF_length]; exact hj)]
      rw [tabF_get hj] at hc
      have hc := Option.some.inj hc
      rw [List.filter_cons, if_pos (by rw [hz]; simp), List.filter_nil, ← hc]
      rfl
    · rw [List.getElem?_set_ne he, tabF_get hi, List.filter_cons, if_neg (by rw [hz]; simp; omega), List.filter_nil]
      rfl
  · rw [List.getElem?_eq_none (by rw [List.length_set, tabF_length]; omega), List.getElem?_eq_none (by rw [tabF_length]; omega)]
theorem first_one {z : Int} (hz : 1 ≤ z) : ∃ j : Nat, j < 9 ∧ first z 1 = 1 + (j : Int) := by
  have h1 := first_pos hz (show (1 : Int) ≤ 1 by decide)
  have h2 := lt_ten_size (n := first z 1) (by omega)
  rw [size_first hz (by decide) (by have := size_pos z; omega)] at h2
  have h3 : tenI 1 = 10 := rfl
  exact ⟨(first z 1 - 1).toNat, by omega, by omega⟩
abbrev sp_digit_table : Sp := spL2 (fun b m => BaseC b ∧ 0 ≤ m ∧ m ≤ 300) (fun b m => (tabF (powL b m.toNat)).map V.int)
def rd_digit_table (K : PySem.W.Frag) : TS :=
      (tSeq (tDrop (tCall (sp_check_base) [] E0 (tCons (tVar 0) tNil)))
      (tSeq (tDrop (tCall (sp_check_count) [] E0 (tCons (tVar 1) (tCons (tC (.int 0)) (tCons (tC (.int 300)) tNil)))))
      (tSeq (tAsg (tOp rRep (tLst (tCons (tC (.int 0)) tNil)) (tC (.int 9))) (gName 2))
      (tSeq (tFor (iList K (tCall (sp_powers_of) [] E0 (tCons (tVar 0) (tCons (tVar 1) tNil)))) (gName 3)
        (tAugS (tVar 2) (tOp rSubI (tCall (sp_first_of) [] E0 (tCons (tVar 3) (tCons (tC (.int 1)) tNil))) (tC (.int 1))) (tC (.int 1)) (rGetL K) rAddI rSetL))
      (tRet (tVar 2))))))
def N_digit_table : List Str := ["base", "most", "found", "number"]
theorem powL_take {b : Int} {m i : Nat} (h : i ≤ m) : (powL b m).take (i + 1) = powL b i := by
  unfold powL
  rw [← List.map_take, List.take_range, Nat.min_eq_left (by omega)]
theorem take_step {l : List Int} {i : Nat} {z : Int} (h : l[i]? = some z) : l.take (i + 1) = l.take i ++ [z] := by
  rw [List.take_add_one, h]; rfl
theorem pure_digit_table {K : PySem.W.Frag} (vs : List V) (H : Hp) (Q : VK) (E : XK) (h : sp_digit_table vs H Q E) : rd_digit_table K { nx := fun _ H' => Q .non H', rt := Q } (start N_digit_table vs) H := by
  match vs, h with
  | [a, b], h =>
    obtain ⟨b, m, rfl, rfl, ⟨hb, h0, h1⟩, q⟩ := h
    unfold rd_digit_table
    refine q_drop (v := .non) (by walk_at "ev"; exact hb) fun H1 e1 => ?_
    refine q_drop (v := .non) (by walk_at "ev"; exact ⟨h0, h1⟩) fun H2 e2 => ?_
    refine q_asgL (xs := (tabF []).map V.int) (fun H3 e3 Q' q' => ⟨by show 1 ≤ sizeLine; decide, fun p hp => ⟨p, 9, [.int 0], rfl, rfl, upd_same, by decide, by decide, by show 1 * 9 ≤ sizeLine; decide, fun p2 hp2 => ?_⟩⟩) fun pt H3 hpt e3 h3 => ?_
    · refine q' p2 _ (fresh_back (Ex.new hp) hp2) ((Ex.new hp).trans (Ex.new hp2)) ?_
      rw [upd_same]
      rfl
    have e13 := (e1.trans e2).trans e3
    obtain ⟨pw, hpw⟩ : ∃ pw, pw = powL b m.toNat := ⟨_, rfl⟩
    have hplen : pw.length = m.toNat + 1 := by rw [hpw, powL_length]
    show tSeq _ _ _ [some (.int b), some (.int m), some (.ref pt), none] H3
    refine Evl.q_forNLn (xs := pw.map V.int) (el_is (el_ok (by walk_at "ev") (spv_L2 ⟨hb, h0, h1⟩)) (by rw [hpw])) (fun pp i σ' H' => ∃ y3, σ' = [some (.int b), some (.int m), some (.ref pt), y3] ∧ Ex H H' ∧ H' pp = some (.lst (pw.map V.int)) ∧ pp ≠ pt ∧ H' pt = some (.lst ((tabF (pw.take i)).map V.int)))
      (fun pp H4 hpp e4 h4 => ⟨none, rfl, e13.trans e4, h4, (fun e => by rw [e, h3] at hpp; cases hpp), e4 _ _ h3⟩) (fun pp i σ' H' _ hp => ?_) (fun pp i x σ' H' hx hp => ?_) (fun pp σ' H' hp => ?_)
    · obtain ⟨_, _, _, h, _⟩ := hp
      exact sq_of h
    · obtain ⟨y3, rfl, e, h4, hne, h5⟩ := hp
      rw [List.getElem?_map] at hx
      cases hq : pw[i]? with
      | none => rw [hq] at hx; cases hx
      | some z =>
        rw [hq] at hx
        have hx : x = .int z := (Option.some.inj hx).symm
        subst hx
        have hz := hq
        rw [hpw] at hz
        obtain ⟨hi, rfl⟩ := pow_at h0 hz
        have hz1 := (pow_bd hb i).1
        obtain ⟨j, hj, hf⟩ := first_one hz1
        have hc := tabF_get (l := pw.take i) hj
        have hc2 : ((tabF (pw.take i)).map V.int)[j]? = some (.int (((pw.take i).filter fun z => decide (first z 1 = 1 + (j : Int))).length : Nat)) := by rw [List.getElem?_map, hc]; rfl
        have hidx : ∀ H6, Ev (tOp rSubI (tCall (sp_first_of) [] E0 (tCons (tVar 3) (tCons (tC (.int 1)) tNil))) (tC (.int 1))) [some (.int b), some (.int m), some (.ref pt), some (.int (b ^ i))] H6 (.int (j : Int)) := fun H6 =>
          ev_is (by walk_at "ev"; exact ⟨pow_txt hb (by omega), by decide⟩) (by rw [hf]; congr 1; omega)
        refine ⟨.ref pt, rfl, hidx H' H' (Ex.refl _) _ fun H6 e6 => ⟨pt, _, j, _, rfl, rfl, sq_of (e6 _ _ h5), hc2, _, _, rfl, rfl, pt, _, (j : Int), j, rfl, rfl, e6 _ _ h5, ?_, ?_⟩⟩
        · exact ixN_nat (by rw [List.length_map, tabF_length]; exact hj)
        · refine ⟨_, rfl, fun c o hc' => ?_, ?_, hne, ?_⟩
          · have hcp : c ≠ pt := fun e' => by
              rw [e'] at hc'
              have := fresh_back (e1.trans e2) hpt
              rw [this] at hc'; cases hc'
            rw [upd_ne hcp]
            exact e6 _ _ (e _ _ hc')
          · rw [upd_ne hne]; exact e6 _ _ h4
          · rw [upd_same, take_step hq, ← tabF_snoc hj hf hc, List.map_set]
    · obtain ⟨y3, rfl, e, h4, hne, h5⟩ := hp
      rw [List.length_map, List.take_length, hpw] at h5
      exact ⟨.ref pt, rfl, q pt H' (fresh_back (e1.trans e2) hpt) e h5⟩
/-! ### never -/
/-- some power of the list begins so -/
def anyB (l : List Int) (o : Int) : Bool := l.any fun z => begins z o
def neverL (b k m : Int) : List Int := (rgI (tenI (k - 1)) (tenI k)).filter fun o => !anyB (powL b m.toNat) o
def seenF (k : Int) (l : List Int) : List Bool := (List.range (10 ^ k.toNat)).map fun (o : Nat) => l.any fun z => decide (k ≤ size z) && decide (first z k = (o : Int))
theorem seenF_length (k : Int) (l : List Int) : (seenF k l).length = 10 ^ k.toNat := by unfold seenF; rw [List.length_map, List.length_range]
theorem seenF_get {k : Int} {l : List Int} {o : Nat} (h : o < 10 ^ k.toNat) : (seenF k l)[o]? = some (l.any fun z => decide (k ≤ size z) && decide (first z k = (o : Int))) := by
  unfold seenF
  rw [List.getElem?_map, List.getElem?_range h]
  rfl
theorem seenF_skip {k z : Int} {l : List Int} (h : ¬ k ≤ size z) : seenF k (l ++ [z]) = seenF k l := by
  unfold seenF
  apply List.map_congr_left
  intro o _
  rw [List.any_append]
  simp [h]
theorem seenF_snoc {k z : Int} {l : List Int} {o : Nat} (h : k ≤ size z) (ho : first z k = (o : Int)) (hlt : o < 10 ^ k.toNat) : (seenF k l).set o true = seenF k (l ++ [z]) := by
  apply List.ext_getElem?
  intro i
  by_cases hi : i < 10 ^ k.toNat
  · rw [seenF_get hi, List.any_append]
    by_cases he : o = i
    · subst he
      rw [List.getElem?_set_self (by rw [seenF_length]; exact hlt)]
      simp [h, ho]
    · rw [List.getElem?_set_ne he, seenF_get hi]
      have : ¬ first z k = (i : Int) := by omega
      simp [this]
  · rw [List.getElem?_eq_none (by rw [List.length_set, seenF_length]; omega), List.getElem?_eq_none (by rw [seenF_length]; omega)]
abbrev sp_never : Sp := spL3 (fun b k m => BaseC b ∧ (1 ≤ k ∧ k ≤ 3) ∧ 0 ≤ m ∧ m ≤ 300) (fun b k m => (neverL b k m).map V.int)
def rd_never (K : PySem.W.Frag) : TS :=
      (tSeq (tDrop (tCall (sp_check_base) [] E0 (tCons (tVar 0) tNil)))
      (tSeq (tDrop (tCall (sp_check_count) [] E0 (tCons (tVar 1) (tCons (tC (.int 1)) (tCons (tC (.int 3)) tNil)))))
      (tSeq (tDrop (tCall (sp_check_count) [] E0 (tCons (tVar 2) (tCons (tC (.int 0)) (tCons (tC (.int 300)) tNil)))))
      (tSeq (tAsg (tOp rRep (tLst (tCons (tC (.bl false)) tNil)) (tCall (sp_ten_to) [] E0 (tCons (tVar 1) tNil))) (gName 3))
      (tSeq (tFor (iList K (tCall (sp_powers_of) [] E0 (tCons (tVar 0) (tCons (tVar 2) tNil)))) (gName 4)
        (tIfS (tTest (tOp rGeI (tCall (sp_size_of) [] E0 (tCons (tVar 4) tNil)) (tVar 1)))
        (tAsg (tC (.bl true)) (gSub (tVar 3) (tCall (sp_first_of) [] E0 (tCons (tVar 4) (tCons (tVar 1) tNil))) rSetL))
        tNext))
      (tRet (tLc (iRng2 (tCons (tCall (sp_ten_to) [] E0 (tCons (tOp rSubI (tVar 1) (tC (.int 1))) tNil)) (tCons (tCall (sp_ten_to) [] E0 (tCons (tVar 1) tNil)) tNil))) (gName 5) (tNot (tB (tOp (rIxL K) (tVar 3) (tVar 5)))) (tVar 5) [5])))))))
def N_never : List Str := ["base", "many", "most", "seen", "number", "one"]
theorem rep_flat (x : V) (n : Nat) : (List.replicate n [x]).flatten = List.replicate n x := by
  induction n with
  | zero => rfl
  | succ n ih => rw [List.replicate_succ, List.flatten_cons, ih, List.replicate_succ]; rfl
theorem seenF_nil (k : Int) : (seenF k []).map V.bl = List.replicate (10 ^ k.toNat) (.bl false) := by
  unfold seenF
  rw [List.map_map, List.eq_replicate_iff]
  refine ⟨by rw [List.length_map, List.length_range], fun x hx => ?_⟩
  rw [List.mem_map] at hx
  obtain ⟨o, _, rfl⟩ := hx
  rfl
theorem pure_never {K : PySem.W.Frag} (vs : List V) (H : Hp) (Q : VK) (E : XK) (h : sp_never vs H Q E) : rd_never K { nx := fun _ H' => Q .non H', rt := Q } (start N_never vs) H := by
  match vs, h with
  | [a, b, c], h =>
    obtain ⟨b, k, m, rfl, rfl, rfl, ⟨hb, hk, h0, h1⟩, q⟩ := h
    have hk1 := hk.1
    have hk3 := hk.2
    have t1 : tenI k ≤ 10 ^ 3 := tenI_le (by omega)
    have t2 := tenI_pos k
    have t3 := tenI_pos (k - 1)
    have t4 : tenI (k - 1) ≤ 10 ^ 2 := tenI_le (by omega)
    have t5 : tenI k = ((10 ^ k.toNat : Nat) : Int) := tenI_nat k
    unfold rd_never
    refine q_drop (v := .non) (by walk_at "ev"; exact hb) fun H1 e1 => ?_
    refine q_drop (v := .non) (by walk_at "ev"; exact hk) fun H2 e2 => ?_
    refine q_drop (v := .non) (by walk_at "ev"; exact ⟨h0, h1⟩) fun H3 e3 => ?_
    refine q_asgL (xs := (seenF k []).map V.bl) (fun H4 e4 Q' q' => ⟨by show 1 ≤ sizeLine; decide, fun p hp => ?_⟩) fun pt H4 hpt e4 h4 => ?_
    · refine ⟨.int k, rfl, k, rfl, ⟨by omega, by omega⟩, fun H5 e5 => ⟨p, tenI k, [.bl false], rfl, rfl, e5 _ _ upd_same, by omega, by omega, ?_, fun p2 hp2 => ?_⟩⟩
      · show 1 * (tenI k).toNat ≤ sizeLine
        exact Nat.le_trans (show 1 * (tenI k).toNat ≤ 100000 by omega) (by decide)
      · refine q' p2 _ (fresh_back ((Ex.new hp).trans e5) hp2) (((Ex.new hp).trans e5).trans (Ex.new hp2)) ?_
        rw [upd_same, rep_flat, seenF_nil, t5, Int.toNat_natCast]
    have e13 := (e1.trans e2).trans e3
    have e14 := e13.trans e4
    have hH : H pt = none := fresh_back e13 hpt
    obtain ⟨pw, hpw⟩ : ∃ pw, pw = powL b m.toNat := ⟨_, rfl⟩
    have hplen : pw.length = m.toNat + 1 := by rw [hpw, powL_length]
    show tSeq _ _ _ [some (.int b), some (.int k), some (.int m), some (.ref pt), none, none] H4
    refine Evl.q_forNLn (xs := pw.map V.int) (el_is (el_ok (by walk_at "ev") (spv_L2 ⟨hb, h0, h1⟩)) (by rw [hpw])) (fun pp i σ' H' => ∃ y4, σ' = [some (.int b), some (.int k), some (.int m), some (.ref pt), y4, none] ∧ Ex H H' ∧ H' pp = some (.lst (pw.map V.int)) ∧ pp ≠ pt ∧ H' pt = some (.lst ((seenF k (pw.take i)).map V.bl)))
      (fun pp H5 hpp e5 h5 => ⟨none, rfl, e14.trans e5, h5, (fun e => by rw [e, h4] at hpp; cases hpp), e5 _ _ h4⟩) (fun pp i σ' H' _ hp => ?_) (fun pp i x σ' H' hx hp => ?_) (fun pp σ' H' hp => ?_)
    · obtain ⟨_, _, _, h, _⟩ := hp
      exact sq_of h
    · obtain ⟨y4, rfl, e, h5, hne, h6⟩ := hp
      rw [List.getElem?_map] at hx
      cases hq : pw[i]? with
      | none => rw [hq] at hx; cases hx
      | some z =>
        rw [hq] at hx
        have hx : x = .int z := (Option.some.inj hx).symm
        subst hx
        have hz := hq
        rw [hpw] at hz
        obtain ⟨hi, rfl⟩ := pow_at h0 hz
        have hz1 := (pow_bd hb i).1
        have hzt := pow_txt hb (i := i) (by omega)
        show tIfS _ _ _ _ [some (.int b), some (.int k), some (.int m), some (.ref pt), some (.int (b ^ i)), none] H'
        refine s_if (b := decide (k ≤ size (b ^ i))) (et_test (by walk_at "ev"; exact hzt)) (fun hb' H7 e7 => ?_) (fun hb' H7 e7 => ?_)
        · have hge := of_decide_eq_true hb'
          have hf1 := first_pos hz1 hk1
          have hf2 := lt_ten_size (n := first (b ^ i) k) (by omega)
          rw [size_first hz1 hk1 hge] at hf2
          obtain ⟨o, ho⟩ := Int.eq_ofNat_of_zero_le (show 0 ≤ first (b ^ i) k by omega)
          have hol : o < 10 ^ k.toNat := by omega
          refine s_setL (l := pt) (j := o) (e7 _ _ h6) (v := .bl true) ev_c (ev_var rfl) (ev_is (by walk_at "ev"; exact ⟨hzt, by omega⟩) (by rw [ho])) (by rw [List.length_map, seenF_length]; exact hol) fun H8 e8 => ?_
          refine ⟨_, rfl, Ex.mut ((e.trans e7).trans e8) hH, ?_, hne, ?_⟩
          · rw [upd_ne hne]; exact (e7.trans e8) _ _ h5
          · rw [upd_same, take_step hq, ← seenF_snoc hge ho hol, List.map_set]
        · refine ⟨_, rfl, e.trans e7, e7 _ _ h5, hne, ?_⟩
          rw [take_step hq, seenF_skip (of_decide_eq_false hb')]
          exact e7 _ _ h6
    · obtain ⟨y4, rfl, e, h5, hne, h6⟩ := hp
      rw [List.length_map, List.take_length] at h6
      have hfilt : (rgI (tenI (k - 1)) (tenI k)).filter (fun o => !anyB pw o) = neverL b k m := by rw [hpw]; rfl
      refine s_retL (el_is (el_lcR2 (a := tenI (k - 1)) (b := tenI k) (fun o => !anyB pw o) V.int (by walk_at "ev"; show 0 ≤ k - 1 ∧ k - 1 ≤ 1000; omega; show 0 ≤ k ∧ k ≤ 1000; omega) (by omega) (fun _ => rfl) (fun z H7 e7 z0 z1 => ?_) (fun z H7 e7 z0 z1 hz => ev_var rfl)) (by rw [hfilt])) fun p3 H7 hp3 e7 h7 => q p3 H7 (fresh_back e hp3) (e.trans e7) h7
      obtain ⟨o, rfl⟩ := Int.eq_ofNat_of_zero_le (show 0 ≤ z by omega)
      have hol : o < 10 ^ k.toNat := by omega
      have hso : size (o : Int) = k := size_eq hk1 z0 z1
      have hget : ((seenF k pw).map V.bl)[o]? = some (.bl (anyB pw (o : Int))) := by
        rw [List.getElem?_map, seenF_get hol]
        unfold anyB
        have : (fun z => begins z (o : Int)) = fun z => decide (k ≤ size z) && decide (first z k = (o : Int)) := by funext z; rw [begins_same hso]
        rw [this]
        rfl
      exact et_not (et_B (ev_op (ev_var rfl) (ev_var rfl) (rv_ixL (sq_of (e7 _ _ h6)) (atI_nat hget))))
/-! ### powers_with -/
def withL (b c : Int) : List Int := (rgI 0 301).filter fun i => decide (size (b ^ i.toNat) = c)
abbrev sp_powers_with : Sp := spL2 (fun b c => BaseC b ∧ 1 ≤ c ∧ c ≤ 600) (fun b c => (withL b c).map V.int)
def rd_powers_with (K : PySem.W.Frag) : TS :=
      (tSeq (tDrop (tCall (sp_check_base) [] E0 (tCons (tVar 0) tNil)))
      (tSeq (tDrop (tCall (sp_check_count) [] E0 (tCons (tVar 1) (tCons (tC (.int 1)) (tCons (tC (.int 600)) tNil)))))
      (tRet (tLc (iEnum K (tCons (tCall (sp_powers_of) [] E0 (tCons (tVar 0) (tCons (tC (.int 300)) tNil))) tNil)) (gTup K 2 (gCons (gName 2) (gCons (gName 3) gNil))) (tTest (tOp rEq (tCall (sp_size_of) [] E0 (tCons (tVar 3) tNil)) (tVar 1))) (tVar 2) [2, 3]))))
def N_powers_with : List Str := ["base", "count", "place", "number"]
theorem pure_powers_with {K : PySem.W.Frag} (vs : List V) (H : Hp) (Q : VK) (E : XK) (h : sp_powers_with vs H Q E) : rd_powers_with K { nx := fun _ H' => Q .non H', rt := Q } (start N_powers_with vs) H := by
  match vs, h with
  | [a, b], h =>
    obtain ⟨b, c, rfl, rfl, ⟨hb, h0, h1⟩, q⟩ := h
    unfold rd_powers_with
    refine q_drop (v := .non) (by walk_at "ev"; exact hb) fun H1 e1 => ?_
    refine q_drop (v := .non) (by walk_at "ev"; exact ⟨h0, h1⟩) fun H2 e2 => ?_
    refine s_retL (xs := (withL b c).map V.int) (el_is (el_lcEnum (xs := powL b (300 : Int).toNat) (fun i => decide (size (b ^ i.toNat) = c)) V.int (el_ok (by walk_at "ev") (spv_L2 ⟨hb, by decide, by decide⟩)) (by rw [powL_length]; decide) (fun _ _ => rfl) (fun i z H3 e3 hz => ?_) (fun i z H3 e3 hz hf => ev_var rfl)) ?_) fun p H3 hp e3 h3 => q p H3 (fresh_back (e1.trans e2) hp) ((e1.trans e2).trans e3) h3
    · obtain ⟨hi, rfl⟩ := pow_at (by decide) hz
      exact et_test (ev_op (ev_ok (vs := [.int (b ^ i)]) (by walk_at "ev") (spv_I1 (g := fun n => .int (size n)) (pow_txt hb (by omega)))) (ev_var rfl) rv_eqI)
    · rw [powL_length]; rfl
end FD

namespace FD
open PySem PySem.Spec PyProof.Rows L2 Evl TL
local macro_rules | `(tactic| walk_at "ev") => `(tactic| repeat' (first | (with_reducible exact ev_c) | ((with_reducible apply ev_var); rfl) | (with_reducible exact ea_nil) | (with_reducible apply ea_cons) | (with_reducible apply ev_op) | (with_reducible exact rv_I0) | (with_reducible apply rv_I) | (with_reducible exact rv_eqI) | (with_reducible exact rv_neI) | (with_reducible exact rv_eqS) | (with_reducible apply ev_ok) | (with_reducible apply ev_cb) | (with_reducible apply spv_I1) | (with_reducible apply spv_I2) | (with_reducible apply spv_I3) | (with_reducible apply et_test) | (with_reducible apply et_B) | (with_reducible apply et_not) | (with_reducible apply ev_notV) | (with_reducible apply ev_un) | (with_reducible exact ru_negI) | (with_reducible exact rc_max2) | (with_reducible exact rc_min2) | (with_reducible exact rv_isB) | (with_reducible exact rv_notB) | (with_reducible exact rv_isN) | (with_reducible exact rv_notN) | (with_reducible apply ev_chainI) | (with_reducible exact rc_isiI) | (with_reducible exact rc_isiB)))
/-! ### lists of pairs -/
abbrev tp (q : Int × Int) : HO := .tup [.int q.1, .int q.2]
abbrev PrsAt (H : Hp) (rs : List Addr) (qs : List (Int × Int)) : Prop := rs.map H = qs.map fun q => some (tp q)
theorem prs_mono {H H' : Hp} : ∀ {rs : List Addr} {qs : List (Int × Int)}, (∀ (r : Addr) (q : Int × Int), H r = some (tp q) → H' r = some (tp q)) → PrsAt H rs qs → PrsAt H' rs qs
  | [], [], _, _ => rfl
  | [], q :: qs, _, h => by cases h
  | r :: rs, [], _, h => by cases h
  | r :: rs, q :: qs, e, h => by
    have h := List.cons.inj h
    show H' r :: rs.map H' = some (tp q) :: qs.map fun q => some (tp q)
    rw [e r q h.1]
    exact congrArg _ (prs_mono e h.2)
theorem prs_ex {H H' : Hp} {rs : List Addr} {qs : List (Int × Int)} (e : Ex H H') (h : PrsAt H rs qs) : PrsAt H' rs qs := prs_mono (fun r q hr => e r _ hr) h
theorem prs_upd {H : Hp} {D : Addr} {xs : List V} {o : HO} {rs : List Addr} {qs : List (Int × Int)} (hD : H D = some (.lst xs)) (h : PrsAt H rs qs) : PrsAt (upd H D o) rs qs :=
  prs_mono (fun r q hr => by
    have hne : r ≠ D := fun e => by subst e; rw [hD] at hr; cases hr
    rw [← hr]
    unfold upd
    exact if_neg hne) h
theorem prs_len {H : Hp} {rs : List Addr} {qs : List (Int × Int)} (h : PrsAt H rs qs) : rs.length = qs.length := by
  have := congrArg List.length h
  rw [List.length_map, List.length_map] at this
  exact this
theorem prs_at {H : Hp} {rs : List Addr} {qs : List (Int × Int)} {i : Nat} {r : Addr} (h : PrsAt H rs qs) (hi : rs[i]? = some r) : ∃ q, qs[i]? = some q ∧ H r = some (tp q) := by
  have h := congrArg (fun l => l[i]?) h
  simp only [List.getElem?_map, hi, Option.map_some] at h
  cases hq : qs[i]? with
  | none => rw [hq] at h; cases h
  | some q => rw [hq] at h; exact ⟨q, rfl, Option.some.inj h⟩
def EvS (te : TE) (σ : L2.St) (H : Hp) (qs : List (Int × Int)) : Prop := ∀ H1, Ex H H1 → ∀ Q : VK, (∀ p rs H2, H1 p = none → Ex H1 H2 → H2 p = some (.lst (rs.map V.ref)) → PrsAt H2 rs qs → Q (.ref p) H2) → te σ H1 Q
def Cs (H : Hp) (q : Nat → Int × Int) (Dl : Addr) (i : Nat) (H' : Hp) : Prop := H Dl = none ∧ Ex H H' ∧ ∃ rs, H' Dl = some (.lst (rs.map V.ref)) ∧ PrsAt H' rs ((List.range i).map q)
section
variable {K : PySem.W.Frag} {σ : L2.St} {H : Hp} {t : TT} {te ta tb tl : TE} {tu : TS} {D : Ends} {i j : Nat} {vs : List Nat}
theorem cs_turn {H H' : Hp} {q : Nat → Int × Int} {Dl : Addr} {i : Nat} {σ2 : L2.St} (p : Cs H q Dl i H') (hi : i < 50000) (he : EvU te σ2 H [.int (q i).1, .int (q i).2]) :
    tYes σ2 H' fun b H3 => if b = true then te σ2 H3 fun y H4 => ∃ acc, H4 Dl = some (.lst acc) ∧ acc.length < sizeLine ∧ Cs H q Dl (i + 1) (upd H4 Dl (.lst (acc ++ [y]))) else Cs H q Dl (i + 1) H3 := by
  obtain ⟨p1, p2, rs, p3, p4⟩ := p
  show te σ2 H' fun y H4 => ∃ acc, H4 Dl = some (.lst acc) ∧ acc.length < sizeLine ∧ Cs H q Dl (i + 1) (upd H4 Dl (.lst (acc ++ [y])))
  refine he H' p2 _ fun r H4 hr e4 h4 => ⟨rs.map V.ref, e4 _ _ p3, Evl.sz_lt (by rw [List.length_map, prs_len p4, List.length_map, List.length_range]; omega), p1, Ex.mut (p2.trans e4) p1, rs ++ [r], ?_, ?_⟩
  · rw [List.map_append]
    exact upd_same
  · refine prs_upd (e4 _ _ p3) ?_
    show (rs ++ [r]).map H4 = ((List.range (i + 1)).map q).map _
    rw [List.range_succ, List.map_append, List.map_append, List.map_append, prs_ex e4 p4]
    show _ ++ [H4 r] = _
    rw [h4]
    rfl
/-- [pair for x in range(lo, n, -1)] -/
theorem es_lcDn {t3 : TA} {lo n : Int} (q : Nat → Int × Int) (h : EvA t3 σ H [.int lo, .int n, .int (-1)]) (hn : -10000 ≤ lo ∧ lo ≤ 10000 ∧ -10000 ≤ n ∧ n ≤ 10000) (hw : ∀ x, wipe ((wipe σ vs).set j (some x)) vs = wipe σ vs)
    (he : ∀ (i : Nat) H1, Ex H H1 → n < lo - (i : Int) → EvU te ((wipe σ vs).set j (some (.int (lo - (i : Int))))) H1 [.int (q i).1, .int (q i).2]) :
    EvS (tLc (iRng3 t3) (gName j) tYes te vs) σ H ((List.range (lo - n).toNat).map q) := fun H0 e Q k => h H0 e _ fun H1 e1 => ⟨lo, n, -1, (lo - n).toNat, rfl, RgC.neg (by omega) (by omega) (by omega) (by omega), fun Dl hD =>
  lc_it (walk_rangeC (lo := lo) (c := -1) (n := (lo - n).toNat)) (Cs H1 q Dl) ⟨hD, Ex.new hD, [], upd_same, rfl⟩ (fun _ _ _ _ => trivial) (fun i x H' H'' hi p y => by
    obtain ⟨rfl, rfl⟩ := y
    have e0 : lo + (i : Nat) * (-1) = lo - (i : Int) := by omega
    show gName j (V.int _) _ _ _
    rw [e0]
    exact ⟨hw _, cs_turn p (by omega) (he i H1 (e.trans e1) (by omega))⟩) (fun H' p => by
      obtain ⟨p1, p2, rs, p3, p4⟩ := p
      exact k Dl rs H' (fresh_back e1 p1) (e1.trans p2) p3 p4)⟩
/-- [pair for x in range(n)] -/
theorem es_lcR1 {t3 : TA} {n : Int} (q : Nat → Int × Int) (h : EvA t3 σ H [.int n]) (hn : 0 ≤ n ∧ n ≤ 40000) (hw : ∀ x, wipe ((wipe σ vs).set j (some x)) vs = wipe σ vs)
    (he : ∀ (i : Nat) H1, Ex H H1 → (i : Int) < n → EvU te ((wipe σ vs).set j (some (.int (i : Int)))) H1 [.int (q i).1, .int (q i).2]) :
    EvS (tLc (iRng1 t3) (gName j) tYes te vs) σ H ((List.range n.toNat).map q) := fun H0 e Q k => h H0 e _ fun H1 e1 => ⟨n, rfl, by omega, by omega, fun Dl hD =>
  lc_it (walk_range (lo := 0) (n := n.toNat)) (Cs H1 q Dl) ⟨hD, Ex.new hD, [], upd_same, rfl⟩ (fun _ _ _ _ => trivial) (fun i x H' H'' hi p y => by
    obtain ⟨rfl, rfl⟩ := y
    have e0 : (0 : Int) + (i : Int) = (i : Int) := Int.zero_add _
    show gName j (V.int _) _ _ _
    rw [e0]
    exact ⟨hw _, cs_turn p (by omega) (he i H1 (e.trans e1) (by omega))⟩) (fun H' p => by
      obtain ⟨p1, p2, rs, p3, p4⟩ := p
      exact k Dl rs H' (fresh_back e1 p1) (e1.trans p2) p3 p4)⟩
theorem es_cat {q1 q2 : List (Int × Int)} {a : Addr} {rs : List Addr} (ha : Ev ta σ H (.ref a)) (h1 : H a = some (.lst (rs.map V.ref))) (hr : PrsAt H rs q1) (h2 : EvS tb σ H q2) (hl : q1.length + q2.length ≤ 1000) : EvS (tOp rCat ta tb) σ H (q1 ++ q2) := fun H1 e Q q =>
  ha H1 e _ fun H2 e2 => h2 H2 (e.trans e2) _ fun p2 r2 H3 hp2 e3 hy hr2 => ⟨a, p2, rs.map V.ref, r2.map V.ref, rfl, rfl, e3 _ _ (e2 _ _ (e _ _ h1)), hy, sz_of (by rw [List.length_map, List.length_map, prs_len hr, prs_len hr2]; omega), fun p3 hp3 =>
    q p3 (rs ++ r2) _ (fresh_back (e2.trans e3) hp3) ((e2.trans e3).trans (Ex.new hp3)) (by rw [List.map_append]; exact upd_same) (prs_ex (Ex.new hp3) (by
      show (rs ++ r2).map H3 = (q1 ++ q2).map _
      rw [List.map_append, List.map_append, hr2, prs_ex ((e.trans e2).trans e3) hr]))⟩
theorem q_asgS {qs : List (Int × Int)} (h : EvS te σ H qs) (k : ∀ p rs H1, H p = none → Ex H H1 → H1 p = some (.lst (rs.map V.ref)) → PrsAt H1 rs qs → tu D (σ.set i (some (.ref p))) H1) : tSeq (tAsg te (gName i)) tu D σ H := h H (Ex.refl _) _ k
theorem q_asgTV {p : Addr} {v w : V} (h : Ev te σ H (.ref p)) (hp : H p = some (.tup [v, w])) (k : ∀ H1, Ex H H1 → tu D ((σ.set i (some v)).set j (some w)) H1) : tSeq (tAsg te (gTup K 2 (gCons (gName i) (gCons (gName j) gNil)))) tu D σ H :=
  h H (Ex.refl _) _ fun H1 e1 => ⟨p, [v, w], rfl, st_of (e1 _ _ hp), rfl, v, [w], rfl, w, [], rfl, rfl, k H1 e1⟩
theorem ev_ixT {p : Addr} {xs : List V} {z : Int} {v : V} (h : Ev te σ H (.ref p)) (hp : H p = some (.tup xs)) (ha : atI xs z = some v) : Ev (tOp (rIxT K) te (tC (.int z))) σ H v := fun H1 e Q q =>
  h H1 e _ fun H2 e2 => ⟨p, xs, z, v, rfl, rfl, st_of (e2 _ _ (e _ _ hp)), ha, q H2 e2⟩
theorem ev_any {bs : List Bool} (h : EvL ta σ H (bs.map V.bl)) : Ev (tCB (rAny K) (tCons ta tNil)) σ H (.bl (bs.any id)) := fun H1 e Q q =>
  h H1 e _ fun p H2 hp e2 h2 => ⟨p, bs, rfl, sq_of h2, q H2 e2⟩
theorem gen_list {α β : Type} (xs : List α) (d : α) (p : α → Bool) (v : α → β) : ((List.range xs.length).filter fun i => p (xs.getD i d)).map (fun i => v (xs.getD i d)) = (xs.filter p).map v := by
  have e : (List.range xs.length).map (fun i => xs.getD i d) = xs := by
    apply List.ext_getElem?
    intro i
    rw [List.getElem?_map]
    by_cases h : i < xs.length
    · rw [List.getElem?_range h]
      simp [List.getD, List.getElem?_eq_getElem h]
    · rw [List.getElem?_eq_none (by simpa using h), List.getElem?_eq_none (by omega)]
      rfl
  conv => rhs; rw [← e, List.filter_map, List.map_map]
  rfl
/-- [v for x in pairs] -/
theorem el_lcSA {a : Addr} {rs : List Addr} {qs : List (Int × Int)} (v : Int × Int → V) (h : Ev tl σ H (.ref a)) (hx : H a = some (.lst (rs.map V.ref))) (hr : PrsAt H rs qs) (hz : qs.length ≤ 40000) (hw : ∀ x, wipe ((wipe σ vs).set j (some x)) vs = wipe σ vs)
    (he : ∀ r q H1, Ex H H1 → q ∈ qs → H1 r = some (tp q) → Ev te ((wipe σ vs).set j (some (.ref r))) H1 (v q)) : EvL (tLc (iList K tl) (gName j) tYes te vs) σ H (qs.map v) := by
  have := el_lcL (K := K) (t := tYes) (te := te) (j := j) (vs := vs) (fun _ => true) (fun i => v (qs.getD i (0, 0))) h (sq_of hx) (by rw [List.length_map, prs_len hr]; exact hz) hw (fun i x H1 e hi => et_yes) (fun i x H1 e hi _ => by
    rw [List.getElem?_map] at hi
    cases hq : rs[i]? with
    | none => rw [hq] at hi; cases hi
    | some r =>
      rw [hq] at hi
      have hi : V.ref r = x := Option.some.inj hi
      subst hi
      obtain ⟨q, h1, h2⟩ := prs_at hr hq
      rw [List.getD, h1]
      exact he r q H1 e (List.mem_of_getElem? h1) (e _ _ h2))
  rw [List.length_map, prs_len hr] at this
  have hg := gen_list qs (0, 0) (fun _ => true) v
  rw [show qs.filter (fun _ => true) = qs from List.filter_eq_self.mpr fun _ _ => rfl] at hg
  rw [← hg]
  exact this
theorem el_lcS {qs : List (Int × Int)} (v : Int × Int → V) (h : EvS tl σ H qs) (hz : qs.length ≤ 40000) (hw : ∀ x, wipe ((wipe σ vs).set j (some x)) vs = wipe σ vs)
    (he : ∀ r q H1, Ex H H1 → q ∈ qs → H1 r = some (tp q) → Ev te ((wipe σ vs).set j (some (.ref r))) H1 (v q)) : EvL (tLc (iList K tl) (gName j) tYes te vs) σ H (qs.map v) := fun H0 e Q k =>
  h H0 e _ fun p rs H1 hp e1 hx hr => (el_lcSA (K := K) (tl := tC (.ref p)) v ev_c hx hr hz hw (fun r q H2 e2 hq => he r q H2 ((e.trans e1).trans e2) hq)) H1 (Ex.refl _) Q fun p2 H2 hp2 e2 h2 => k p2 H2 (fresh_back e1 hp2) (e1.trans e2) h2
/-- [x for x in pairs if ..] -/
theorem es_lcF {qs : List (Int × Int)} (p : Int × Int → Bool) (h : EvS tl σ H qs) (hz : qs.length ≤ 40000) (hw : ∀ x, wipe ((wipe σ vs).set j (some x)) vs = wipe σ vs)
    (ht : ∀ r q H1, Ex H H1 → q ∈ qs → H1 r = some (tp q) → EvT t ((wipe σ vs).set j (some (.ref r))) H1 (p q)) (he : ∀ r H1, Ev te ((wipe σ vs).set j (some (.ref r))) H1 (.ref r)) : EvS (tLc (iList K tl) (gName j) t te vs) σ H (qs.filter p) := fun H0 e Q k =>
  h H0 e _ fun a rs H1 ha e1 hx hr => by
    have at_ : ∀ (i : Nat) (x : V), (rs.map V.ref)[i]? = some x → ∃ r q, x = .ref r ∧ rs[i]? = some r ∧ qs[i]? = some q ∧ H1 r = some (tp q) := fun i x hi => by
      rw [List.getElem?_map] at hi
      cases hq : rs[i]? with
      | none => rw [hq] at hi; cases hi
      | some r =>
        rw [hq] at hi
        obtain ⟨q, h1, h2⟩ := prs_at hr hq
        exact ⟨r, q, (Option.some.inj hi).symm, rfl, h1, h2⟩
    have main := el_lcL (K := K) (t := t) (te := te) (j := j) (vs := vs) (tl := tC (.ref a)) (H := H1) (σ := σ) (fun i => p (qs.getD i (0, 0))) (fun i => .ref (rs.getD i 0)) ev_c (sq_of hx) (by rw [List.length_map, prs_len hr]; exact hz) hw (fun i x H2 e2 hi => by
      obtain ⟨r, q, rfl, h1, h2, h3⟩ := at_ i x hi
      rw [List.getD, h2]
      exact ht r q H2 ((e.trans e1).trans e2) (List.mem_of_getElem? h2) (e2 _ _ h3)) (fun i x H2 e2 hi _ => by
      obtain ⟨r, q, rfl, h1, h2, h3⟩ := at_ i x hi
      rw [List.getD, h1]
      exact he r H2)
    rw [List.length_map, prs_len hr] at main
    refine main H1 (Ex.refl _) Q fun p2 H2 hp2 e2 h2 => k p2 (((List.range qs.length).filter fun i => p (qs.getD i (0, 0))).map fun i => rs.getD i 0) H2 (fresh_back e1 hp2) (e1.trans e2) (by rw [List.map_map]; exact h2) (prs_ex e2 ?_)
    show (List.map _ _).map H1 = (qs.filter p).map _
    rw [← gen_list qs (0, 0) p, List.map_map]
    apply List.map_congr_left
    intro i hi
    have hi := List.mem_range.mp ((List.mem_filter.mp hi).1)
    have hl := prs_len hr
    have h1 : rs[i]? = some rs[i] := List.getElem?_eq_getElem (by omega)
    obtain ⟨q, h2, h3⟩ := prs_at hr h1
    show H1 (rs.getD i 0) = some (tp (qs.getD i (0, 0)))
    rw [List.getD, List.getD, h1, h2]
    exact h3
end
/-! ### meeting.py -/
def scL : List (Int × Int) := (List.range 12).map (fun (i : Nat) => ((1 : Int), tenI (12 - (i : Int)))) ++ (List.range 13).map (fun (i : Nat) => (tenI (i : Int), (1 : Int)))
structure ScC (s : Int × Int) : Prop where
  a0 : 1 ≤ s.1
  a1 : s.1 ≤ 10 ^ 12
  b0 : 1 ≤ s.2
  b1 : s.2 ≤ 10 ^ 12
theorem scL_ok {s : Int × Int} (h : s ∈ scL) : ScC s := by
  unfold scL at h
  rcases List.mem_append.mp h with h | h
  · obtain ⟨i, hi, rfl⟩ := List.mem_map.mp h
    have h1 := tenI_pos (12 - (i : Int))
    have h2 : tenI (12 - (i : Int)) ≤ 10 ^ 12 := tenI_le (by omega)
    exact ⟨Int.le_refl 1, (by decide : (1 : Int) ≤ 10 ^ 12), by show 1 ≤ tenI _; omega, h2⟩
  · obtain ⟨i, hi, rfl⟩ := List.mem_map.mp h
    have hi := List.mem_range.mp hi
    have h1 := tenI_pos (i : Int)
    have h2 : tenI (i : Int) ≤ 10 ^ 12 := tenI_le (by omega)
    exact ⟨by show 1 ≤ tenI _; omega, h2, Int.le_refl 1, (by decide : (1 : Int) ≤ 10 ^ 12)⟩
abbrev sp_scales : Sp := sp0 fun H Q => ∀ p rs H2, H p = none → Ex H H2 → H2 p = some (.lst (rs.map V.ref)) → PrsAt H2 rs scL → Q (.ref p) H2
def rd_scales (K : PySem.W.Frag) : TS :=
      (tSeq (tAsg (tLc (iRng3 (tCons (tC (.int 12)) (tCons (tC (.int 0)) (tCons (tUn rNeg (tC (.int 1))) tNil)))) (gName 1) tYes (tTup (tCons (tC (.int 1)) (tCons (tCall (sp_ten_to) [] E0 (tCons (tVar 1) tNil)) tNil))) [1]) (gName 0))
      (tRet (tOp rCat (tVar 0) (tLc (iRng1 (tCons (tC (.int 13)) tNil)) (gName 1) tYes (tTup (tCons (tCall (sp_ten_to) [] E0 (tCons (tVar 1) tNil)) (tCons (tC (.int 1)) tNil))) [1]))))
def N_scales : List Str := ["found", "shift"]
theorem pure_scales {K : PySem.W.Frag} (vs : List V) (H : Hp) (Q : VK) (E : XK) (h : sp_scales vs H Q E) : rd_scales K { nx := fun _ H' => Q .non H', rt := Q } (start N_scales vs) H := by
  match vs, h with
  | [], q =>
    unfold rd_scales
    refine q_asgS (qs := (List.range (12 - 0 : Int).toNat).map (fun (i : Nat) => ((1 : Int), tenI (12 - (i : Int))))) (es_lcDn _ (by walk_at "ev") (by decide) (fun x => rfl) (fun i H1 e hi => eu_tup (vs := [.int 1, .int (tenI (12 - (i : Int)))]) (by walk_at "ev"; exact ⟨by omega, by omega⟩) (by simp))) fun p rs H1 hp e1 h1 hr => ?_
    show tRet _ _ [some (.ref p), none] H1
    have hm : EvS (tLc (iRng1 (tCons (tC (.int 13)) tNil)) (gName 1) tYes (tTup (tCons (tCall (sp_ten_to) [] E0 (tCons (tVar 1) tNil)) (tCons (tC (.int 1)) tNil))) [1]) [some (.ref p), none] H1 ((List.range (13 : Int).toNat).map (fun (i : Nat) => (tenI (i : Int), (1 : Int)))) :=
      es_lcR1 _ (by walk_at "ev") (by decide) (fun x => rfl) (fun i H1 e hi => eu_tup (vs := [.int (tenI (i : Int)), .int 1]) (by walk_at "ev"; exact ⟨by omega, by omega⟩) (by simp))
    exact (es_cat (ev_var rfl) h1 hr hm (by simp)) H1 (Ex.refl _) _ fun p2 rs2 H2 hp2 e2 h2 hr2 => q p2 rs2 H2 (fresh_back e1 hp2) (e1.trans e2) h2 hr2
def cross (l h : Int × Int) (f t : Int) (s : Int × Int) : Bool := decide (f * s.1 * h.2 < h.1 * s.2) && decide (l.1 * s.2 < t * s.1 * l.2)
abbrev sp_crosses : Sp := sp5 fun a b c d e H Q => ∃ (pl ph ps : Addr) (l h s : Int × Int) (f t : Int), a = .ref pl ∧ b = .ref ph ∧ c = .int f ∧ d = .int t ∧ e = .ref ps ∧ H pl = some (tp l) ∧ H ph = some (tp h) ∧ H ps = some (tp s) ∧ ScC s ∧ (0 ≤ f ∧ f ≤ 100000 ∧ 0 ≤ t ∧ t ≤ 100000) ∧ ∀ H2, Ex H H2 → Q (.bl (cross l h f t s)) H2
theorem sc_mul {f a : Int} (h0 : 0 ≤ f) (h1 : f ≤ 100000) (a0 : 1 ≤ a) (a1 : a ≤ 10 ^ 12) : -(2 ^ 64) < f * a ∧ f * a < 2 ^ 64 := by
  have h2 : f * a ≤ 100000 * 10 ^ 12 := Int.le_trans (Int.mul_le_mul_of_nonneg_right h1 (by omega)) (Int.mul_le_mul_of_nonneg_left a1 (by decide))
  have h3 : 0 ≤ f * a := Int.mul_nonneg h0 (by omega)
  omega
def rd_crosses (K : PySem.W.Frag) : TS :=
      (tSeq (tAsg (tVar 4) (gTup K 2 (gCons (gName 5) (gCons (gName 6) gNil))))
      (tRet (tAndV (tOp rLtI (tOp rMulX (tOp rMulX (tVar 2) (tVar 5)) (tOp (rIxT K) (tVar 1) (tC (.int 1)))) (tOp rMulX (tOp (rIxT K) (tVar 1) (tC (.int 0))) (tVar 6))) (tOp rLtI (tOp rMulX (tOp (rIxT K) (tVar 0) (tC (.int 0))) (tVar 6)) (tOp rMulX (tOp rMulX (tVar 3) (tVar 5)) (tOp (rIxT K) (tVar 0) (tC (.int 1))))))))
def N_crosses : List Str := ["low", "high", "first", "last", "scale", "above", "below"]
theorem pure_crosses {K : PySem.W.Frag} (vs : List V) (H : Hp) (Q : VK) (E : XK) (h : sp_crosses vs H Q E) : rd_crosses K { nx := fun _ H' => Q .non H', rt := Q } (start N_crosses vs) H := by
  match vs, h with
  | [a, b, c, d, e], h =>
    obtain ⟨pl, ph, ps, l, h, s, f, t, rfl, rfl, rfl, rfl, rfl, hl, hh, hs, hc, ⟨f0, f1, t0, t1⟩, q⟩ := h
    obtain ⟨a0, a1, b0, b1⟩ := hc
    unfold rd_crosses
    refine q_asgTV (p := ps) (ev_var rfl) hs fun H1 e1 => ?_
    show tRet _ _ [some (.ref pl), some (.ref ph), some (.int f), some (.int t), some (.ref ps), some (.int s.1), some (.int s.2)] H1
    have m1 := sc_mul f0 f1 a0 a1
    have m2 := sc_mul t0 t1 a0 a1
    refine s_ret (v := .bl (cross l h f t s)) (ev_andV ?_ fun _ => ?_) fun H2 e2 => q H2 (e1.trans e2)
    · exact ev_op (ev_op (ev_op (ev_var rfl) (ev_var rfl) (rv_I (mulOk_r (by omega) (by omega)))) (ev_ixT (ev_var rfl) (e1 _ _ hh) rfl) (rv_I (mulOk_l m1.1 m1.2))) (ev_op (ev_ixT (ev_var rfl) (e1 _ _ hh) rfl) (ev_var rfl) (rv_I (mulOk_r (by omega) (by omega)))) rv_I0
    · exact ev_op (ev_op (ev_ixT (ev_var rfl) (e1 _ _ hl) rfl) (ev_var rfl) (rv_I (mulOk_r (by omega) (by omega)))) (ev_op (ev_op (ev_var rfl) (ev_var rfl) (rv_I (mulOk_r (by omega) (by omega)))) (ev_ixT (ev_var rfl) (e1 _ _ hl) rfl) (rv_I (mulOk_l m2.1 m2.2))) rv_I0
def meetsB (l h : Int × Int) (o : Int) : Bool := scL.any fun s => cross l h o (o + 1) s
section
variable {K : PySem.W.Frag} {σ : L2.St} {H : Hp}
theorem es_scales {E : XK} : EvS (tCall sp_scales [] E tNil) σ H scL := fun H1 e Q q => q
theorem spv_crosses {pl ph ps : Addr} {l h s : Int × Int} {f t : Int} (hl : H pl = some (tp l)) (hh : H ph = some (tp h)) (hs : H ps = some (tp s)) (hc : ScC s) (hb : 0 ≤ f ∧ f ≤ 100000 ∧ 0 ≤ t ∧ t ≤ 100000) : SpV sp_crosses [.ref pl, .ref ph, .int f, .int t, .ref ps] H (.bl (cross l h f t s)) :=
  fun H1 e Q q _ => ⟨pl, ph, ps, l, h, s, f, t, rfl, rfl, rfl, rfl, rfl, e _ _ hl, e _ _ hh, e _ _ hs, hc, hb, q⟩
end
theorem scL_len : scL.length = 25 := rfl
abbrev sp_meets : Sp := sp3 fun a b c H Q => ∃ (pl ph : Addr) (l h : Int × Int) (o : Int), a = .ref pl ∧ b = .ref ph ∧ c = .int o ∧ H pl = some (tp l) ∧ H ph = some (tp h) ∧ (0 ≤ o ∧ o < 100000) ∧ ∀ H2, Ex H H2 → Q (.bl (meetsB l h o)) H2
def rd_meets (K : PySem.W.Frag) : TS :=
      (tRet (tCB (rAny K) (tCons (tLc (iList K (tCall (sp_scales) [] E0 tNil)) (gName 3) tYes (tCall (sp_crosses) [] E0 (tCons (tVar 0) (tCons (tVar 1) (tCons (tVar 2) (tCons (tOp rAddI (tVar 2) (tC (.int 1))) (tCons (tVar 3) tNil)))))) [3]) tNil)))
def N_meets : List Str := ["low", "high", "one", "scale"]
theorem pure_meets {K : PySem.W.Frag} (vs : List V) (H : Hp) (Q : VK) (E : XK) (h : sp_meets vs H Q E) : rd_meets K { nx := fun _ H' => Q .non H', rt := Q } (start N_meets vs) H := by
  match vs, h with
  | [a, b, c], h =>
    obtain ⟨pl, ph, l, h, o, rfl, rfl, rfl, hl, hh, ⟨o0, o1⟩, q⟩ := h
    unfold rd_meets
    have hm : EvL _ (start N_meets [.ref pl, .ref ph, .int o]) H (scL.map fun s => V.bl (cross l h o (o + 1) s)) := el_lcS (K := K) (j := 3) (vs := [3]) (te := (tCall (sp_crosses) [] E0 (tCons (tVar 0) (tCons (tVar 1) (tCons (tVar 2) (tCons (tOp rAddI (tVar 2) (tC (.int 1))) (tCons (tVar 3) tNil))))))) (fun s => V.bl (cross l h o (o + 1) s)) (es_scales (E := E0)) (by rw [scL_len]; decide) (fun x => rfl) (fun r s H1 e hs hr =>
      ev_ok (vs := [.ref pl, .ref ph, .int o, .int (o + 1), .ref r]) (by walk_at "ev") (spv_crosses (e _ _ hl) (e _ _ hh) hr (scL_ok hs) (by omega)))
    refine s_ret (v := .bl (meetsB l h o)) ?_ q
    have := ev_any (K := K) (bs := scL.map fun s => cross l h o (o + 1) s) (by rw [List.map_map]; exact hm)
    rw [List.any_map] at this
    exact this
def meetL (l h : Int × Int) (m : Int) : List Int := (rgI (tenI (m - 1)) (tenI m)).filter fun o => meetsB l h o
theorem cross_wide {l h s : Int × Int} {f t o : Int} (hs : ScC s) (hl : 0 ≤ l.2) (hh : 0 ≤ h.2) (h1 : f ≤ o) (h2 : o + 1 ≤ t) (hc : cross l h o (o + 1) s = true) : cross l h f t s = true := by
  unfold cross at hc ⊢
  rw [Bool.and_eq_true, decide_eq_true_eq, decide_eq_true_eq] at hc ⊢
  have a0 := hs.a0
  have m1 := Int.mul_le_mul_of_nonneg_right (Int.mul_le_mul_of_nonneg_right h1 (show 0 ≤ s.1 by omega)) hh
  have m2 := Int.mul_le_mul_of_nonneg_right (Int.mul_le_mul_of_nonneg_right h2 (show 0 ≤ s.1 by omega)) hl
  exact ⟨Int.lt_of_le_of_lt m1 hc.1, Int.lt_of_lt_of_le hc.2 m2⟩
theorem useful_any {l h : Int × Int} {f t o : Int} (hl : 0 ≤ l.2) (hh : 0 ≤ h.2) (h1 : f ≤ o) (h2 : o + 1 ≤ t) : ((scL.filter (cross l h f t)).any fun s => cross l h o (o + 1) s) = meetsB l h o := by
  unfold meetsB
  rw [Bool.eq_iff_iff, List.any_eq_true, List.any_eq_true]
  constructor
  · rintro ⟨s, hs, hc⟩
    exact ⟨s, (List.mem_filter.mp hs).1, hc⟩
  · rintro ⟨s, hs, hc⟩
    exact ⟨s, List.mem_filter.mpr ⟨hs, cross_wide (scL_ok hs) hl hh h1 h2 hc⟩, hc⟩
abbrev sp_all_meeting : Sp := sp3 fun a b c H Q => ∃ (pl ph : Addr) (l h : Int × Int) (m : Int), a = .ref pl ∧ b = .ref ph ∧ c = .int m ∧ H pl = some (tp l) ∧ H ph = some (tp h) ∧ (1 ≤ m ∧ m ≤ 4 ∧ 0 ≤ l.2 ∧ 0 ≤ h.2) ∧ ∀ p H2, H p = none → Ex H H2 → H2 p = some (.lst ((meetL l h m).map V.int)) → Q (.ref p) H2
def rd_all_meeting (K : PySem.W.Frag) : TS :=
      (tSeq (tAsg (tTup (tCons (tCall (sp_ten_to) [] E0 (tCons (tOp rSubI (tVar 2) (tC (.int 1))) tNil)) (tCons (tCall (sp_ten_to) [] E0 (tCons (tVar 2) tNil)) tNil))) (gTup K 2 (gCons (gName 3) (gCons (gName 4) gNil))))
      (tSeq (tAsg (tLc (iList K (tCall (sp_scales) [] E0 tNil)) (gName 8) (tB (tCall (sp_crosses) [] E0 (tCons (tVar 0) (tCons (tVar 1) (tCons (tVar 3) (tCons (tVar 4) (tCons (tVar 8) tNil))))))) (tVar 8) [8]) (gName 5))
      (tSeq (tAsg (tLst tNil) (gName 6))
      (tSeq (tFor (iRng2 (tCons (tVar 3) (tCons (tVar 4) tNil))) (gName 7)
        (tIfS (tB (tCB (rAny K) (tCons (tLc (iList K (tVar 5)) (gName 8) tYes (tCall (sp_crosses) [] E0 (tCons (tVar 0) (tCons (tVar 1) (tCons (tVar 7) (tCons (tOp rAddI (tVar 7) (tC (.int 1))) (tCons (tVar 8) tNil)))))) [8]) tNil)))
        (tDrop (tBM K "list" rAppend (tVar 6) (tCons (tVar 7) tNil)))
        tNext))
      (tRet (tVar 6))))))
def N_all_meeting : List Str := ["low", "high", "many", "first", "last", "useful", "found", "one", "scale"]
theorem pure_all_meeting {K : PySem.W.Frag} (vs : List V) (H : Hp) (Q : VK) (E : XK) (h : sp_all_meeting vs H Q E) : rd_all_meeting K { nx := fun _ H' => Q .non H', rt := Q } (start N_all_meeting vs) H := by
  match vs, h with
  | [a, b, c], h =>
    obtain ⟨pl, ph, l, h, m, rfl, rfl, rfl, hl, hh, ⟨m0, m1, l0, h0⟩, q⟩ := h
    have f0 := tenI_pos (m - 1)
    have t0 := tenI_pos m
    have t1 : tenI m ≤ 10 ^ 4 := tenI_le (by omega)
    have ft := tenI_lt (show 0 ≤ m - 1 by omega) (show m - 1 < m by omega)
    unfold rd_all_meeting
    refine q_asgT (v := .int (tenI (m - 1))) (w := .int (tenI m)) (eu_tup (by walk_at "ev" <;> exact ⟨by omega, by omega⟩) (by simp)) fun H1 e1 => ?_
    show tSeq _ _ _ [some (.ref pl), some (.ref ph), some (.int m), some (.int (tenI (m - 1))), some (.int (tenI m)), none, none, none, none] H1
    refine q_asgS (qs := scL.filter (cross l h (tenI (m - 1)) (tenI m))) (es_lcF _ es_scales (by rw [scL_len]; decide) (fun x => rfl) (fun r s H2 e2 hs hr => et_B (ev_ok (vs := [.ref pl, .ref ph, .int (tenI (m - 1)), .int (tenI m), .ref r]) (by walk_at "ev") (spv_crosses (e2 _ _ (e1 _ _ hl)) (e2 _ _ (e1 _ _ hh)) hr (scL_ok hs) (by omega)))) (fun r H2 => ev_var rfl)) fun pu rs H2 hpu e2 hu hr => ?_
    show tSeq _ _ _ [some (.ref pl), some (.ref ph), some (.int m), some (.int (tenI (m - 1))), some (.int (tenI m)), some (.ref pu), none, none, none] H2
    refine q_asgL (xs := []) (el_lst ea_nil (by simp)) fun pf H3 hpf e3 hf => ?_
    show tSeq _ _ _ [some (.ref pl), some (.ref ph), some (.int m), some (.int (tenI (m - 1))), some (.int (tenI m)), some (.ref pu), some (.ref pf), none, none] H3
    refine q_forR2 (lo := tenI (m - 1)) (n := tenI m) (by walk_at "ev") (by omega) (fun i σ' H' => ∃ y7, σ' = [some (.ref pl), some (.ref ph), some (.int m), some (.int (tenI (m - 1))), some (.int (tenI m)), some (.ref pu), some (.ref pf), y7, none] ∧ Ex H2 H' ∧ H' pf = some (.lst (((rgI (tenI (m - 1)) (tenI (m - 1) + (i : Int))).filter fun o => meetsB l h o).map V.int)))
      (fun H4 e4 => ⟨none, rfl, e3.trans e4, by rw [rgI_nil (by omega)]; exact e4 _ _ hf⟩) (fun i σ' H' hi hp' => ?_) (fun σ' H' hp' => ?_)
    · obtain ⟨y7, rfl, e, hH⟩ := hp'
      show tIfS _ _ _ _ [some (.ref pl), some (.ref ph), some (.int m), some (.int (tenI (m - 1))), some (.int (tenI m)), some (.ref pu), some (.ref pf), some (.int (tenI (m - 1) + (i : Int))), none] H'
      have hm := el_lcSA (K := K) (j := 8) (vs := [8]) (tl := tVar 5) (H := H') (σ := [some (.ref pl), some (.ref ph), some (.int m), some (.int (tenI (m - 1))), some (.int (tenI m)), some (.ref pu), some (.ref pf), some (.int (tenI (m - 1) + (i : Int))), none]) (te := (tCall (sp_crosses) [] E0 (tCons (tVar 0) (tCons (tVar 1) (tCons (tVar 7) (tCons (tOp rAddI (tVar 7) (tC (.int 1))) (tCons (tVar 8) tNil)))))))
        (fun s => V.bl (cross l h (tenI (m - 1) + (i : Int)) (tenI (m - 1) + (i : Int) + 1) s)) (ev_var rfl) (e _ _ hu) (prs_ex e hr) (by have := List.length_filter_le (cross l h (tenI (m - 1)) (tenI m)) scL; rw [scL_len] at this; omega) (fun x => rfl) (fun r s H1' e' hs hr' =>
        ev_ok (vs := [.ref pl, .ref ph, .int (tenI (m - 1) + (i : Int)), .int (tenI (m - 1) + (i : Int) + 1), .ref r]) (by walk_at "ev") (spv_crosses (((e1.trans e2).trans (e.trans e')) _ _ hl) (((e1.trans e2).trans (e.trans e')) _ _ hh) hr' (scL_ok (List.mem_filter.mp hs).1) (by omega)))
      have hany := ev_any (K := K) (bs := (scL.filter (cross l h (tenI (m - 1)) (tenI m))).map fun s => cross l h (tenI (m - 1) + (i : Int)) (tenI (m - 1) + (i : Int) + 1) s) (by rw [List.map_map]; exact hm)
      rw [List.any_map] at hany
      have hb : ((scL.filter (cross l h (tenI (m - 1)) (tenI m))).any (id ∘ fun s => cross l h (tenI (m - 1) + (i : Int)) (tenI (m - 1) + (i : Int) + 1) s)) = meetsB l h (tenI (m - 1) + (i : Int)) := useful_any l0 h0 (by omega) (by omega)
      rw [hb] at hany
      have hsn : (rgI (tenI (m - 1)) (tenI (m - 1) + ((i + 1 : Nat) : Int))) = rgI (tenI (m - 1)) (tenI (m - 1) + (i : Int)) ++ [tenI (m - 1) + (i : Int)] := by
        rw [show tenI (m - 1) + ((i + 1 : Nat) : Int) = tenI (m - 1) + (i : Int) + 1 by omega]
        exact rgI_snoc (by omega)
      refine s_if (b := meetsB l h (tenI (m - 1) + (i : Int))) (et_B hany) (fun hy H4 e4 => ?_) (fun hn H4 e4 => ?_)
      · refine s_app (v := .int (tenI (m - 1) + (i : Int))) (e4 _ _ hH) (ev_var rfl) (ev_var rfl) (by have := List.length_filter_le (fun o => meetsB l h o) (rgI (tenI (m - 1)) (tenI (m - 1) + (i : Int))); rw [rgI_length] at this; rw [List.length_map]; omega) fun H5 e5 => ?_
        refine ⟨_, rfl, Ex.mut ((e.trans e4).trans e5) hpf, ?_⟩
        rw [upd_same, hsn, List.filter_append, List.filter_cons, if_pos hy, List.map_append]
        rfl
      · refine ⟨_, rfl, e.trans e4, ?_⟩
        rw [e4 _ _ hH, hsn, List.filter_append, List.filter_cons, if_neg (by rw [hn]; decide), List.filter_nil, List.append_nil]
    · obtain ⟨y7, rfl, e, hH⟩ := hp'
      rw [rgI_toNat] at hH
      exact ⟨.ref pf, rfl, q pf H' (fresh_back (e1.trans e2) hpf) ((e1.trans e2).trans e) hH⟩
end FD

namespace FD
open PySem PySem.Spec PyProof.Rows L2 Evl TL
local macro_rules | `(tactic| walk_at "ev") => `(tactic| repeat' (first | (with_reducible exact ev_c) | ((with_reducible apply ev_var); rfl) | (with_reducible exact ea_nil) | (with_reducible apply ea_cons) | (with_reducible apply ev_op) | (with_reducible exact rv_I0) | (with_reducible apply rv_I) | (with_reducible exact rv_eqI) | (with_reducible exact rv_neI) | (with_reducible exact rv_eqS) | (with_reducible apply ev_ok) | (with_reducible apply ev_cb) | (with_reducible apply spv_I1) | (with_reducible apply spv_I2) | (with_reducible apply spv_I3) | (with_reducible apply et_test) | (with_reducible apply et_B) | (with_reducible apply et_not) | (with_reducible apply ev_notV) | (with_reducible apply ev_un) | (with_reducible exact ru_negI) | (with_reducible exact rc_max2) | (with_reducible exact rc_min2) | (with_reducible exact rv_isB) | (with_reducible exact rv_notB) | (with_reducible exact rv_isN) | (with_reducible exact rv_notN) | (with_reducible apply ev_chainI) | (with_reducible exact rc_isiI) | (with_reducible exact rc_isiB)))
section
variable {K : PySem.W.Frag} {σ : L2.St} {H : Hp} {te ta tb tc : TE} {tu : TS} {D : Ends} {i j : Nat}
/-- f((a, b), (c, d), v) -/
theorem c_UUV {sp : Sp} {E : XK} {l h : Int × Int} {v : V} {Q : VK} (h1 : EvU ta σ H [.int l.1, .int l.2]) (h2 : EvU tb σ H [.int h.1, .int h.2]) (h3 : Ev tc σ H v) (k : ∀ pl ph H1, Ex H H1 → H1 pl = some (tp l) → H1 ph = some (tp h) → sp [.ref pl, .ref ph, v] H1 Q E) :
    tCall sp [] E (tCons ta (tCons tb (tCons tc tNil))) σ H Q :=
  h1 H (Ex.refl _) _ fun pl H1 _ e1 hl => h2 H1 e1 _ fun ph H2 _ e2 hh => h3 H2 (e1.trans e2) _ fun H3 e3 => k pl ph H3 ((e1.trans e2).trans e3) ((e2.trans e3) _ _ hl) (e3 _ _ hh)
/-- a, b = two new pairs in a new pair -/
def EvB (te : TE) (σ : L2.St) (H : Hp) (l h : Int × Int) : Prop := ∀ H1, Ex H H1 → ∀ Q : VK, (∀ p pl ph H2, Ex H1 H2 → H2 p = some (.tup [.ref pl, .ref ph]) → H2 pl = some (tp l) → H2 ph = some (tp h) → Q (.ref p) H2) → te σ H1 Q
theorem q_asgB {l h : Int × Int} (hb : EvB te σ H l h) (k : ∀ pl ph H1, Ex H H1 → H1 pl = some (tp l) → H1 ph = some (tp h) → tu D ((σ.set i (some (.ref pl))).set j (some (.ref ph))) H1) : tSeq (tAsg te (gTup K 2 (gCons (gName i) (gCons (gName j) gNil)))) tu D σ H :=
  hb H (Ex.refl _) _ fun p pl ph H1 e1 hp hl hh => ⟨p, [.ref pl, .ref ph], rfl, st_of hp, rfl, .ref pl, [.ref ph], rfl, .ref ph, [], rfl, rfl, k pl ph H1 e1 hl hh⟩
theorem eb_tup {l h : Int × Int} (h1 : EvU ta σ H [.int l.1, .int l.2]) (h2 : EvU tb σ H [.int h.1, .int h.2]) : EvB (tTup (tCons ta (tCons tb tNil))) σ H l h := fun H0 e Q k =>
  h1 H0 e _ fun pl H1 _ e1 hl => h2 H1 (e.trans e1) _ fun ph H2 _ e2 hh => ⟨sz_of (by show 2 ≤ 100000; decide), fun p hp => k p pl ph _ ((e1.trans e2).trans (Ex.new hp)) upd_same ((e2.trans (Ex.new hp)) _ _ hl) (Ex.new hp _ _ hh)⟩
end
/-! ### pairs.py -/
def pbL (a b : Int) : Int × Int := (a * b, 1)
def pbH (a b : Int) : Int × Int := ((a + 1) * (b + 1), 1)
abbrev sp_product_bounds : Sp := sp2 fun a b H Q => ∃ m n, a = .int m ∧ b = .int n ∧ BegC m ∧ BegC n ∧ ∀ p pl ph H2, Ex H H2 → H2 p = some (.tup [.ref pl, .ref ph]) → H2 pl = some (tp (pbL m n)) → H2 ph = some (tp (pbH m n)) → Q (.ref p) H2
def rd_product_bounds (K : PySem.W.Frag) : TS :=
      (tRet (tTup (tCons (tTup (tCons (tOp rMulX (tVar 0) (tVar 1)) (tCons (tC (.int 1)) tNil))) (tCons (tTup (tCons (tOp rMulX (tOp rAddI (tVar 0) (tC (.int 1))) (tOp rAddI (tVar 1) (tC (.int 1)))) (tCons (tC (.int 1)) tNil))) tNil))))
def N_product_bounds : List Str := ["one", "other"]
theorem pure_product_bounds {K : PySem.W.Frag} (vs : List V) (H : Hp) (Q : VK) (E : XK) (h : sp_product_bounds vs H Q E) : rd_product_bounds K { nx := fun _ H' => Q .non H', rt := Q } (start N_product_bounds vs) H := by
  match vs, h with
  | [a, b], h =>
    obtain ⟨m, n, rfl, rfl, hm, hn, q⟩ := h
    have m0 := hm.lo
    have m1 := hm.hi
    unfold rd_product_bounds
    exact (eb_tup (l := pbL m n) (h := pbH m n) (eu_tup (vs := [.int (m * n), .int 1]) (by walk_at "ev"; exact mulOk_l (by omega) (by omega)) (by simp)) (eu_tup (vs := [.int ((m + 1) * (n + 1)), .int 1]) (by walk_at "ev"; exact mulOk_l (by omega) (by omega)) (by simp))) H (Ex.refl _) _ q
theorem eb_bounds {σ : L2.St} {H : Hp} {t : TA} {E : XK} {m n : Int} (h : EvA t σ H [.int m, .int n]) (hm : BegC m) (hn : BegC n) : EvB (tCall sp_product_bounds [] E t) σ H (pbL m n) (pbH m n) := fun H0 e Q k =>
  h H0 e _ fun H1 e1 => ⟨m, n, rfl, rfl, hm, hn, fun p pl ph H2 e2 hp hl hh => k p pl ph H2 (e1.trans e2) hp hl hh⟩
def prodL (a b m : Int) : List Int := meetL (pbL a b) (pbH a b) m
def prodB (a b f : Int) : Bool := meetsB (pbL a b) (pbH a b) f
abbrev sp_products : Sp := spL3 (fun a b m => BegC a ∧ BegC b ∧ 1 ≤ m ∧ m ≤ 3) (fun a b m => (prodL a b m).map V.int)
def rd_products (K : PySem.W.Frag) : TS :=
      (tSeq (tDrop (tCall (sp_check_beginning) [] E0 (tCons (tVar 0) tNil)))
      (tSeq (tDrop (tCall (sp_check_beginning) [] E0 (tCons (tVar 1) tNil)))
      (tSeq (tDrop (tCall (sp_check_count) [] E0 (tCons (tVar 2) (tCons (tC (.int 1)) (tCons (tC (.int 3)) tNil)))))
      (tSeq (tAsg (tCall (sp_product_bounds) [] E0 (tCons (tVar 0) (tCons (tVar 1) tNil))) (gTup K 2 (gCons (gName 3) (gCons (gName 4) gNil))))
      (tRet (tCall (sp_all_meeting) [] E0 (tCons (tVar 3) (tCons (tVar 4) (tCons (tVar 2) tNil)))))))))
def N_products : List Str := ["one", "other", "many", "low", "high"]
theorem pure_products {K : PySem.W.Frag} (vs : List V) (H : Hp) (Q : VK) (E : XK) (h : sp_products vs H Q E) : rd_products K { nx := fun _ H' => Q .non H', rt := Q } (start N_products vs) H := by
  match vs, h with
  | [a, b, c], h =>
    obtain ⟨a, b, m, rfl, rfl, rfl, ⟨ha, hb, m0, m1⟩, q⟩ := h
    unfold rd_products
    refine q_drop (v := .non) (by walk_at "ev"; exact ha) fun H1 e1 => ?_
    refine q_drop (v := .non) (by walk_at "ev"; exact hb) fun H2 e2 => ?_
    refine q_drop (v := .non) (by walk_at "ev"; exact ⟨m0, m1⟩) fun H3 e3 => ?_
    refine q_asgB (eb_bounds (m := a) (n := b) (by walk_at "ev") ha hb) fun pl ph H4 e4 hl hh => ?_
    exact ⟨.ref pl, rfl, .ref ph, rfl, .int m, rfl, pl, ph, _, _, m, rfl, rfl, rfl, hl, hh, ⟨m0, by omega, (by decide : (0 : Int) ≤ 1), (by decide : (0 : Int) ≤ 1)⟩, fun p H5 hp e5 h5 => q p H5 (fresh_back (((e1.trans e2).trans e3).trans e4) hp) ((((e1.trans e2).trans e3).trans e4).trans e5) h5⟩
abbrev sp_can_be_product : Sp := spI3 (fun a b f => BegC a ∧ BegC b ∧ BegC f) (fun a b f => .bl (prodB a b f))
def rd_can_be_product (K : PySem.W.Frag) : TS :=
      (tSeq (tDrop (tCall (sp_check_beginning) [] E0 (tCons (tVar 0) tNil)))
      (tSeq (tDrop (tCall (sp_check_beginning) [] E0 (tCons (tVar 1) tNil)))
      (tSeq (tDrop (tCall (sp_check_beginning) [] E0 (tCons (tVar 2) tNil)))
      (tSeq (tAsg (tCall (sp_product_bounds) [] E0 (tCons (tVar 0) (tCons (tVar 1) tNil))) (gTup K 2 (gCons (gName 3) (gCons (gName 4) gNil))))
      (tRet (tCall (sp_meets) [] E0 (tCons (tVar 3) (tCons (tVar 4) (tCons (tVar 2) tNil)))))))))
def N_can_be_product : List Str := ["one", "other", "beginning", "low", "high"]
theorem pure_can_be_product {K : PySem.W.Frag} (vs : List V) (H : Hp) (Q : VK) (E : XK) (h : sp_can_be_product vs H Q E) : rd_can_be_product K { nx := fun _ H' => Q .non H', rt := Q } (start N_can_be_product vs) H := by
  match vs, h with
  | [a, b, c], h =>
    obtain ⟨a, b, f, rfl, rfl, rfl, ⟨ha, hb, hf⟩, q⟩ := h
    have f0 := hf.lo
    have f1 := hf.hi
    unfold rd_can_be_product
    refine q_drop (v := .non) (by walk_at "ev"; exact ha) fun H1 e1 => ?_
    refine q_drop (v := .non) (by walk_at "ev"; exact hb) fun H2 e2 => ?_
    refine q_drop (v := .non) (by walk_at "ev"; exact hf) fun H3 e3 => ?_
    refine q_asgB (eb_bounds (m := a) (n := b) (by walk_at "ev") ha hb) fun pl ph H4 e4 hl hh => ?_
    exact ⟨.ref pl, rfl, .ref ph, rfl, .int f, rfl, pl, ph, _, _, f, rfl, rfl, rfl, hl, hh, ⟨by omega, by omega⟩, fun H5 e5 => q H5 ((((e1.trans e2).trans e3).trans e4).trans e5)⟩
def quL (a b m : Int) : List Int := meetL (a, b + 1) (a + 1, b) m
def quB (a b f : Int) : Bool := meetsB (a, b + 1) (a + 1, b) f
abbrev sp_quotients : Sp := spL3 (fun a b m => BegC a ∧ BegC b ∧ 1 ≤ m ∧ m ≤ 3) (fun a b m => (quL a b m).map V.int)
def rd_quotients (K : PySem.W.Frag) : TS :=
      (tSeq (tDrop (tCall (sp_check_beginning) [] E0 (tCons (tVar 0) tNil)))
      (tSeq (tDrop (tCall (sp_check_beginning) [] E0 (tCons (tVar 1) tNil)))
      (tSeq (tDrop (tCall (sp_check_count) [] E0 (tCons (tVar 2) (tCons (tC (.int 1)) (tCons (tC (.int 3)) tNil)))))
      (tRet (tCall (sp_all_meeting) [] E0 (tCons (tTup (tCons (tVar 0) (tCons (tOp rAddI (tVar 1) (tC (.int 1))) tNil))) (tCons (tTup (tCons (tOp rAddI (tVar 0) (tC (.int 1))) (tCons (tVar 1) tNil))) (tCons (tVar 2) tNil))))))))
def N_quotients : List Str := ["one", "other", "many"]
theorem pure_quotients {K : PySem.W.Frag} (vs : List V) (H : Hp) (Q : VK) (E : XK) (h : sp_quotients vs H Q E) : rd_quotients K { nx := fun _ H' => Q .non H', rt := Q } (start N_quotients vs) H := by
  match vs, h with
  | [a, b, c], h =>
    obtain ⟨a, b, m, rfl, rfl, rfl, ⟨ha, hb, m0, m1⟩, q⟩ := h
    have hb0 := hb.lo
    unfold rd_quotients
    refine q_drop (v := .non) (by walk_at "ev"; exact ha) fun H1 e1 => ?_
    refine q_drop (v := .non) (by walk_at "ev"; exact hb) fun H2 e2 => ?_
    refine q_drop (v := .non) (by walk_at "ev"; exact ⟨m0, m1⟩) fun H3 e3 => ?_
    exact c_UUV (l := (a, b + 1)) (h := (a + 1, b)) (v := .int m) (eu_tup (by walk_at "ev") (by simp)) (eu_tup (by walk_at "ev") (by simp)) (ev_var rfl) fun pl ph H4 e4 hl hh => ⟨pl, ph, _, _, m, rfl, rfl, rfl, hl, hh, ⟨m0, by omega, by show 0 ≤ b + 1; omega, by show 0 ≤ b; omega⟩, fun p H5 hp e5 h5 => q p H5 (fresh_back (((e1.trans e2).trans e3).trans e4) hp) ((((e1.trans e2).trans e3).trans e4).trans e5) h5⟩
abbrev sp_can_be_quotient : Sp := spI3 (fun a b f => BegC a ∧ BegC b ∧ BegC f) (fun a b f => .bl (quB a b f))
def rd_can_be_quotient (K : PySem.W.Frag) : TS :=
      (tSeq (tDrop (tCall (sp_check_beginning) [] E0 (tCons (tVar 0) tNil)))
      (tSeq (tDrop (tCall (sp_check_beginning) [] E0 (tCons (tVar 1) tNil)))
      (tSeq (tDrop (tCall (sp_check_beginning) [] E0 (tCons (tVar 2) tNil)))
      (tRet (tCall (sp_meets) [] E0 (tCons (tTup (tCons (tVar 0) (tCons (tOp rAddI (tVar 1) (tC (.int 1))) tNil))) (tCons (tTup (tCons (tOp rAddI (tVar 0) (tC (.int 1))) (tCons (tVar 1) tNil))) (tCons (tVar 2) tNil))))))))
def N_can_be_quotient : List Str := ["one", "other", "beginning"]
theorem pure_can_be_quotient {K : PySem.W.Frag} (vs : List V) (H : Hp) (Q : VK) (E : XK) (h : sp_can_be_quotient vs H Q E) : rd_can_be_quotient K { nx := fun _ H' => Q .non H', rt := Q } (start N_can_be_quotient vs) H := by
  match vs, h with
  | [a, b, c], h =>
    obtain ⟨a, b, f, rfl, rfl, rfl, ⟨ha, hb, hf⟩, q⟩ := h
    have f0 := hf.lo
    have f1 := hf.hi
    unfold rd_can_be_quotient
    refine q_drop (v := .non) (by walk_at "ev"; exact ha) fun H1 e1 => ?_
    refine q_drop (v := .non) (by walk_at "ev"; exact hb) fun H2 e2 => ?_
    refine q_drop (v := .non) (by walk_at "ev"; exact hf) fun H3 e3 => ?_
    exact c_UUV (l := (a, b + 1)) (h := (a + 1, b)) (v := .int f) (eu_tup (by walk_at "ev") (by simp)) (eu_tup (by walk_at "ev") (by simp)) (ev_var rfl) fun pl ph H4 e4 hl hh => ⟨pl, ph, _, _, f, rfl, rfl, rfl, hl, hh, ⟨by omega, by omega⟩, fun H5 e5 => q H5 ((((e1.trans e2).trans e3).trans e4).trans e5)⟩
def suF (a : Int) : Int := a * tenI (4 - size a)
def suW (a : Int) : Int := tenI (4 - size a)
def suL (a b m : Int) : List Int := meetL (suF a + suF b, 1) (suF a + suW a + suF b + suW b, 1) m
abbrev sp_sums : Sp := spL3 (fun a b m => BegC a ∧ BegC b ∧ 1 ≤ m ∧ m ≤ 3) (fun a b m => (suL a b m).map V.int)
def rd_sums (K : PySem.W.Frag) : TS :=
      (tSeq (tDrop (tCall (sp_check_beginning) [] E0 (tCons (tVar 0) tNil)))
      (tSeq (tDrop (tCall (sp_check_beginning) [] E0 (tCons (tVar 1) tNil)))
      (tSeq (tDrop (tCall (sp_check_count) [] E0 (tCons (tVar 2) (tCons (tC (.int 1)) (tCons (tC (.int 3)) tNil)))))
      (tSeq (tPar 3 4 (tCons (tOp rMulX (tVar 0) (tCall (sp_ten_to) [] E0 (tCons (tOp rSubI (tC (.int 4)) (tCall (sp_size_of) [] E0 (tCons (tVar 0) tNil))) tNil))) (tCons (tOp rMulX (tVar 1) (tCall (sp_ten_to) [] E0 (tCons (tOp rSubI (tC (.int 4)) (tCall (sp_size_of) [] E0 (tCons (tVar 1) tNil))) tNil))) tNil)))
      (tSeq (tPar 5 6 (tCons (tCall (sp_ten_to) [] E0 (tCons (tOp rSubI (tC (.int 4)) (tCall (sp_size_of) [] E0 (tCons (tVar 0) tNil))) tNil)) (tCons (tCall (sp_ten_to) [] E0 (tCons (tOp rSubI (tC (.int 4)) (tCall (sp_size_of) [] E0 (tCons (tVar 1) tNil))) tNil)) tNil)))
      (tRet (tCall (sp_all_meeting) [] E0 (tCons (tTup (tCons (tOp rAddI (tVar 3) (tVar 4)) (tCons (tC (.int 1)) tNil))) (tCons (tTup (tCons (tOp rAddI (tOp rAddI (tOp rAddI (tVar 3) (tVar 5)) (tVar 4)) (tVar 6)) (tCons (tC (.int 1)) tNil))) (tCons (tVar 2) tNil))))))))))
def N_sums : List Str := ["one", "other", "many", "first", "last", "more", "far"]
theorem pure_sums {K : PySem.W.Frag} (vs : List V) (H : Hp) (Q : VK) (E : XK) (h : sp_sums vs H Q E) : rd_sums K { nx := fun _ H' => Q .non H', rt := Q } (start N_sums vs) H := by
  match vs, h with
  | [a, b, c], h =>
    obtain ⟨a, b, m, rfl, rfl, rfl, ⟨ha, hb, m0, m1⟩, q⟩ := h
    have ha0 := ha.lo
    have ha1 := ha.hi
    have hb0 := hb.lo
    have hb1 := hb.hi
    have sa0 := size_pos a
    have sb0 := size_pos b
    have sa1 := (size_beg ha).2
    have sb1 := (size_beg hb).2
    unfold rd_sums
    refine q_drop (v := .non) (by walk_at "ev"; exact ha) fun H1 e1 => ?_
    refine q_drop (v := .non) (by walk_at "ev"; exact hb) fun H2 e2 => ?_
    refine q_drop (v := .non) (by walk_at "ev"; exact ⟨m0, m1⟩) fun H3 e3 => ?_
    refine q_par (v := .int (a * tenI (4 - size a))) (w := .int (b * tenI (4 - size b))) (by
      walk_at "ev"
      · exact ha.txt
      · exact ⟨by omega, by omega⟩
      · exact mulOk_l (by omega) (by omega)
      · exact hb.txt
      · exact ⟨by omega, by omega⟩
      · exact mulOk_l (by omega) (by omega)) fun H4 e4 => ?_
    refine q_par (v := .int (tenI (4 - size a))) (w := .int (tenI (4 - size b))) (by
      walk_at "ev"
      · exact ha.txt
      · exact ⟨by omega, by omega⟩
      · exact hb.txt
      · exact ⟨by omega, by omega⟩) fun H5 e5 => ?_
    exact c_UUV (l := (suF a + suF b, 1)) (h := (suF a + suW a + suF b + suW b, 1)) (v := .int m) (eu_tup (by walk_at "ev"; exact rv_I0) (by simp)) (eu_tup (by walk_at "ev"; exact rv_I0) (by simp)) (ev_var rfl) fun pl ph H6 e6 hl hh => ⟨pl, ph, _, _, m, rfl, rfl, rfl, hl, hh, ⟨m0, by omega, (by decide : (0 : Int) ≤ 1), (by decide : (0 : Int) ≤ 1)⟩, fun p H7 hp e7 h7 => q p H7 (fresh_back (((((e1.trans e2).trans e3).trans e4).trans e5).trans e6) hp) ((((((e1.trans e2).trans e3).trans e4).trans e5).trans e6).trans e7) h7⟩
end FD

namespace FD
open PySem PySem.Spec PyProof.Rows L2 Evl TL
/-! ### what it means that a stretch meets a beginning -/
def Meet (l h : Int × Int) (f : Int) : Prop := ∃ i j : Nat, f * 10 ^ i * h.2 < h.1 * 10 ^ j ∧ l.1 * 10 ^ j < (f + 1) * 10 ^ i * l.2
structure MeetC (l h : Int × Int) (f : Int) : Prop where
  f1 : 1 ≤ f
  hh : h.1 ≤ 10 ^ 12
  h2 : 1 ≤ h.2
  l1 : 1 ≤ l.1
  hl : (f + 1) * l.2 ≤ 10 ^ 12
theorem p10 (k : Nat) : (0 : Int) < 10 ^ k := Int.pow_pos (by decide)
theorem p10_lt {k : Nat} (h : (10 : Int) ^ k < 10 ^ 12) : k < 12 := by
  apply Classical.byContradiction
  intro hn
  have := pow_lt (show 12 ≤ k by omega)
  omega
theorem mc_r {a b : Int} (k : Nat) (h : a * 10 ^ k < b * 10 ^ k) : a < b := Int.lt_of_mul_lt_mul_right h (by have := p10 k; omega)
theorem ml_r {a b : Int} (k : Nat) (h : a < b) : a * 10 ^ k < b * 10 ^ k := Int.mul_lt_mul_of_pos_right h (p10 k)
theorem meet_red {l h : Int × Int} {f : Int} (c : MeetC l h f) (m : Meet l h f) : (∃ k : Nat, k < 12 ∧ f * h.2 < h.1 * 10 ^ k ∧ l.1 * 10 ^ k < (f + 1) * l.2) ∨ (∃ k : Nat, k < 12 ∧ f * 10 ^ k * h.2 < h.1 ∧ l.1 < (f + 1) * 10 ^ k * l.2) := by
  obtain ⟨f1, hh, h2, l1, hl⟩ := c
  obtain ⟨i, j, m1, m2⟩ := m
  by_cases hij : i ≤ j
  · obtain ⟨k, rfl⟩ : ∃ k, j = k + i := ⟨j - i, by omega⟩
    have a1 : f * h.2 < h.1 * 10 ^ k := mc_r i (by
      rw [Int.mul_assoc h.1, ← Int.pow_add, Int.mul_right_comm]
      exact m1)
    have a2 : l.1 * 10 ^ k < (f + 1) * l.2 := mc_r i (by
      rw [Int.mul_assoc l.1, ← Int.pow_add, Int.mul_right_comm (f + 1)]
      exact m2)
    refine .inl ⟨k, p10_lt ?_, a1, a2⟩
    have := Int.mul_le_mul_of_nonneg_right l1 (show 0 ≤ (10 : Int) ^ k by have := p10 k; omega)
    omega
  · obtain ⟨k, rfl⟩ : ∃ k, i = k + j := ⟨i - j, by omega⟩
    have a1 : f * 10 ^ k * h.2 < h.1 := mc_r j (by
      rw [Int.mul_right_comm _ h.2, Int.mul_assoc f, ← Int.pow_add]
      exact m1)
    have a2 : l.1 < (f + 1) * 10 ^ k * l.2 := mc_r j (by
      rw [Int.mul_right_comm _ l.2, Int.mul_assoc (f + 1), ← Int.pow_add]
      exact m2)
    refine .inr ⟨k, p10_lt ?_, a1, a2⟩
    have b1 := Int.mul_le_mul_of_nonneg_right f1 (show 0 ≤ (10 : Int) ^ k by have := p10 k; omega)
    have b2 := Int.mul_le_mul_of_nonneg_left h2 (show 0 ≤ f * (10 : Int) ^ k by have := p10 k; omega)
    omega
theorem tenI_nn (k : Nat) : tenI (k : Int) = 10 ^ k := by unfold tenI; rw [Int.toNat_natCast]
theorem meets_iff {l h : Int × Int} {f : Int} (c : MeetC l h f) : meetsB l h f = true ↔ Meet l h f := by
  unfold meetsB
  rw [List.any_eq_true]
  constructor
  · rintro ⟨s, hs, hc⟩
    unfold cross at hc
    rw [Bool.and_eq_true, decide_eq_true_eq, decide_eq_true_eq] at hc
    unfold scL at hs
    rcases List.mem_append.mp hs with hs | hs
    · obtain ⟨i, hi, rfl⟩ := List.mem_map.mp hs
      exact ⟨0, (12 - (i : Int)).toNat, hc⟩
    · obtain ⟨i, hi, rfl⟩ := List.mem_map.mp hs
      rw [tenI_nn] at hc
      refine ⟨i, 0, ?_⟩
      simpa using hc
  · intro m
    rcases meet_red c m with ⟨k, hk, m1, m2⟩ | ⟨k, hk, m1, m2⟩
    · by_cases h0 : k = 0
      · subst h0
        rw [Int.pow_zero, Int.mul_one] at m1 m2
        refine ⟨(tenI ((0 : Nat) : Int), 1), List.mem_append.mpr (.inr (List.mem_map.mpr ⟨0, by decide, rfl⟩)), ?_⟩
        unfold cross
        rw [Bool.and_eq_true, decide_eq_true_eq, decide_eq_true_eq, tenI_nn]
        simpa using ⟨m1, m2⟩
      · refine ⟨(1, tenI (12 - ((12 - k : Nat) : Int))), List.mem_append.mpr (.inl (List.mem_map.mpr ⟨12 - k, List.mem_range.mpr (by omega), rfl⟩)), ?_⟩
        unfold cross
        rw [Bool.and_eq_true, decide_eq_true_eq, decide_eq_true_eq, show 12 - ((12 - k : Nat) : Int) = (k : Int) by omega, tenI_nn]
        simpa using ⟨m1, m2⟩
    · refine ⟨(tenI (k : Int), 1), List.mem_append.mpr (.inr (List.mem_map.mpr ⟨k, List.mem_range.mpr (by omega), rfl⟩)), ?_⟩
      unfold cross
      rw [Bool.and_eq_true, decide_eq_true_eq, decide_eq_true_eq, tenI_nn]
      simpa using ⟨m1, m2⟩
def betweenB (l h : Int × Int) (f : Int) : Bool := (List.range 26).any fun s => decide (f * tenI (s : Int) * h.2 < tenI 13 * h.1) && decide (tenI 13 * l.1 < (f + 1) * tenI (s : Int) * l.2)
theorem between_iff {l h : Int × Int} {f : Int} (c : MeetC l h f) : betweenB l h f = true ↔ Meet l h f := by
  unfold betweenB
  rw [List.any_eq_true]
  have e13 : tenI 13 = 10 ^ 13 := rfl
  constructor
  · rintro ⟨s, hs, hc⟩
    rw [Bool.and_eq_true, decide_eq_true_eq, decide_eq_true_eq, tenI_nn, e13, Int.mul_comm _ h.1, Int.mul_comm _ l.1] at hc
    exact ⟨s, 13, hc⟩
  · intro m
    rcases meet_red c m with ⟨k, hk, m1, m2⟩ | ⟨k, hk, m1, m2⟩
    · refine ⟨13 - k, List.mem_range.mpr (by omega), ?_⟩
      have hp : (10 : Int) ^ k * 10 ^ (13 - k) = 10 ^ 13 := by rw [← Int.pow_add, show k + (13 - k) = 13 by omega]
      rw [Bool.and_eq_true, decide_eq_true_eq, decide_eq_true_eq, tenI_nn, e13, Int.mul_comm _ h.1, Int.mul_comm _ l.1, ← hp, ← Int.mul_assoc, ← Int.mul_assoc, Int.mul_right_comm f, Int.mul_right_comm (f + 1)]
      exact ⟨ml_r _ m1, ml_r _ m2⟩
    · refine ⟨13 + k, List.mem_range.mpr (by omega), ?_⟩
      have hp : (10 : Int) ^ (13 + k) = 10 ^ k * 10 ^ 13 := by rw [← Int.pow_add, Nat.add_comm]
      rw [Bool.and_eq_true, decide_eq_true_eq, decide_eq_true_eq, tenI_nn, e13, Int.mul_comm _ h.1, Int.mul_comm _ l.1, hp, ← Int.mul_assoc, ← Int.mul_assoc, Int.mul_right_comm _ _ h.2, Int.mul_right_comm _ _ l.2]
      exact ⟨ml_r 13 m1, ml_r 13 m2⟩
theorem meets_between {l h : Int × Int} {f : Int} (c : MeetC l h f) : meetsB l h f = betweenB l h f := by
  rw [Bool.eq_iff_iff, meets_iff c, between_iff c]
/-! ### values and the beginnings they meet -/
theorem first_in {v m : Int} (hv : 1 ≤ v) (hm : 1 ≤ m) (h : m ≤ size v) : ∃ k : Nat, first v m * 10 ^ k ≤ v ∧ v < (first v m + 1) * 10 ^ k := by
  have hb := begins_iff.mp (begins_first hv hm h)
  exact ⟨_, hb.2.1, hb.2.2⟩
theorem first_rg {v m : Int} (hv : 1 ≤ v) (hm : 1 ≤ m) (h : m ≤ size v) : tenI (m - 1) ≤ first v m ∧ first v m < tenI m := by
  have h1 := first_pos hv hm
  have h2 := ten_size_le h1
  have h3 := lt_ten_size (n := first v m) (by omega)
  rw [size_first hv hm h] at h2 h3
  exact ⟨h2, h3⟩
theorem mem_meetL {l h : Int × Int} {m f : Int} : f ∈ meetL l h m ↔ (tenI (m - 1) ≤ f ∧ f < tenI m) ∧ meetsB l h f = true := by
  unfold meetL
  rw [List.mem_filter, mem_rgI]
/-- a whole value, scaled -/
theorem meet_val {L U v : Int} {t : Nat} {m : Int} (hv : 1 ≤ v) (hm : 1 ≤ m) (h : m ≤ size v) (h1 : L * 10 ^ t ≤ v) (h2 : v < U * 10 ^ t) : Meet (L, 1) (U, 1) (first v m) := by
  obtain ⟨k, k1, k2⟩ := first_in hv hm h
  refine ⟨k, t, ?_, ?_⟩
  · show first v m * 10 ^ k * 1 < U * 10 ^ t
    omega
  · show L * 10 ^ t < (first v m + 1) * 10 ^ k * 1
    omega
theorem meet_scale {L U f : Int} (t : Nat) : Meet (L * 10 ^ t, 1) (U * 10 ^ t, 1) f ↔ Meet (L, 1) (U, 1) f := by
  constructor
  · rintro ⟨i, j, m1, m2⟩
    refine ⟨i, t + j, ?_, ?_⟩
    · show f * 10 ^ i * 1 < U * 10 ^ (t + j)
      rw [Int.pow_add, ← Int.mul_assoc]
      exact m1
    · show L * 10 ^ (t + j) < (f + 1) * 10 ^ i * 1
      rw [Int.pow_add, ← Int.mul_assoc]
      exact m2
  · rintro ⟨i, j, m1, m2⟩
    refine ⟨i + t, j, ?_, ?_⟩
    · show f * 10 ^ (i + t) * 1 < U * 10 ^ t * 10 ^ j
      rw [Int.pow_add, ← Int.mul_assoc, Int.mul_right_comm U, Int.mul_one]
      rw [show f * 10 ^ i * (1 : Int) = f * 10 ^ i from Int.mul_one _] at m1
      exact ml_r t m1
    · show L * 10 ^ t * 10 ^ j < (f + 1) * 10 ^ (i + t) * 1
      rw [Int.pow_add, ← Int.mul_assoc, Int.mul_right_comm L, Int.mul_one]
      rw [show (f + 1) * 10 ^ i * (1 : Int) = (f + 1) * 10 ^ i from Int.mul_one _] at m2
      exact ml_r t m2
/-- a quotient of two values -/
theorem meet_quot {a b x y m : Int} {t n : Nat} (ha : 1 ≤ a) (hb : 1 ≤ b) (hx1 : a * 10 ^ t ≤ x) (hx2 : x < (a + 1) * 10 ^ t) (hy1 : b * 10 ^ t ≤ y) (hy2 : y < (b + 1) * 10 ^ t) (hm : 1 ≤ m) (hv : 1 ≤ x * 10 ^ n / y) (h : m ≤ size (x * 10 ^ n / y)) :
    Meet (a, b + 1) (a + 1, b) (first (x * 10 ^ n / y) m) := by
  obtain ⟨v, hve⟩ : ∃ v, v = x * 10 ^ n / y := ⟨_, rfl⟩
  rw [← hve] at hv h ⊢
  obtain ⟨k, k1, k2⟩ := first_in hv hm h
  have f1 := first_pos hv hm
  have pt := p10 t
  have pn := p10 n
  have pk := p10 k
  have y0 : 0 < y := Int.lt_of_lt_of_le (Int.mul_pos (by omega) pt) hy1
  have v1 : v * y ≤ x * 10 ^ n := by rw [hve]; exact Int.ediv_mul_le _ (by omega)
  have v2 : x * 10 ^ n < (v + 1) * y := by rw [hve]; exact Int.lt_ediv_add_one_mul_self _ y0
  refine ⟨k, n, mc_r t ?_, mc_r t ?_⟩
  · show first v m * 10 ^ k * b * 10 ^ t < (a + 1) * 10 ^ n * 10 ^ t
    rw [Int.mul_assoc _ b, Int.mul_right_comm (a + 1)]
    have s1 : first v m * 10 ^ k * (b * 10 ^ t) ≤ first v m * 10 ^ k * y := Int.mul_le_mul_of_nonneg_left hy1 (Int.mul_nonneg (by omega) (by omega))
    have s2 : first v m * 10 ^ k * y ≤ v * y := Int.mul_le_mul_of_nonneg_right k1 (by omega)
    have s3 : x * 10 ^ n < (a + 1) * 10 ^ t * 10 ^ n := ml_r n hx2
    omega
  · show a * 10 ^ n * 10 ^ t < (first v m + 1) * 10 ^ k * (b + 1) * 10 ^ t
    rw [Int.mul_assoc _ (b + 1), Int.mul_right_comm a]
    have s1 : a * 10 ^ t * 10 ^ n ≤ x * 10 ^ n := Int.mul_le_mul_of_nonneg_right hx1 (by omega)
    have s2 : (v + 1) * y ≤ (first v m + 1) * 10 ^ k * y := Int.mul_le_mul_of_nonneg_right (by omega) (by omega)
    have s3 : (first v m + 1) * 10 ^ k * y < (first v m + 1) * 10 ^ k * ((b + 1) * 10 ^ t) := Int.mul_lt_mul_of_pos_left hy2 (Int.mul_pos (by omega) pk)
    omega
/-! ### helpers -/
theorem inV_int (g : Int) (l : List Int) : inV (.int g) (l.map V.int) = decide (g ∈ l) := by
  unfold inV
  rw [List.any_map]
  induction l with
  | nil => rfl
  | cons x r ih =>
    rw [List.any_cons, ih]
    show ((x == g) || decide (g ∈ r)) = _
    by_cases h : x = g
    · subst h; simp
    · have h2 : ¬ g = x := fun e => h e.symm
      simp [h, h2]
theorem flat_ints (l : List Int) : (l.map V.int).all flatV = true := by
  rw [List.all_eq_true]
  intro x hx
  rw [List.mem_map] at hx
  obtain ⟨z, _, rfl⟩ := hx
  rfl
theorem dr_t {d nn p : Addr} {H : Hp} {xs : List V} (h : Dr d nn H) (hp : H p = some (.tup xs)) : p ≠ d ∧ p ≠ nn := by
  obtain ⟨ns, c, h1, h2, _⟩ := h
  exact ⟨fun e => (by subst e; rw [h1] at hp; cases hp), fun e => (by subst e; rw [h2] at hp; cases hp)⟩
section
variable {K : PySem.W.Frag} {d nn : Addr} {σ : L2.St} {H : Hp} {ta tb tc te : TE} {v : V} {E : XK}
theorem ed_pickA {P : V → Prop} {i j : Nat} {p : Addr} {xs : List V} (hi : σ[i]? = some (some (.ref d))) (hj : σ[j]? = some (some (.ref p))) (hp : H p = some (.lst xs)) (n1 : p ≠ d) (n2 : p ≠ nn) (h0 : 0 < xs.length) (h1 : xs.length ≤ 100000) (hx : ∀ x ∈ xs, P x) :
    EvD d nn (tCall sp_law_pick [] E (tCons (tVar i) (tCons (tVar j) tNil))) σ H P := fun H1 g Q q =>
  ⟨.ref d, hi, .ref p, hj, d, nn, p, xs, rfl, rfl, g.dr, g.st _ _ n1 n2 hp, n1, n2, h0, h1, fun x H3 hm g3 => q x H3 (hx x hm) g3⟩
theorem ev_UUV {sp : Sp} {l h : Int × Int} {v w : V} (h1 : EvU ta σ H [.int l.1, .int l.2]) (h2 : EvU tb σ H [.int h.1, .int h.2]) (h3 : Ev tc σ H v) (k : ∀ pl ph H1, Ex H H1 → H1 pl = some (tp l) → H1 ph = some (tp h) → SpV sp [.ref pl, .ref ph, v] H1 w) :
    Ev (tCall sp [] E (tCons ta (tCons tb (tCons tc tNil)))) σ H w := fun H0 e Q q =>
  h1 H0 e _ fun pl H1 _ e1 hl => h2 H1 (e.trans e1) _ fun ph H2 _ e2 hh => h3 H2 ((e.trans e1).trans e2) _ fun H3 e3 => k pl ph H3 (((e.trans e1).trans e2).trans e3) ((e2.trans e3) _ _ hl) (e3 _ _ hh) H3 (Ex.refl _) Q (fun H4 e4 => q H4 (((e1.trans e2).trans e3).trans e4)) E
theorem ev_inL {p : Addr} {xs : List Int} {z : Int} (h1 : Ev ta σ H (.int z)) (h2 : Ev tb σ H (.ref p)) (hp : H p = some (.lst (xs.map V.int))) : Ev (tOp (rIn K false) ta tb) σ H (.bl (decide (z ∈ xs))) := fun H0 e Q q =>
  h1 H0 e _ fun H1 e1 => h2 H1 (e.trans e1) _ fun H2 e2 => ⟨p, xs.map V.int, rfl, .inl (sq_of (((e.trans e1).trans e2) _ _ hp)), rfl, flat_ints _, by
    have := q H2 (e1.trans e2)
    rw [← inV_int] at this
    exact this⟩
theorem ev_ninL {p : Addr} {xs : List Int} {z : Int} (h1 : Ev ta σ H (.int z)) (h2 : Ev tb σ H (.ref p)) (hp : H p = some (.lst (xs.map V.int))) : Ev (tOp (rIn K true) ta tb) σ H (.bl (!decide (z ∈ xs))) := fun H0 e Q q =>
  h1 H0 e _ fun H1 e1 => h2 H1 (e.trans e1) _ fun H2 e2 => ⟨p, xs.map V.int, rfl, .inl (sq_of (((e.trans e1).trans e2) _ _ hp)), rfl, flat_ints _, by
    have := q H2 (e1.trans e2)
    rw [← inV_int] at this
    exact this⟩
end
end FD

namespace FD
open PySem PySem.Spec PyProof.Rows L2 Evl TL
/-! ### a caught exception that outlives its suite: it is tracked -/
def ExK (cls : Value) (a : Addr) : HO := .ext fun h => ∃ (oe : Obj) (vs : Array Value), h.get? a = some oe ∧ Zc cls none oe ∧ oe.data = .fields vs
theorem exK_ok {P : Program} {w : World} {H : Hp} {h : Heap} {a : Addr} {cls : Value} {oe : Obj} {vs : Array Value} (e : h.get? a = some oe) (z : Zc cls none oe) (d : oe.data = .fields vs) : ObjOk P w H h a (ExK cls a) :=
  ⟨⟨oe, vs, e, z, d⟩, ⟨oe, e⟩, fun h1 h2 ⟨o1, v1, q1, z1, d1⟩ k => ⟨o1, v1, k o1 q1, z1, d1⟩⟩
section
variable {X : Cx} {pins : List (Addr × Obj)} {σ : L2.St} {H : Hp} {sI s' : Shared} {B : Heap}
theorem inv_track {a : Addr} {o : HO} (I : Inv X pins σ H sI) (nb : ∀ b u, sI.heap.get? b = some u → b ∉ frs X.stack → B.get? b = some u) (st : B.StaysIn s'.heap) (up : sI.heap.UpToSlots s'.heap)
    (os : s'.os = sI.os) (ag : AllBare s'.gens) (ha : sI.heap.get? a = none) (hn : H a = none) (new : ObjOk X.prog X.w (upd H a o) s'.heap a o) : Inv X pins σ (upd H a o) s' := by
  have ne : ∀ {b u}, sI.heap.get? b = some u → b ≠ a := fun {b u} e z => by rw [z, ha] at e; cases e
  have fr : ∀ b ∈ frs X.stack, ∀ u, sI.heap.get? b = some u → ∃ sl, s'.heap.get? b = some { u with slots := sl } := fun b hb u e => by
    obtain ⟨_, v, e', dd⟩ := I.stack.mem hb
    cases e.symm.trans e'
    exact up b u e dd
  refine I.call' (ch := []) os ⟨?_, ?_, ?_, ?_, ?_, ?_, ?_⟩ (((I.inGround nb).kept st).laidN (fun _ _ z => z) hn new) ag (fun _ z => nomatch z)
  · exact fun b u e _ hb _ => st b u (nb b u e hb)
  · exact fun b u e _ hb _ => fr b hb u e
  · exact fun b u e n _ => by rw [upd_ne (ne e)]; exact n
  · intro b u e _
    by_cases hb : b ∈ frs X.stack
    · obtain ⟨sl, q⟩ := fr b hb u e
      exact ⟨_, q⟩
    · exact ⟨u, st b u (nb b u e hb)⟩
  · exact fun b xs e => by rw [upd_ne (ne_of_none e hn)]; exact e
  · exact fun b u xs e => by rw [upd_ne (ne_of_none e hn)]; exact e
  · exact fun b ps e => ⟨#[], by rw [upd_ne (ne_of_none e hn), e]; simp⟩
theorem inv_in {a : Addr} (I : Inv X pins σ H s') : Inv (X.suite a (X.pn ++ pins)) [] σ H s' :=
  ⟨I.ok.suite _ _, I.os, I.bare, I.base, I.loc, I.cell, I.free, I.freeC, fun p hp => I.pin p (by simpa using hp), I.hok, I.len⟩
theorem inv_out {a : Addr} {pn' : List (Addr × Obj)} (I : Inv (X.suite a (X.pn ++ pins)) pn' σ H s') (ok : X.Ok) : Inv X pins σ H s' :=
  ⟨ok, I.os, I.bare, I.base, I.loc, I.cell, I.free, I.freeC, fun p hp => I.pin p (List.mem_append_left _ hp), I.hok, I.len⟩
end
/-- what the clause wishes of an exception of the body: of the class that it names; tracked from there on -/
def wK (K : PySem.W.Frag) (c : Value) (i : Nat) (ts : TS) (D : Ends) : WX := fun cls d σ H => d = none ∧ PySem.W.exmOne K cls c = some true ∧
  ∀ a, H a = none → ts { nx := fun σ1 H1 => D.nx (σ1.set i none) H1, rt := D.rt, bk := fun σ1 H1 => D.bk (σ1.set i none) H1, ct := fun σ1 H1 => D.ct (σ1.set i none) H1 } (σ.set i (some (.ref a))) (upd H a (ExK cls a))
section
variable {X : Cx} {x n : Str} {c : Value} {i : Nat} {body suite : List Stmt} {b₀ : Stmt} {np pos pos' : Pos} {tb : WX → TS} {ts : TS}
theorem ps_tryK (hs : X.stack = X.env :: X.outer) (hf : X.env.frame = some X.env.locals) (hN : X.N.Nodup) (hi : X.N[i]? = some n) (hln : X.env.kindOf n = some .local) (hc : Names X x c)
    (hb : ∀ (W : WX) (pn : List (Addr × Obj)) (xe : Value → Shared → Prop), Takes (X.tr pn xe) W → PassesOwn (model X.prog X.w) X.A X.env xe → PSs (X.tr pn xe) body (tb W))
    (hsu : ∀ (a : Addr) (pn : List (Addr × Obj)), PSs (X.suite a pn) (b₀ :: suite) ts) :
    PS X (.Try body [.ExceptHandler (some (.Name x np)) (some n) (b₀ :: suite) pos'] [] [] pos) (fun D σ H => tb (wK X.K c i ts D) D σ H) := by
  constructor
  intro pins s σ H D I h
  have ok := I.ok
  have frm : X.A.frames = some (X.env :: X.outer) := ok.frames.trans (congrArg some hs)
  apply wpAny_Try_except
  let xe : Value → Shared → Prop := fun e s₁ => wpAny (model X.prog X.w) X.A (noteFrame e X.env) (fun _ s₂ =>
    wpAny (model X.prog X.w) X.A (setFlight e none) (fun _ s₃ =>
      wpAny (model X.prog X.w) X.A (handleBy e X.env [.ExceptHandler (some (.Name x np)) (some n) (b₀ :: suite) pos']) (SP X pins D) X.xe s₃) X.xe s₂) X.xe s₁
  have taken : Takes (X.tr (X.pn ++ pins) xe) (wK X.K c i ts D) := by
    rintro u s1 ⟨a, B, sI, pins1, σ1, H1, cls, d, rfl, J1, nb, up, sky, na, os, ag, hd, hex, hgo⟩
    subst hd
    have J : Inv X pins σ1 H1 sI := J1.ofTry ok
    have sky1 : Sky B (X.env :: X.outer) a (Zc cls none) X.env.locals s1.heap := hs ▸ sky
    show wpAny (model X.prog X.w) X.A (noteFrame (.ref a) X.env) _ _ _
    refine Sky.land Zc.steady frm hf sky1 fun h3 fl3 up3 => ?_
    have off : ∀ {h : Heap} {o : Obj} {vs : Array Value}, h.FunFrames B (X.env :: X.outer) → h.get? a = some o → o.data = .fields vs → a ∉ frs (X.env :: X.outer) := by
      intro h o vs ff e dd hm
      obtain ⟨_, o2, e2, nn⟩ := ff.mem hm
      cases e.symm.trans e2
      exact nn _ dd
    obtain ⟨oe3, vs3, he3, hz3, hd3⟩ := fl3.there
    have nfr := off fl3.2.2.1 he3 hd3
    have hI : sI.heap.get? a = none := by
      cases e : sI.heap.get? a with
      | none => rfl
      | some o =>
        have := nb a o e (by rw [hs]; exact nfr)
        rw [fl3.2.1] at this
        cases this
    have J3 : Inv X pins σ1 (upd H1 a (ExK cls a)) { s1 with heap := h3 } := inv_track J nb fl3.1 (up.trans up3) os ag hI na (exK_ok he3 hz3 hd3)
    have S3 := inv_in (a := a) J3
    refine wpAny_handleBy_cons (codeAny_handlers_test ?_) (by intro q; cases q)
    have tyL : PySem.W.Looks (model X.prog X.w) h3 (typeOf (.ref a)) cls := fun A Q E s k q => wpAny_typeOf_ref (k _ _ he3) (by rw [hz3.1]; exact q)
    have exL := PySem.W.exm_one (M := model X.prog X.w) J3.kIn tyL hex
    have nameL : ∀ {Q : Value → Shared → Prop} {E : Value → Shared → Prop}, Q c { s1 with heap := h3 } → wpAny (model X.prog X.w) (X.A.mark (some (.ref a))) (eval (.Name x np) X.env) Q E { s1 with heap := h3 } := by
      intro Q E q
      obtain ⟨hg, dbg, hm | ⟨hm, hv, hnn⟩⟩ := hc
      · exact ld_glob (X := X.suite a (X.pn ++ pins)) S3 hg hm q dbg
      · exact ld_blt (X := X.suite a (X.pn ++ pins)) S3 hg hm hv q hnn dbg
    refine nameL (exL.here ?_)
    refine codeAny_handlers_suite_as ?_
    refine HandSPX.lands_againZ fl3 fun h4 fl4 up4 => ?_
    obtain ⟨oe4, vs4, he4, hz4, hd4⟩ := fl4.there
    have J4 : Inv X pins σ1 (upd H1 a (ExK cls a)) { s1 with heap := h4 } := inv_track J nb fl4.1 ((up.trans up3).trans up4) os ag hI na (exK_ok he4 hz4 hd4)
    refine store_ok (X := X.suite a (X.pn ++ pins)) (v := .ref a) (inv_in (a := a) J4) hN hi (.inl hln) rfl (fun s5 S5 => ?_) (.inr hln)
    refine wpAny_mono ((hsu a (X.pn ++ pins)).run [] s5 _ _ _ S5 (hgo a na)) (fun f s6 hsp => ?_) (fun _ _ z => False.elim z)
    have fin : ∀ {σ6 : L2.St} {H6 : Hp} {Q : Shared → Prop}, Inv (X.suite a (X.pn ++ pins)) [] σ6 H6 s6 → (∀ s7, Inv X pins (σ6.set i none) H6 s7 → Q s7) →
        wpAny (model X.prog X.w) X.A (do bindName X.env n .none; unbindBehindTheSuite X.env n pos') (fun _ s7 => Q s7) X.xe s6 := fun S6 hq => gone_ok (inv_out S6 ok) hN hi hln hq
    cases f with
    | ret u =>
      obtain ⟨v6, σ6, H6, S6, r6, q6⟩ := hsp
      exact fin S6 fun s7 J7 => ⟨_, _, _, J7, r6, q6⟩
    | _ =>
      obtain ⟨σ6, H6, S6, q6⟩ := hsp
      exact fin S6 fun s7 J7 => ⟨_, _, J7, q6⟩
  refine wpAny_mono ((hb _ (X.pn ++ pins) xe taken PassesOwn.looking).run [] s σ H D (I.toTry _) h) (fun f s1 hsp => ?_) (fun e s1 he => he)
  cases f with
  | next =>
    obtain ⟨σ1, H1, J1, q⟩ := hsp
    exact wpAny_execs_nil ⟨σ1, H1, J1.ofTry ok, q⟩
  | ret u =>
    obtain ⟨v, σ1, H1, J1, r, q⟩ := hsp
    exact ⟨v, σ1, H1, J1.ofTry ok, r, q⟩
  | _ =>
    obtain ⟨σ1, H1, J1, q⟩ := hsp
    exact ⟨σ1, H1, J1.ofTry ok, q⟩
end
/-- isinstance(e, c), e a tracked exception -/
def rIsK (K : PySem.W.Frag) : List V → Hp → VK → Prop := fun xs H Q => ∃ (a D : Addr) (c : V) (cv : Value) (b : Bool), xs = [.ref a, c] ∧ H a = some (ExK (.ref D) a) ∧ ExcC K D ∧ (∀ u, RelV c u → u = cv) ∧ PySem.W.kitOne K (.ref D) cv = some b ∧ Q (.bl b) H
theorem call_isK {X : Cx} : CallR X (.builtin "isinstance") (rIsK X.K) := by
  intro pins s σ H xs us Q I r h
  obtain ⟨a, D, c, cv, b, rfl, ha, C, hcv, e, q⟩ := h
  cases r with
  | cons rx rr =>
    cases rr with
    | cons rt rr =>
      cases rr
      cases rx
      cases hcv _ rt
      obtain ⟨⟨oe, vs, hget, hz, hv⟩, _, _⟩ := I.hok a _ ha
      have J : PySem.W.InstAt s.heap a oe D none := by
        obtain ⟨oc, od, oda, osl⟩ := oe
        obtain ⟨h1, h2⟩ := hz
        dsimp only at h1 h2 hv
        subst h1 h2 hv
        exact ⟨hget, rfl, rfl, trivial⟩
      exact PySem.W.kia_one (PySem.W.handS_kitx_exc C.hg C.hk C.hs C.hd C.ha C.hn C.ht C.hm) I.kIn J e (fun z => nomatch z) fun tk => ⟨.bl b, H, I.kept (t' := tk) fun _ _ z => z, rfl, q⟩
/-! ### xs.count(y), xs.index(y), flat values -/
theorem countP_eqU {x : V} : ∀ {xs : List V} {us : List Value}, Vals xs us → xs.all flatV = true → us.countP (eqU x) = xs.countP fun y => eqV y x
  | _, _, .nil, _ => rfl
  | y :: xs, u :: us, .cons r t, f => by
    rw [List.all_cons, Bool.and_eq_true] at f
    rw [List.countP_cons, List.countP_cons, eqU_of r f.1, countP_eqU t f.2]
def rCountV : V → List V → Hp → VK → Prop := fun x vs H Q => ∃ l xs y, x = .ref l ∧ vs = [y] ∧ H l = some (.lst xs) ∧ flatV y = true ∧ xs.all flatV = true ∧ Q (.int ((xs.countP fun z => eqV z y : Nat) : Int)) H
theorem mt_countV {X : Cx} : MtM X "list.count" rCountV := by
  intro pins s σ H x vs v us Q I rx rv h
  obtain ⟨l, xs, y, rfl, rfl, hH, fy, fs, q⟩ := h
  cases rx
  obtain ⟨u, rfl, ru⟩ := rv.one
  obtain ⟨z, its, n, r, hl, e⟩ := I.lstM hH
  refine call_meets F.slot_list_count ⟨_, e, rfl⟩ F.entry_list_count (F.args_list_count_2 _ _) (SeqAt.list_countAt l its.toArray n none #[] u (eqU y)) ⟨e, fun w hw => mem_eqAt ru fy r fs w (by simpa using hw), ?_⟩
  exact ⟨.int _, H, I.tok _, ⟨_, rfl⟩, by rw [show its.toArray.toList = its from rfl, countP_eqU r fs]; exact q⟩
def rIndexV : V → List V → Hp → VK → Prop := fun x vs H Q => ∃ (l : Addr) (xs : List V) (y : V) (j : Nat), x = .ref l ∧ vs = [y] ∧ H l = some (.lst xs) ∧ flatV y = true ∧ xs.all flatV = true ∧ (∃ z, xs[j]? = some z ∧ eqV z y = true) ∧ (∀ (i : Nat) (z : V), i < j → xs[i]? = some z → eqV z y = false) ∧ Q (.int (j : Int)) H
theorem mt_indexV {X : Cx} : MtM X "list.index" rIndexV := by
  intro pins s σ H x vs v us Q I rx rv h
  obtain ⟨l, xs, y, j, rfl, rfl, hH, fy, fs, ⟨zj, hj, ej⟩, hb, q⟩ := h
  cases rx
  obtain ⟨u, rfl, ru⟩ := rv.one
  obtain ⟨z, its, n, r, hl, e⟩ := I.lstM hH
  have hjl := (List.getElem?_eq_some_iff.mp hj).1
  have fl : ∀ {i : Nat} {w : V}, xs[i]? = some w → flatV w = true := fun {i w} hw => List.all_eq_true.mp fs w (List.mem_of_getElem? hw)
  have at_ : ∀ {i : Nat} {w : V}, xs[i]? = some w → ∃ uw, its[i]? = some uw ∧ eqU y uw = eqV w y := fun {i w} hw => by
    obtain ⟨uw, h1, h2⟩ := r.get hw
    exact ⟨uw, h1, eqU_of h2 (fl hw)⟩
  have hz63 := line63
  refine call_meets F.slot_list_index ⟨_, e, rfl⟩ F.entry_list_index (F.args_list_index_2 _ _)
    (PySem.SeqAt.list_index2_found l its.toArray n none #[] u (fun i => (its[i]?.map (eqU y)).getD false) j (by rw [List.size_toArray]; omega) (Nat.zero_le _) (by omega) ?_ ?_) ⟨e, fun i hi => ?_, ?_⟩
  · obtain ⟨uw, h1, h2⟩ := at_ hj
    show (its[j]?.map (eqU y)).getD false = true
    rw [h1]
    exact h2.trans ej
  · intro m hm _ hlt
    obtain ⟨uw, h1, h2⟩ := at_ (List.getElem?_eq_getElem (show m < xs.length by omega))
    show (its[m]?.map (eqU y)).getD false = false
    rw [h1]
    exact h2.trans (hb m _ hlt (List.getElem?_eq_getElem (by omega)))
  · have hi' : i < its.length := by simpa using hi
    have hx := List.getElem?_eq_getElem hi'
    show SeqAt.EqAt _ _ _ _ ((its[i]?.map (eqU y)).getD false)
    rw [hx]
    exact mem_eqAt ru fy r fs its[i] (List.getElem_mem hi')
  · exact ⟨.int _, H, I.tok _, ⟨_, rfl⟩, q⟩
/-! ### the package's exception classes -/
structure ExA where
  de : Addr
  bn : Addr
  bb : Addr
  bc : Addr
  bt : Addr
  nf : Addr
def ExA.at (x : ExA) : Nat → Addr
  | 0 => x.bn
  | 1 => x.bb
  | 2 => x.bc
  | 3 => x.bt
  | _ => x.nf
structure ExF (K : PySem.W.Frag) (C de : Addr) : Prop where
  x : PySem.W.excIn K C [.type "ValueError", .type "Exception", .type "BaseException", .type "object"] "ValueError.__new__" = true
  k : PySem.W.keepIn K (.ref C) = true
  b : PySem.W.subIn K (.ref C) (.type "BaseException") = some true
  t : PySem.W.typeIn K (.ref C) = some (.type "type")
  i : PySem.W.isClsIn K C = true
  v : PySem.W.subIn K (.ref C) (.type "ValueError") = some true
  d : PySem.W.subIn K (.ref C) (.ref de) = some true
  c : ExcC K C
structure ExT (K : PySem.W.Frag) (mg : Str → Option Value) (x : ExA) : Prop where
  gde : mg "DigitError" = some (.ref x.de)
  gbn : mg "BadNumber" = some (.ref x.bn)
  gbb : mg "BadBeginning" = some (.ref x.bb)
  gbc : mg "BadCount" = some (.ref x.bc)
  gbt : mg "BadText" = some (.ref x.bt)
  gnf : mg "NotFound" = some (.ref x.nf)
  gve : mg "ValueError" = none
  bn : ExF K x.bn x.de
  bb : ExF K x.bb x.de
  bc : ExF K x.bc x.de
  bt : ExF K x.bt x.de
  nf : ExF K x.nf x.de
  tb : PySem.W.subIn K (.ref x.de) (.type "BaseException") = some true
  tt : PySem.W.typeIn K (.ref x.de) = some (.type "type")
  ti : PySem.W.isClsIn K x.de = true
  s : ∀ i j, i < 5 → j < 5 → PySem.W.subIn K (.ref (x.at i)) (.ref (x.at j)) = some (decide (i = j))
section
variable {K : PySem.W.Frag} {mg : Str → Option Value} {x : ExA}
theorem ExT.f (T : ExT K mg x) : ∀ i, ExF K (x.at i) x.de
  | 0 => T.bn
  | 1 => T.bb
  | 2 => T.bc
  | 3 => T.bt
  | n + 4 => T.nf
theorem ExT.exm (T : ExT K mg x) (i : Nat) : PySem.W.exmOne K (.ref (x.at i)) (.ref x.de) = some true := by
  have e1 : (PySem.W.subIn K (.ref x.de) (.type "BaseException") == some true) = true := by rw [T.tb]; rfl
  have h2 : (PySem.W.clsIn K x.de).isSome = true := T.ti
  have e2 : ((PySem.W.clsIn K x.de).isSome && PySem.W.typeIn K (.ref x.de) == some (.type "type")) = true := by rw [h2, T.tt]; rfl
  unfold PySem.W.exmOne
  rw [if_pos e1]
  show (if ((PySem.W.clsIn K x.de).isSome && PySem.W.typeIn K (.ref x.de) == some (.type "type")) = true then PySem.W.subIn K (.ref (x.at i)) (.ref x.de) else none) = some true
  rw [if_pos e2]
  exact (T.f i).d
theorem kit_ref {D C : Addr} {b : Bool} (hi : PySem.W.isClsIn K C = true) (ht : PySem.W.typeIn K (.ref C) = some (.type "type")) (hs : PySem.W.subIn K (.ref D) (.ref C) = some b) (hb : D = C → b = true) : PySem.W.kitOne K (.ref D) (.ref C) = some b := by
  unfold PySem.W.kitOne
  by_cases e : D = C
  · subst e
    rw [if_pos (by simp), hb rfl]
  · rw [if_neg (by simpa using e)]
    have h2 : (PySem.W.clsIn K C).isSome = true := hi
    show (if ((PySem.W.clsIn K C).isSome && PySem.W.typeIn K (.ref C) == some (.type "type")) = true then PySem.W.subIn K (.ref D) (.ref C) else none) = some b
    rw [if_pos (by rw [h2, ht]; rfl)]
    exact hs
theorem ExT.kit (T : ExT K mg x) {i j : Nat} (hi : i < 5) (hj : j < 5) : PySem.W.kitOne K (.ref (x.at i)) (.ref (x.at j)) = some (decide (i = j)) :=
  kit_ref (T.f j).i (T.f j).t (T.s i j hi hj) fun e => by
    have h1 := T.s i j hi hj
    rw [e] at h1
    have h2 := T.s j j hj hj
    rw [h1] at h2
    simpa using h2
theorem ExT.kitD (T : ExT K mg x) (i : Nat) : PySem.W.kitOne K (.ref (x.at i)) (.ref x.de) = some true := kit_ref T.ti T.tt (T.f i).d fun _ => rfl
theorem ExT.kitV (T : ExT K mg x) (i : Nat) : PySem.W.kitOne K (.ref (x.at i)) (.type "ValueError") = some true := by
  unfold PySem.W.kitOne
  rw [if_neg (by simp)]
  show (if PySem.W.kitMeta "ValueError" = true then PySem.W.subIn K (.ref (x.at i)) (.type "ValueError") else none) = some true
  rw [if_pos (by decide +kernel)]
  exact (T.f i).v
end
/-! ### defs that raise -/
def tRaise (C : Addr) (E : XK) : TS := fun _ _ H => E (.ref C) none H
def tTryK (K : PySem.W.Frag) (c : Value) (i : Nat) (tb : WX → TS) (ts : TS) : TS := fun D σ H => tb (wK K c i ts D) D σ H
theorem passX0 {X : Cx} : Passes (L2.CX X.prog X.w) X E0 := fun _ _ _ _ _ _ _ ⟨_, _, _, _, _, _, _, _, _, _, _, _, e⟩ => e.elim
section
variable {X : Cx} {CX : CXT} {k : Nat} {ps : List Str} {sp : Sp} {E : L2.St → XK} {x : Str} {p pos : Pos} {e : Expr} {es : List Expr} {t : TA}
theorem pe_okS (G : Ok X.prog X.w X.K X.mg X.base CX k x ps sp) (hr : Room k X.A) (hg : Gl X x) (hx : ∀ σ, PassesAt CX X σ (E σ)) (ha : PA X (e :: es) t)
    (hdb : (x == ("__debug__" : Str)) = false := by decide) (he : starEach (e :: es) X.env = (false, eval e X.env) :: starEach es X.env := by rfl) (hpl : (backTo pos (starEach es X.env)).any (·.1) = false := by rfl) :
    PE X (.Call (.Name x p) (e :: es) [] pos) (tCallS sp E t) := by
  obtain ⟨f, fd, hm, hk, hb, _, F⟩ := G.ex
  exact pe_callS F hr hg hm hk hb hx ha hdb he hpl
end
section
variable {P : Program} {w : World} {K : PySem.W.Frag} {mg : Str → Option Value} {base : Heap}
theorem Ok.ofX {x : Str} {st : Stmt} {N ps : List Str} {k : Nat} {sp : Sp} (F : FunAt K mg x st) (S : FnScope N ps (defScope st)) (len : ∀ vs H Q E, sp vs H Q E → vs.length = ps.length)
    (hb : ∀ (kV doc pm : Value) (an : Option Addr) (cdv ct : Value) (us : List Value), us.length = ps.length → bindArgs (PySem.W.fnOf x x (defArgs st) (defBody st) (defScope st) .none kV doc pm an cdv ct) ⟨us, []⟩ = pure (ps.zip us))
    (rd : XK → TS) (pure : ∀ vs H Q E, sp vs H Q E → rd E { nx := fun _ H' => Q .non H', rt := Q } (start N vs) H)
    (hbody : ∀ (f : Addr) (cdv : Value) (A : Around) (outer : List Env) (s : Shared) (H : Hp) (E : XK), Room k (A.deeper (envOfC x (defScope st) s.heap.objs.size f cdv)) →
      PSs (cxOf (L2.CX P w) P w K mg base N x (defScope st) f cdv A outer s H E) (defBody st) (rd E)) : Ok P w K mg base (L2.CX P w) (k + 1) x ps sp := by
  obtain ⟨f, fd, hm, F⟩ := F.ex
  obtain ⟨oc, od, kV, doc, pm, an, cd, ct, osl, e1, e2, e3⟩ := F.ex
  exact ⟨f, fd, hm, F.kp, F.binds hb, ⟨oc, od, osl, e2⟩, F.okX S len fun cdv A outer s H vs Q E hr h => ⟨rd E, hbody f cdv A outer s H E hr, pure vs H Q E h⟩⟩
end
/-! ### promises of defs that raise -/
def spe1 (f : V → Hp → VK → XK → Prop) : Sp := fun vs H Q E => match vs with
  | [a] => f a H Q E
  | _ => False
def spe2 (f : V → V → Hp → VK → XK → Prop) : Sp := fun vs H Q E => match vs with
  | [a, b] => f a b H Q E
  | _ => False
def spe3 (f : V → V → V → Hp → VK → XK → Prop) : Sp := fun vs H Q E => match vs with
  | [a, b, c] => f a b c H Q E
  | _ => False
theorem spe1_len {f} {ps : List Str} (h : ps.length = 1) : ∀ vs H Q E, spe1 f vs H Q E → vs.length = ps.length := fun vs H Q E x => by
  match vs, x with
  | [_], _ => exact h.symm
theorem spe2_len {f} {ps : List Str} (h : ps.length = 2) : ∀ vs H Q E, spe2 f vs H Q E → vs.length = ps.length := fun vs H Q E x => by
  match vs, x with
  | [_, _], _ => exact h.symm
theorem spe3_len {f} {ps : List Str} (h : ps.length = 3) : ∀ vs H Q E, spe3 f vs H Q E → vs.length = ps.length := fun vs H Q E x => by
  match vs, x with
  | [_, _, _], _ => exact h.symm
end FD

namespace FD
open PySem PySem.Spec PyProof.Rows L2 Evl TL
local macro_rules | `(tactic| walk_at "ev") => `(tactic| repeat' (first | (with_reducible exact ev_c) | ((with_reducible apply ev_var); rfl) | (with_reducible exact ea_nil) | (with_reducible apply ea_cons) | (with_reducible apply ev_op) | (with_reducible exact rv_I0) | (with_reducible apply rv_I) | (with_reducible exact rv_eqI) | (with_reducible exact rv_neI) | (with_reducible exact rv_eqS) | (with_reducible apply ev_ok) | (with_reducible apply ev_cb) | (with_reducible apply spv_I1) | (with_reducible apply spv_I2) | (with_reducible apply spv_I3) | (with_reducible apply et_test) | (with_reducible apply et_B) | (with_reducible apply et_not) | (with_reducible apply ev_notV) | (with_reducible apply ev_un) | (with_reducible exact ru_negI) | (with_reducible exact rc_max2) | (with_reducible exact rc_min2) | (with_reducible exact rv_isB) | (with_reducible exact rv_notB) | (with_reducible exact rv_isN) | (with_reducible exact rv_notN) | (with_reducible apply ev_chainI) | (with_reducible exact rc_isiI) | (with_reducible exact rc_isiB)))
section
variable {K : PySem.W.Frag} {σ : L2.St} {H : Hp} {te ta tb : TE}
theorem el_catV {xs ys : List V} {p : Addr} (h1 : Ev ta σ H (.ref p)) (hp : H p = some (.lst xs)) (h2 : EvL tb σ H ys) (hl : xs.length + ys.length ≤ 1000) : EvL (tOp rCat ta tb) σ H (xs ++ ys) := fun H1 e Q q =>
  h1 H1 e _ fun H2 e2 => h2 H2 (e.trans e2) _ fun p2 H3 hp2 e3 hy => ⟨p, p2, xs, ys, rfl, rfl, ((e.trans e2).trans e3) _ _ hp, hy, sz_of (by omega), fun p3 hp3 => q p3 _ (fresh_back (e2.trans e3) hp3) ((e2.trans e3).trans (Ex.new hp3)) upd_same⟩
theorem ev_countV {xs : List V} {p : Addr} {y : V} {n : Nat} (h1 : Ev ta σ H (.ref p)) (hp : H p = some (.lst xs)) (h2 : Ev tb σ H y) (fy : flatV y = true) (fs : xs.all flatV = true) (hn : (xs.countP fun z => eqV z y) = n) : Ev (tBM K "list" rCountV ta (tCons tb tNil)) σ H (.int (n : Int)) := fun H1 e Q q =>
  h1 H1 e _ fun H2 e2 => ⟨Or.inl ⟨rfl, xs, sq_of ((e.trans e2) _ _ hp)⟩, h2 H2 (e.trans e2) _ fun H3 e3 => ⟨p, xs, y, rfl, rfl, ((e.trans e2).trans e3) _ _ hp, fy, fs, hn ▸ q H3 (e2.trans e3)⟩⟩
theorem ev_indexV {xs : List V} {p : Addr} {y : V} {j : Nat} (h1 : Ev ta σ H (.ref p)) (hp : H p = some (.lst xs)) (h2 : Ev tb σ H y) (fy : flatV y = true) (fs : xs.all flatV = true) (hj : ∃ z, xs[j]? = some z ∧ eqV z y = true) (hb : ∀ (i : Nat) (z : V), i < j → xs[i]? = some z → eqV z y = false) : Ev (tBM K "list" rIndexV ta (tCons tb tNil)) σ H (.int (j : Int)) := fun H1 e Q q =>
  h1 H1 e _ fun H2 e2 => ⟨Or.inl ⟨rfl, xs, sq_of ((e.trans e2) _ _ hp)⟩, h2 H2 (e.trans e2) _ fun H3 e3 => ⟨p, xs, y, j, rfl, rfl, ((e.trans e2).trans e3) _ _ hp, fy, fs, hj, hb, q H3 (e2.trans e3)⟩⟩
theorem ev_isK {a D : Addr} {c : V} {cv : Value} {b : Bool} (h1 : Ev ta σ H (.ref a)) (ha : H a = some (ExK (.ref D) a)) (C : ExcC K D) (hc : ∀ u, RelV c u → u = cv) (hk : PySem.W.kitOne K (.ref D) cv = some b) : Ev (tCB (rIsK K) (tCons ta (tCons (tC c) tNil))) σ H (.bl b) := fun H1 e Q q =>
  h1 H1 e _ fun H2 e2 => ⟨a, D, c, cv, b, rfl, (e.trans e2) _ _ ha, C, hc, hk, q H2 e2⟩
end
/-! ### _law_error -/
def exName : Nat → Str
  | 0 => "number"
  | 1 => "beginning"
  | 2 => "count"
  | 3 => "text"
  | _ => "none"
abbrev sp_law_error (x : ExA) : Sp := sp1 fun a H Q => ∃ (p : Addr) (i : Nat), a = .ref p ∧ i < 5 ∧ H p = some (ExK (.ref (x.at i)) p) ∧ ∀ H', Ex H H' → Q (.str (exName i)) H'
def rd_law_error (x : ExA) (K : PySem.W.Frag) : TS :=
      (tSeq (tAsg (tLst (tCons (tCB (rIsK K) (tCons (tVar 0) (tCons (tC (.ref x.bn)) tNil))) (tCons (tCB (rIsK K) (tCons (tVar 0) (tCons (tC (.ref x.bb)) tNil))) (tCons (tCB (rIsK K) (tCons (tVar 0) (tCons (tC (.ref x.bc)) tNil))) tNil)))) (gName 1))
      (tSeq (tAsg (tOp rCat (tVar 1) (tLst (tCons (tCB (rIsK K) (tCons (tVar 0) (tCons (tC (.ref x.bt)) tNil))) (tCons (tCB (rIsK K) (tCons (tVar 0) (tCons (tC (.ref x.nf)) tNil))) tNil)))) (gName 1))
      (tSeq (tIfS (tOr (tTest (tOp rNe (tBM K "list" rCountV (tVar 1) (tCons (tC (.bl true)) tNil)) (tC (.int 1)))) (tOr (tNot (tB (tCB (rIsK K) (tCons (tVar 0) (tCons (tC (.ref x.de)) tNil))))) (tNot (tB (tCB (rIsK K) (tCons (tVar 0) (tCons (tC (.ty "ValueError")) tNil)))))))
        (tRet (tC (.str "odd")))
        tNext)
      (tRet (tOp (rIxL K) (tLst (tCons (tC (.str "number")) (tCons (tC (.str "beginning")) (tCons (tC (.str "count")) (tCons (tC (.str "text")) (tCons (tC (.str "none")) tNil)))))) (tBM K "list" rIndexV (tVar 1) (tCons (tC (.bl true)) tNil)))))))
def N_law_error : List Str := ["caught", "kinds"]
def kinds (i : Nat) : List V := [.bl (decide (i = 0)), .bl (decide (i = 1)), .bl (decide (i = 2))] ++ [.bl (decide (i = 3)), .bl (decide (i = 4))]
theorem five {i : Nat} (h : i < 5) : i = 0 ∨ i = 1 ∨ i = 2 ∨ i = 3 ∨ i = 4 := by omega
theorem kinds_count {i : Nat} (h : i < 5) : ((kinds i).countP fun z => eqV z (.bl true)) = 1 := by
  rcases five h with rfl | rfl | rfl | rfl | rfl <;> rfl
theorem kinds_hit {i : Nat} (h : i < 5) : ∃ z, (kinds i)[i]? = some z ∧ eqV z (.bl true) = true := by
  rcases five h with rfl | rfl | rfl | rfl | rfl <;> exact ⟨_, rfl, rfl⟩
theorem kinds_miss {i : Nat} (h : i < 5) : ∀ (j : Nat) (z : V), j < i → (kinds i)[j]? = some z → eqV z (.bl true) = false := by
  intro j z hj hz
  rcases five h with rfl | rfl | rfl | rfl | rfl <;> rcases five (show j < 5 by omega) with rfl | rfl | rfl | rfl | rfl <;> first | omega | (cases (Option.some.inj hz); rfl) | (have hz := Option.some.inj hz; rw [← hz]; rfl)
theorem pure_law_error {x : ExA} {K : PySem.W.Frag} {mg : Str → Option Value} (T : ExT K mg x) (vs : List V) (H : Hp) (Q : VK) (E : XK) (h : sp_law_error x vs H Q E) : rd_law_error x K { nx := fun _ H' => Q .non H', rt := Q } (start N_law_error vs) H := by
  match vs, h with
  | [a], h =>
    obtain ⟨p, i, rfl, hi, hp, q⟩ := h
    unfold rd_law_error
    have C := (T.f i).c
    refine q_asgL (xs := [.bl (decide (i = 0)), .bl (decide (i = 1)), .bl (decide (i = 2))]) (el_lst (ea_cons (ev_isK (ev_var rfl) hp C (fun u r => r) (T.kit (j := 0) hi (by decide))) (ea_cons (ev_isK (ev_var rfl) hp C (fun u r => r) (T.kit (j := 1) hi (by decide))) (ea_cons (ev_isK (ev_var rfl) hp C (fun u r => r) (T.kit (j := 2) hi (by decide))) ea_nil))) (by simp)) fun p1 H1 hp1 e1 h1 => ?_
    have hpp := e1 _ _ hp
    refine q_asgL (xs := kinds i) (el_catV (ev_var rfl) h1 (el_lst (ea_cons (ev_isK (ev_var rfl) hpp C (fun u r => r) (T.kit (j := 3) hi (by decide))) (ea_cons (ev_isK (ev_var rfl) hpp C (fun u r => r) (T.kit (j := 4) hi (by decide))) ea_nil)) (by simp)) (by simp)) fun p2 H2 hp2 e2 h2 => ?_
    have hp3 := e2 _ _ hpp
    have fl : (kinds i).all flatV = true := rfl
    refine q_if1 (b := false) (et_is (et_or (a := !decide ((1 : Int) = 1)) (b := (!true || !true)) (et_test (ev_op (ev_countV (n := 1) (ev_var rfl) h2 ev_c rfl fl (kinds_count hi)) ev_c rv_neI)) fun _ => et_or (et_not (et_B (ev_isK (ev_var rfl) hp3 C (fun u r => r) (T.kitD i)))) fun _ => et_not (et_B (ev_isK (ev_var rfl) hp3 C (fun u r => r) (T.kitV i)))) (by simp)) (fun hb => by cases hb) (fun _ H3 e3 => ?_)
    refine s_ret (v := .str (exName i)) ?_ fun H4 e4 => q H4 (((e1.trans e2).trans e3).trans e4)
    have hL : EvL (tLst (tCons (tC (.str "number")) (tCons (tC (.str "beginning")) (tCons (tC (.str "count")) (tCons (tC (.str "text")) (tCons (tC (.str "none")) tNil)))))) [some (.ref p), some (.ref p2)] H3 [.str "number", .str "beginning", .str "count", .str "text", .str "none"] := el_lst (by walk_at "ev") (by simp)
    intro H5 e5 Q5 q5
    refine hL H5 e5 _ fun p6 H6 hp6 e6 h6 => ?_
    refine ev_indexV (j := i) (H := H3) (ev_var rfl) (e3 _ _ h2) ev_c rfl fl (kinds_hit hi) (kinds_miss hi) H6 (e5.trans e6) _ fun H7 e7 => ?_
    refine ⟨p6, _, _, .str (exName i), rfl, rfl, sq_of (e7 _ _ h6), ?_, q5 H7 (e6.trans e7)⟩
    rcases five hi with rfl | rfl | rfl | rfl | rfl <;> rfl
/-! ### values as data: mixed comparisons -/
mutual
theorem dp_ex {K : PySem.W.Frag} {H H' : Hp} (e : Ex H H') : ∀ (d : PyData) (v : V), Dp K H v d → Dp K H' v d
  | .none, _, h => by cases h; exact .non
  | .bool b, _, h => by cases h; exact .bl b
  | .int i, _, h => by cases h; exact .int i
  | .str x, _, h => by cases h; exact .str x
  | .list ds, _, h => by
    cases h with
    | lst h1 h2 => exact .lst (ex_l e h1) (dpAll_ex e ds _ h2)
  | .tuple ds, _, h => by
    cases h with
    | tup h1 h2 => exact .tup (ex_t e h1) (dpAll_ex e ds _ h2)
  | .dict _, _, h => by cases h
theorem dpAll_ex {K : PySem.W.Frag} {H H' : Hp} (e : Ex H H') : ∀ (ds : List PyData) (vs : List V), DpAll K H vs ds → DpAll K H' vs ds
  | [], _, h => by cases h; exact .nil
  | d :: ds, _, h => by
    cases h with
    | cons h1 h2 => exact .cons (dp_ex e d _ h1) (dpAll_ex e ds _ h2)
end
def EvP (K : PySem.W.Frag) (te : TE) (σ : L2.St) (H : Hp) (d : PyData) : Prop := ∀ H1, Ex H H1 → ∀ Q : VK, (∀ v H2, Ex H1 H2 → Dp K H2 v d → Q v H2) → te σ H1 Q
section
variable {K : PySem.W.Frag} {σ : L2.St} {H : Hp} {te ta tb : TE} {t : TT} {tu : TS} {D : Ends} {i : Nat} {d d' : PyData}
theorem ep_int {n : Int} (h : Ev te σ H (.int n)) : EvP K te σ H (.int n) := fun H1 e Q q => h H1 e Q fun H2 e2 => q _ H2 e2 (.int n)
theorem ep_str {n : Str} (h : Ev te σ H (.str n)) : EvP K te σ H (.str n) := fun H1 e Q q => h H1 e Q fun H2 e2 => q _ H2 e2 (.str n)
theorem ep_non (h : Ev te σ H .non) : EvP K te σ H .none := fun H1 e Q q => h H1 e Q fun H2 e2 => q _ H2 e2 .non
theorem ep_bl {b : Bool} (h : Ev te σ H (.bl b)) : EvP K te σ H (.bool b) := fun H1 e Q q => h H1 e Q fun H2 e2 => q _ H2 e2 (.bl b)
theorem ep_tupI {ns : List Int} (h : EvU te σ H (ns.map V.int)) : EvP K te σ H (.tuple (ns.map PyData.int)) := fun H1 e Q q => h H1 e Q fun p H2 hp e2 h2 => q _ H2 e2 (.tup (st_of h2) (dp_ints ns))
theorem ep_lstI {ns : List Int} (h : EvL te σ H (ns.map V.int)) : EvP K te σ H (.list (ns.map PyData.int)) := fun H1 e Q q => h H1 e Q fun p H2 hp e2 h2 => q _ H2 e2 (.lst (sq_of h2) (dp_ints ns))
theorem ep_var {v : V} (h : σ[i]? = some (some v)) (hd : Dp K H v d) : EvP K (tVar i) σ H d := fun H1 e Q q => ⟨v, h, q v H1 (Ex.refl _) (dp_ex e d v hd)⟩
theorem ep_if {b : Bool} (h : EvT t σ H b) (h1 : b = true → EvP K ta σ H d) (h2 : b = false → EvP K tb σ H d) : EvP K (tIf t ta tb) σ H d := fun H1 e Q q => h H1 e _ fun H2 e2 => by
  cases b with
  | true => exact h1 rfl H2 (e.trans e2) Q fun v H3 e3 hv => q v H3 (e2.trans e3) hv
  | false => exact h2 rfl H2 (e.trans e2) Q fun v H3 e3 hv => q v H3 (e2.trans e3) hv
theorem ep_is (h : EvP K te σ H d) (e : d = d') : EvP K te σ H d' := e ▸ h
theorem ev_neP (h1 : EvP K ta σ H d) (h2 : EvP K tb σ H d') (s1 : SeqAt.shaped d = true) (s2 : SeqAt.shaped d' = true) : Ev (tOp (rNeD K) ta tb) σ H (.bl (!PyData.eqv d d')) := fun H1 e Q q =>
  h1 H1 e _ fun v H2 e2 hv => h2 H2 (e.trans e2) _ fun w H3 e3 hw => ⟨d, d', dp_ex e3 d v hv, hw, s1, s2, q H3 (e2.trans e3)⟩
theorem ev_eqP (h1 : EvP K ta σ H d) (h2 : EvP K tb σ H d') (s1 : SeqAt.shaped d = true) (s2 : SeqAt.shaped d' = true) : Ev (tOp (rEqD K) ta tb) σ H (.bl (PyData.eqv d d')) := fun H1 e Q q =>
  h1 H1 e _ fun v H2 e2 hv => h2 H2 (e.trans e2) _ fun w H3 e3 hw => ⟨d, d', dp_ex e3 d v hv, hw, s1, s2, q H3 (e2.trans e3)⟩
theorem q_asgP (h : EvP K te σ H d) (k : ∀ v H1, Ex H H1 → Dp K H1 v d → tu D (σ.set i (some v)) H1) : tSeq (tAsg te (gName i)) tu D σ H := h H (Ex.refl _) _ k
theorem shaped_int (n : Int) : SeqAt.shaped (.int n) = true := rfl
theorem shaped_tl (ns : List Int) : SeqAt.shaped (.tuple (ns.map PyData.int)) = true := by
  have h1 : ∀ ns : List Int, PyData.canLayAll0 (ns.map PyData.int) = true := fun ns => by
    induction ns with
    | nil => rfl
    | cons n r ih => simp only [List.map_cons, PyData.canLayAll0, PyData.canLay0, ih]; rfl
  have h2 : ∀ ns : List Int, PyData.depthAll (ns.map PyData.int) = 0 := fun ns => by
    induction ns with
    | nil => rfl
    | cons n r ih => simp only [List.map_cons, PyData.depthAll, PyData.depth, ih]; rfl
  unfold SeqAt.shaped
  simp only [PyData.canLay0, h1, PyData.depth, h2]
  decide
theorem eqv_int (n : Int) : PyData.eqv (.int n) (.int n) = true := by simp [PyData.eqv]
theorem eqv_str (n : Str) : PyData.eqv (.str n) (.str n) = true := by simp [PyData.eqv]
theorem eqv_tl (ns : List Int) : PyData.eqv (.tuple (ns.map PyData.int)) (.tuple (ns.map PyData.int)) = true := by
  have := PySem.W.ked_eqvAll ns ns
  simp only [PyData.eqv, this]
  simp
theorem eqv_ll (ns : List Int) : PyData.eqv (.list (ns.map PyData.int)) (.list (ns.map PyData.int)) = true := by
  have := PySem.W.ked_eqvAll ns ns
  simp only [PyData.eqv, this]
  simp
end
/-! ### a call whose exception is caught and named -/
section
variable {K : PySem.W.Frag} {mg : Str → Option Value} {x : ExA} {σ : L2.St} {H : Hp} {Q : VK} {n : Nat} {tb : WX → TS} {te : TE}
theorem ev_error {i : Nat} {p : Addr} {j : Nat} {E : XK} (hj : σ[j]? = some (some (.ref p))) (hi : i < 5) (hp : H p = some (ExK (.ref (x.at i)) p)) : Ev (tCall (sp_law_error x) [] E (tCons (tVar j) tNil)) σ H (.str (exName i)) := fun H1 e Q q =>
  ⟨.ref p, hj, p, i, rfl, hi, e _ _ hp, q⟩
/-- caught = None; try: .. except DigitError as e: caught = e; return te if caught is None else _law_error(caught) -/
theorem s_catch (T : ExT K mg x) {D : Ends} {c : Nat} (hc : c + 1 < σ.length)
    (hb : ∀ (W : WX) (nx : L2.St → Hp → Prop), (∀ σ' H', σ'.length = σ.length → σ'[c]? = some (some .non) → (∃ v, Ev te σ' H' v ∧ ∀ H'', Ex H' H'' → D.rt v H'') → nx σ' H') → (∀ i σ' H', i < 5 → σ'.length = σ.length → (∀ H'', Ex H' H'' → D.rt (.str (exName i)) H'') → W (.ref (x.at i)) none σ' H') →
      tb W { D with nx := nx } (σ.set c (some .non)) H) :
    tSeq (tAsg (tC .non) (gName c)) (tSeq (tTryK K (.ref x.de) (c + 1) tb (tAsg (tVar (c + 1)) (gName c))) (tRet (tIf (tTest (tOp rIsN (tVar c) (tC .non))) te (tCall (sp_law_error x) [] E0 (tCons (tVar c) tNil))))) D σ H := by
  refine hb (wK K (.ref x.de) (c + 1) (tAsg (tVar (c + 1)) (gName c)) { D with nx := tRet (tIf (tTest (tOp rIsN (tVar c) (tC .non))) te (tCall (sp_law_error x) [] E0 (tCons (tVar c) tNil))) D }) (tRet (tIf (tTest (tOp rIsN (tVar c) (tC .non))) te (tCall (sp_law_error x) [] E0 (tCons (tVar c) tNil))) D) ?_ ?_
  · rintro σ' H' hl h0 ⟨v, hv, q⟩
    exact s_ret (ev_if (b := decide (V.non = .non)) (et_test (ev_op (ev_var h0) ev_c rv_isN)) (fun _ => hv) (fun hb => by simp at hb)) q
  · intro i σ' H' hi hl q
    refine ⟨rfl, T.exm i, fun a ha => ?_⟩
    refine ⟨.ref a, by rw [List.getElem?_set_self (by omega)], ?_⟩
    refine s_ret (v := .str (exName i)) (ev_if (b := decide (V.ref a = .non)) (et_test (ev_op (ev_var ?_) ev_c rv_isN)) (fun hb => by simp at hb) (fun _ => ev_error (p := a) ?_ hi upd_same)) fun H'' e => q H'' ((Ex.new ha).trans e)
    · rw [List.getElem?_set_ne (by omega), List.getElem?_set_self (by rw [List.length_set]; omega)]
    · rw [List.getElem?_set_ne (by omega), List.getElem?_set_self (by rw [List.length_set]; omega)]
end
theorem exT_of {K : PySem.W.Frag} {h : Heap} {mg : Str → Option Value} {de bn bb bc bt nf : Addr} (X : K.In h) (G : h.Ns mainGlobals mg) (a_de : PySem.W.nsIn K mainGlobals "DigitError" = some (some (.ref de))) (a_bn : PySem.W.nsIn K mainGlobals "BadNumber" = some (some (.ref bn))) (a_bb : PySem.W.nsIn K mainGlobals "BadBeginning" = some (some (.ref bb))) (a_bc : PySem.W.nsIn K mainGlobals "BadCount" = some (some (.ref bc))) (a_bt : PySem.W.nsIn K mainGlobals "BadText" = some (some (.ref bt))) (a_nf : PySem.W.nsIn K mainGlobals "NotFound" = some (some (.ref nf)))
    (gve : mg "ValueError" = none) (f_bn : ExF K bn de) (f_bb : ExF K bb de) (f_bc : ExF K bc de) (f_bt : ExF K bt de) (f_nf : ExF K nf de)
    (tb : PySem.W.subIn K (.ref de) (.type "BaseException") = some true) (tt : PySem.W.typeIn K (.ref de) = some (.type "type")) (ti : PySem.W.isClsIn K de = true)
    (s00 : PySem.W.subIn K (.ref bn) (.ref bn) = some true) (s01 : PySem.W.subIn K (.ref bn) (.ref bb) = some false) (s02 : PySem.W.subIn K (.ref bn) (.ref bc) = some false) (s03 : PySem.W.subIn K (.ref bn) (.ref bt) = some false) (s04 : PySem.W.subIn K (.ref bn) (.ref nf) = some false) (s10 : PySem.W.subIn K (.ref bb) (.ref bn) = some false) (s11 : PySem.W.subIn K (.ref bb) (.ref bb) = some true) (s12 : PySem.W.subIn K (.ref bb) (.ref bc) = some false) (s13 : PySem.W.subIn K (.ref bb) (.ref bt) = some false) (s14 : PySem.W.subIn K (.ref bb) (.ref nf) = some false) (s20 : PySem.W.subIn K (.ref bc) (.ref bn) = some false) (s21 : PySem.W.subIn K (.ref bc) (.ref bb) = some false) (s22 : PySem.W.subIn K (.ref bc) (.ref bc) = some true) (s23 : PySem.W.subIn K (.ref bc) (.ref bt) = some false) (s24 : PySem.W.subIn K (.ref bc) (.ref nf) = some false) (s30 : PySem.W.subIn K (.ref bt) (.ref bn) = some false) (s31 : PySem.W.subIn K (.ref bt) (.ref bb) = some false) (s32 : PySem.W.subIn K (.ref bt) (.ref bc) = some false) (s33 : PySem.W.subIn K (.ref bt) (.ref bt) = some true) (s34 : PySem.W.subIn K (.ref bt) (.ref nf) = some false) (s40 : PySem.W.subIn K (.ref nf) (.ref bn) = some false) (s41 : PySem.W.subIn K (.ref nf) (.ref bb) = some false) (s42 : PySem.W.subIn K (.ref nf) (.ref bc) = some false) (s43 : PySem.W.subIn K (.ref nf) (.ref bt) = some false) (s44 : PySem.W.subIn K (.ref nf) (.ref nf) = some true) : ExT K mg ⟨de, bn, bb, bc, bt, nf⟩ :=
  ⟨PySem.W.mg_of X G a_de, PySem.W.mg_of X G a_bn, PySem.W.mg_of X G a_bb, PySem.W.mg_of X G a_bc, PySem.W.mg_of X G a_bt, PySem.W.mg_of X G a_nf, gve, f_bn, f_bb, f_bc, f_bt, f_nf, tb, tt, ti, fun i j hi hj => by
    rcases five hi with rfl | rfl | rfl | rfl | rfl <;> rcases five hj with rfl | rfl | rfl | rfl | rfl <;> assumption⟩
end FD

namespace FD
open PySem PySem.Spec PyProof.Rows L2 Evl TL
local macro_rules | `(tactic| walk_at "ev") => `(tactic| repeat' (first | (with_reducible exact ev_c) | ((with_reducible apply ev_var); rfl) | (with_reducible exact ea_nil) | (with_reducible apply ea_cons) | (with_reducible apply ev_op) | (with_reducible exact rv_I0) | (with_reducible apply rv_I) | (with_reducible exact rv_eqI) | (with_reducible exact rv_neI) | (with_reducible exact rv_eqS) | (with_reducible apply ev_ok) | (with_reducible apply ev_cb) | (with_reducible apply spv_I1) | (with_reducible apply spv_I2) | (with_reducible apply spv_I3) | (with_reducible apply et_test) | (with_reducible apply et_B) | (with_reducible apply et_not) | (with_reducible apply ev_notV) | (with_reducible apply ev_un) | (with_reducible exact ru_negI) | (with_reducible exact rc_max2) | (with_reducible exact rc_min2) | (with_reducible exact rv_isB) | (with_reducible exact rv_notB) | (with_reducible exact rv_isN) | (with_reducible exact rv_notN) | (with_reducible apply ev_chainI) | (with_reducible exact rc_isiI) | (with_reducible exact rc_isiB)))
/-! ### lists: more -/
theorem cutV_take (xs : List V) (n : Nat) : cutV xs none (some (n : Int)) = xs.take n := by
  unfold cutV
  have h1 : HT.sIx xs.length xs.length (some (n : Int)) = min n xs.length := HT.sIx_nat xs.length _ n
  rw [h1, HT.sIx_none, List.drop_zero, Nat.sub_zero]
  by_cases h : n ≤ xs.length
  · rw [Nat.min_eq_left h]
  · rw [Nat.min_eq_right (by omega), List.take_of_length_le (by omega), List.take_of_length_le (by omega)]
theorem rgI_pairwise (a b : Int) : (rgI a b).Pairwise (· < ·) := by
  unfold rgI
  rw [List.pairwise_map]
  exact List.Pairwise.imp (fun h => by omega) List.pairwise_lt_range
theorem filter_pairwise (p : Int → Bool) (a b : Int) : ((rgI a b).filter p).Pairwise (· < ·) := List.Pairwise.filter _ (rgI_pairwise a b)
theorem pw_nodup {l : List Int} (h : l.Pairwise (· < ·)) : l.Nodup := List.Pairwise.imp (fun h e => by omega) h
/-- the k-th of a filtered range -/
theorem filter_nth {p : Int → Bool} {a m z : Int} {k : Nat} (h : ((rgI a m).filter p)[k]? = some z) : p z = true ∧ a ≤ z ∧ z < m ∧ cntR p a (z + 1) = k + 1 := by
  have hm := List.mem_of_getElem? h
  rw [List.mem_filter, mem_rgI] at hm
  obtain ⟨⟨h1, h2⟩, h3⟩ := hm
  refine ⟨h3, h1, h2, ?_⟩
  have e : (rgI a m).filter p = (rgI a z).filter p ++ z :: (rgI (z + 1) m).filter p := by
    rw [rgI_append (a := a) (b := z) (c := m) h1 (by omega), rgI_cons (a := z) (b := m) h2, List.filter_append, List.filter_cons, if_pos h3]
  have hi : ((rgI a m).filter p)[((rgI a z).filter p).length]? = some z := by rw [e]; simp
  have hk := (List.getElem?_inj (List.getElem?_eq_some_iff.mp h).1 (pw_nodup (filter_pairwise p a m))).mp (h.trans hi.symm)
  rw [cntR_eq, rgI_snoc h1, List.filter_append, List.length_append, hk]
  simp [h3]
theorem filter_ge_len {p : Int → Bool} {l n : Int} (hl : 1 ≤ l) : (((rgI 1 (n + 1)).filter p).filter fun z => decide (l ≤ z)).length = cntR p l (n + 1) := by
  rw [cntR_eq, List.filter_filter]
  by_cases h : l ≤ n + 1
  · rw [rgI_append (a := 1) (b := l) (c := n + 1) hl h, List.filter_append, filter_false (l := rgI 1 l)]
    · rw [List.nil_append]
      congr 2
      apply List.filter_congr
      intro z hz
      rw [mem_rgI] at hz
      rw [decide_eq_true hz.1, Bool.true_and]
    · intro z hz
      rw [mem_rgI] at hz
      rw [decide_eq_false (show ¬ l ≤ z by omega), Bool.false_and]
  · rw [rgI_nil (a := l) (by omega), filter_false (l := rgI 1 (n + 1))]
    · rfl
    · intro z hz
      rw [mem_rgI] at hz
      rw [decide_eq_false (show ¬ l ≤ z by omega), Bool.false_and]
/-- the last of an ascending list -/
theorem last_max {l : List Int} {y z : Int} (h : (l ++ [y]).Pairwise (· < ·)) (hz : z ∈ l ++ [y]) : z ≤ y := by
  rw [List.pairwise_append] at h
  rw [List.mem_append, List.mem_singleton] at hz
  rcases hz with hz | hz
  · have := h.2.2 z hz y (by simp); omega
  · omega
theorem snoc_of {l : List Int} (h : l ≠ []) : ∃ l' y, l = l' ++ [y] := ⟨l.dropLast, l.getLast h, (List.dropLast_concat_getLast h).symm⟩
section
variable {K : PySem.W.Frag} {σ : L2.St} {H : Hp} {ta tb te : TE}
theorem ev_lenNL {xs : List V} (h : EvL te σ H xs) : Ev (tCB (rLenSeq K) (tCons te tNil)) σ H (.int (xs.length : Int)) := fun H1 e Q q =>
  h H1 e _ fun p H2 hp e2 h2 => ⟨p, xs, rfl, .inl (sq_of h2), q H2 e2⟩
theorem ev_lenVL {p : Addr} {xs : List V} (h : Ev te σ H (.ref p)) (hp : H p = some (.lst xs)) : Ev (tCB (rLenSeq K) (tCons te tNil)) σ H (.int (xs.length : Int)) := fun H1 e Q q =>
  h H1 e _ fun H2 e2 => ⟨p, xs, rfl, .inl (sq_of ((e.trans e2) _ _ hp)), q H2 e2⟩
theorem ev_lastL {p : Addr} {l : List Int} {y : Int} (h : Ev te σ H (.ref p)) (hp : H p = some (.lst ((l ++ [y]).map V.int))) : Ev (tOp (rIxL K) te (tUn rNeg (tC (.int 1)))) σ H (.int y) :=
  ev_op (y := .int (-1)) h (ev_un ev_c ru_negI) (rv_ixL (sq_of hp) (by rw [List.map_append]; exact atI_last _ _))
theorem Dr.upd {d nn p : Addr} {H : Hp} {o : HO} (h : Dr d nn H) (h1 : p ≠ d) (h2 : p ≠ nn) : Dr d nn (L2.upd H p o) := by
  obtain ⟨ns, c, a1, a2, a3⟩ := h
  exact ⟨ns, c, by rw [upd_ne h1.symm]; exact a1, by rw [upd_ne h2.symm]; exact a2, a3⟩
end
section
variable {d nn : Addr} {σ : L2.St} {H : Hp} {E : XK}
/-- a draw below a picked limit -/
theorem ed_drawP {i : Nat} {Ls : List Int} {M : Int} {ta : TA} (hi : σ[i]? = some (some (.ref d))) (ha : EvDA d nn ta σ H fun vs => vs = Ls.map V.int) (h0 : 0 < Ls.length) (h1 : Ls.length ≤ 1000) (hM : M ≤ 1000000000000) (hL : ∀ L ∈ Ls, 0 < L ∧ L ≤ M) :
    EvD d nn (tCall sp_law_draw [] E (tCons (tVar i) (tCons (tCall sp_law_pick [] E (tCons (tVar i) (tCons (tLst ta) tNil))) tNil))) σ H (fun x => ∃ r : Int, x = .int r ∧ 0 ≤ r ∧ r < M) := by
  refine ed_draw (ed_pick hi (edl_lst ha ?_) ?_) hi
  · rintro _ rfl
    rw [List.length_map]; omega
  · rintro _ rfl
    refine ⟨by rw [List.length_map]; exact h0, by rw [List.length_map]; omega, fun x hx => ?_⟩
    rw [List.mem_map] at hx
    obtain ⟨L, hm, rfl⟩ := hx
    have := hL L hm
    exact ⟨L, rfl, lim_small this.1 (by omega), fun r r0 r1 => ⟨r, rfl, r0, by omega⟩⟩
theorem eda_c {ta : TA} {n : Int} {ns : List Int} (h : EvDA d nn ta σ H fun vs => vs = ns.map V.int) : EvDA d nn (tCons (tC (.int n)) ta) σ H fun vs => vs = (n :: ns).map V.int := fun H1 g Q q =>
  eda_cons ed_c h H1 g Q fun vs H2 hv g2 => by
    obtain ⟨_, _, rfl, rfl, rfl⟩ := hv
    exact q _ H2 rfl g2
theorem eda_0 : EvDA d nn tNil σ H fun vs => vs = ([] : List Int).map V.int := fun H1 g Q q => q [] H1 rfl (.refl g.dr)
end
section
variable {K : PySem.W.Frag} {σ : L2.St} {H : Hp} {t : TT} {ta tb te : TE} {j : Nat} {vs : List Nat} {d nn : Addr} {E : XK}
/-- [e for x in range(n) if ..], n of any sign -/
theorem el_lcR1f {tr : TA} {n : Int} (p : Int → Bool) (v : Int → V) (h : EvA tr σ H [.int n]) (hn : -100000 ≤ n ∧ n ≤ 40000) (hw : ∀ x, wipe ((wipe σ vs).set j (some x)) vs = wipe σ vs)
    (ht : ∀ z H1, Ex H H1 → 0 ≤ z → z < n → EvT t ((wipe σ vs).set j (some (.int z))) H1 (p z)) (he : ∀ z H1, Ex H H1 → 0 ≤ z → z < n → p z = true → Ev te ((wipe σ vs).set j (some (.int z))) H1 (v z)) :
    EvL (tLc (iRng1 tr) (gName j) t te vs) σ H (((rgI 0 n).filter p).map v) := fun H0 e Q q => h H0 e _ fun H1 e1 => ⟨n, rfl, by omega, by omega, fun Dl hD =>
  lc_range (lo := 0) (n := n.toNat) (Cw H1 (fun i => p (0 + (i : Nat))) (fun i => v (0 + (i : Nat))) Dl) ⟨hD, Ex.new hD, upd_same⟩ (fun i H' hi p' =>
    ⟨hw _, cw_turn p' (by omega) (ht _ H1 (e.trans e1) (by omega) (by omega)) (fun hf => he _ H1 (e.trans e1) (by omega) (by omega) hf)⟩) (fun H' p' => by
      obtain ⟨p1, p2, p3⟩ := p'
      have := given_rg (a := 0) (b := n) p v
      rw [Int.sub_zero] at this
      rw [this] at p3
      exact q Dl H' (fresh_back e1 p1) (e1.trans p2) p3)⟩
theorem ev_maxV {p : Addr} {ns : List Int} {z : Int} (h : Ev te σ H (.ref p)) (hp : H p = some (.lst (ns.map V.int))) (hz : z ∈ ns) (hm : ∀ y ∈ ns, y ≤ z) : Ev (tCB (rMax K) (tCons te tNil)) σ H (.int z) := fun H1 e Q q =>
  h H1 e _ fun H2 e2 => ⟨p, ns, rfl, sq_of ((e.trans e2) _ _ hp), List.length_pos_of_mem hz, fun m h1 h2 => by
    have e : m = z := by have := hm m h1; have := h2 z hz; omega
    rw [e]; exact q H2 e2⟩
theorem ed_call {sp : Sp} {tr : TA} {R : List V → Prop} {P : V → Prop} (h : EvDA d nn tr σ H R) (k : ∀ us H', R us → ∃ z, P z ∧ SpV sp us H' z) : EvD d nn (tCall sp [] E tr) σ H P := fun H1 g Q q =>
  h H1 g _ fun us H2 hu g2 => by
    obtain ⟨z, hz, hs⟩ := k us H2 hu
    show sp (us ++ []) H2 Q E
    rw [List.append_nil]
    exact hs H2 (Ex.refl _) Q (fun H3 e3 => q z H3 hz (g2.ex e3)) E
theorem ev_ixV {p : Addr} {xs : List V} {i : Int} {v : V} (h1 : Ev ta σ H (.ref p)) (hp : H p = some (.lst xs)) (h2 : Ev tb σ H (.int i)) (ha : atI xs i = some v) : Ev (tOp (rIxL K) ta tb) σ H v := ev_op h1 h2 (rv_ixL (sq_of hp) ha)
theorem atI_int {l : List Int} {i : Int} {z : Int} (h0 : 0 ≤ i) (h : l[i.toNat]? = some z) : atI (l.map V.int) i = some (.int z) := by
  obtain ⟨j, rfl⟩ := Int.eq_ofNat_of_zero_le h0
  apply atI_nat
  rw [List.getElem?_map]
  rw [Int.toNat_natCast] at h
  rw [h]; rfl
end
/-- the greatest, and where it first stands -/
structure MaxAt (l : List Int) (m : Int) (j : Nat) : Prop where
  at_ : l[j]? = some m
  mx : ∀ y ∈ l, y ≤ m
  fst : ∀ (i : Nat), i < j → l[i]? ≠ some m
theorem MaxAt.mem {l : List Int} {m : Int} {j : Nat} (h : MaxAt l m j) : m ∈ l := List.mem_of_getElem? h.at_
theorem MaxAt.inj {l : List Int} {m m' : Int} {j j' : Nat} (h : MaxAt l m j) (h' : MaxAt l m' j') : m = m' ∧ j = j' := by
  have e : m = m' := by have := h.mx m' h'.mem; have := h'.mx m h.mem; omega
  subst e
  refine ⟨rfl, ?_⟩
  by_cases h1 : j < j'
  · exact absurd h.at_ (h'.fst j h1)
  · by_cases h2 : j' < j
    · exact absurd h'.at_ (h.fst j' h2)
    · omega
theorem max_ex : ∀ {l : List Int}, l ≠ [] → ∃ m, m ∈ l ∧ ∀ y ∈ l, y ≤ m
  | [], h => absurd rfl h
  | [x], _ => ⟨x, by simp, by simp⟩
  | x :: y :: r, _ => by
    obtain ⟨m, hm, hx⟩ := max_ex (l := y :: r) (by simp)
    by_cases h : m ≤ x
    · refine ⟨x, by simp, fun z hz => ?_⟩
      rw [List.mem_cons] at hz
      rcases hz with rfl | hz
      · exact Int.le_refl _
      · have := hx z hz; omega
    · refine ⟨m, List.mem_cons_of_mem _ hm, fun z hz => ?_⟩
      rw [List.mem_cons] at hz
      rcases hz with rfl | hz
      · omega
      · exact hx z hz
theorem first_at : ∀ {l : List Int} {m : Int}, m ∈ l → ∃ j : Nat, l[j]? = some m ∧ ∀ (i : Nat), i < j → l[i]? ≠ some m
  | [], _, h => by cases h
  | x :: r, m, h => by
    by_cases e : x = m
    · exact ⟨0, by rw [e]; rfl, fun i hi => by omega⟩
    · rw [List.mem_cons] at h
      rcases h with h | h
      · exact absurd h.symm e
      · obtain ⟨j, h1, h2⟩ := first_at h
        refine ⟨j + 1, by simpa using h1, fun i hi => ?_⟩
        cases i with
        | zero => simpa using e
        | succ i => simpa using h2 i (by omega)
theorem MaxAt.ex {l : List Int} (h : l ≠ []) : ∃ m j, MaxAt l m j := by
  obtain ⟨m, hm, hx⟩ := max_ex h
  obtain ⟨j, h1, h2⟩ := first_at hm
  exact ⟨m, j, h1, hx, h2⟩
theorem eqV_int (a b : Int) : eqV (.int a) (.int b) = decide (a = b) := by
  show (a == b) = _
  by_cases h : a = b
  · subst h; simp
  · simp [h]
section
variable {K : PySem.W.Frag} {σ : L2.St} {H : Hp} {ta tb te : TE}
theorem ev_indexI {l : List Int} {p : Addr} {m : Int} {j : Nat} (h1 : Ev ta σ H (.ref p)) (hp : H p = some (.lst (l.map V.int))) (h2 : Ev tb σ H (.int m)) (hj : l[j]? = some m) (hb : ∀ (i : Nat), i < j → l[i]? ≠ some m) : Ev (tBM K "list" rIndexV ta (tCons tb tNil)) σ H (.int (j : Int)) :=
  ev_indexV h1 hp h2 rfl (flat_ints l) ⟨.int m, by rw [List.getElem?_map, hj]; rfl, by rw [eqV_int]; simp⟩ fun i z hi hz => by
    rw [List.getElem?_map] at hz
    cases hq : l[i]? with
    | none => rw [hq] at hz; cases hz
    | some y =>
      rw [hq] at hz
      have e : z = .int y := (Option.some.inj hz).symm
      rw [e, eqV_int]
      exact decide_eq_false fun e => hb i hi (by rw [hq, e])
theorem ev_countI {l : List Int} {p : Addr} {m : Int} (h1 : Ev ta σ H (.ref p)) (hp : H p = some (.lst (l.map V.int))) (h2 : Ev tb σ H (.int m)) : Ev (tBM K "list" rCountV ta (tCons tb tNil)) σ H (.int ((l.filter fun z => decide (z = m)).length : Int)) :=
  ev_countV h1 hp h2 rfl (flat_ints l) (by
    rw [List.countP_map, List.countP_eq_length_filter]
    congr 1)
end
/-- a filter by a convex test is a stretch -/
theorem filter_convex {p : Int → Bool} {a b x : Int} {r : List Int} (hc : ∀ x y z, x ≤ y → y ≤ z → p x = true → p z = true → p y = true) (h : (rgI a b).filter p = x :: r) : (rgI a b).filter p = rgI x (x + ((rgI a b).filter p).length) := by
  have hh := filter_head h
  have hne : (rgI a b).filter p ≠ [] := by rw [h]; simp
  obtain ⟨l', y, hl⟩ := snoc_of hne
  have hy : y ∈ (rgI a b).filter p := by rw [hl]; simp
  rw [List.mem_filter, mem_rgI] at hy
  have hxy := hh.2.2.2 y hy.1.1 hy.1.2 hy.2
  have e : (rgI a b).filter p = rgI x (y + 1) := rgI_filter (by omega) (by omega) (by omega) fun z h1 h2 => by
    constructor
    · intro hz
      refine ⟨hh.2.2.2 z h1 h2 hz, ?_⟩
      have := last_max (l := l') (y := y) (z := z) (by rw [← hl]; exact filter_pairwise p a b) (by rw [← hl, List.mem_filter, mem_rgI]; exact ⟨⟨h1, h2⟩, hz⟩)
      omega
    · rintro ⟨h3, h4⟩
      exact hc x z y h3 (by omega) hh.1 hy.2
  rw [e, rgI_length]
  congr 1
  omega
end FD

namespace FD
open PySem PySem.Spec PyProof.Rows L2 Evl TL
local macro_rules | `(tactic| walk_at "ev") => `(tactic| repeat' (first | (with_reducible exact ev_c) | ((with_reducible apply ev_var); rfl) | (with_reducible exact ea_nil) | (with_reducible apply ea_cons) | (with_reducible apply ev_op) | (with_reducible exact rv_I0) | (with_reducible apply rv_I) | (with_reducible exact rv_eqI) | (with_reducible exact rv_neI) | (with_reducible exact rv_eqS) | (with_reducible apply ev_ok) | (with_reducible apply ev_cb) | (with_reducible apply spv_I1) | (with_reducible apply spv_I2) | (with_reducible apply spv_I3) | (with_reducible apply et_test) | (with_reducible apply et_B) | (with_reducible apply et_not) | (with_reducible apply ev_notV) | (with_reducible apply ev_un) | (with_reducible exact ru_negI) | (with_reducible exact rc_max2) | (with_reducible exact rc_min2) | (with_reducible exact rv_isB) | (with_reducible exact rv_notB) | (with_reducible exact rv_isN) | (with_reducible exact rv_notN) | (with_reducible apply ev_chainI) | (with_reducible exact rc_isiI) | (with_reducible exact rc_isiB)))
/-! ### squares.py -/
theorem log_ten {i : Int} (h0 : 0 ≤ i) (h1 : i < tenI 1000) : i.natAbs.log2 < 9000 := by
  by_cases hz : i = 0
  · subst hz; decide
  · rw [Nat.log2_lt (by omega)]
    rw [tenI_nat] at h1
    have h2 : i.natAbs < 10 ^ 1000 := by
      have : ((1000 : Int).toNat) = 1000 := rfl
      rw [this] at h1
      omega
    exact Nat.lt_of_lt_of_le h2 (by decide +kernel)
theorem mulOk_ten {i j : Int} (h0 : 0 ≤ i) (h1 : i < tenI 1000) (h2 : 0 ≤ j) (h3 : j < tenI 1000) : IntMulOk i j := CMulW.ok (by
  have a := log_ten h0 h1
  have b := log_ten h2 h3
  show i.natAbs.log2 + j.natAbs.log2 < 1000000
  omega)
theorem eu_sq {σ : L2.St} {H : Hp} {te : TE} {n : Int} (h : Ev te σ H (.int n)) (h0 : 0 ≤ n) (h1 : n ≤ 100000) : EvU (tTup (tCons (tOp rMulX te te) (tCons (tC (.int 1)) tNil))) σ H [.int (n * n), .int 1] :=
  eu_tup (ea_cons (ev_op h h (rv_I (mulOk_l (by omega) (by omega)))) (ea_cons ev_c ea_nil)) (by simp)
theorem q_parLS {σ : L2.St} {H : Hp} {te : TE} {tu : TS} {D : Ends} {i j : Nat} {qs : List (Int × Int)} (h : EvS te σ H qs) (k : ∀ pf pu rs H1, H pf = none → pf ≠ pu → Ex H H1 → H1 pf = some (.lst []) → H1 pu = some (.lst (rs.map V.ref)) → PrsAt H1 rs qs → tu D ((σ.set i (some (.ref pf))).set j (some (.ref pu))) H1) : tSeq (tPar i j (tCons (tLst tNil) (tCons te tNil))) tu D σ H :=
  ⟨Nat.zero_le _, fun pf hpf => h (upd H pf (.lst [])) (Ex.new hpf) _ fun pu rs H2 hpu e2 hu hr => ⟨_, _, rfl, k pf pu rs H2 hpf (ne_of_none upd_same hpu) ((Ex.new hpf).trans e2) (e2 _ _ upd_same) hu hr⟩⟩
abbrev sp_squares : Sp := spL2 (fun b m => BegC b ∧ 1 ≤ m ∧ m ≤ 3) (fun b m => (prodL b b m).map V.int)
def rd_squares (K : PySem.W.Frag) : TS :=
      (tSeq (tDrop (tCall (sp_check_beginning) [] E0 (tCons (tVar 0) tNil)))
      (tSeq (tDrop (tCall (sp_check_count) [] E0 (tCons (tVar 1) (tCons (tC (.int 1)) (tCons (tC (.int 3)) tNil)))))
      (tRet (tCall (sp_all_meeting) [] E0 (tCons (tTup (tCons (tOp rMulX (tVar 0) (tVar 0)) (tCons (tC (.int 1)) tNil))) (tCons (tTup (tCons (tOp rMulX (tOp rAddI (tVar 0) (tC (.int 1))) (tOp rAddI (tVar 0) (tC (.int 1)))) (tCons (tC (.int 1)) tNil))) (tCons (tVar 1) tNil)))))))
def N_squares : List Str := ["beginning", "many"]
theorem pure_squares {K : PySem.W.Frag} (vs : List V) (H : Hp) (Q : VK) (E : XK) (h : sp_squares vs H Q E) : rd_squares K { nx := fun _ H' => Q .non H', rt := Q } (start N_squares vs) H := by
  match vs, h with
  | [a, b], h =>
    obtain ⟨b, m, rfl, rfl, ⟨hb, m0, m1⟩, q⟩ := h
    have hb0 := hb.lo
    have hb1 := hb.hi
    unfold rd_squares
    refine q_drop (v := .non) (by walk_at "ev"; exact hb) fun H1 e1 => ?_
    refine q_drop (v := .non) (by walk_at "ev"; exact ⟨m0, m1⟩) fun H2 e2 => ?_
    exact c_UUV (l := pbL b b) (h := pbH b b) (v := .int m) (eu_sq (ev_var rfl) (by omega) (by omega)) (eu_sq (ev_op (ev_var rfl) ev_c rv_I0) (by omega) (by omega)) (ev_var rfl) fun pl ph H4 e4 hl hh => ⟨pl, ph, _, _, m, rfl, rfl, rfl, hl, hh, ⟨m0, by omega, (by decide : (0 : Int) ≤ 1), (by decide : (0 : Int) ≤ 1)⟩, fun p H5 hp e5 h5 => q p H5 (fresh_back ((e1.trans e2).trans e4) hp) (((e1.trans e2).trans e4).trans e5) h5⟩
/-- the beginnings of so many digits whose squares meet b -/
def rootL (b m : Int) : List Int := (rgI (tenI (m - 1)) (tenI m)).filter fun o => prodB o o b
abbrev sp_roots : Sp := spL2 (fun b m => BegC b ∧ 1 ≤ m ∧ m ≤ 3) (fun b m => (rootL b m).map V.int)
def rd_roots (K : PySem.W.Frag) : TS :=
      (tSeq (tDrop (tCall (sp_check_beginning) [] E0 (tCons (tVar 0) tNil)))
      (tSeq (tDrop (tCall (sp_check_count) [] E0 (tCons (tVar 1) (tCons (tC (.int 1)) (tCons (tC (.int 3)) tNil)))))
      (tSeq (tPar 2 3 (tCons (tLst tNil) (tCons (tCall (sp_scales) [] E0 tNil) tNil)))
      (tSeq (tFor (iRng2 (tCons (tCall (sp_ten_to) [] E0 (tCons (tOp rSubI (tVar 1) (tC (.int 1))) tNil)) (tCons (tCall (sp_ten_to) [] E0 (tCons (tVar 1) tNil)) tNil))) (gName 4)
        (tSeq (tAsg (tTup (tCons (tTup (tCons (tOp rMulX (tVar 4) (tVar 4)) (tCons (tC (.int 1)) tNil))) (tCons (tTup (tCons (tOp rMulX (tOp rAddI (tVar 4) (tC (.int 1))) (tOp rAddI (tVar 4) (tC (.int 1)))) (tCons (tC (.int 1)) tNil))) tNil))) (gTup K 2 (gCons (gName 5) (gCons (gName 6) gNil))))
      (tIfS (tB (tCB (rAny K) (tCons (tLc (iList K (tVar 3)) (gName 7) tYes (tCall (sp_crosses) [] E0 (tCons (tVar 5) (tCons (tVar 6) (tCons (tVar 0) (tCons (tOp rAddI (tVar 0) (tC (.int 1))) (tCons (tVar 7) tNil)))))) [7]) tNil)))
        (tDrop (tBM K "list" rAppend (tVar 2) (tCons (tVar 4) tNil)))
        tNext)))
      (tRet (tVar 2))))))
def N_roots : List Str := ["beginning", "many", "found", "used", "one", "low", "high", "scale"]
theorem pure_roots {K : PySem.W.Frag} (vs : List V) (H : Hp) (Q : VK) (E : XK) (h : sp_roots vs H Q E) : rd_roots K { nx := fun _ H' => Q .non H', rt := Q } (start N_roots vs) H := by
  match vs, h with
  | [a, b], h =>
    obtain ⟨b, m, rfl, rfl, ⟨hb, m0, m1⟩, q⟩ := h
    have hb0 := hb.lo
    have hb1 := hb.hi
    have f0 := tenI_pos (m - 1)
    have t0 := tenI_pos m
    have t1 : tenI m ≤ 10 ^ 3 := tenI_le (by omega)
    have ft := tenI_mono (a := m - 1) (b := m) (by omega)
    unfold rd_roots
    refine q_drop (v := .non) (by walk_at "ev"; exact hb) fun H1 e1 => ?_
    refine q_drop (v := .non) (by walk_at "ev"; exact ⟨m0, m1⟩) fun H2 e2 => ?_
    refine q_parLS es_scales fun pf pu rs H4 hpf hne e4 h4 hu hr => ?_
    show tSeq _ _ _ [some (.int b), some (.int m), some (.ref pf), some (.ref pu), none, none, none, none] H4
    refine q_forR2 (lo := tenI (m - 1)) (n := tenI m) (by walk_at "ev" <;> exact ⟨by omega, by omega⟩) (by omega) (fun i σ' H' => ∃ y4 y5 y6, σ' = [some (.int b), some (.int m), some (.ref pf), some (.ref pu), y4, y5, y6, none] ∧ Ex H2 H' ∧ H' pu = some (.lst (rs.map V.ref)) ∧ PrsAt H' rs scL ∧ H' pf = some (.lst (((rgI (tenI (m - 1)) (tenI (m - 1) + (i : Int))).filter fun o => prodB o o b).map V.int)))
      (fun H5 e5 => ⟨none, none, none, rfl, e4.trans e5, e5 _ _ hu, prs_ex e5 hr, by rw [rgI_nil (by omega)]; exact e5 _ _ h4⟩) (fun i σ' H' hi hp' => ?_) (fun σ' H' hp' => ?_)
    · obtain ⟨y4, y5, y6, rfl, e, hu', hr', hH⟩ := hp'
      obtain ⟨o, ho⟩ : ∃ o : Int, o = tenI (m - 1) + (i : Int) := ⟨_, rfl⟩
      rw [← ho]
      show tSeq _ _ _ [some (.int b), some (.int m), some (.ref pf), some (.ref pu), some (.int o), y5, y6, none] H'
      refine q_asgB (l := pbL o o) (h := pbH o o) (eb_tup (eu_sq (ev_var rfl) (by omega) (by omega)) (eu_sq (ev_op (ev_var rfl) ev_c rv_I0) (by omega) (by omega))) fun pl ph H5 e5 hl hh => ?_
      show tIfS _ _ _ _ [some (.int b), some (.int m), some (.ref pf), some (.ref pu), some (.int o), some (.ref pl), some (.ref ph), none] H5
      have hm := el_lcSA (K := K) (j := 7) (vs := [7]) (tl := tVar 3) (H := H5) (σ := [some (.int b), some (.int m), some (.ref pf), some (.ref pu), some (.int o), some (.ref pl), some (.ref ph), none]) (te := (tCall (sp_crosses) [] E0 (tCons (tVar 5) (tCons (tVar 6) (tCons (tVar 0) (tCons (tOp rAddI (tVar 0) (tC (.int 1))) (tCons (tVar 7) tNil)))))))
        (fun s => V.bl (cross (pbL o o) (pbH o o) b (b + 1) s)) (ev_var rfl) (e5 _ _ hu') (prs_ex e5 hr') (by rw [scL_len]; decide) (fun x => rfl) (fun r s H1' e' hs hr' =>
        ev_ok (vs := [.ref pl, .ref ph, .int b, .int (b + 1), .ref r]) (by walk_at "ev") (spv_crosses (e' _ _ hl) (e' _ _ hh) hr' (scL_ok hs) (by omega)))
      have hany := ev_any (K := K) (bs := scL.map fun s => cross (pbL o o) (pbH o o) b (b + 1) s) (by rw [List.map_map]; exact hm)
      rw [List.any_map] at hany
      have hsn : (rgI (tenI (m - 1)) (tenI (m - 1) + ((i + 1 : Nat) : Int))) = rgI (tenI (m - 1)) (tenI (m - 1) + (i : Int)) ++ [o] := by
        rw [show tenI (m - 1) + ((i + 1 : Nat) : Int) = tenI (m - 1) + (i : Int) + 1 by omega, ho]
        exact rgI_snoc (by omega)
      refine s_if (b := prodB o o b) (et_B hany) (fun hy H6 e6 => ?_) (fun hn H6 e6 => ?_)
      · have e56 := e5.trans e6
        refine s_app (v := .int o) (e56 _ _ hH) (ev_var rfl) (ev_var rfl) (by have := List.length_filter_le (fun o => prodB o o b) (rgI (tenI (m - 1)) (tenI (m - 1) + (i : Int))); rw [rgI_length] at this; rw [List.length_map]; omega) fun H7 e7 => ?_
        have e57 := e56.trans e7
        refine ⟨_, _, _, rfl, Ex.mut (e.trans e57) hpf, by rw [upd_ne hne.symm]; exact e57 _ _ hu', prs_upd (e57 _ _ hH) (prs_ex e57 hr'), ?_⟩
        rw [upd_same, hsn, List.filter_append, List.filter_cons, if_pos hy, List.map_append]
        rfl
      · have e56 := e5.trans e6
        refine ⟨_, _, _, rfl, e.trans e56, e56 _ _ hu', prs_ex e56 hr', ?_⟩
        rw [e56 _ _ hH, hsn, List.filter_append, List.filter_cons, if_neg (by rw [hn]; decide), List.filter_nil, List.append_nil]
    · obtain ⟨y4, y5, y6, rfl, e, hu', hr', hH⟩ := hp'
      rw [rgI_toNat] at hH
      exact ⟨.ref pf, rfl, q pf H' (fresh_back (e1.trans e2) hpf) ((e1.trans e2).trans e) hH⟩
/-- the least integer whose square is not below n -/
structure RootF (n r : Int) : Prop where
  r1 : 1 ≤ r
  lo : (r - 1) * (r - 1) < n
  hi : n ≤ r * r
theorem sq_le {a b : Int} (h0 : 0 ≤ a) (h : a ≤ b) : a * a ≤ b * b := Int.mul_le_mul h h h0 (by omega)
theorem sq_lt {a b : Int} (h0 : 0 ≤ a) (h : a < b) : a * a < b * b := by
  have h1 := sq_le (a := a + 1) (b := b) (by omega) (by omega)
  rw [Int.add_mul, Int.mul_add] at h1
  omega
theorem le_of_sq {a b : Int} (hb : 0 ≤ b) (h : a * a ≤ b * b) : a ≤ b := by
  by_cases hc : a ≤ b
  · exact hc
  · have := sq_lt hb (show b < a by omega)
    omega
theorem lt_of_sq {a b : Int} (hb : 0 ≤ b) (h : a * a < b * b) : a < b := by
  by_cases hc : a < b
  · exact hc
  · have := sq_le hb (show b ≤ a by omega)
    omega
theorem RootF.le {n r y : Int} (h : RootF n r) (hy : 0 ≤ y) (h1 : n ≤ y * y) : r ≤ y := by
  have h2 := h.lo
  by_cases hc : r ≤ y
  · exact hc
  · have := sq_le hy (show y ≤ r - 1 by omega)
    omega
theorem RootF.lt {n r y : Int} (h : RootF n r) (hy : 0 ≤ y) (h1 : y * y < n) : y < r := lt_of_sq (by have := h.r1; omega) (Int.lt_of_lt_of_le h1 h.hi)
theorem RootF.inj {n r r' : Int} (h : RootF n r) (h' : RootF n r') : r = r' := by
  have h1 := h.le (by have := h'.r1; omega) h'.hi
  have h2 := h'.le (by have := h.r1; omega) h.hi
  omega
theorem RootF.bd {n r : Int} (h : RootF n r) : r ≤ n := by
  have h1 := h.r1
  have h2 := h.lo
  have h3 := h.hi
  by_cases hc : r ≤ n
  · exact hc
  · have h4 := sq_le (a := n) (b := r - 1) (by
      have := Int.mul_nonneg (show 0 ≤ r - 1 by omega) (show 0 ≤ r - 1 by omega)
      omega) (by omega)
    have h5 : n * 1 ≤ n * n := Int.mul_le_mul_of_nonneg_left (by
      have := Int.mul_nonneg (show 0 ≤ r - 1 by omega) (show 0 ≤ r - 1 by omega)
      omega) (by
      have := Int.mul_nonneg (show 0 ≤ r - 1 by omega) (show 0 ≤ r - 1 by omega)
      omega)
    omega
abbrev sp_root_from : Sp := sp1 fun a H Q => ∃ n, a = .int n ∧ 1 ≤ n ∧ n < tenI 1000 ∧ ∀ r, RootF n r → ∀ H', Ex H H' → Q (.int r) H'
def rd_root_from (K : PySem.W.Frag) : TS :=
      (tSeq (tPar 1 2 (tCons (tC (.int 0)) (tCons (tVar 0) tNil)))
      (tSeq (tWhile (tTest (tOp rGtI (tOp rSubI (tVar 2) (tVar 1)) (tC (.int 1))))
        (tSeq (tAsg (tOp rDivW (tOp rAddI (tVar 1) (tVar 2)) (tC (.int 2))) (gName 3))
      (tIfS (tTest (tOp rLtI (tOp rMulX (tVar 3) (tVar 3)) (tVar 0)))
        (tAsg (tVar 3) (gName 1))
        (tAsg (tVar 3) (gName 2)))))
      (tRet (tVar 2))))
def N_root_from : List Str := ["number", "low", "high", "middle"]
theorem pure_root_from {K : PySem.W.Frag} (vs : List V) (H : Hp) (Q : VK) (E : XK) (h : sp_root_from vs H Q E) : rd_root_from K { nx := fun _ H' => Q .non H', rt := Q } (start N_root_from vs) H := by
  match vs, h with
  | [a], h =>
    obtain ⟨n, rfl, h1, h2, q⟩ := h
    obtain ⟨T, hT⟩ : ∃ T : Int, T = tenI 1000 := ⟨_, rfl⟩
    rw [← hT] at h2
    unfold rd_root_from
    refine q_par (v := .int 0) (w := .int n) (by walk_at "ev") fun H1 e1 => ?_
    have hn0 : n ≤ n * n := by
      have := Int.mul_le_mul_of_nonneg_left h1 (show 0 ≤ n by omega)
      omega
    refine q_while (fun k σ' H' => ∃ (l u : Int) (y : Option V), σ' = [some (.int n), some (.int l), some (.int u), y] ∧ k = (u - l).toNat ∧ 0 ≤ l ∧ l < u ∧ u ≤ n ∧ l * l < n ∧ n ≤ u * u ∧ Ex H H') n.toNat ⟨0, n, none, rfl, by omega, by omega, by omega, by omega, by omega, hn0, e1⟩ fun k σ' H' hw => ?_
    obtain ⟨l, u, y, rfl, rfl, hl, hlu, hu, hll, huu, e⟩ := hw
    refine ⟨decide (1 < u - l), et_test (by walk_at "ev"), fun hb H2 e2 => ?_, fun hb H2 e2 => ?_⟩
    · have hb := of_decide_eq_true hb
      refine ⟨_, fun σ2 H3 hN => hN, ?_⟩
      obtain ⟨mid, hmid⟩ : ∃ mid, mid = (l + u) / 2 := ⟨_, rfl⟩
      refine q_asg (v := .int mid) (by rw [hmid]; walk_at "ev"; exact ⟨by decide, by decide⟩) fun H3 e3 => ?_
      show tIfS _ _ _ _ [some (.int n), some (.int l), some (.int u), some (.int mid)] H3
      refine s_if (b := decide (mid * mid < n)) (et_test (by walk_at "ev"; exact mulOk_ten (by omega) (by omega) (by omega) (by omega))) (fun hb' H4 e4 => ?_) (fun hb' H4 e4 => ?_)
      · exact s_asg (ev_var rfl) fun H5 e5 => ⟨(u - mid).toNat, by omega, mid, u, _, rfl, rfl, by omega, by omega, hu, of_decide_eq_true hb', huu, (((e.trans e2).trans e3).trans e4).trans e5⟩
      · have := of_decide_eq_false hb'
        exact s_asg (ev_var rfl) fun H5 e5 => ⟨(mid - l).toNat, by omega, l, mid, _, rfl, rfl, by omega, by omega, by omega, hll, by omega, (((e.trans e2).trans e3).trans e4).trans e5⟩
    · have hb := of_decide_eq_false hb
      have e1 : u - 1 = l := by omega
      exact s_ret (v := .int u) (ev_var rfl) fun H3 e3 => q u ⟨by omega, by rw [e1]; exact hll, huu⟩ H3 ((e.trans e2).trans e3)
/-- a square of so many digits with a beginning -/
def hasQ (b c : Int) : Prop := ∃ r, RootF (stF b c) r ∧ r * r ≤ stL b c
theorem stF_pos {b c : Int} (hb : 1 ≤ b) : 1 ≤ stF b c := by
  have ht := tenI_pos (c - size b)
  have : 1 * 1 ≤ stF b c := Int.mul_le_mul hb (by omega) (by decide) (by omega)
  omega
theorem has_of {b c r : Int} (hb : 1 ≤ b) (h0 : size b ≤ c) (hc : 2 * size b + 1 ≤ c) (h : RootF (stF b c) r) : r * r ≤ stL b c := by
  rw [stL_eq]
  obtain ⟨k, hk⟩ : ∃ k, k = c - size b := ⟨_, rfl⟩
  rw [← hk]
  have h1 := h.lo
  have hr := h.r1
  have hF : stF b c = b * tenI k := by unfold stF; rw [hk]
  rw [hF] at h1 ⊢
  have hp := size_pos b
  have tk := tenI_pos k
  have hbl := lt_ten_size (n := b) (by omega)
  have hs : tenI (size b + 1) ≤ tenI k := tenI_mono (by omega)
  rw [tenI_succ (by omega)] at hs
  -- 2 (r - 1) < 10 ^ k
  have h2 : 2 * (r - 1) < tenI k := by
    by_cases hcc : 2 * (r - 1) < tenI k
    · exact hcc
    · exfalso
      have h3 := sq_le (a := tenI k) (b := 2 * (r - 1)) (by omega) (by omega)
      have h4 : 2 * (r - 1) * (2 * (r - 1)) = 4 * ((r - 1) * (r - 1)) := by
        rw [Int.mul_assoc, Int.mul_left_comm (r - 1) 2 (r - 1)]
        omega
      have h5 : b * tenI k * 10 ≤ tenI k * tenI k := by
        have := Int.mul_le_mul_of_nonneg_right (show b * 10 ≤ tenI k by omega) (show 0 ≤ tenI k by omega)
        rw [Int.mul_right_comm] at this
        exact this
      have h7 : 0 ≤ b * tenI k := Int.mul_nonneg (by omega) (by omega)
      omega
  have h6 : r * r = (r - 1) * (r - 1) + 2 * (r - 1) + 1 := by
    rw [Int.sub_mul, Int.mul_sub]
    omega
  omega
theorem root_in {b c r y : Int} (h : RootF (stF b c) r) (hy : 0 ≤ y) (h1 : stF b c ≤ y * y) (h2 : y * y ≤ stL b c) : r * r ≤ stL b c := Int.le_trans (sq_le (by have := h.r1; omega) (h.le hy h1)) h2
/-- the least number whose square begins so -/
structure LRoot (b r : Int) : Prop where
  r1 : 1 ≤ r
  be : begins (r * r) b = true
  le : ∀ y, 1 ≤ y → begins (y * y) b = true → r ≤ y
  sz : size (r * r) ≤ 2 * size b + 1
theorem LRoot.inj {b r r' : Int} (h : LRoot b r) (h' : LRoot b r') : r = r' := by
  have h1 := h.le r' h'.r1 h'.be
  have h2 := h'.le r h.r1 h.be
  omega
abbrev sp_least_root : Sp := sp1 fun a H Q => ∃ b, a = .int b ∧ BegC b ∧ ∀ r, LRoot b r → ∀ H', Ex H H' → Q (.int r) H'
def rd_least_root (K : PySem.W.Frag) : TS :=
      (tSeq (tDrop (tCall (sp_check_beginning) [] E0 (tCons (tVar 0) tNil)))
      (tSeq (tAsg (tCB rLenStr (tCons (tCB rStrInt (tCons (tVar 0) tNil)) tNil)) (gName 1))
      (tSeq (tAsg (tCall (sp_stretch_of) [] E0 (tCons (tVar 0) (tCons (tVar 1) tNil))) (gTup K 2 (gCons (gName 2) (gCons (gName 3) gNil))))
      (tSeq (tAsg (tCall (sp_root_from) [] E0 (tCons (tVar 2) tNil)) (gName 4))
      (tSeq (tWhile (tTest (tOp rGtI (tOp rMulX (tVar 4) (tVar 4)) (tVar 3)))
        (tSeq (tAug 1 (tC (.int 1)) rAddI)
      (tSeq (tAsg (tCall (sp_stretch_of) [] E0 (tCons (tVar 0) (tCons (tVar 1) tNil))) (gTup K 2 (gCons (gName 2) (gCons (gName 3) gNil))))
      (tAsg (tCall (sp_root_from) [] E0 (tCons (tVar 2) tNil)) (gName 4)))))
      (tRet (tVar 4)))))))
def N_least_root : List Str := ["beginning", "count", "first", "last", "found"]
theorem ev_lenstr {σ : L2.St} {H : Hp} {te : TE} {n : Int} (h : Ev te σ H (.int n)) (hc : TxtC n) : Ev (tCB rLenStr (tCons (tCB rStrInt (tCons te tNil)) tNil)) σ H (.int (size n)) := by
  have hs := size_txt hc
  have e : (((Str.ofString (toString n)).length : Nat) : Int) = size n := by rw [str_len hc.lo]; rfl
  exact ev_is (ev_cb (ea_cons (ev_cb (ea_cons h ea_nil) (rc_strInt (str_ok hc))) ea_nil) (rc_lenStr (by omega))) (by rw [← e])
theorem stF_lt {b c : Int} (hb : 1 ≤ b) (h : size b ≤ c) (hc : c < 1000) : stF b c < tenI 1000 ∧ stL b c + 1 ≤ tenI c := by
  have hp := size_pos b
  have h1 := lt_ten_size (n := b) (by omega)
  have ht := tenI_pos (c - size b)
  have h2 : stL b c + 1 ≤ tenI c := by
    unfold stL
    have := Int.mul_le_mul_of_nonneg_right (show b + 1 ≤ tenI (size b) by omega) (Int.le_of_lt ht)
    rw [← tenI_add (by omega) (by omega), show size b + (c - size b) = c by omega] at this
    omega
  have h3 := stL_eq b c
  have h4 := tenI_lt (a := c) (b := 1000) (by omega) hc
  exact ⟨by omega, h2⟩
theorem pure_least_root {K : PySem.W.Frag} (vs : List V) (H : Hp) (Q : VK) (E : XK) (h : sp_least_root vs H Q E) : rd_least_root K { nx := fun _ H' => Q .non H', rt := Q } (start N_least_root vs) H := by
  match vs, h with
  | [a], h =>
    obtain ⟨b, rfl, hb, q⟩ := h
    have hb1 := hb.lo
    have hs := size_beg hb
    unfold rd_least_root
    refine q_drop (v := .non) (by walk_at "ev"; exact hb) fun H1 e1 => ?_
    refine q_asg (v := .int (size b)) (ev_lenstr (ev_var rfl) hb.txt) fun H2 e2 => ?_
    refine q_asgT (v := .int (stF b (size b))) (w := .int (stL b (size b))) (eu_ok (by walk_at "ev") (spv_U2 ⟨hb, by omega, by omega⟩)) fun H3 e3 => ?_
    refine ⟨.int (stF b (size b)), rfl, stF b (size b), rfl, stF_pos hb1, (stF_lt hb1 (Int.le_refl _) (by omega)).1, fun r0 hr0 H4 e4 => ?_⟩
    refine q_while (fun k σ' H' => ∃ c r : Int, σ' = [some (.int b), some (.int c), some (.int (stF b c)), some (.int (stL b c)), some (.int r)] ∧ k = (2 * size b + 1 - c).toNat ∧ size b ≤ c ∧ c ≤ 2 * size b + 1 ∧ RootF (stF b c) r ∧ (∀ c', size b ≤ c' → c' < c → ∀ y, 1 ≤ y → begins (y * y) b = true → size (y * y) ≠ c') ∧ Ex H H') (2 * size b + 1 - size b).toNat ⟨size b, r0, rfl, rfl, by omega, by omega, hr0, fun c' h1 h2 => by omega, ((e1.trans e2).trans e3).trans e4⟩ fun k σ' H' hw => ?_
    obtain ⟨c, r, rfl, rfl, hc1, hc2, hr, hno, e⟩ := hw
    have hr1 := hr.r1
    have hF1 := stF_pos (c := c) hb1
    have hrb := hr.bd
    have hFl := stF_lt hb1 hc1 (by omega)
    obtain ⟨T, hT⟩ : ∃ T : Int, T = tenI 1000 := ⟨_, rfl⟩
    rw [← hT] at hFl
    refine ⟨decide (stL b c < r * r), et_test (by walk_at "ev"; exact mulOk_ten (by omega) (by omega) (by omega) (by omega)), fun hb' H5 e5 => ?_, fun hb' H5 e5 => ?_⟩
    · have hlt := of_decide_eq_true hb'
      have hc3 : c < 2 * size b + 1 := by
        by_cases h3 : c < 2 * size b + 1
        · exact h3
        · have := has_of hb1 hc1 (by omega) hr
          omega
      refine ⟨_, fun σ2 H3 hN => hN, ?_⟩
      refine q_aug0 (a := c) (b := 1) rfl (by walk_at "ev") fun H6 e6 => ?_
      refine q_asgT (v := .int (stF b (c + 1))) (w := .int (stL b (c + 1))) (eu_ok (by walk_at "ev") (spv_U2 ⟨hb, by omega, by omega⟩)) fun H7 e7 => ?_
      refine ⟨.int (stF b (c + 1)), rfl, stF b (c + 1), rfl, stF_pos hb1, (stF_lt hb1 (by omega) (by omega)).1, fun r' hr' H8 e8 => ?_⟩
      refine ⟨(2 * size b + 1 - (c + 1)).toNat, by omega, c + 1, r', rfl, rfl, by omega, by omega, hr', fun c' h1 h2 y hy1 hy2 => ?_, (((e.trans e5).trans e6).trans e7).trans e8⟩
      by_cases hcc : c' = c
      · intro hsz
        have h5 := stretch_of_begins hy2
        rw [hsz, hcc] at h5
        have := root_in hr (by omega) h5.2.1 h5.2.2
        omega
      · exact hno c' h1 (by omega) y hy1 hy2
    · have hge := of_decide_eq_false hb'
      have hin := in_stretch (z := r * r) hb1 hc1 hr.hi (by omega)
      refine s_ret (v := .int r) (ev_var rfl) fun H6 e6 => q r ⟨hr1, hin.1, fun y hy1 hy2 => ?_, by omega⟩ H6 ((e.trans e5).trans e6)
      have h5 := stretch_of_begins hy2
      by_cases h6 : size (y * y) < c
      · exact absurd rfl (hno (size (y * y)) h5.1 h6 y hy1 hy2)
      · exact hr.le (by omega) (Int.le_trans (stF_mono (by omega) (by omega)) h5.2.1)
theorem q_parRoots {σ : L2.St} {H : Hp} {ta tb : TE} {tu : TS} {D : Ends} {i j : Nat} {n1 n2 : Int} {E : XK} (h1 : Ev ta σ H (.int n1)) (h2 : Ev tb σ H (.int n2)) (b1 : 1 ≤ n1 ∧ n1 < tenI 1000) (b2 : 1 ≤ n2 ∧ n2 < tenI 1000)
    (k : ∀ r1 r2 H1, RootF n1 r1 → RootF n2 r2 → Ex H H1 → tu D ((σ.set i (some (.int r1))).set j (some (.int (r2 - 1)))) H1) :
    tSeq (tPar i j (tCons (tCall sp_root_from [] E (tCons ta tNil)) (tCons (tOp rSubI (tCall sp_root_from [] E (tCons tb tNil)) (tC (.int 1))) tNil))) tu D σ H :=
  h1 H (Ex.refl _) _ fun H1 e1 => ⟨n1, rfl, b1.1, b1.2, fun r1 hr1 H2 e2 => h2 H2 (e1.trans e2) _ fun H3 e3 => ⟨n2, rfl, b2.1, b2.2, fun r2 hr2 H4 e4 => ⟨r2, 1, rfl, rfl, .int r1, .int (r2 - 1), rfl, k r1 r2 H4 hr1 hr2 (((e1.trans e2).trans e3).trans e4)⟩⟩⟩
/-- a root of so many digits and the next one behind the last -/
structure RWith (b c lo hi : Int) : Prop where
  l : RootF (stF b c) lo
  h : RootF (stL b c + 1) (hi + 1)
abbrev spx_roots_with (x : ExA) : Sp := spe2 fun a a' H Q E => ∃ b c, a = .int b ∧ a' = .int c ∧ BegC b ∧ 1 ≤ c ∧ c ≤ 60 ∧ (c < size b → ∀ H', Ex H H' → E (.ref x.nf) none H') ∧
  (size b ≤ c → ∀ lo hi, RWith b c lo hi → (hi < lo → ∀ H', Ex H H' → E (.ref x.nf) none H') ∧ (lo ≤ hi → ∀ p H', H p = none → Ex H H' → H' p = some (.tup ([lo, hi].map V.int)) → Q (.ref p) H'))
def rdx_roots_with (x : ExA) (E : XK) (K : PySem.W.Frag) : TS :=
      (tSeq (tDrop (tCall (sp_check_beginning) [] E0 (tCons (tVar 0) tNil)))
      (tSeq (tDrop (tCall (sp_check_count) [] E0 (tCons (tVar 1) (tCons (tC (.int 1)) (tCons (tC (.int 60)) tNil)))))
      (tSeq (tIfS (tTest (tOp rLtI (tVar 1) (tCB rLenStr (tCons (tCB rStrInt (tCons (tVar 0) tNil)) tNil))))
        (tRaise x.nf E)
        tNext)
      (tSeq (tAsg (tCall (sp_stretch_of) [] E0 (tCons (tVar 0) (tCons (tVar 1) tNil))) (gTup K 2 (gCons (gName 2) (gCons (gName 3) gNil))))
      (tSeq (tPar 4 5 (tCons (tCall (sp_root_from) [] E0 (tCons (tVar 2) tNil)) (tCons (tOp rSubI (tCall (sp_root_from) [] E0 (tCons (tOp rAddI (tVar 3) (tC (.int 1))) tNil)) (tC (.int 1))) tNil)))
      (tSeq (tIfS (tTest (tOp rGtI (tVar 4) (tVar 5)))
        (tRaise x.nf E)
        tNext)
      (tRet (tTup (tCons (tVar 4) (tCons (tVar 5) tNil))))))))))
def N_roots_with : List Str := ["beginning", "count", "first", "last", "low", "high"]
theorem purex_roots_with {x : ExA} {K : PySem.W.Frag} (vs : List V) (H : Hp) (Q : VK) (E : XK) (h : spx_roots_with x vs H Q E) : rdx_roots_with x E K { nx := fun _ H' => Q .non H', rt := Q } (start N_roots_with vs) H := by
  match vs, h with
  | [a, b], h =>
    obtain ⟨b, c, rfl, rfl, hb, c0, c1, he, q⟩ := h
    have hb1 := hb.lo
    have hs := size_beg hb
    unfold rdx_roots_with
    refine q_drop (v := .non) (by walk_at "ev"; exact hb) fun H1 e1 => ?_
    refine q_drop (v := .non) (by walk_at "ev"; exact ⟨c0, c1⟩) fun H2 e2 => ?_
    refine q_if1 (b := decide (c < size b)) (et_test (ev_op (ev_var rfl) (ev_lenstr (ev_var rfl) hb.txt) rv_I0)) (fun hb' H3 e3 => he (of_decide_eq_true hb') H3 ((e1.trans e2).trans e3)) (fun hb' H3 e3 => ?_)
    have hge := of_decide_eq_false hb'
    refine q_asgT (v := .int (stF b c)) (w := .int (stL b c)) (eu_ok (by walk_at "ev") (spv_U2 ⟨hb, by omega, by omega⟩)) fun H4 e4 => ?_
    have hFl := stF_lt hb1 (show size b ≤ c by omega) (by omega)
    have hF1 := stF_pos (c := c) hb1
    have hL := stL_eq b c
    have ht := tenI_pos (c - size b)
    have hLt := tenI_lt (a := c) (b := 1000) (by omega) (by omega)
    obtain ⟨T, hT⟩ : ∃ T : Int, T = tenI 1000 := ⟨_, rfl⟩
    have e14 := ((e1.trans e2).trans e3).trans e4
    refine q_parRoots (n1 := stF b c) (n2 := stL b c + 1) (ev_var rfl) (by walk_at "ev") ⟨hF1, hFl.1⟩ ⟨by omega, Int.lt_of_le_of_lt hFl.2 hLt⟩ fun lo hi H6 hlo hhi e6 => ?_
    have hW : RWith b c lo (hi - 1) := ⟨hlo, by rw [show hi - 1 + 1 = hi by omega]; exact hhi⟩
    have hq := q (by omega) lo (hi - 1) hW
    show tSeq _ _ _ [some (.int b), some (.int c), some (.int (stF b c)), some (.int (stL b c)), some (.int lo), some (.int (hi - 1))] H6
    refine q_if1 (b := decide (hi - 1 < lo)) (et_test (by walk_at "ev")) (fun hb' H7 e7 => hq.1 (of_decide_eq_true hb') H7 ((e14.trans e6).trans e7)) (fun hb' H7 e7 => ?_)
    have e17 := (e14.trans e6).trans e7
    exact s_retU (xs := [.int lo, .int (hi - 1)]) (eu_tup (by walk_at "ev") (by simp)) fun p H8 hp e8 h8 => hq.2 (by have := of_decide_eq_false hb'; omega) p H8 (fresh_back e17 hp) (e17.trans e8) h8
end FD

namespace FD
open PySem PySem.Spec PyProof.Rows L2 Evl TL
local macro_rules | `(tactic| walk_at "ev") => `(tactic| repeat' (first | (with_reducible exact ev_c) | ((with_reducible apply ev_var); rfl) | (with_reducible exact ea_nil) | (with_reducible apply ea_cons) | (with_reducible apply ev_op) | (with_reducible exact rv_I0) | (with_reducible apply rv_I) | (with_reducible exact rv_eqI) | (with_reducible exact rv_neI) | (with_reducible exact rv_eqS) | (with_reducible apply ev_ok) | (with_reducible apply ev_cb) | (with_reducible apply spv_I1) | (with_reducible apply spv_I2) | (with_reducible apply spv_I3) | (with_reducible apply et_test) | (with_reducible apply et_B) | (with_reducible apply et_not) | (with_reducible apply ev_notV) | (with_reducible apply ev_un) | (with_reducible exact ru_negI) | (with_reducible exact rc_max2) | (with_reducible exact rc_min2) | (with_reducible exact rv_isB) | (with_reducible exact rv_notB) | (with_reducible exact rv_isN) | (with_reducible exact rv_notN) | (with_reducible apply ev_chainI) | (with_reducible exact rc_isiI) | (with_reducible exact rc_isiB)))
/-! ### squares: what they meet -/
theorem sqC {o f : Int} (ho : BegC o) (hf : BegC f) : MeetC (pbL o o) (pbH o o) f := by
  have h1 := ho.lo
  have h2 := ho.hi
  have h3 := hf.lo
  have h4 := hf.hi
  refine ⟨h3, ?_, (by decide : (1 : Int) ≤ 1), ?_, ?_⟩
  · have := sq_le (a := o + 1) (b := 10000) (by omega) (by omega)
    show (o + 1) * (o + 1) ≤ 10 ^ 12
    omega
  · have := sq_le (a := 1) (b := o) (by omega) (by omega)
    show 1 ≤ o * o
    omega
  · show (f + 1) * 1 ≤ 10 ^ 12
    omega
theorem pow_le3 {k : Nat} {f : Int} (h : 10 ^ k < f + 1) (hf : f ≤ 9999) : k ≤ 3 := by
  by_cases hk : k ≤ 3
  · exact hk
  · have := pow_lt (show 4 ≤ k by omega)
    omega
/-- a whole value between, scaled -/
theorem meet_int {L U f : Int} {t : Nat} (c : MeetC (L, 1) (U, 1) f) (hLU : L < U) (hf : f ≤ 9999) (ht : 3 ≤ t) : Meet (L, 1) (U, 1) f ↔ ∃ z, L * 10 ^ t ≤ z ∧ z < U * 10 ^ t ∧ begins z f = true := by
  have f1 := c.f1
  have l1 : 1 ≤ L := c.l1
  have pick : ∀ j : Nat, f * 10 ^ j < U * 10 ^ t → L * 10 ^ t < (f + 1) * 10 ^ j → ∃ z, L * 10 ^ t ≤ z ∧ z < U * 10 ^ t ∧ begins z f = true := fun j h1 h2 => by
    have h4 := ml_r t hLU
    have h5 := p10 j
    have h6 : (f + 1) * 10 ^ j = f * 10 ^ j + 10 ^ j := by rw [Int.add_mul, Int.one_mul]
    refine ⟨max (L * 10 ^ t) (f * 10 ^ j), by omega, by omega, begins_stretch (k := (j : Int)) f1 (by omega) (by rw [tenI_nn]; omega) (by rw [tenI_nn]; omega)⟩
  constructor
  · intro m
    rcases meet_red c m with ⟨k, hk, m1, m2⟩ | ⟨k, hk, m1, m2⟩
    · have m1 : f * 1 < U * 10 ^ k := m1
      have m2 : L * 10 ^ k < (f + 1) * 1 := m2
      rw [Int.mul_one] at m1 m2
      have hk3 : k ≤ 3 := pow_le3 (f := f) (by
        have := Int.mul_le_mul_of_nonneg_right l1 (show 0 ≤ (10 : Int) ^ k by have := p10 k; omega)
        omega) hf
      have hp : (10 : Int) ^ k * 10 ^ (t - k) = 10 ^ t := by rw [← Int.pow_add, show k + (t - k) = t by omega]
      have a1 := ml_r (t - k) m1
      have a2 := ml_r (t - k) m2
      rw [Int.mul_assoc, hp] at a1 a2
      exact pick (t - k) a1 a2
    · have m1 : f * 10 ^ k * 1 < U := m1
      have m2 : L < (f + 1) * 10 ^ k * 1 := m2
      rw [Int.mul_one] at m1 m2
      have hp : (10 : Int) ^ k * 10 ^ t = 10 ^ (k + t) := by rw [← Int.pow_add]
      have a1 := ml_r t m1
      have a2 := ml_r t m2
      rw [Int.mul_assoc, hp] at a1 a2
      exact pick (k + t) a1 a2
  · rintro ⟨z, h1, h2, h3⟩
    have hb := begins_iff.mp h3
    refine ⟨(size z - size f).toNat, t, ?_, ?_⟩
    · show f * 10 ^ (size z - size f).toNat * 1 < U * 10 ^ t
      have : f * 10 ^ (size z - size f).toNat ≤ z := hb.2.1
      omega
    · show L * 10 ^ t < (f + 1) * 10 ^ (size z - size f).toNat * 1
      have : z < (f + 1) * 10 ^ (size z - size f).toNat := hb.2.2
      omega
/-- counted between two ends: whether there is one -/
theorem between_pos {b l h : Int} (hb : 1 ≤ b) (hl : 1 ≤ l) : 0 < between b l h ↔ ∃ z, l ≤ z ∧ z ≤ h ∧ begins z b = true := by
  rw [between_cnt hb hl]
  constructor
  · intro h1
    apply Classical.byContradiction
    intro hn
    rw [cntR_zero fun z h2 h3 => by
      cases hq : begins z b with
      | false => rfl
      | true => exact absurd ⟨z, h2, by omega, hq⟩ hn] at h1
    omega
  · rintro ⟨z, h1, h2, h3⟩
    exact cntR_pos h1 (by omega) h3
theorem sq_between {o f : Int} {t : Nat} (ho : BegC o) (hf : BegC f) (ht : 3 ≤ t) : decide (0 < between f (o * o * tenI t) ((o + 1) * (o + 1) * tenI t - 1)) = prodB o o f := by
  have h1 := ho.lo
  have hp := tenI_pos (t : Int)
  have h2 := sq_le (a := 1) (b := o) (by omega) (by omega)
  have h3 := Int.mul_le_mul_of_nonneg_right h2 (Int.le_of_lt hp)
  have hm := meet_int (t := t) (sqC ho hf) (sq_lt (a := o) (b := o + 1) (by omega) (by omega)) hf.hi ht
  rw [Bool.eq_iff_iff, decide_eq_true_eq, between_pos hf.lo (by omega)]
  unfold prodB
  rw [meets_iff (sqC ho hf)]
  rw [tenI_nn]
  refine Iff.trans ?_ hm.symm
  constructor
  · rintro ⟨z, a1, a2, a3⟩
    exact ⟨z, a1, by omega, a3⟩
  · rintro ⟨z, a1, a2, a3⟩
    exact ⟨z, a1, by omega, a3⟩
/-- a number and its square -/
theorem meet_sq {y b m : Int} (hy : 1 ≤ y) (hm : 1 ≤ m) (h : m ≤ size y) (hb : begins (y * y) b = true) : Meet (pbL (first y m) (first y m)) (pbH (first y m) (first y m)) b := by
  obtain ⟨k, k1, k2⟩ := first_in hy hm h
  have hf := first_pos hy hm
  have hq := begins_iff.mp hb
  have hp := p10 k
  have e : ∀ a : Int, a * 10 ^ k * (a * 10 ^ k) = a * a * 10 ^ (2 * k) := fun a => by
    rw [Int.mul_assoc, Int.mul_left_comm (10 ^ k) a, ← Int.mul_assoc, ← Int.pow_add, show k + k = 2 * k by omega]
  have h1 := sq_le (a := first y m * 10 ^ k) (b := y) (Int.mul_nonneg (by omega) (by omega)) k1
  have h2 := sq_lt (a := y) (b := (first y m + 1) * 10 ^ k) (by omega) k2
  rw [e] at h1 h2
  refine ⟨(size (y * y) - size b).toNat, 2 * k, ?_, ?_⟩
  · show b * 10 ^ (size (y * y) - size b).toNat * 1 < (first y m + 1) * (first y m + 1) * 10 ^ (2 * k)
    have : b * 10 ^ (size (y * y) - size b).toNat ≤ y * y := hq.2.1
    omega
  · show first y m * first y m * 10 ^ (2 * k) < (b + 1) * 10 ^ (size (y * y) - size b).toNat * 1
    have : y * y < (b + 1) * 10 ^ (size (y * y) - size b).toNat := hq.2.2
    omega
theorem mem_rootL {b m f : Int} : f ∈ rootL b m ↔ (tenI (m - 1) ≤ f ∧ f < tenI m) ∧ prodB f f b = true := by
  unfold rootL
  rw [List.mem_filter, mem_rgI]
/-- the first digits of a number whose square begins so are told among the roots -/
theorem root_told {y b m : Int} (hy : 1 ≤ y) (hm : 1 ≤ m) (hm4 : m ≤ 4) (h : m ≤ size y) (hB : BegC b) (hb : begins (y * y) b = true) : first y m ∈ rootL b m := by
  have hf := BegC.first hy hm hm4 h
  rw [mem_rootL]
  refine ⟨first_rg hy hm h, ?_⟩
  unfold prodB
  rw [meets_iff (sqC hf hB)]
  exact meet_sq hy hm h hb
/-- the first digits of a square are told among the squares -/
theorem square_told {y b m : Int} {t : Nat} (hb : BegC b) (hm : 1 ≤ m) (hm4 : m ≤ 4) (h1 : b * 10 ^ t ≤ y) (h2 : y < (b + 1) * 10 ^ t) (h : m ≤ size (y * y)) : first (y * y) m ∈ prodL b b m := by
  have hb1 := hb.lo
  have hp := p10 t
  have hy : 1 ≤ y := by
    have : 1 * 1 ≤ b * 10 ^ t := Int.mul_le_mul hb1 (by omega) (by decide) (by omega)
    omega
  have hyy := sq_le (a := 1) (b := y) (by omega) hy
  have hf := BegC.first (n := y * y) (by omega) hm hm4 h
  unfold prodL
  rw [mem_meetL]
  refine ⟨first_rg (by omega) hm h, ?_⟩
  rw [meets_iff (sqC hb hf)]
  have e : ∀ a : Int, a * 10 ^ t * (a * 10 ^ t) = a * a * 10 ^ (2 * t) := fun a => by
    rw [Int.mul_assoc, Int.mul_left_comm (10 ^ t) a, ← Int.mul_assoc, ← Int.pow_add, show t + t = 2 * t by omega]
  have a1 := sq_le (a := b * 10 ^ t) (b := y) (Int.mul_nonneg (by omega) (by omega)) h1
  have a2 := sq_lt (a := y) (b := (b + 1) * 10 ^ t) (by omega) h2
  rw [e] at a1 a2
  exact meet_val (t := 2 * t) (by omega) hm h a1 a2
theorem LRoot.bd {b r : Int} (hb : BegC b) (h : LRoot b r) : r < 100000 ∧ r * r < 1000000000 := by
  have h1 := h.sz
  have h2 := size_beg hb
  have hr := h.r1
  have hrr := sq_le (a := 1) (b := r) (by omega) hr
  have h3 := lt_ten_size (n := r * r) (by omega)
  have h4 : tenI (size (r * r)) ≤ 10 ^ 9 := tenI_le (by omega)
  refine ⟨lt_of_sq (by omega) (by omega), by omega⟩
theorem spv_lr {b z : Int} {H : Hp} (hb : BegC b) (h : LRoot b z) : SpV sp_least_root [.int b] H (.int z) := fun H1 _ Q q _ => ⟨b, rfl, hb, fun r hr H2 e2 => by rw [hr.inj h]; exact q H2 e2⟩
theorem dp_tup2 {K : PySem.W.Frag} {H : Hp} {v : V} {a b : Int} (h : Dp K H v (.tuple ([a, b].map PyData.int))) : ∃ p, v = .ref p ∧ SqT K H p [.int a, .int b] := by
  cases h with
  | tup h1 h2 =>
    cases h2 with
    | cons h3 h4 =>
      cases h4 with
      | cons h5 h6 =>
        cases h6
        cases h3
        cases h5
        exact ⟨_, rfl, h1⟩
theorem q_asgTS {K : PySem.W.Frag} {σ : L2.St} {H : Hp} {te : TE} {tu : TS} {D : Ends} {i j : Nat} {p : Addr} {v w : V} (h : Ev te σ H (.ref p)) (hp : SqT K H p [v, w]) (k : ∀ H1, Ex H H1 → tu D ((σ.set i (some v)).set j (some w)) H1) : tSeq (tAsg te (gTup K 2 (gCons (gName i) (gCons (gName j) gNil)))) tu D σ H :=
  h H (Ex.refl _) _ fun H1 e1 => ⟨p, [v, w], rfl, ex_t e1 hp, rfl, v, [w], rfl, w, [], rfl, rfl, k H1 e1⟩
section
variable {K : PySem.W.Frag} {σ : L2.St} {H : Hp} {te ta tb : TE} {b : Bool}
/-- e is not True -/
theorem et_isnt (h : Ev te σ H (.bl b)) : EvT (tTest (tOp rNotB te (tC (.bl true)))) σ H (!b) := et_is (et_test (ev_op h ev_c rv_notB)) (by cases b <;> rfl)
theorem ev_isnt (h : Ev te σ H (.bl b)) : Ev (tOp rNotB te (tC (.bl true))) σ H (.bl (!b)) := ev_is (ev_op h ev_c rv_notB) (by cases b <;> rfl)
/-- begins(e, g) -/
theorem ev_begins {E : XK} {n g : Int} (h1 : Ev ta σ H (.int n)) (h2 : Ev tb σ H (.int g)) (hn : NumC n) (hg : BegC g) : Ev (tCall sp_begins [] E (tCons ta (tCons tb tNil))) σ H (.bl (begins n g)) := ev_ok (vs := [.int n, .int g]) (ea_cons h1 (ea_cons h2 ea_nil)) (spv_I2 (g := fun n b => .bl (begins n b)) ⟨hn, hg⟩)
theorem ev_first {E : XK} {n m : Int} (h1 : Ev ta σ H (.int n)) (h2 : Ev tb σ H (.int m)) (hn : NumC n) (hm : 1 ≤ m ∧ m ≤ 4) : Ev (tCall sp_first_digits [] E (tCons ta (tCons tb tNil))) σ H (.int (first n m)) := ev_ok (vs := [.int n, .int m]) (ea_cons h1 (ea_cons h2 ea_nil)) (spv_I2 (g := fun n m => .int (first n m)) ⟨hn, hm⟩)
theorem ev_lsize {E : XK} {n : Int} (h1 : Ev ta σ H (.int n)) (hn : 1 ≤ n) : Ev (tCall sp_law_size [] E (tCons ta tNil)) σ H (.int (size n)) := ev_ok (vs := [.int n]) (ea_cons h1 ea_nil) (spv_I1 hn)
theorem ev_sqI {n : Int} (h : Ev te σ H (.int n)) (h0 : -1000000000 ≤ n) (h1 : n ≤ 1000000000) : Ev (tOp rMulX te te) σ H (.int (n * n)) := ev_op h h (rv_I (mulOk_l (by omega) (by omega)))
end
end FD

namespace FD
open PySem PySem.Spec PyProof.Rows L2 Evl TL
local macro_rules | `(tactic| walk_at "ev") => `(tactic| repeat' (first | (with_reducible exact ev_c) | ((with_reducible apply ev_var); rfl) | (with_reducible exact ea_nil) | (with_reducible apply ea_cons) | (with_reducible apply ev_op) | (with_reducible exact rv_I0) | (with_reducible apply rv_I) | (with_reducible exact rv_eqI) | (with_reducible exact rv_neI) | (with_reducible exact rv_eqS) | (with_reducible apply ev_ok) | (with_reducible apply ev_cb) | (with_reducible apply spv_I1) | (with_reducible apply spv_I2) | (with_reducible apply spv_I3) | (with_reducible apply et_test) | (with_reducible apply et_B) | (with_reducible apply et_not) | (with_reducible apply ev_notV) | (with_reducible apply ev_un) | (with_reducible exact ru_negI) | (with_reducible exact rc_max2) | (with_reducible exact rc_min2) | (with_reducible exact rv_isB) | (with_reducible exact rv_notB) | (with_reducible exact rv_isN) | (with_reducible exact rv_notN) | (with_reducible apply ev_chainI) | (with_reducible exact rc_isiI) | (with_reducible exact rc_isiB)))
/-! ### product_example -/
def PP (a o S k : Int) : Int := (a * S + k) * (o * S + k)
theorem PP_le {a o S k k' : Int} (ha : 0 ≤ a * S) (ho : 0 ≤ o * S) (h0 : 0 ≤ k) (h : k ≤ k') : PP a o S k ≤ PP a o S k' := Int.mul_le_mul (by omega) (by omega) (by omega) (by omega)
theorem PP_step {a o S k : Int} : PP a o S (k + 1) = PP a o S k + (a * S + o * S + 2 * k + 1) := by
  unfold PP
  rw [show a * S + (k + 1) = (a * S + k) + 1 by omega, show o * S + (k + 1) = (o * S + k) + 1 by omega, Int.add_mul, Int.mul_add, Int.mul_one, Int.one_mul]
  omega
theorem PP_zero (a o S : Int) : PP a o S 0 = a * o * S * S := by
  unfold PP
  rw [Int.add_zero, Int.add_zero, Int.mul_assoc a S, Int.mul_left_comm S o S, ← Int.mul_assoc a, ← Int.mul_assoc]
theorem PP_top (a o S : Int) : PP a o S S = (a + 1) * (o + 1) * S * S := by
  have := PP_zero (a + 1) (o + 1) S
  unfold PP at this ⊢
  rw [Int.add_zero, Int.add_zero, Int.add_mul a 1 S, Int.add_mul o 1 S, Int.one_mul] at this
  exact this
/-- the least row of digits behind -/
def LBR (a o b S : Int) (v : V) : Prop := (v = .non ∧ ∀ k, 0 ≤ k → k < S → begins (PP a o S k) b = false) ∨ (∃ h, v = .int h ∧ 0 ≤ h ∧ h < S ∧ begins (PP a o S h) b = true ∧ ∀ k, 0 ≤ k → k < h → begins (PP a o S k) b = false)
abbrev sp_least_behind : Sp := sp4 fun a1 a2 a3 a4 H Q => ∃ a o b m, a1 = .int a ∧ a2 = .int o ∧ a3 = .int b ∧ a4 = .int m ∧ BegC a ∧ BegC o ∧ BegC b ∧ 0 ≤ m ∧ m ≤ 8 ∧ ∀ v, LBR a o b (tenI m) v → ∀ H', Ex H H' → Q v H'
def rd_least_behind (K : PySem.W.Frag) : TS :=
      (tSeq (tAsg (tCall (sp_ten_to) [] E0 (tCons (tVar 3) tNil)) (gName 4))
      (tSeq (tAsg (tOp rMulX (tOp rMulX (tOp rMulX (tVar 0) (tVar 1)) (tVar 4)) (tVar 4)) (gName 5))
      (tSeq (tFor (iRng2 (tCons (tCall (sp_size_of) [] E0 (tCons (tVar 5) tNil)) (tCons (tOp rAddI (tCall (sp_size_of) [] E0 (tCons (tVar 5) tNil)) (tC (.int 3))) tNil))) (gName 6)
        (tIfS (tTest (tOp rGeI (tVar 6) (tCall (sp_size_of) [] E0 (tCons (tVar 2) tNil))))
        (tSeq (tAsg (tOp rMulX (tVar 2) (tCall (sp_ten_to) [] E0 (tCons (tOp rSubI (tVar 6) (tCall (sp_size_of) [] E0 (tCons (tVar 2) tNil))) tNil))) (gName 7))
      (tSeq (tPar 8 9 (tCons (tUn rNeg (tC (.int 1))) (tCons (tVar 4) tNil)))
      (tSeq (tWhile (tTest (tOp rGtI (tOp rSubI (tVar 9) (tVar 8)) (tC (.int 1))))
        (tSeq (tAsg (tOp rDivW (tOp rAddI (tVar 8) (tVar 9)) (tC (.int 2))) (gName 10))
      (tIfS (tTest (tOp rGeI (tOp rMulX (tOp rAddI (tOp rMulX (tVar 0) (tVar 4)) (tVar 10)) (tOp rAddI (tOp rMulX (tVar 1) (tVar 4)) (tVar 10))) (tVar 7)))
        (tAsg (tVar 10) (gName 9))
        (tAsg (tVar 10) (gName 8)))))
      (tIfS (tAnd (tTest (tOp rLtI (tVar 9) (tVar 4))) (tB (tCall (sp_begins_of) [] E0 (tCons (tOp rMulX (tOp rAddI (tOp rMulX (tVar 0) (tVar 4)) (tVar 9)) (tOp rAddI (tOp rMulX (tVar 1) (tVar 4)) (tVar 9))) (tCons (tVar 2) tNil)))))
        (tRet (tVar 9))
        tNext))))
        tNext))
      (tRet (tC .non)))))
def N_least_behind : List Str := ["one", "other", "beginning", "more", "scale", "first", "count", "start", "low", "high", "middle"]
theorem pure_least_behind {K : PySem.W.Frag} (vs : List V) (H : Hp) (Q : VK) (E : XK) (h : sp_least_behind vs H Q E) : rd_least_behind K { nx := fun _ H' => Q .non H', rt := Q } (start N_least_behind vs) H := by
  match vs, h with
  | [a1, a2, a3, a4], h =>
    obtain ⟨a, o, b, m, rfl, rfl, rfl, rfl, ha, ho, hb, m0, m1, q⟩ := h
    have ha1 := ha.lo
    have ha2 := ha.hi
    have ho1 := ho.lo
    have ho2 := ho.hi
    have hb1 := hb.lo
    have hb2 := hb.hi
    have hs := size_beg hb
    obtain ⟨S, hS⟩ : ∃ S, S = tenI m := ⟨_, rfl⟩
    have S0 : 0 < S := by rw [hS]; exact tenI_pos m
    have S1 : S ≤ 10 ^ 8 := by rw [hS]; exact tenI_le (by omega)
    rw [← hS] at q
    have bnd : ∀ x : Int, 1 ≤ x → x ≤ 9999 → 1 ≤ x * S ∧ x * S ≤ 999900000000 := fun x h1 h2 => by
      have b1 : x * S ≤ 9999 * 10 ^ 8 := Int.mul_le_mul h2 S1 (by omega) (by decide)
      have b2 : 1 * 1 ≤ x * S := Int.mul_le_mul h1 (by omega) (by decide) (by omega)
      omega
    have bA := bnd a ha1 ha2
    have bO := bnd o ho1 ho2
    have ao : 1 ≤ a * o ∧ a * o ≤ 100000000 := by
      have b1 : a * o ≤ 9999 * 9999 := Int.mul_le_mul ha2 ho2 (by omega) (by decide)
      have b2 : 1 * 1 ≤ a * o := Int.mul_le_mul ha1 ho1 (by decide) (by omega)
      omega
    have aoS : 1 ≤ a * o * S ∧ a * o * S ≤ 10000000000000000 := by
      have b1 : a * o * S ≤ 100000000 * 10 ^ 8 := Int.mul_le_mul ao.2 S1 (by omega) (by decide)
      have b2 : 1 * 1 ≤ a * o * S := Int.mul_le_mul ao.1 (by omega) (by decide) (by omega)
      omega
    obtain ⟨F, hF⟩ : ∃ F, F = a * o * S * S := ⟨_, rfl⟩
    have bF : 1 ≤ F ∧ F ≤ 10 ^ 24 := by
      have b1 : a * o * S * S ≤ 10000000000000000 * 10 ^ 8 := Int.mul_le_mul aoS.2 S1 (by omega) (by decide)
      have b2 : 1 * 1 ≤ a * o * S * S := Int.mul_le_mul aoS.1 (by omega) (by decide) (by omega)
      rw [hF]
      omega
    have hP0 : PP a o S 0 = F := by rw [PP_zero, hF]
    have txt : ∀ n : Int, 0 ≤ n → n ≤ 10 ^ 26 → TxtC n := fun n h0 h1 => ⟨h0, Int.lt_of_le_of_lt h1 (Int.lt_of_lt_of_le (b := 10 ^ 27) (by decide) (pow_lt (by decide)))⟩
    have hsF : 1 ≤ size F ∧ size F ≤ 25 := ⟨by have := size_pos F; omega, size_le_of (by omega) (by decide) (by (show F < 10 ^ 25); omega)⟩
    -- all products: sizes
    have hPb : ∀ k, 0 ≤ k → k < S → F ≤ PP a o S k ∧ PP a o S k < 10 * F := fun k h0 h1 => by
      have p1 := PP_le (a := a) (o := o) (S := S) (k := 0) (k' := k) (by omega) (by omega) (by omega) h0
      rw [hP0] at p1
      refine ⟨p1, ?_⟩
      have p2 : PP a o S k < (2 * (a * S)) * (2 * (o * S)) := by
        have c1 : a * S + k < 2 * (a * S) := by
          have : 1 * S ≤ a * S := Int.mul_le_mul_of_nonneg_right ha1 (by omega)
          omega
        have c2 : o * S + k ≤ 2 * (o * S) := by
          have : 1 * S ≤ o * S := Int.mul_le_mul_of_nonneg_right ho1 (by omega)
          omega
        have c3 : (a * S + k) * (o * S + k) ≤ (a * S + k) * (2 * (o * S)) := Int.mul_le_mul_of_nonneg_left c2 (by omega)
        have c4 : (a * S + k) * (2 * (o * S)) < 2 * (a * S) * (2 * (o * S)) := Int.mul_lt_mul_of_pos_right c1 (by omega)
        exact Int.lt_of_le_of_lt c3 c4
      have p3 : (2 * (a * S)) * (2 * (o * S)) = 4 * F := by
        have := PP_zero a o S
        unfold PP at this
        rw [Int.add_zero, Int.add_zero] at this
        rw [hF, ← this, Int.mul_assoc 2, Int.mul_left_comm (a * S) 2]
        omega
      omega
    have hPs : ∀ k, 0 ≤ k → k < S → size F ≤ size (PP a o S k) ∧ size (PP a o S k) < size F + 3 := fun k h0 h1 => by
      have p := hPb k h0 h1
      refine ⟨size_mono p.1, ?_⟩
      have h5 := lt_ten_size (n := F) (by omega)
      have h6 : size (PP a o S k) ≤ size F + 1 := size_le_of (by omega) (by omega) (by rw [tenI_succ (by omega)]; omega)
      omega
    unfold rd_least_behind
    refine q_asg (v := .int S) (by rw [hS]; walk_at "ev"; (show 0 ≤ m ∧ m ≤ 1000); omega) fun H1 e1 => ?_
    refine q_asg (v := .int F) (ev_is (v := .int (a * o * S * S)) (by
      walk_at "ev"
      · exact mulOk_l (by omega) (by omega)
      · exact mulOk_l (by omega) (by omega)
      · exact mulOk_l (by omega) (by omega)) (by rw [hF])) fun H2 e2 => ?_
    show tSeq _ _ _ [some (.int a), some (.int o), some (.int b), some (.int m), some (.int S), some (.int F), none, none, none, none, none] H2
    refine q_forR2 (lo := size F) (n := size F + 3) (by walk_at "ev" <;> exact txt F (by omega) (by omega)) (by omega) (fun i σ' H' => ∃ y6 y7 y8 y9 y10, σ' = [some (.int a), some (.int o), some (.int b), some (.int m), some (.int S), some (.int F), y6, y7, y8, y9, y10] ∧ Ex H H' ∧ ∀ k, 0 ≤ k → k < S → begins (PP a o S k) b = true → size F + (i : Int) ≤ size (PP a o S k))
      (fun H3 e3 => ⟨none, none, none, none, none, rfl, (e1.trans e2).trans e3, fun k h0 h1 _ => by have := (hPs k h0 h1).1; omega⟩) (fun i σ' H' hi hp => ?_) (fun σ' H' hp => ?_)
    · obtain ⟨y6, y7, y8, y9, y10, rfl, e, hno⟩ := hp
      obtain ⟨c, hc⟩ : ∃ c : Int, c = size F + (i : Int) := ⟨_, rfl⟩
      rw [← hc] at hno ⊢
      have step : (∀ k, 0 ≤ k → k < S → begins (PP a o S k) b = true → size (PP a o S k) ≠ c) → ∀ k, 0 ≤ k → k < S → begins (PP a o S k) b = true → size F + ((i + 1 : Nat) : Int) ≤ size (PP a o S k) := fun hh k h0 h1 h2 => by
        have h3 := hno k h0 h1 h2
        have h4 := hh k h0 h1 h2
        omega
      show tIfS _ _ _ _ [some (.int a), some (.int o), some (.int b), some (.int m), some (.int S), some (.int F), some (.int c), y7, y8, y9, y10] H'
      refine s_if (b := decide (size b ≤ c)) (et_test (by walk_at "ev"; exact hb.txt)) (fun hcb H3 e3 => ?_) (fun hcb H3 e3 => ⟨_, _, _, _, _, rfl, e.trans e3, step fun k h0 h1 h2 h3 => ?_⟩)
      · have hcb := of_decide_eq_true hcb
        refine q_asg (v := .int (stF b c)) (by
          unfold stF
          walk_at "ev"
          · exact hb.txt
          · (show 0 ≤ c - size b ∧ c - size b ≤ 1000); omega
          · exact mulOk_l (by omega) (by omega)) fun H4 e4 => ?_
        refine q_par (v := .int (-1)) (w := .int S) (by walk_at "ev") fun H5 e5 => ?_
        obtain ⟨st, hst⟩ : ∃ st, st = stF b c := ⟨_, rfl⟩
        rw [← hst]
        show tSeq _ _ _ [some (.int a), some (.int o), some (.int b), some (.int m), some (.int S), some (.int F), some (.int c), some (.int st), some (.int (-1)), some (.int S), y10] H5
        refine q_while (fun w σ' H' => ∃ (l u : Int) (y : Option V), σ' = [some (.int a), some (.int o), some (.int b), some (.int m), some (.int S), some (.int F), some (.int c), some (.int st), some (.int l), some (.int u), y] ∧ w = (u - l).toNat ∧ -1 ≤ l ∧ l < u ∧ u ≤ S ∧ (0 ≤ l → PP a o S l < st) ∧ (u < S → st ≤ PP a o S u) ∧ Ex H H') (S + 1).toNat ⟨-1, S, y10, rfl, by omega, by omega, by omega, by omega, fun h => by omega, fun h => by omega, ((e.trans e3).trans e4).trans e5⟩ fun w σ' H6 hw => ?_
        obtain ⟨l, u, y, rfl, rfl, l0, lu, u1, hl, hu, e6⟩ := hw
        have pev : ∀ (k : Int) (i : Nat) (σ : L2.St) (H7 : Hp), σ[0]? = some (some (.int a)) → σ[1]? = some (some (.int o)) → σ[4]? = some (some (.int S)) → σ[i]? = some (some (.int k)) → 0 ≤ k → k < S → Ev (tOp rMulX (tOp rAddI (tOp rMulX (tVar 0) (tVar 4)) (tVar i)) (tOp rAddI (tOp rMulX (tVar 1) (tVar 4)) (tVar i))) σ H7 (.int (PP a o S k)) := fun k i σ H7 g0 g1 g4 gi k0 k1 =>
          ev_op (ev_op (ev_op (ev_var g0) (ev_var g4) (rv_I (mulOk_l (by omega) (by omega)))) (ev_var gi) rv_I0) (ev_op (ev_op (ev_var g1) (ev_var g4) (rv_I (mulOk_l (by omega) (by omega)))) (ev_var gi) rv_I0) (rv_I (mulOk_l (by omega) (by omega)))
        refine ⟨decide (1 < u - l), et_test (by walk_at "ev"), fun hb' H7 e7 => ?_, fun hb' H7 e7 => ?_⟩
        · have hb' := of_decide_eq_true hb'
          refine ⟨_, fun σ2 H3 hN => hN, ?_⟩
          obtain ⟨mid, hmid⟩ : ∃ mid, mid = (l + u) / 2 := ⟨_, rfl⟩
          refine q_asg (v := .int mid) (by rw [hmid]; walk_at "ev"; exact ⟨by decide, by decide⟩) fun H8 e8 => ?_
          show tIfS _ _ _ _ [some (.int a), some (.int o), some (.int b), some (.int m), some (.int S), some (.int F), some (.int c), some (.int st), some (.int l), some (.int u), some (.int mid)] H8
          have e68 := (e6.trans e7).trans e8
          refine s_if (b := decide (st ≤ PP a o S mid)) (et_test (ev_op (pev mid 10 _ _ rfl rfl rfl rfl (by omega) (by omega)) (ev_var rfl) rv_I0)) (fun hy H9 e9 => ?_) (fun hn H9 e9 => ?_)
          · exact s_asg (ev_var rfl) fun H10 e10 => ⟨(mid - l).toNat, by omega, l, mid, _, rfl, rfl, l0, by omega, by omega, hl, fun _ => of_decide_eq_true hy, (e68.trans e9).trans e10⟩
          · have hn := of_decide_eq_false hn
            exact s_asg (ev_var rfl) fun H10 e10 => ⟨(u - mid).toNat, by omega, mid, u, _, rfl, rfl, by omega, by omega, u1, fun _ => by omega, hu, (e68.trans e9).trans e10⟩
        · have hb' := of_decide_eq_false hb'
          have hul : u = l + 1 := by omega
          have below : ∀ k, 0 ≤ k → k < u → PP a o S k < st := fun k h0 h1 => by
            have h2 := hl (by omega)
            have h3 := PP_le (a := a) (o := o) (S := S) (k := k) (k' := l) (by omega) (by omega) h0 (by omega)
            omega
          have least : ∀ k, 0 ≤ k → k < u → begins (PP a o S k) b = false := fun k h0 h1 => by
            cases hq : begins (PP a o S k) b with
            | false => rfl
            | true =>
              exfalso
              have h3 := hno k h0 (by omega) hq
              have h4 := stretch_of_begins hq
              have h5 := stF_mono (b := b) (by omega) h3
              have h6 := below k h0 h1
              omega
          have e67 := e6.trans e7
          by_cases hyes : u < S ∧ begins (PP a o S u) b = true
          · refine s_if (b := true) (et_is (et_and (a := decide (u < S)) (b := begins (PP a o S u) b) (et_test (by walk_at "ev")) fun _ => et_B (ev_ok (vs := [.int (PP a o S u), .int b]) (ea_cons (pev u 9 _ _ rfl rfl rfl rfl (by omega) hyes.1) (ea_cons (ev_var rfl) ea_nil)) (spv_I2 (g := fun n b => .bl (begins n b)) ⟨txt _ (by have := hPb u (by omega) hyes.1; omega) (by have := hPb u (by omega) hyes.1; omega), hb.txt⟩))) (by rw [decide_eq_true hyes.1, hyes.2]; rfl)) (fun _ H8 e8 => ?_) (fun hf => by cases hf)
            exact s_ret (v := .int u) (ev_var rfl) fun H9 e9 => q (.int u) (.inr ⟨u, rfl, by omega, hyes.1, hyes.2, least⟩) H9 ((e67.trans e8).trans e9)
          · refine s_if (b := false) (et_is (et_and (a := decide (u < S)) (b := begins (PP a o S u) b) (et_test (by walk_at "ev")) fun hlt => et_B (ev_ok (vs := [.int (PP a o S u), .int b]) (ea_cons (pev u 9 _ _ rfl rfl rfl rfl (by omega) (of_decide_eq_true hlt)) (ea_cons (ev_var rfl) ea_nil)) (spv_I2 (g := fun n b => .bl (begins n b)) ⟨txt _ (by have := hPb u (by omega) (of_decide_eq_true hlt); omega) (by have := hPb u (by omega) (of_decide_eq_true hlt); omega), hb.txt⟩))) (by
                cases h1 : decide (u < S) with
                | false => rfl
                | true =>
                  cases h2 : begins (PP a o S u) b with
                  | false => rfl
                  | true => exact absurd ⟨of_decide_eq_true h1, h2⟩ hyes)) (fun hf => by cases hf) (fun _ H8 e8 => ⟨_, _, _, _, _, rfl, e67.trans e8, step fun k h0 h1 h2 h3 => ?_⟩)
            have h4 := stretch_of_begins h2
            rw [h3] at h4
            have h5 : ¬ k < u := fun h6 => by
              have := below k h0 h6
              omega
            have h7 := hu (by omega)
            have h8 := PP_le (a := a) (o := o) (S := S) (k := u) (k' := k) (by omega) (by omega) (by omega) (by omega)
            exact hyes ⟨by omega, (in_stretch hb1 hcb (by omega) (by omega)).1⟩
      · have hcb := of_decide_eq_false hcb
        have := (stretch_of_begins h2).1
        omega
    · obtain ⟨y6, y7, y8, y9, y10, rfl, e, hno⟩ := hp
      refine s_ret (v := .non) ev_c fun H3 e3 => q .non (.inl ⟨rfl, fun k h0 h1 => ?_⟩) H3 (e.trans e3)
      cases hq : begins (PP a o S k) b with
      | false => rfl
      | true =>
        have h3 := hno k h0 h1 hq
        have h4 := (hPs k h0 h1).2
        omega
theorem prodC {a o f : Int} (ha : BegC a) (ho : BegC o) (hf : BegC f) : MeetC (pbL a o) (pbH a o) f := by
  have a1 := ha.lo
  have a2 := ha.hi
  have o1 := ho.lo
  have o2 := ho.hi
  have h3 := hf.lo
  have h4 := hf.hi
  refine ⟨h3, ?_, (by decide : (1 : Int) ≤ 1), ?_, ?_⟩
  · have : (a + 1) * (o + 1) ≤ 10000 * 10000 := Int.mul_le_mul (by omega) (by omega) (by omega) (by decide)
    show (a + 1) * (o + 1) ≤ 10 ^ 12
    omega
  · have : 1 * 1 ≤ a * o := Int.mul_le_mul a1 o1 (by decide) (by omega)
    show 1 ≤ a * o
    omega
  · show (f + 1) * 1 ≤ 10 ^ 12
    omega
theorem first_from {P : Int → Int} {lo : Int} : ∀ n : Nat, lo ≤ P n → ∃ k : Nat, k ≤ n ∧ lo ≤ P k ∧ (k = 0 ∨ P ((k : Int) - 1) < lo)
  | 0, h => ⟨0, by omega, h, .inl rfl⟩
  | n + 1, h => by
    by_cases h1 : lo ≤ P (n : Int)
    · obtain ⟨k, h2, h3, h4⟩ := first_from n h1
      exact ⟨k, by omega, h3, h4⟩
    · exact ⟨n + 1, by omega, h, .inr (by rw [show (((n + 1 : Nat) : Int) - 1) = (n : Int) by omega]; omega)⟩
/-- a product of rows of eight digits behind -/
theorem prod_ex {a o b : Int} (ha : BegC a) (ho : BegC o) (hb : BegC b) (h : prodB a o b = true) : ∃ k, 0 ≤ k ∧ k < tenI 8 ∧ begins (PP a o (tenI 8) k) b = true := by
  have a1 := ha.lo
  have a2 := ha.hi
  have o1 := ho.lo
  have o2 := ho.hi
  have b1 := hb.lo
  have b2 := hb.hi
  unfold prodB at h
  rw [meets_iff (prodC ha ho hb)] at h
  obtain ⟨S, hS⟩ : ∃ S, S = tenI 8 := ⟨_, rfl⟩
  have vS : S = 100000000 := hS
  rw [← hS]
  obtain ⟨L, hL⟩ : ∃ L, L = a * o := ⟨_, rfl⟩
  obtain ⟨U, hU⟩ : ∃ U, U = (a + 1) * (o + 1) := ⟨_, rfl⟩
  have hLU : L + 1 ≤ U := by
    rw [hL, hU, Int.add_mul, Int.mul_add]
    omega
  have L1 : 1 ≤ L := by
    have : 1 * 1 ≤ a * o := Int.mul_le_mul a1 o1 (by decide) (by omega)
    omega
  have p0 : PP a o S 0 = L * 10 ^ 16 := by rw [PP_zero, ← hL, vS]; omega
  have pS : PP a o S S = U * 10 ^ 16 := by rw [PP_top, ← hU, vS]; omega
  -- the stretch, scaled, with an overlap of 10 ^ 13
  obtain ⟨j, h1, h2, h3⟩ : ∃ j : Nat, b * 10 ^ j + 10 ^ 13 ≤ U * 10 ^ 16 ∧ L * 10 ^ 16 + 10 ^ 13 ≤ (b + 1) * 10 ^ j ∧ (10 : Int) ^ 13 ≤ 10 ^ j := by
    rcases meet_red (prodC ha ho hb) h with ⟨k, hk, m1, m2⟩ | ⟨k, hk, m1, m2⟩
    · have m1 : b * 1 < (a + 1) * (o + 1) * 10 ^ k := m1
      have m2 : a * o * 10 ^ k < (b + 1) * 1 := m2
      rw [← hU, Int.mul_one] at m1
      rw [← hL, Int.mul_one] at m2
      have hk3 : k ≤ 3 := pow_le3 (f := b) (by
        have := Int.mul_le_mul_of_nonneg_right L1 (show 0 ≤ (10 : Int) ^ k by have := p10 k; omega)
        omega) b2
      have hp : (10 : Int) ^ k * 10 ^ (16 - k) = 10 ^ 16 := by rw [← Int.pow_add, show k + (16 - k) = 16 by omega]
      have hq : (10 : Int) ^ 13 ≤ 10 ^ (16 - k) := pow_lt (by omega)
      have t1 := Int.mul_le_mul_of_nonneg_right (show b + 1 ≤ U * 10 ^ k by omega) (show 0 ≤ (10 : Int) ^ (16 - k) by omega)
      have t2 := Int.mul_le_mul_of_nonneg_right (show L * 10 ^ k + 1 ≤ b + 1 by omega) (show 0 ≤ (10 : Int) ^ (16 - k) by omega)
      rw [Int.mul_assoc, hp, Int.add_mul, Int.one_mul] at t1
      rw [Int.add_mul (L * 10 ^ k), Int.mul_assoc, hp, Int.one_mul] at t2
      exact ⟨16 - k, by omega, by omega, hq⟩
    · have m1 : b * 10 ^ k * 1 < (a + 1) * (o + 1) := m1
      have m2 : a * o < (b + 1) * 10 ^ k * 1 := m2
      rw [← hU, Int.mul_one] at m1
      rw [← hL, Int.mul_one] at m2
      have hp : (10 : Int) ^ k * 10 ^ 16 = 10 ^ (k + 16) := by rw [← Int.pow_add]
      have hq : (10 : Int) ^ 13 ≤ 10 ^ (k + 16) := pow_lt (by omega)
      have e1 : b * 10 ^ (k + 16) = b * 10 ^ k * 10 ^ 16 := by rw [← hp, Int.mul_assoc]
      have e2 : (b + 1) * 10 ^ (k + 16) = (b + 1) * 10 ^ k * 10 ^ 16 := by rw [← hp, Int.mul_assoc]
      exact ⟨k + 16, by rw [e1]; omega, by rw [e2]; omega, hq⟩
  have e3 : (b + 1) * 10 ^ j = b * 10 ^ j + 10 ^ j := by rw [Int.add_mul, Int.one_mul]
  obtain ⟨k, k1, k2, k3⟩ := first_from (P := PP a o S) (lo := max (L * 10 ^ 16) (b * 10 ^ j)) 100000000 (by
    show max (L * 10 ^ 16) (b * 10 ^ j) ≤ PP a o S 100000000
    rw [← vS, pS]
    omega)
  have bA : a * S ≤ 9999 * 100000000 := Int.mul_le_mul a2 (by omega) (by omega) (by decide)
  have bO : o * S ≤ 9999 * 100000000 := Int.mul_le_mul o2 (by omega) (by omega) (by decide)
  have hlt : PP a o S k < min (U * 10 ^ 16) ((b + 1) * 10 ^ j) := by
    rcases k3 with rfl | k3
    · show PP a o S 0 < _
      rw [p0]
      omega
    · have := PP_step (a := a) (o := o) (S := S) (k := (k : Int) - 1)
      rw [show (k : Int) - 1 + 1 = k by omega] at this
      omega
  have kS : (k : Int) < S := by
    by_cases hc : (k : Int) < S
    · exact hc
    · rw [show (k : Int) = S by omega, pS] at hlt
      omega
  exact ⟨k, by omega, kS, begins_stretch (k := (j : Int)) b1 (by omega) (by rw [tenI_nn]; omega) (by rw [tenI_nn]; omega)⟩
/-- the example: the fewest digits, and of those the least -/
structure PEx (a o b M h : Int) : Prop where
  m0 : 0 ≤ M
  m1 : M ≤ 8
  h0 : 0 ≤ h
  h1 : h < tenI M
  be : begins (PP a o (tenI M) h) b = true
  le : ∀ k, 0 ≤ k → k < h → begins (PP a o (tenI M) k) b = false
  no : ∀ M', 0 ≤ M' → M' < M → ∀ k, 0 ≤ k → k < tenI M' → begins (PP a o (tenI M') k) b = false
abbrev spx_product_example (x : ExA) : Sp := spe3 fun a1 a2 a3 H Q E => ∃ a o b, a1 = .int a ∧ a2 = .int o ∧ a3 = .int b ∧ BegC a ∧ BegC o ∧ BegC b ∧ (prodB a o b = false → ∀ H', Ex H H' → E (.ref x.nf) none H') ∧
  (prodB a o b = true → ∀ M h, PEx a o b M h → ∀ p H', H p = none → Ex H H' → H' p = some (.tup ([a * tenI M + h, o * tenI M + h].map V.int)) → Q (.ref p) H')
def rdx_product_example (x : ExA) (E : XK) (K : PySem.W.Frag) : TS :=
      (tSeq (tDrop (tCall (sp_check_beginning) [] E0 (tCons (tVar 0) tNil)))
      (tSeq (tDrop (tCall (sp_check_beginning) [] E0 (tCons (tVar 1) tNil)))
      (tSeq (tDrop (tCall (sp_check_beginning) [] E0 (tCons (tVar 2) tNil)))
      (tSeq (tAsg (tCall (sp_product_bounds) [] E0 (tCons (tVar 0) (tCons (tVar 1) tNil))) (gTup K 2 (gCons (gName 3) (gCons (gName 4) gNil))))
      (tSeq (tIfS (tNot (tB (tCall (sp_meets) [] E0 (tCons (tVar 3) (tCons (tVar 4) (tCons (tVar 2) tNil))))))
        (tRaise x.nf E)
        tNext)
      (tSeq (tAsg (tC (.int 0)) (gName 5))
      (tSeq (tAsg (tCall (sp_least_behind) [] E0 (tCons (tVar 0) (tCons (tVar 1) (tCons (tVar 2) (tCons (tVar 5) tNil))))) (gName 6))
      (tSeq (tWhile (tTest (tOp rIsN (tVar 6) (tC .non)))
        (tSeq (tAug 5 (tC (.int 1)) rAddI)
      (tAsg (tCall (sp_least_behind) [] E0 (tCons (tVar 0) (tCons (tVar 1) (tCons (tVar 2) (tCons (tVar 5) tNil))))) (gName 6))))
      (tRet (tTup (tCons (tOp rAddI (tOp rMulX (tVar 0) (tCall (sp_ten_to) [] E0 (tCons (tVar 5) tNil))) (tVar 6)) (tCons (tOp rAddI (tOp rMulX (tVar 1) (tCall (sp_ten_to) [] E0 (tCons (tVar 5) tNil))) (tVar 6)) tNil))))))))))))
def N_product_example : List Str := ["one", "other", "beginning", "low", "high", "more", "found"]
theorem q_lb {σ : L2.St} {H : Hp} {t : TA} {E : XK} {a o b m : Int} {D : Ends} {tu : TS} {i : Nat} (h : EvA t σ H [.int a, .int o, .int b, .int m]) (ha : BegC a) (ho : BegC o) (hb : BegC b) (hm : 0 ≤ m ∧ m ≤ 8) (k : ∀ v H1, LBR a o b (tenI m) v → Ex H H1 → tu D (σ.set i (some v)) H1) : tSeq (tAsg (tCall sp_least_behind [] E t) (gName i)) tu D σ H :=
  h H (Ex.refl _) _ fun H1 e1 => ⟨a, o, b, m, rfl, rfl, rfl, rfl, ha, ho, hb, hm.1, hm.2, fun v hv H2 e2 => k v H2 hv (e1.trans e2)⟩
theorem s_lb {σ : L2.St} {H : Hp} {t : TA} {E : XK} {a o b m : Int} {D : Ends} {i : Nat} (h : EvA t σ H [.int a, .int o, .int b, .int m]) (ha : BegC a) (ho : BegC o) (hb : BegC b) (hm : 0 ≤ m ∧ m ≤ 8) (k : ∀ v H1, LBR a o b (tenI m) v → Ex H H1 → D.nx (σ.set i (some v)) H1) : tAsg (tCall sp_least_behind [] E t) (gName i) D σ H :=
  h H (Ex.refl _) _ fun H1 e1 => ⟨a, o, b, m, rfl, rfl, rfl, rfl, ha, ho, hb, hm.1, hm.2, fun v hv H2 e2 => k v H2 hv (e1.trans e2)⟩
theorem ev_meets {σ : L2.St} {H : Hp} {E : XK} {i j k : Nat} {pl ph : Addr} {l h : Int × Int} {f : Int} (h1 : σ[i]? = some (some (.ref pl))) (h2 : σ[j]? = some (some (.ref ph))) (h3 : σ[k]? = some (some (.int f))) (hl : H pl = some (tp l)) (hh : H ph = some (tp h)) (hf : 0 ≤ f ∧ f < 100000) : Ev (tCall sp_meets [] E (tCons (tVar i) (tCons (tVar j) (tCons (tVar k) tNil)))) σ H (.bl (meetsB l h f)) := fun H1 e Q q =>
  ⟨.ref pl, h1, .ref ph, h2, .int f, h3, pl, ph, l, h, f, rfl, rfl, rfl, e _ _ hl, e _ _ hh, hf, q⟩
theorem purex_product_example {x : ExA} {K : PySem.W.Frag} (vs : List V) (H : Hp) (Q : VK) (E : XK) (h : spx_product_example x vs H Q E) : rdx_product_example x E K { nx := fun _ H' => Q .non H', rt := Q } (start N_product_example vs) H := by
  match vs, h with
  | [a1, a2, a3], h =>
    obtain ⟨a, o, b, rfl, rfl, rfl, ha, ho, hb, he, q⟩ := h
    have a1 := ha.lo
    have a2 := ha.hi
    have o1 := ho.lo
    have o2 := ho.hi
    have b1 := hb.lo
    have b2 := hb.hi
    unfold rdx_product_example
    refine q_drop (v := .non) (by walk_at "ev"; exact ha) fun H1 e1 => ?_
    refine q_drop (v := .non) (by walk_at "ev"; exact ho) fun H2 e2 => ?_
    refine q_drop (v := .non) (by walk_at "ev"; exact hb) fun H3 e3 => ?_
    refine q_asgB (eb_bounds (m := a) (n := o) (by walk_at "ev") ha ho) fun pl ph H4 e4 hl hh => ?_
    have e14 := ((e1.trans e2).trans e3).trans e4
    show tSeq _ _ _ [some (.int a), some (.int o), some (.int b), some (.ref pl), some (.ref ph), none, none] H4
    refine q_if1 (b := !prodB a o b) (et_not (et_B (ev_meets (l := pbL a o) (h := pbH a o) rfl rfl rfl hl hh (by omega)))) (fun hb' H5 e5 => he (by simpa using hb') H5 (e14.trans e5)) (fun hb' H5 e5 => ?_)
    have hp : prodB a o b = true := by simpa using hb'
    refine q_asg (v := .int 0) ev_c fun H6 e6 => ?_
    show tSeq _ _ _ [some (.int a), some (.int o), some (.int b), some (.ref pl), some (.ref ph), some (.int 0), none] H6
    refine q_lb (a := a) (o := o) (b := b) (m := 0) (by walk_at "ev") ha ho hb (by decide) fun v H7 hv e7 => ?_
    show tSeq _ _ _ [some (.int a), some (.int o), some (.int b), some (.ref pl), some (.ref ph), some (.int 0), some v] H7
    refine q_while (fun w σ' H' => ∃ (M : Int) (v : V), σ' = [some (.int a), some (.int o), some (.int b), some (.ref pl), some (.ref ph), some (.int M), some v] ∧ w = (8 - M).toNat ∧ 0 ≤ M ∧ M ≤ 8 ∧ LBR a o b (tenI M) v ∧ (∀ M', 0 ≤ M' → M' < M → ∀ k, 0 ≤ k → k < tenI M' → begins (PP a o (tenI M') k) b = false) ∧ Ex H H') 8 ⟨0, v, rfl, by decide, by decide, by decide, hv, fun M' h1 h2 => by omega, ((e14.trans e5).trans e6).trans e7⟩ fun w σ' H8 hw => ?_
    obtain ⟨M, v, rfl, rfl, m0, m1, hv, hno, e8⟩ := hw
    rcases hv with ⟨rfl, hv⟩ | ⟨h, rfl, h0, h1, hbe, hle⟩
    · refine ⟨true, et_is (et_test (ev_op (ev_var rfl) ev_c rv_isN)) (by simp), fun _ H9 e9 => ?_, fun hf => by cases hf⟩
      have m8 : M < 8 := by
        by_cases hc : M < 8
        · exact hc
        · exfalso
          obtain ⟨k, k0, k1, k2⟩ := prod_ex ha ho hb hp
          rw [show M = 8 by omega] at hv
          rw [hv k k0 k1] at k2
          cases k2
      refine ⟨_, fun σ2 H3 hN => hN, ?_⟩
      refine q_aug0 (a := M) (b := 1) rfl ev_c fun H10 e10 => ?_
      refine s_lb (a := a) (o := o) (b := b) (m := M + 1) (by walk_at "ev") ha ho hb (by omega) fun v H11 hv' e11 => ?_
      refine ⟨(8 - (M + 1)).toNat, by omega, M + 1, v, rfl, rfl, by omega, by omega, hv', fun M' h1 h2 => ?_, ((e8.trans e9).trans e10).trans e11⟩
      by_cases hM : M' = M
      · rw [hM]; exact hv
      · exact hno M' h1 (by omega)
    · refine ⟨false, et_is (et_test (ev_op (ev_var rfl) ev_c rv_isN)) (by simp), (fun hf => by cases hf), fun _ H9 e9 => ?_⟩
      refine s_retU (xs := [.int (a * tenI M + h), .int (o * tenI M + h)]) (eu_tup (by
        walk_at "ev"
        · (show 0 ≤ M ∧ M ≤ 1000); omega
        · exact mulOk_l (by omega) (by omega)
        · (show 0 ≤ M ∧ M ≤ 1000); omega
        · exact mulOk_l (by omega) (by omega)) (by simp)) fun p H10 hpp e10 h10 => q hp M h ⟨m0, m1, h0, h1, hbe, hle, hno⟩ p H10 (fresh_back (e8.trans e9) hpp) ((e8.trans e9).trans e10) h10
end FD

namespace FD
open PySem PySem.Spec PyProof.Rows L2 Evl TL
local macro_rules | `(tactic| walk_at "ev") => `(tactic| repeat' (first | (with_reducible exact ev_c) | ((with_reducible apply ev_var); rfl) | (with_reducible exact ea_nil) | (with_reducible apply ea_cons) | (with_reducible apply ev_op) | (with_reducible exact rv_I0) | (with_reducible apply rv_I) | (with_reducible exact rv_eqI) | (with_reducible exact rv_neI) | (with_reducible exact rv_eqS) | (with_reducible apply ev_ok) | (with_reducible apply ev_cb) | (with_reducible apply spv_I1) | (with_reducible apply spv_I2) | (with_reducible apply spv_I3) | (with_reducible apply et_test) | (with_reducible apply et_B) | (with_reducible apply et_not) | (with_reducible apply ev_notV) | (with_reducible apply ev_un) | (with_reducible exact ru_negI) | (with_reducible exact rc_max2) | (with_reducible exact rc_min2) | (with_reducible exact rv_isB) | (with_reducible exact rv_notB) | (with_reducible exact rv_isN) | (with_reducible exact rv_notN) | (with_reducible apply ev_chainI) | (with_reducible exact rc_isiI) | (with_reducible exact rc_isiB)))
/-! ### methods of the class Row -/
structure FunM (K : PySem.W.Frag) (C : Addr) (m q : Str) (st : Stmt) : Prop where
  ex : ∃ (f : Addr) (fd : FuncData), Meth K C m f ∧ Fun K m q st f fd
structure FunI (K : PySem.W.Frag) (C : Addr) (q : Str) (st : Stmt) : Prop where
  ex : ∃ (f : Addr) (fd : FuncData), Mk K C f ∧ Fun K "__init__" q st f fd
structure OkM (P : Program) (w : World) (K : PySem.W.Frag) (mg : Str → Option Value) (base : Heap) (CX : CXT) (k : Nat) (C : Addr) (m : Str) (ps : List Str) (sp : Sp) : Prop where
  ex : ∃ (f : Addr) (fd : FuncData), Meth K C m f ∧ Binds K fd ps [] ∧ FnOk P w K mg base CX k f fd ps sp
structure OkI (P : Program) (w : World) (K : PySem.W.Frag) (mg : Str → Option Value) (base : Heap) (CX : CXT) (k : Nat) (C : Addr) (ps : List Str) (sp : Sp) : Prop where
  ex : ∃ (f : Addr) (fd : FuncData), Mk K C f ∧ Binds K fd ps [] ∧ FnOk P w K mg base CX k f fd ps sp
/-- what of the text the class must have -/
structure RowF (K : PySem.W.Frag) (mg : Str → Option Value) (c : Addr) : Prop where
  cl : Cls K c
  nl : NoAttr K c "line"
  np : NoAttr K c "past"
  g : mg "Row" = some (.ref c)
section
variable {P : Program} {w : World} {K : PySem.W.Frag} {mg : Str → Option Value} {base : Heap} {C : Addr}
theorem OkM.of {m qn : Str} {st : Stmt} {N ps : List Str} {k : Nat} {sp : Sp} (F : FunM K C m qn st) (S : FnScope N ps (defScope st)) (len : ∀ vs H Q E, sp vs H Q E → vs.length = ps.length)
    (hb : ∀ (kV doc pm : Value) (an : Option Addr) (cdv ct : Value) (us : List Value), us.length = ps.length → bindArgs (PySem.W.fnOf m qn (defArgs st) (defBody st) (defScope st) .none kV doc pm an cdv ct) ⟨us, []⟩ = pure (ps.zip us))
    (rd : TS) (pure : ∀ vs H Q E, sp vs H Q E → rd { nx := fun _ H' => Q .non H', rt := Q } (start N vs) H)
    (hbody : ∀ (f : Addr) (cdv : Value) (A : Around) (outer : List Env) (s : Shared) (H : Hp) (E : XK), Room k (A.deeper (envOfC qn (defScope st) s.heap.objs.size f cdv)) →
      PSs (cxOf CX0 P w K mg base N qn (defScope st) f cdv A outer s H E).nox (defBody st) rd) : OkM P w K mg base CX0 (k + 1) C m ps sp := by
  obtain ⟨f, fd, hm, F⟩ := F.ex
  exact ⟨f, fd, hm, F.binds hb, F.ok S len fun cdv A outer s H vs Q E hr h => ⟨rd, hbody f cdv A outer s H E hr, pure vs H Q E h⟩⟩
theorem OkM.ofX {m qn : Str} {st : Stmt} {N ps : List Str} {k : Nat} {sp : Sp} (F : FunM K C m qn st) (S : FnScope N ps (defScope st)) (len : ∀ vs H Q E, sp vs H Q E → vs.length = ps.length)
    (hb : ∀ (kV doc pm : Value) (an : Option Addr) (cdv ct : Value) (us : List Value), us.length = ps.length → bindArgs (PySem.W.fnOf m qn (defArgs st) (defBody st) (defScope st) .none kV doc pm an cdv ct) ⟨us, []⟩ = pure (ps.zip us))
    (rd : XK → TS) (pure : ∀ vs H Q E, sp vs H Q E → rd E { nx := fun _ H' => Q .non H', rt := Q } (start N vs) H)
    (hbody : ∀ (f : Addr) (cdv : Value) (A : Around) (outer : List Env) (s : Shared) (H : Hp) (E : XK), Room k (A.deeper (envOfC qn (defScope st) s.heap.objs.size f cdv)) →
      PSs (cxOf (L2.CX P w) P w K mg base N qn (defScope st) f cdv A outer s H E) (defBody st) (rd E)) : OkM P w K mg base (L2.CX P w) (k + 1) C m ps sp := by
  obtain ⟨f, fd, hm, F⟩ := F.ex
  exact ⟨f, fd, hm, F.binds hb, F.okX S len fun cdv A outer s H vs Q E hr h => ⟨rd E, hbody f cdv A outer s H E hr, pure vs H Q E h⟩⟩
theorem OkI.ofX {qn : Str} {st : Stmt} {N ps : List Str} {k : Nat} {sp : Sp} (F : FunI K C qn st) (S : FnScope N ps (defScope st)) (len : ∀ vs H Q E, sp vs H Q E → vs.length = ps.length)
    (hb : ∀ (kV doc pm : Value) (an : Option Addr) (cdv ct : Value) (us : List Value), us.length = ps.length → bindArgs (PySem.W.fnOf "__init__" qn (defArgs st) (defBody st) (defScope st) .none kV doc pm an cdv ct) ⟨us, []⟩ = pure (ps.zip us))
    (rd : XK → TS) (pure : ∀ vs H Q E, sp vs H Q E → rd E { nx := fun _ H' => Q .non H', rt := Q } (start N vs) H)
    (hbody : ∀ (f : Addr) (cdv : Value) (A : Around) (outer : List Env) (s : Shared) (H : Hp) (E : XK), Room k (A.deeper (envOfC qn (defScope st) s.heap.objs.size f cdv)) →
      PSs (cxOf (L2.CX P w) P w K mg base N qn (defScope st) f cdv A outer s H E) (defBody st) (rd E)) : OkI P w K mg base (L2.CX P w) (k + 1) C ps sp := by
  obtain ⟨f, fd, hm, F⟩ := F.ex
  exact ⟨f, fd, hm, F.binds hb, F.okX S len fun cdv A outer s H vs Q E hr h => ⟨rd E, hbody f cdv A outer s H E hr, pure vs H Q E h⟩⟩
end
theorem funM_of {K : PySem.W.Frag} {mg : Str → Option Value} {C : Addr} {m qn : Str} {st : Stmt} {f : Addr} {od an : Option Addr} {sl : Array (Option Value)} {oc kV dc pm cd ct : Value} (_R : RowF K mg C) (a : PySem.W.findIn K (.ref C) m = some (some (.ref f))) (i : PySem.W.isFn K (.ref f) = true)
    (l : K.lookup f = some ⟨oc, od, .func (PySem.W.fnOf m qn (defArgs st) (defBody st) (defScope st) .none kV dc pm an cd ct), sl⟩)
    (c : PySem.W.codeIn K cd qn = true) (k : PySem.W.keepIn K (.ref f) = true) : FunM K C m qn st := ⟨f, _, ⟨a, i, k⟩, fun_mk (st := st) l c k⟩
theorem funI_of {K : PySem.W.Frag} {mg : Str → Option Value} {C : Addr} {qn : Str} {st : Stmt} {f : Addr} {od an : Option Addr} {sl : Array (Option Value)} {oc kV dc pm cd ct : Value} (_R : RowF K mg C) (mk : PySem.W.makesIn K C = true) (a : PySem.W.findIn K (.ref C) "__init__" = some (some (.ref f))) (i : PySem.W.isFn K (.ref f) = true)
    (kc : PySem.W.keepIn K (.ref C) = true) (l : K.lookup f = some ⟨oc, od, .func (PySem.W.fnOf "__init__" qn (defArgs st) (defBody st) (defScope st) .none kV dc pm an cd ct), sl⟩)
    (c : PySem.W.codeIn K cd qn = true) (k : PySem.W.keepIn K (.ref f) = true) : FunI K C qn st := ⟨f, _, ⟨mk, a, i, kc⟩, fun_mk (st := st) l c k⟩
theorem rowF_of {K : PySem.W.Frag} {h : Heap} {mg : Str → Option Value} {c : Addr} (X : K.In h) (G : h.Ns mainGlobals mg) (a : PySem.W.nsIn K mainGlobals "Row" = some (some (.ref c))) (pg : PySem.W.plainGet K c Str.empty = true) (hd : PySem.W.hasDictIn K c = true) (po : PySem.W.plainOver K c = true)
    (sa : PySem.W.findIn K (.ref c) "__setattr__" = some (some (.builtin "object.__setattr__"))) (nl : PySem.W.findIn K (.ref c) "line" = some none) (np : PySem.W.findIn K (.ref c) "past" = some none) : RowF K mg c := ⟨⟨pg, hd, po, sa⟩, nl, np, PySem.W.mg_of X G a⟩
/-- o.m(..) within a try -/
def tMethT (C : Addr) (m : Str) (sp : Sp) (E : L2.St → XK) (ta : TE) (t : TA) : TE := fun σ H Q => ta σ H fun x H1 => ∃ a dx fs, x = .ref a ∧ H1 a = some (.ins C dx fs) ∧ fs.lookup m = none ∧
  t σ H1 fun vs H2 => sp (x :: vs) H2 Q (E σ)
section
variable {X : Cx} {CX : CXT} {k : Nat} {C : Addr} {ps : List Str} {sp : Sp} {E : XK} {ES : L2.St → XK} {x m : Str} {p pos apos : Pos} {e o : Expr} {es : List Expr} {ta : TE} {t : TA}
theorem pe_okM {pl : Sem Bool} (G : OkM X.prog X.w X.K X.mg X.base CX k C m ps sp) (c : Cls X.K C) (he : PE X o ta) (hr : Room k X.A) (hx : Passes CX X E) (ha : PA X (e :: es) t)
    (hst : starEach (e :: es) X.env = (false, eval e X.env) :: starEach es X.env := by rfl) (hpl : (backTo pos (starEach es X.env)).any (·.1) = false := by rfl)
    (ht : eval (.Call (.Attribute o m apos) (e :: es) [] pos) X.env = (do
      let ov ← eval o X.env
      standAt apos.atName
      let (f, first) ← holding [ov] (getMethod ov m pl)
      callWith pos f first (backTo pos (starEach (e :: es) X.env)) (backToKw pos (keywordEach [] X.env))) := by rfl) :
    PE X (.Call (.Attribute o m apos) (e :: es) [] pos) (tMeth C m sp [] E ta t) := by
  obtain ⟨f, fd, hm, hb, F⟩ := G.ex
  exact pe_meth (pl := pl) he c hm F hr hb .nil hx ha hst hpl ht
theorem pe_okM0 {pl : Sem Bool} (G : OkM X.prog X.w X.K X.mg X.base CX k C m ps sp) (c : Cls X.K C) (he : PE X o ta) (hr : Room k X.A) (hx : Passes CX X E)
    (ht : eval (.Call (.Attribute o m apos) [] [] pos) X.env = (do
      let ov ← eval o X.env
      standAt apos.atName
      let (f, first) ← holding [ov] (getMethod ov m pl)
      callWith pos f first (backTo pos (starEach [] X.env)) (backToKw pos (keywordEach [] X.env))) := by rfl) :
    PE X (.Call (.Attribute o m apos) [] [] pos) (tMeth C m sp [] E ta tNil) := by
  obtain ⟨f, fd, hm, hb, F⟩ := G.ex
  exact pe_meth0 (pl := pl) he c hm F hr hb .nil hx ht
theorem pe_okMT {pl : Sem Bool} (G : OkM X.prog X.w X.K X.mg X.base CX k C m ps sp) (c : Cls X.K C) (he : PE X o ta) (hr : Room k X.A) (hx : ∀ σ, PassesAt CX X σ (ES σ)) (ha : PA X (e :: es) t)
    (hst : starEach (e :: es) X.env = (false, eval e X.env) :: starEach es X.env := by rfl) (hpl : (backTo pos (starEach es X.env)).any (·.1) = false := by rfl)
    (ht : eval (.Call (.Attribute o m apos) (e :: es) [] pos) X.env = (do
      let ov ← eval o X.env
      standAt apos.atName
      let (f, first) ← holding [ov] (getMethod ov m pl)
      callWith pos f first (backTo pos (starEach (e :: es) X.env)) (backToKw pos (keywordEach [] X.env))) := by rfl) :
    PE X (.Call (.Attribute o m apos) (e :: es) [] pos) (tMethT C m sp ES ta t) := by
  obtain ⟨f, fd, hm, hb, F⟩ := G.ex
  constructor
  intro pins s σ H Q I h
  refine PySem.W.methodCall_KW (pl := pl) (thn (he.run pins s σ H _ I h) ?_) ht
  rintro u s1 ⟨v, H1, I1, rx, a, dx, fs, rfl, ea, l, q⟩
  cases rx
  refine getmeth_ok I1 ea c hm l (PySem.W.callWith_K (first := [.ref a]) (h₀ := X.base) I.ok.mod.kin hm.kp (thn (ha.run pos pins s1 σ H1 _ I1 q) ?_) hst hpl)
  rintro us s2 ⟨vs, H2, I2, r, q2⟩
  exact ⟨I2.kIn, run_fnS (us := .ref a :: us) (vs := .ref a :: vs) F hr hb (hx σ) I2 (.cons rfl r) q2⟩
theorem pe_okMT0 {pl : Sem Bool} (G : OkM X.prog X.w X.K X.mg X.base CX k C m ps sp) (c : Cls X.K C) (he : PE X o ta) (hr : Room k X.A) (hx : ∀ σ, PassesAt CX X σ (ES σ))
    (ht : eval (.Call (.Attribute o m apos) [] [] pos) X.env = (do
      let ov ← eval o X.env
      standAt apos.atName
      let (f, first) ← holding [ov] (getMethod ov m pl)
      callWith pos f first (backTo pos (starEach [] X.env)) (backToKw pos (keywordEach [] X.env))) := by rfl) :
    PE X (.Call (.Attribute o m apos) [] [] pos) (tMethT C m sp ES ta tNil) := by
  obtain ⟨f, fd, hm, hb, F⟩ := G.ex
  constructor
  intro pins s σ H Q I h
  refine PySem.W.methodCall_KW (pl := pl) (thn (he.run pins s σ H _ I h) ?_) ht
  rintro u s1 ⟨v, H1, I1, rx, a, dx, fs, rfl, ea, l, q⟩
  cases rx
  exact getmeth_ok I1 ea c hm l (PySem.W.callWith_K0 (first := [.ref a]) I1.kIn hm.kp (run_fnS (us := [.ref a]) (vs := [.ref a]) F hr hb (hx σ) I1 (.cons rfl .nil) q))
theorem pe_okMk (G : OkI X.prog X.w X.K X.mg X.base CX k C ps sp) (hr : Room (k + 1) X.A) (hg : Gl X x) (hm : X.mg x = some (.ref C)) (hx : Passes CX X E) (ha : PA X (e :: es) t)
    (hdb : (x == ("__debug__" : Str)) = false := by decide) (he : starEach (e :: es) X.env = (false, eval e X.env) :: starEach es X.env := by rfl) (hpl : (backTo pos (starEach es X.env)).any (·.1) = false := by rfl) :
    PE X (.Call (.Name x p) (e :: es) [] pos) (tMake C sp [] E t) := by
  obtain ⟨f, fd, hM, hb, F⟩ := G.ex
  exact pe_make hM F hr hg hm hb .nil hx ha hdb he hpl
end
/-! ### len(row): the class's own __len__ -/
def rLenO (C : Addr) (sp : Sp) : List V → Hp → VK → Prop := fun xs H Q => ∃ (a dx : Addr) (fs : List (Str × V)), xs = [.ref a] ∧ H a = some (.ins C dx fs) ∧ sp [.ref a] H (fun v H' => ∃ n : Int, v = .int n ∧ 0 ≤ n ∧ n < 2 ^ 62 ∧ Q (.int n) H') E0
theorem call_lenO {X : Cx} {C : Addr} {k : Nat} {ps : List Str} {sp : Sp} (G : OkM X.prog X.w X.K X.mg X.base CX0 k C "__len__" ps sp) (hr : Room (k + 1) X.A) : CallR X (.builtin "len") (rLenO C sp) := by
  intro pins s σ H xs us Q I r h
  obtain ⟨a, dx, fs, rfl, ha, hs⟩ := h
  obtain ⟨f, fd, hm, hb, F⟩ := G.ex
  obtain ⟨u, rfl, ru⟩ := vals1 r
  cases ru
  obtain ⟨mA, O, _, _, _, _⟩ := ins_get I.hok ha
  have hlen : [Value.ref a].length = ps.length := F.len _ _ _ _ hs
  have bind := hb s [.ref a] I.kIn (by rw [List.append_nil]; exact hlen)
  rw [List.append_nil] at bind
  have T : PySem.W.Looks (model X.prog X.w) s.heap (typeOf (.ref a)) (.ref C) := fun A Q E s' k q => wpAny_typeOf_ref (k _ _ O.obj) q
  have run : wpAny (model X.prog X.w) X.A.in1 (call (.ref f) [.ref a]) (EP X pins σ fun v H' => ∃ n : Int, v = .int n ∧ 0 ≤ n ∧ n < 2 ^ 62 ∧ Q (.int n) H') X.xe s := by
    refine wpAny_call (codeAny_mono (F.run X.A.in1 X.stack s H ⟨[.ref a], []⟩ [.ref a] [.ref a] _ E0 hr.in1 I.env0.in1 bind (.cons rfl .nil) hs) ?_)
    intro r s' hq
    cases r with
    | error e => exact False.elim hq
    | ok fl =>
      cases fl with
      | ret u => exact I.after hq
      | next => exact False.elim hq
      | brk => exact False.elim hq
      | cont => exact False.elim hq
  have own : wpAny (model X.prog X.w) X.A.in1 (callSpecial? (.ref a) (PySem.Str.ofString "__len__")) (fun o s' => ∃ v, o = some v ∧ EP X pins σ (fun v H' => ∃ n : Int, v = .int n ∧ 0 ≤ n ∧ n < 2 ^ 62 ∧ Q (.int n) H') v s') X.xe s := by
    simp only [callSpecial?]
    unfold specialOf
    refine wpAny_bind (wpAny_bind (T.here ((PySem.W.looks_findIn I.kIn hm.at_).here ?_)))
    have fn : PySem.W.typeIn X.K (.ref f) = some (.type "function") := beq_iff_eq.mp hm.fn
    refine wpAny_holding (wpAny_bind ((PySem.W.bind_fn I.kIn _ fn).here ?_))
    exact wpAny_bind (wpAny_mono run (fun v s' hv => wpAny_pure ⟨v, rfl, hv⟩) fun _ _ z => z)
  refine Calls.call_function_entry kind_len plain_len entry_len (args_len1 _) ?_
  unfold Builtin.«len»
  refine wpAny_bind (m := oneArg "len" _) (wpAny_pure ?_)
  refine wpAny_bind (wpAny_mono own ?_ fun _ _ z => z)
  rintro _ s' ⟨v, rfl, w, H', I', rv, n, rfl, n0, n1, q⟩
  obtain ⟨t, rfl⟩ := rv
  refine wpAny_bind (wpAny_holding (wpAny_pure (wpAny_bind (wpAny_letGo ?_))))
  show wpAny _ _ (if n < 0 then _ else _) _ _ _
  rw [if_neg (by omega)]
  show wpAny _ _ (if n ≥ 2 ^ 63 then _ else _) _ _ _
  rw [if_neg (by omega)]
  exact wpAny_bind (wpAny_mkInt (wpAny_pure ⟨_, rfl, .int n, H', I'.tok _, ⟨_, rfl⟩, q⟩))
/-- of the exception classes, those that are raised in laws that catch nothing -/
structure ExN (K : PySem.W.Frag) (mg : Str → Option Value) (x : ExA) : Prop where
  gbn : mg "BadNumber" = some (.ref x.bn)
  gnf : mg "NotFound" = some (.ref x.nf)
  bn : ExF K x.bn x.de
  nf : ExF K x.nf x.de
theorem exN_of {K : PySem.W.Frag} {h : Heap} {mg : Str → Option Value} {de bn nf : Addr} (X : K.In h) (G : h.Ns mainGlobals mg) (a_de : PySem.W.nsIn K mainGlobals "DigitError" = some (some (.ref de))) (a_bn : PySem.W.nsIn K mainGlobals "BadNumber" = some (some (.ref bn))) (a_nf : PySem.W.nsIn K mainGlobals "NotFound" = some (some (.ref nf)))
    (f_bn : ExF K bn de) (f_nf : ExF K nf de) : ExN K mg ⟨de, bn, de, de, de, nf⟩ := ⟨PySem.W.mg_of X G a_bn, PySem.W.mg_of X G a_nf, f_bn, f_nf⟩
end FD

namespace FD
open PySem PySem.Spec PyProof.Rows L2 Evl TL
local macro_rules | `(tactic| walk_at "ev") => `(tactic| repeat' (first | (with_reducible exact ev_c) | ((with_reducible apply ev_var); rfl) | (with_reducible exact ea_nil) | (with_reducible apply ea_cons) | (with_reducible apply ev_op) | (with_reducible exact rv_I0) | (with_reducible apply rv_I) | (with_reducible exact rv_eqI) | (with_reducible exact rv_neI) | (with_reducible exact rv_eqS) | (with_reducible apply ev_ok) | (with_reducible apply ev_cb) | (with_reducible apply spv_I1) | (with_reducible apply spv_I2) | (with_reducible apply spv_I3) | (with_reducible apply et_test) | (with_reducible apply et_B) | (with_reducible apply et_not) | (with_reducible apply ev_notV) | (with_reducible apply ev_un) | (with_reducible exact ru_negI) | (with_reducible exact rc_max2) | (with_reducible exact rc_min2) | (with_reducible exact rv_isB) | (with_reducible exact rv_notB) | (with_reducible exact rv_isN) | (with_reducible exact rv_notN) | (with_reducible apply ev_chainI) | (with_reducible exact rc_isiI) | (with_reducible exact rc_isiB)))
/-! ### how a row lies in the heap: its numbers but the last, and the last -/
def rowFs (l p : Addr) : List (Str × V) := [("line", .ref l), ("past", .ref p)]
structure RowAt (c : Addr) (H : Hp) (r l p : Addr) (ms : List Int) (z : Int) : Prop where
  ob : ∃ dx, H r = some (.ins c dx (rowFs l p))
  ln : H l = some (.lst ((ms ++ [z]).map V.int))
  ps : H p = some (.lst (ms.map V.int))
  ne : l ≠ p
  nm : ∀ y ∈ ms ++ [z], NumC y
  sz : ms.length ≤ 1000
theorem RowAt.zn {c : Addr} {H : Hp} {r l p : Addr} {ms : List Int} {z : Int} (h : RowAt c H r l p ms z) : NumC z := h.nm z (by simp)
theorem RowAt.ex {c : Addr} {H H' : Hp} {r l p : Addr} {ms : List Int} {z : Int} (h : RowAt c H r l p ms z) (e : Ex H H') : RowAt c H' r l p ms z := by
  obtain ⟨dx, hd⟩ := h.ob
  exact ⟨⟨dx, e _ _ hd⟩, e _ _ h.ln, e _ _ h.ps, h.ne, h.nm, h.sz⟩
/-- all but the row's two lists stays -/
structure RowGo (l p : Addr) (H H' : Hp) : Prop where
  st : ∀ b o, b ≠ l → b ≠ p → H b = some o → H' b = some o
  fr : ∀ b, H' b = none → H b = none
theorem RowGo.of {l p : Addr} {H H' : Hp} (e : Ex H H') : RowGo l p H H' := ⟨fun b o _ _ h => e b o h, fun b h => fresh_back e h⟩
theorem RowGo.trans {l p : Addr} {H H1 H2 : Hp} (a : RowGo l p H H1) (b : RowGo l p H1 H2) : RowGo l p H H2 := ⟨fun x o h1 h2 q => b.st x o h1 h2 (a.st x o h1 h2 q), fun x q => a.fr x (b.fr x q)⟩
theorem lk_line (l p : Addr) : (rowFs l p).lookup ("line" : Str) = some (.ref l) := by
  unfold rowFs
  have e : (("line" : Str) == "line") = true := beq_self_eq_true _
  simp only [List.lookup, e]
theorem lk_past (l p : Addr) : (rowFs l p).lookup ("past" : Str) = some (.ref p) := by
  unfold rowFs
  have e1 : (("past" : Str) == "line") = false := by decide +kernel
  have e2 : (("past" : Str) == "past") = true := beq_self_eq_true _
  simp only [List.lookup, e1, e2]
theorem lk_none {l p : Addr} {m : Str} (h1 : (m == ("line" : Str)) = false) (h2 : (m == ("past" : Str)) = false) : (rowFs l p).lookup m = none := by
  unfold rowFs
  simp only [List.lookup, h1, h2]
theorem put_new (l p : Addr) : putF "past" (.ref p) (putF "line" (.ref l) []) = rowFs l p := by
  have e : ¬ ("line" : Str) = "past" := by decide +kernel
  show (if ("line" : Str) = "past" then _ else _) = _
  rw [if_neg e]
  rfl
section
variable {K : PySem.W.Frag} {mg : Str → Option Value} {c : Addr} {σ : L2.St} {H : Hp} {ta tb te : TE} {t : TA} {E : XK} {r l p : Addr} {ms : List Int} {z : Int} {tu : TS} {D : Ends} {i : Nat}
theorem ev_line (R : RowF K mg c) (h : Ev ta σ H (.ref r)) (hr : RowAt c H r l p ms z) : Ev (tFld K ta "line") σ H (.ref l) := fun H1 e Q q => h H1 e _ fun H2 e2 => by
  obtain ⟨dx, hd⟩ := hr.ob
  exact ⟨r, c, dx, _, .ref l, rfl, (e.trans e2) _ _ hd, R.cl, R.nl, lk_line l p, q H2 e2⟩
theorem ev_past (R : RowF K mg c) (h : Ev ta σ H (.ref r)) (hr : RowAt c H r l p ms z) : Ev (tFld K ta "past") σ H (.ref p) := fun H1 e Q q => h H1 e _ fun H2 e2 => by
  obtain ⟨dx, hd⟩ := hr.ob
  exact ⟨r, c, dx, _, .ref p, rfl, (e.trans e2) _ _ hd, R.cl, R.np, lk_past l p, q H2 e2⟩
theorem ev_last (R : RowF K mg c) (h : Ev ta σ H (.ref r)) (hr : RowAt c H r l p ms z) : Ev (tOp (rIxL K) (tFld K ta "line") (tUn rNeg (tC (.int 1)))) σ H (.int z) := ev_lastL (ev_line R h hr) hr.ln
/-- [.. for i, x in enumerate(a list of ints at hand) if ..] -/
theorem el_lcEnumV {tl : TE} {t : TT} {ja jb : Nat} {vs : List Nat} {a : Addr} {xs : List Int} (f : Int → Bool) (v : Int → V) (h : Ev tl σ H (.ref a)) (hx : H a = some (.lst (xs.map V.int))) (hz : xs.length ≤ 40000) (hw : ∀ x y, wipe (((wipe σ vs).set ja (some x)).set jb (some y)) vs = wipe σ vs)
    (ht : ∀ (i : Nat) z H1, Ex H H1 → xs[i]? = some z → EvT t (((wipe σ vs).set ja (some (.int (i : Int)))).set jb (some (.int z))) H1 (f i))
    (he : ∀ (i : Nat) z H1, Ex H H1 → xs[i]? = some z → f i = true → Ev te (((wipe σ vs).set ja (some (.int (i : Int)))).set jb (some (.int z))) H1 (v i)) :
    EvL (tLc (iEnum K (tCons tl tNil)) (gTup K 2 (gCons (gName ja) (gCons (gName jb) gNil))) t te vs) σ H (((rgI 0 xs.length).filter f).map v) := fun H0 e Q q =>
  h H0 e _ fun H1 e1 => ⟨a, xs.map V.int, rfl, sq_of ((e.trans e1) _ _ hx), fun Dl hD =>
    lc_it (walk_enum (K := K) (a := a) (xs := xs.map V.int)) (Cw H1 (fun i => f i) (fun i => v i) Dl) ⟨hD, Ex.new hD, upd_same⟩ (fun i H' _ p' => sq_of (p'.2.1 a _ ((e.trans e1) _ _ hx))) (fun i x H' H'' hi p' y => by
      obtain ⟨T, x1, x2, rfl, hT, rfl, h1, h2⟩ := y
      have h1 : .int (i : Int) = x1 := Option.some.inj h1
      rw [List.length_map] at hi
      have h3 : (xs.map V.int)[i]? = some (.int xs[i]) := by rw [List.getElem?_map, List.getElem?_eq_getElem hi]; rfl
      have h4 : .int xs[i] = x2 := Option.some.inj (h3.symm.trans h2)
      subst h1
      subst h4
      have p2 := cw_ex p' (Ex.new (o := .tup [.int (i : Int), .int xs[i]]) hT)
      refine ⟨T, _, rfl, st_of upd_same, rfl, _, _, rfl, _, _, rfl, rfl, hw _ _, ?_⟩
      exact cw_turn p2 (by omega) (ht i _ H1 (e.trans e1) (List.getElem?_eq_getElem hi)) (fun hf => he i _ H1 (e.trans e1) (List.getElem?_eq_getElem hi) hf)) (fun H' p' => by
      obtain ⟨p1, p2, p3⟩ := p'
      rw [List.length_map] at p3
      have hg := given_rg (a := 0) (b := (xs.length : Int)) f v
      rw [Int.sub_zero, Int.toNat_natCast] at hg
      have hfun : given xs.length (fun i => f i) (fun i => v i) = ((rgI 0 xs.length).filter f).map v := by
        rw [← hg]
        unfold given
        congr 1
        · funext i; rw [Int.zero_add]
        · congr 1
          funext i; rw [Int.zero_add]
      rw [hfun] at p3
      exact q Dl H' (fresh_back e1 p1) (e1.trans p2) p3)⟩
end
/-! ### checks that raise (ints) -/
abbrev spx_check_number (x : ExA) : Sp := spe1 fun a H Q E => ∃ n, a = .int n ∧ (NumC n → ∀ H', Ex H H' → Q .non H') ∧ (¬ NumC n → ∀ H', Ex H H' → E (.ref x.bn) none H')
def rdx_check_number (x : ExA) (E : XK) (K : PySem.W.Frag) : TS :=
      (tIfS (tNot (tB (tCall (sp_is_number) [] E0 (tCons (tVar 0) tNil))))
        (tRaise x.bn E)
        tNext)
theorem purex_check_number {x : ExA} {K : PySem.W.Frag} (vs : List V) (H : Hp) (Q : VK) (E : XK) (h : spx_check_number x vs H Q E) : rdx_check_number x E K { nx := fun _ H' => Q .non H', rt := Q } (start N_check_number vs) H := by
  match vs, h with
  | [a], h =>
    obtain ⟨n, rfl, q, he⟩ := h
    exact s_if (b := !decide (NumC n)) (et_not (et_B (ev_ok (vs := [.int n]) (ea_cons (ev_var rfl) ea_nil) (spv_I1 (g := fun n => .bl (decide (NumC n))) trivial)))) (fun hb H1 e => he (of_decide_eq_false (by simpa using hb)) H1 e) (fun hb H1 e => q (of_decide_eq_true (by simpa using hb)) H1 e)
abbrev spx_check_base (x : ExA) : Sp := spe1 fun a H Q E => ∃ n, a = .int n ∧ (BaseC n → ∀ H', Ex H H' → Q .non H') ∧ (¬ BaseC n → ∀ H', Ex H H' → E (.ref x.bn) none H')
def rdx_check_base (x : ExA) (E : XK) (K : PySem.W.Frag) : TS :=
      (tIfS (tNot (tB (tCall (sp_is_int) [] E0 (tCons (tVar 0) (tCons (tC (.int 2)) (tCons (tC (.int 99)) tNil))))))
        (tRaise x.bn E)
        tNext)
theorem purex_check_base {x : ExA} {K : PySem.W.Frag} (vs : List V) (H : Hp) (Q : VK) (E : XK) (h : spx_check_base x vs H Q E) : rdx_check_base x E K { nx := fun _ H' => Q .non H', rt := Q } (start N_check_base vs) H := by
  match vs, h with
  | [a], h =>
    obtain ⟨n, rfl, q, he⟩ := h
    refine s_if (b := !(decide (2 ≤ n) && decide (n ≤ 99))) (et_not (et_B (ev_ok (vs := [.int n, .int 2, .int 99]) (by walk_at "ev") (spv_I3 (g := fun v lo hi => .bl (decide (lo ≤ v) && decide (v ≤ hi))) trivial)))) (fun hb H1 e => he (fun hB => ?_) H1 e) (fun hb H1 e => q ?_ H1 e)
    · rw [decide_eq_true hB.lo, decide_eq_true hB.hi] at hb
      cases hb
    · have : (decide (2 ≤ n) && decide (n ≤ 99)) = true := by simpa using hb
      rw [Bool.and_eq_true, decide_eq_true_eq, decide_eq_true_eq] at this
      exact ⟨this.1, this.2⟩
/-! ### the methods -/
abbrev spx_Row_init (x : ExA) (c : Addr) : Sp := spe2 fun s a H Q E => ∃ r dx n, s = .ref r ∧ a = .int n ∧ H r = some (.ins c dx []) ∧
  (NumC n → ∀ l p H', RowAt c H' r l p [] n → (∀ b o, b ≠ r → H b = some o → H' b = some o) → H l = none → H p = none → (∀ b, H' b = none → H b = none) → Q .non H') ∧ (¬ NumC n → ∀ H', Ex H H' → E (.ref x.bn) none H')
def rdx_Row_init (x : ExA) (E : XK) (K : PySem.W.Frag) : TS :=
      (tSeq (tDrop (tCall (spx_check_number x) [] E (tCons (tVar 1) tNil)))
      (tSeq (sFld K (tVar 0) (tLst (tCons (tVar 1) tNil)) "line")
      (sFld K (tVar 0) (tLst tNil) "past")))
def N_Row_init : List Str := ["self", "number"]
theorem purex_Row_init {x : ExA} {K : PySem.W.Frag} {mg : Str → Option Value} {c : Addr} (R : RowF K mg c) (vs : List V) (H : Hp) (Q : VK) (E : XK) (h : spx_Row_init x c vs H Q E) : rdx_Row_init x E K { nx := fun _ H' => Q .non H', rt := Q } (start N_Row_init vs) H := by
  match vs, h with
  | [s, a], h =>
    obtain ⟨r, dx, n, rfl, rfl, hr, q, he⟩ := h
    unfold rdx_Row_init
    refine ⟨.int n, rfl, n, rfl, fun hn H1 e1 => ?_, fun hn H1 e1 => he hn H1 e1⟩
    refine ⟨.int n, rfl, by show 1 ≤ sizeLine; decide, fun l hl => ?_⟩
    have nlr : l ≠ r := (ne_of_none (e1 _ _ hr) hl).symm
    refine ⟨.ref r, rfl, r, c, dx, [], rfl, by rw [upd_ne nlr.symm]; exact e1 _ _ hr, R.cl, R.nl, by show 0 < 1000; decide, ?_⟩
    refine ⟨by show 0 ≤ sizeLine; decide, fun p hp => ?_⟩
    have npr : p ≠ r := fun e => by rw [e, upd_same] at hp; cases hp
    rw [upd_ne npr] at hp
    have npl : p ≠ l := fun e => by rw [e, upd_same] at hp; cases hp
    rw [upd_ne npl] at hp
    refine ⟨.ref r, rfl, r, c, dx, _, rfl, by rw [upd_ne npr.symm, upd_same], R.cl, R.np, by show 1 < 1000; decide, ?_⟩
    refine q hn l p _ ⟨⟨dx, by rw [upd_same, put_new]⟩, ?_, ?_, npl.symm, fun y hy => ?_, by show 0 ≤ 1000; decide⟩ (fun b o hb ho => ?_) (fresh_back e1 hl) (fresh_back e1 hp) (fun b hb => ?_)
    · rw [upd_ne nlr, upd_ne npl.symm, upd_ne nlr, upd_same]; rfl
    · rw [upd_ne npr, upd_same]; rfl
    · have : y = n := by simpa using hy
      rw [this]; exact hn
    · have h1 : b ≠ p := fun e => by rw [e, fresh_back e1 hp] at ho; cases ho
      have h2 : b ≠ l := fun e => by rw [e, fresh_back e1 hl] at ho; cases ho
      rw [upd_ne hb, upd_ne h1, upd_ne hb, upd_ne h2]
      exact e1 _ _ ho
    · have h0 : b ≠ r := fun e => by rw [e, upd_same] at hb; cases hb
      rw [upd_ne h0] at hb
      have h1 : b ≠ p := fun e => by rw [e, upd_same] at hb; cases hb
      rw [upd_ne h1, upd_ne h0] at hb
      have h2 : b ≠ l := fun e => by rw [e, upd_same] at hb; cases hb
      rw [upd_ne h2] at hb
      exact fresh_back e1 hb
theorem RowAt.grow {c : Addr} {H : Hp} {r l p : Addr} {ms : List Int} {z n : Int} (h : RowAt c H r l p ms z) (hn : NumC n) (hs : ms.length < 1000) : RowAt c (upd (upd H p (.lst ((ms ++ [z]).map V.int))) l (.lst (((ms ++ [z]) ++ [n]).map V.int))) r l p (ms ++ [z]) n := by
  obtain ⟨dx, hd⟩ := h.ob
  have n1 : r ≠ l := ne_of hd h.ln fun e => by cases e
  have n2 : r ≠ p := ne_of hd h.ps fun e => by cases e
  refine ⟨⟨dx, by rw [upd_ne n1, upd_ne n2]; exact hd⟩, upd_same, by rw [upd_ne h.ne.symm, upd_same], h.ne, fun y hy => ?_, by rw [List.length_append]; simp; omega⟩
  rw [List.mem_append] at hy
  rcases hy with hy | hy
  · exact h.nm y hy
  · have : y = n := by simpa using hy
    rw [this]; exact hn
abbrev spx_Row_grown (x : ExA) (c : Addr) : Sp := spe2 fun s a H Q E => ∃ r l p ms z n, s = .ref r ∧ a = .int n ∧ RowAt c H r l p ms z ∧ ms.length < 1000 ∧
  (NumC n → ∀ H', RowAt c H' r l p (ms ++ [z]) n → RowGo l p H H' → Q (.int n) H') ∧ (¬ NumC n → ∀ H', Ex H H' → E (.ref x.bn) none H')
def rdx_Row_grown (x : ExA) (E : XK) (K : PySem.W.Frag) : TS :=
      (tSeq (tIfS (tNot (tB (tCall (sp_is_number) [] E0 (tCons (tVar 1) tNil))))
        (tRaise x.bn E)
        tNext)
      (tSeq (tDrop (tBM K "list" rAppend (tFld K (tVar 0) "past") (tCons (tOp (rIxL K) (tFld K (tVar 0) "line") (tUn rNeg (tC (.int 1)))) tNil)))
      (tSeq (tDrop (tBM K "list" rAppend (tFld K (tVar 0) "line") (tCons (tVar 1) tNil)))
      (tRet (tVar 1)))))
def N_Row_grown : List Str := ["self", "number"]
theorem go_upd2 {l p : Addr} {H H1 H2 : Hp} {a b : HO} {u v : HO} (e1 : Ex H H1) (hp : H1 p = some u) (e2 : Ex (upd H1 p a) H2) (hl : H2 l = some v) : RowGo l p H (upd H2 l b) := by
  refine ⟨fun y o h1 h2 ho => ?_, fun y hy => ?_⟩
  · rw [upd_ne h1]
    refine e2 _ _ ?_
    rw [upd_ne h2]
    exact e1 _ _ ho
  · have h1 : y ≠ l := fun e => by rw [e, upd_same] at hy; cases hy
    rw [upd_ne h1] at hy
    have h2 := fresh_back e2 hy
    have h3 : y ≠ p := fun e => by rw [e, upd_same] at h2; cases h2
    rw [upd_ne h3] at h2
    exact fresh_back e1 h2
theorem purex_Row_grown {x : ExA} {K : PySem.W.Frag} {mg : Str → Option Value} {c : Addr} (R : RowF K mg c) (vs : List V) (H : Hp) (Q : VK) (E : XK) (h : spx_Row_grown x c vs H Q E) : rdx_Row_grown x E K { nx := fun _ H' => Q .non H', rt := Q } (start N_Row_grown vs) H := by
  match vs, h with
  | [s, a], h =>
    obtain ⟨r, l, p, ms, z, n, rfl, rfl, hr, hs, q, he⟩ := h
    unfold rdx_Row_grown
    refine q_if1 (b := !decide (NumC n)) (et_not (et_B (ev_ok (vs := [.int n]) (ea_cons (ev_var rfl) ea_nil) (spv_I1 (g := fun n => .bl (decide (NumC n))) trivial)))) (fun hb H1 e => he (of_decide_eq_false (by simpa using hb)) H1 e) (fun hb H1 e1 => ?_)
    have hn : NumC n := of_decide_eq_true (by simpa using hb)
    have hr1 := hr.ex e1
    refine Evl.q_app (v := .int z) hr1.ps (ev_past R (ev_var rfl) hr1) (ev_last R (ev_var rfl) hr1) (by rw [List.length_map]; omega) fun H2 e2 => ?_
    have hr2 := hr1.ex e2
    obtain ⟨dx, hd2⟩ := hr2.ob
    have n1 : r ≠ l := ne_of hd2 hr2.ln fun e => by cases e
    have n2 : r ≠ p := ne_of hd2 hr2.ps fun e => by cases e
    obtain ⟨H3, hH3⟩ : ∃ H3, H3 = upd H2 p (.lst ((ms ++ [z]).map V.int)) := ⟨_, rfl⟩
    have e3 : ms.map V.int ++ [V.int z] = (ms ++ [z]).map V.int := by rw [List.map_append]; rfl
    rw [e3, ← hH3]
    have hd3 : H3 r = some (.ins c dx (rowFs l p)) := by rw [hH3, upd_ne n2]; exact hd2
    have hl3 : H3 l = some (.lst ((ms ++ [z]).map V.int)) := by rw [hH3, upd_ne hr.ne]; exact hr2.ln
    have evl : Ev (tFld K (tVar 0) "line") [some (.ref r), some (.int n)] H3 (.ref l) := fun H1 e Q q => ⟨.ref r, rfl, r, c, dx, _, .ref l, rfl, e _ _ hd3, R.cl, R.nl, lk_line l p, q H1 (Ex.refl _)⟩
    refine Evl.q_app (v := .int n) hl3 evl (ev_var rfl) (by rw [List.length_map, List.length_append]; simp; omega) fun H4 e4 => ?_
    have e5 : (ms ++ [z]).map V.int ++ [V.int n] = ((ms ++ [z]) ++ [n]).map V.int := by rw [List.map_append (l₁ := ms ++ [z])]; rfl
    rw [e5]
    refine ⟨.int n, rfl, q hn _ ?_ (go_upd2 (e1.trans e2) hr2.ps (by rw [← hH3]; exact e4) (e4 _ _ hl3))⟩
    have hg := hr2.grow hn hs
    rw [← hH3] at hg
    obtain ⟨dx', hd'⟩ := hg.ob
    rw [upd_ne n1] at hd'
    refine ⟨⟨dx', by rw [upd_ne n1]; exact e4 _ _ hd'⟩, upd_same, ?_, hr.ne, hg.nm, hg.sz⟩
    have := hg.ps
    rw [upd_ne hr.ne.symm] at this ⊢
    exact e4 _ _ this
abbrev spx_Row_multiply (x : ExA) (c : Addr) : Sp := spe2 fun s a H Q E => ∃ r l p ms z n, s = .ref r ∧ a = .int n ∧ RowAt c H r l p ms z ∧ ms.length < 1000 ∧
  (BaseC n → NumC (z * n) → ∀ H', RowAt c H' r l p (ms ++ [z]) (z * n) → RowGo l p H H' → Q (.int (z * n)) H') ∧ (¬ (BaseC n ∧ NumC (z * n)) → ∀ H', Ex H H' → E (.ref x.bn) none H')
def rdx_Row_multiply (x : ExA) (c : Addr) (E : XK) (K : PySem.W.Frag) : TS :=
      (tSeq (tDrop (tCall (spx_check_base x) [] E (tCons (tVar 1) tNil)))
      (tRet (tMeth c "grown" (spx_Row_grown x c) [] E (tVar 0) (tCons (tOp rMulX (tOp (rIxL K) (tFld K (tVar 0) "line") (tUn rNeg (tC (.int 1)))) (tVar 1)) tNil))))
def N_Row_multiply : List Str := ["self", "base"]
theorem purex_Row_multiply {x : ExA} {K : PySem.W.Frag} {mg : Str → Option Value} {c : Addr} (R : RowF K mg c) (vs : List V) (H : Hp) (Q : VK) (E : XK) (h : spx_Row_multiply x c vs H Q E) : rdx_Row_multiply x c E K { nx := fun _ H' => Q .non H', rt := Q } (start N_Row_multiply vs) H := by
  match vs, h with
  | [s, a], h =>
    obtain ⟨r, l, p, ms, z, n, rfl, rfl, hr, hs, q, he⟩ := h
    unfold rdx_Row_multiply
    refine ⟨.int n, rfl, n, rfl, fun hn H1 e1 => ?_, fun hn H1 e1 => he (fun h => hn h.1) H1 e1⟩
    have hr1 := hr.ex e1
    obtain ⟨dx, hd⟩ := hr1.ob
    have n0 := hn.lo
    have n1 := hn.hi
    refine ⟨.ref r, rfl, r, dx, _, rfl, hd, lk_none (by decide +kernel) (by decide +kernel), ?_⟩
    refine ev_op (H := H1) (ev_last R (ev_var rfl) hr1) (ev_var rfl) (rv_I (mulOk_r (by omega) (by omega))) H1 (Ex.refl _) _ fun H2 e2 => ?_
    exact ⟨r, l, p, ms, z, z * n, rfl, rfl, hr1.ex e2, hs, fun hz H3 h3 g3 => q hn hz H3 h3 ((RowGo.of (e1.trans e2)).trans g3), fun hz H3 e3 => he (fun h => hz h.2) H3 ((e1.trans e2).trans e3)⟩
abbrev spx_Row_add (x : ExA) (c : Addr) : Sp := spe2 fun s a H Q E => ∃ r l p ms z n, s = .ref r ∧ a = .int n ∧ RowAt c H r l p ms z ∧ ms.length < 1000 ∧
  (NumC n → NumC (z + n) → ∀ H', RowAt c H' r l p (ms ++ [z]) (z + n) → RowGo l p H H' → Q (.int (z + n)) H') ∧ (¬ (NumC n ∧ NumC (z + n)) → ∀ H', Ex H H' → E (.ref x.bn) none H')
def rdx_Row_add (x : ExA) (c : Addr) (E : XK) (K : PySem.W.Frag) : TS :=
      (tSeq (tDrop (tCall (spx_check_number x) [] E (tCons (tVar 1) tNil)))
      (tRet (tMeth c "grown" (spx_Row_grown x c) [] E (tVar 0) (tCons (tOp rAddI (tOp (rIxL K) (tFld K (tVar 0) "line") (tUn rNeg (tC (.int 1)))) (tVar 1)) tNil))))
def N_Row_add : List Str := ["self", "number"]
theorem purex_Row_add {x : ExA} {K : PySem.W.Frag} {mg : Str → Option Value} {c : Addr} (R : RowF K mg c) (vs : List V) (H : Hp) (Q : VK) (E : XK) (h : spx_Row_add x c vs H Q E) : rdx_Row_add x c E K { nx := fun _ H' => Q .non H', rt := Q } (start N_Row_add vs) H := by
  match vs, h with
  | [s, a], h =>
    obtain ⟨r, l, p, ms, z, n, rfl, rfl, hr, hs, q, he⟩ := h
    unfold rdx_Row_add
    refine ⟨.int n, rfl, n, rfl, fun hn H1 e1 => ?_, fun hn H1 e1 => he (fun h => hn h.1) H1 e1⟩
    have hr1 := hr.ex e1
    obtain ⟨dx, hd⟩ := hr1.ob
    refine ⟨.ref r, rfl, r, dx, _, rfl, hd, lk_none (by decide +kernel) (by decide +kernel), ?_⟩
    refine ev_op (H := H1) (ev_last R (ev_var rfl) hr1) (ev_var rfl) rv_I0 H1 (Ex.refl _) _ fun H2 e2 => ?_
    exact ⟨r, l, p, ms, z, z + n, rfl, rfl, hr1.ex e2, hs, fun hz H3 h3 g3 => q hn hz H3 h3 ((RowGo.of (e1.trans e2)).trans g3), fun hz H3 e3 => he (fun h => hz h.2) H3 ((e1.trans e2).trans e3)⟩
abbrev sp_Row_number (c : Addr) : Sp := sp1 fun s H Q => ∃ r l p ms z, s = .ref r ∧ RowAt c H r l p ms z ∧ ∀ H', Ex H H' → Q (.int z) H'
def rd_Row_number (K : PySem.W.Frag) : TS :=
      (tRet (tOp (rIxL K) (tFld K (tVar 0) "line") (tUn rNeg (tC (.int 1)))))
def N_Row_number : List Str := ["self"]
theorem pure_Row_number {K : PySem.W.Frag} {mg : Str → Option Value} {c : Addr} (R : RowF K mg c) (vs : List V) (H : Hp) (Q : VK) (E : XK) (h : sp_Row_number c vs H Q E) : rd_Row_number K { nx := fun _ H' => Q .non H', rt := Q } (start N_Row_number vs) H := by
  match vs, h with
  | [s], h =>
    obtain ⟨r, l, p, ms, z, rfl, hr, q⟩ := h
    exact s_ret (ev_last R (ev_var rfl) hr) q
abbrev sp_Row_first_digits (c : Addr) : Sp := sp2 fun s a H Q => ∃ r l p ms z m, s = .ref r ∧ a = .int m ∧ RowAt c H r l p ms z ∧ (1 ≤ m ∧ m ≤ 4) ∧ ∀ H', Ex H H' → Q (.int (first z m)) H'
def rd_Row_first_digits (K : PySem.W.Frag) : TS :=
      (tSeq (tDrop (tCall (sp_check_count) [] E0 (tCons (tVar 1) (tCons (tC (.int 1)) (tCons (tC (.int 4)) tNil)))))
      (tRet (tCall (sp_first_of) [] E0 (tCons (tOp (rIxL K) (tFld K (tVar 0) "line") (tUn rNeg (tC (.int 1)))) (tCons (tVar 1) tNil)))))
def N_Row_first_digits : List Str := ["self", "many"]
theorem pure_Row_first_digits {K : PySem.W.Frag} {mg : Str → Option Value} {c : Addr} (R : RowF K mg c) (vs : List V) (H : Hp) (Q : VK) (E : XK) (h : sp_Row_first_digits c vs H Q E) : rd_Row_first_digits K { nx := fun _ H' => Q .non H', rt := Q } (start N_Row_first_digits vs) H := by
  match vs, h with
  | [s, a], h =>
    obtain ⟨r, l, p, ms, z, m, rfl, rfl, hr, hm, q⟩ := h
    unfold rd_Row_first_digits
    refine q_drop (v := .non) (by walk_at "ev"; exact hm) fun H1 e1 => ?_
    exact s_ret (ev_ok (vs := [.int z, .int m]) (ea_cons (ev_last R (ev_var rfl) (hr.ex e1)) (ea_cons (ev_var rfl) ea_nil)) (spv_I2 (g := fun n m => .int (first n m)) ⟨hr.zn.txt, by omega⟩)) fun H2 e2 => q H2 (e1.trans e2)
/-- the places of those that begin so -/
def rowPl (ns : List Int) (b : Int) : List Int := (rgI 0 ns.length).filter fun i => begins (ns.getD i.toNat 0) b
abbrev sp_Row_places (c : Addr) : Sp := sp2 fun s a H Q => ∃ r l p ms z b, s = .ref r ∧ a = .int b ∧ RowAt c H r l p ms z ∧ BegC b ∧ ∀ q H', H q = none → Ex H H' → H' q = some (.lst ((rowPl (ms ++ [z]) b).map V.int)) → Q (.ref q) H'
def rd_Row_places (K : PySem.W.Frag) : TS :=
      (tSeq (tDrop (tCall (sp_check_beginning) [] E0 (tCons (tVar 1) tNil)))
      (tRet (tLc (iEnum K (tCons (tFld K (tVar 0) "line") tNil)) (gTup K 2 (gCons (gName 2) (gCons (gName 3) gNil))) (tB (tCall (sp_begins_of) [] E0 (tCons (tVar 3) (tCons (tVar 1) tNil)))) (tVar 2) [2, 3])))
def N_Row_places : List Str := ["self", "beginning", "place", "number"]
theorem pure_Row_places {K : PySem.W.Frag} {mg : Str → Option Value} {c : Addr} (R : RowF K mg c) (vs : List V) (H : Hp) (Q : VK) (E : XK) (h : sp_Row_places c vs H Q E) : rd_Row_places K { nx := fun _ H' => Q .non H', rt := Q } (start N_Row_places vs) H := by
  match vs, h with
  | [s, a], h =>
    obtain ⟨r, l, p, ms, z, b, rfl, rfl, hr, hb, q⟩ := h
    unfold rd_Row_places
    refine q_drop (v := .non) (by walk_at "ev"; exact hb) fun H1 e1 => ?_
    have hr1 := hr.ex e1
    have hs := hr.sz
    refine s_retL (xs := (rowPl (ms ++ [z]) b).map V.int) (el_lcEnumV (fun i => begins ((ms ++ [z]).getD i.toNat 0) b) V.int (ev_line R (ev_var rfl) hr1) hr1.ln (by rw [List.length_append]; simp; omega) (fun _ _ => rfl) (fun i y H2 e2 hy => ?_) (fun i y H2 e2 hy _ => ev_var rfl)) fun p' H2 hp e2 h2 => q p' H2 (fresh_back e1 hp) (e1.trans e2) h2
    have hg : (ms ++ [z]).getD (i : Int).toNat 0 = y := by rw [Int.toNat_natCast, List.getD, hy]; rfl
    rw [hg]
    exact et_B (ev_ok (vs := [.int y, .int b]) (ea_cons (ev_var rfl) (ea_cons (ev_var rfl) ea_nil)) (spv_I2 (g := fun n b => .bl (begins n b)) ⟨(hr.nm y (List.mem_of_getElem? hy)).txt, hb.txt⟩))
abbrev spx_Row_undo (x : ExA) (c : Addr) : Sp := spe1 fun s H Q E => ∃ r l p ms z, s = .ref r ∧ RowAt c H r l p ms z ∧ (ms = [] → ∀ H', Ex H H' → E (.ref x.nf) none H') ∧ (∀ ms' y, ms = ms' ++ [y] → ∀ H', RowAt c H' r l p ms' y → RowGo l p H H' → Q (.int y) H')
def rdx_Row_undo (x : ExA) (E : XK) (K : PySem.W.Frag) : TS :=
      (tSeq (tIfS (tTest (tOp (rEqD K) (tFld K (tVar 0) "past") (tLst tNil)))
        (tRaise x.nf E)
        tNext)
      (tSeq (tDrop (tBM0 K "list" rPop (tFld K (tVar 0) "past")))
      (tSeq (tDrop (tBM0 K "list" rPop (tFld K (tVar 0) "line")))
      (tRet (tOp (rIxL K) (tFld K (tVar 0) "line") (tUn rNeg (tC (.int 1))))))))
def N_Row_undo : List Str := ["self"]
theorem purex_Row_undo {x : ExA} {K : PySem.W.Frag} {mg : Str → Option Value} {c : Addr} (R : RowF K mg c) (vs : List V) (H : Hp) (Q : VK) (E : XK) (h : spx_Row_undo x c vs H Q E) : rdx_Row_undo x E K { nx := fun _ H' => Q .non H', rt := Q } (start N_Row_undo vs) H := by
  match vs, h with
  | [s], h =>
    obtain ⟨r, l, p, ms, z, rfl, hr, he, q⟩ := h
    unfold rdx_Row_undo
    refine q_if1 (b := decide (ms = [])) (et_test (ev_opL (xs := ([] : List Int).map V.int) (ev_past R (ev_var rfl) hr) (el_lst ea_nil (by decide)) fun q H1 hq e => rv_eqL (ns := ms) (sq_of (e _ _ hr.ps)) (sq_of hq))) (fun hb H1 e1 => he (of_decide_eq_true hb) H1 e1) (fun hb H1 e1 => ?_)
    obtain ⟨ms', y, rfl⟩ := snoc_of (of_decide_eq_false hb)
    have hr1 := hr.ex e1
    obtain ⟨dx, hd⟩ := hr1.ob
    have n1 : r ≠ l := ne_of hd hr1.ln fun e => by cases e
    have n2 : r ≠ p := ne_of hd hr1.ps fun e => by cases e
    have dl : ∀ (as : List Int) (u : Int), ((as ++ [u]).map V.int).dropLast = as.map V.int := fun as u => by rw [List.map_append]; exact List.dropLast_concat
    have at_ : ∀ (as : List Int) (u : Int), ((as ++ [u]).map V.int)[((as ++ [u]).map V.int).length - 1]? = some (.int u) := fun as u => by
      rw [List.length_map, List.length_append, List.getElem?_map]
      simp
    refine ⟨.ref r, rfl, r, c, dx, _, .ref p, rfl, hd, R.cl, R.np, lk_past l p, Or.inl ⟨rfl, _, sq_of hr1.ps⟩, p, _, .int y, rfl, rfl, hr1.ps, at_ ms' y, ?_⟩
    rw [dl]
    obtain ⟨H2, hH2⟩ : ∃ H2, H2 = upd H1 p (.lst (ms'.map V.int)) := ⟨_, rfl⟩
    rw [← hH2]
    have hd2 : H2 r = some (.ins c dx (rowFs l p)) := by rw [hH2, upd_ne n2]; exact hd
    have hl2 : H2 l = some (.lst (((ms' ++ [y]) ++ [z]).map V.int)) := by rw [hH2, upd_ne hr.ne]; exact hr1.ln
    refine ⟨.ref r, rfl, r, c, dx, _, .ref l, rfl, hd2, R.cl, R.nl, lk_line l p, Or.inl ⟨rfl, _, sq_of hl2⟩, l, _, .int z, rfl, rfl, hl2, at_ (ms' ++ [y]) z, ?_⟩
    rw [dl]
    have hs := hr.sz
    have hr3 : RowAt c (upd H2 l (.lst ((ms' ++ [y]).map V.int))) r l p ms' y := ⟨⟨dx, by rw [upd_ne n1]; exact hd2⟩, upd_same, by rw [upd_ne hr.ne.symm, hH2, upd_same], hr.ne, fun u hu => hr.nm u (List.mem_append_left _ hu), by rw [List.length_append] at hs; omega⟩
    refine s_ret (ev_last R (ev_var rfl) hr3) fun H4 e4 => q ms' y rfl H4 (hr3.ex e4) ?_
    exact (go_upd2 (b := .lst ((ms' ++ [y]).map V.int)) e1 hr1.ps (by rw [← hH2]; exact Ex.refl _) hl2).trans (RowGo.of e4)
abbrev sp_Row_len (c : Addr) : Sp := sp1 fun s H Q => ∃ r l p ms z, s = .ref r ∧ RowAt c H r l p ms z ∧ ∀ H', Ex H H' → Q (.int (ms.length : Int)) H'
def rd_Row_len (K : PySem.W.Frag) : TS :=
      (tRet (tCB (rLenSeq K) (tCons (tFld K (tVar 0) "past") tNil)))
def N_Row_len : List Str := ["self"]
theorem pure_Row_len {K : PySem.W.Frag} {mg : Str → Option Value} {c : Addr} (R : RowF K mg c) (vs : List V) (H : Hp) (Q : VK) (E : XK) (h : sp_Row_len c vs H Q E) : rd_Row_len K { nx := fun _ H' => Q .non H', rt := Q } (start N_Row_len vs) H := by
  match vs, h with
  | [s], h =>
    obtain ⟨r, l, p, ms, z, rfl, hr, q⟩ := h
    refine s_ret (ev_is (ev_lenVL (ev_past R (ev_var rfl) hr) hr.ps) ?_) q
    rw [List.length_map]
end FD

namespace FD
open PySem PySem.Spec PyProof.Rows L2 Evl TL
local macro_rules | `(tactic| walk_at "ev") => `(tactic| repeat' (first | (with_reducible exact ev_c) | ((with_reducible apply ev_var); rfl) | (with_reducible exact ea_nil) | (with_reducible apply ea_cons) | (with_reducible apply ev_op) | (with_reducible exact rv_I0) | (with_reducible apply rv_I) | (with_reducible exact rv_eqI) | (with_reducible exact rv_neI) | (with_reducible exact rv_eqS) | (with_reducible apply ev_ok) | (with_reducible apply ev_cb) | (with_reducible apply spv_I1) | (with_reducible apply spv_I2) | (with_reducible apply spv_I3) | (with_reducible apply et_test) | (with_reducible apply et_B) | (with_reducible apply et_not) | (with_reducible apply ev_notV) | (with_reducible apply ev_un) | (with_reducible exact ru_negI) | (with_reducible exact rc_max2) | (with_reducible exact rc_min2) | (with_reducible exact rv_isB) | (with_reducible exact rv_notB) | (with_reducible exact rv_isN) | (with_reducible exact rv_notN) | (with_reducible apply ev_chainI) | (with_reducible exact rc_isiI) | (with_reducible exact rc_isiB)))
/-! ### rows in use -/
theorem RowAt.back {c : Addr} {H H' : Hp} {r l p : Addr} {ms : List Int} {z : Int} (h : RowAt c H r l p ms z) (h' : RowAt c H' r l p ms z) (g : RowGo l p H H') : Ex H H' := fun b o hb => by
  by_cases h1 : b = l
  · rw [h1] at hb ⊢
    rw [h'.ln, ← hb, h.ln]
  · by_cases h2 : b = p
    · rw [h2] at hb ⊢
      rw [h'.ps, ← hb, h.ps]
    · exact g.st b o h1 h2 hb
theorem RowAt.go {c d nn : Addr} {H H' : Hp} {r l p : Addr} {ms : List Int} {z : Int} (h : RowAt c H r l p ms z) (hD : Dr d nn H) (g : Go d nn H H') (l1 : l ≠ d) (l2 : l ≠ nn) (p1 : p ≠ d) (p2 : p ≠ nn) : RowAt c H' r l p ms z := by
  obtain ⟨dx, hd⟩ := h.ob
  obtain ⟨ns, k, h1, h2, _⟩ := hD
  exact ⟨⟨dx, g.st _ _ (ne_of hd h1 fun e => by cases e) (ne_of hd h2 fun e => by cases e) hd⟩, g.st _ _ l1 l2 h.ln, g.st _ _ p1 p2 h.ps, h.ne, h.nm, h.sz⟩
theorem Dr.rgo {d nn l p : Addr} {H H' : Hp} (h : Dr d nn H) (g : RowGo l p H H') (l1 : l ≠ d) (l2 : l ≠ nn) (p1 : p ≠ d) (p2 : p ≠ nn) : Dr d nn H' := by
  obtain ⟨ns, k, h1, h2, h3⟩ := h
  exact ⟨ns, k, g.st _ _ l1.symm p1.symm h1, g.st _ _ l2.symm p2.symm h2, h3⟩
section
variable {x : ExA} {K : PySem.W.Frag} {c : Addr} {σ : L2.St} {H : Hp} {ta tb te : TE} {t : TA} {E : XK} {r l p : Addr} {ms : List Int} {z : Int} {tu : TS} {D : Ends} {i : Nat} {n m : Int}
theorem ev_rnumber (h : Ev ta σ H (.ref r)) (hr : RowAt c H r l p ms z) : Ev (tMeth c "number" (sp_Row_number c) [] E ta tNil) σ H (.int z) := fun H1 e Q q => h H1 e _ fun H2 e2 => by
  have hr2 := hr.ex (e.trans e2)
  obtain ⟨dx, hd⟩ := hr2.ob
  exact ⟨r, dx, _, rfl, hd, lk_none (by decide +kernel) (by decide +kernel), r, l, p, ms, z, rfl, hr2, fun H3 e3 => q H3 (e2.trans e3)⟩
theorem ev_rlen (h : Ev ta σ H (.ref r)) (hr : RowAt c H r l p ms z) : Ev (tCB (rLenO c (sp_Row_len c)) (tCons ta tNil)) σ H (.int (ms.length : Int)) := fun H1 e Q q => h H1 e _ fun H2 e2 => by
  have hr2 := hr.ex (e.trans e2)
  obtain ⟨dx, hd⟩ := hr2.ob
  have hs := hr.sz
  exact ⟨r, dx, _, rfl, hd, r, l, p, ms, z, rfl, hr2, fun H3 e3 => ⟨_, rfl, by omega, by omega, q H3 (e2.trans e3)⟩⟩
theorem ev_rfirst (h : Ev ta σ H (.ref r)) (hm : Ev tb σ H (.int m)) (h1 : 1 ≤ m ∧ m ≤ 4) (hr : RowAt c H r l p ms z) : Ev (tMeth c "first_digits" (sp_Row_first_digits c) [] E ta (tCons tb tNil)) σ H (.int (first z m)) := fun H1 e Q q => h H1 e _ fun H2 e2 => by
  have hr2 := hr.ex (e.trans e2)
  obtain ⟨dx, hd⟩ := hr2.ob
  exact ⟨r, dx, _, rfl, hd, lk_none (by decide +kernel) (by decide +kernel), hm H2 (e.trans e2) _ fun H3 e3 => ⟨r, l, p, ms, z, m, rfl, rfl, hr2.ex e3, h1, fun H4 e4 => q H4 ((e2.trans e3).trans e4)⟩⟩
theorem el_rplaces (h : Ev ta σ H (.ref r)) (hm : Ev tb σ H (.int m)) (h1 : BegC m) (hr : RowAt c H r l p ms z) : EvL (tMeth c "places" (sp_Row_places c) [] E ta (tCons tb tNil)) σ H ((rowPl (ms ++ [z]) m).map V.int) := fun H1 e Q q => h H1 e _ fun H2 e2 => by
  have hr2 := hr.ex (e.trans e2)
  obtain ⟨dx, hd⟩ := hr2.ob
  exact ⟨r, dx, _, rfl, hd, lk_none (by decide +kernel) (by decide +kernel), hm H2 (e.trans e2) _ fun H3 e3 => ⟨r, l, p, ms, z, m, rfl, rfl, hr2.ex e3, h1, fun u H4 hu e4 h4 => q u H4 (fresh_back (e2.trans e3) hu) ((e2.trans e3).trans e4) h4⟩⟩
/-- a new row -/
theorem q_make (h : Ev te σ H (.int n)) (hn : NumC n) (k : ∀ r l p H1, Ex H H1 → RowAt c H1 r l p [] n → H r = none → H l = none → H p = none → tu D (σ.set i (some (.ref r))) H1) : tSeq (tAsg (tMake c (spx_Row_init x c) [] E (tCons te tNil)) (gName i)) tu D σ H :=
  h H (Ex.refl _) _ fun H1 e1 r dx hr hd ne => ⟨r, dx, n, rfl, rfl, upd_same, fun _ l p H2 hR hst hl hp _ => by
    have ex : Ex H1 H2 := fun b o hb => by
      have n1 : b ≠ r := fun e => by rw [e, hr] at hb; cases hb
      have n2 : b ≠ dx := fun e => by rw [e, hd] at hb; cases hb
      exact hst b o n1 (by rw [upd_ne n1, upd_ne n2]; exact hb)
    have back : ∀ u, upd (upd H1 dx (.own r)) r (.ins c dx []) u = none → H1 u = none := fun u hu => by
      have n1 : u ≠ r := fun e => by rw [e, upd_same] at hu; cases hu
      rw [upd_ne n1] at hu
      have n2 : u ≠ dx := fun e => by rw [e, upd_same] at hu; cases hu
      rw [upd_ne n2] at hu
      exact hu
    exact ⟨rfl, k r l p H2 (e1.trans ex) hR (fresh_back e1 hr) (fresh_back e1 (back l hl)) (fresh_back e1 (back p hp))⟩, fun hf => absurd hn hf⟩
end
end FD

namespace FD
open PySem PySem.Spec PyProof.Rows L2 Evl TL
local macro_rules | `(tactic| walk_at "ev") => `(tactic| repeat' (first | (with_reducible exact ev_c) | ((with_reducible apply ev_var); rfl) | (with_reducible exact ea_nil) | (with_reducible apply ea_cons) | (with_reducible apply ev_op) | (with_reducible exact rv_I0) | (with_reducible apply rv_I) | (with_reducible exact rv_eqI) | (with_reducible exact rv_neI) | (with_reducible exact rv_eqS) | (with_reducible apply ev_ok) | (with_reducible apply ev_cb) | (with_reducible apply spv_I1) | (with_reducible apply spv_I2) | (with_reducible apply spv_I3) | (with_reducible apply et_test) | (with_reducible apply et_B) | (with_reducible apply et_not) | (with_reducible apply ev_notV) | (with_reducible apply ev_un) | (with_reducible exact ru_negI) | (with_reducible exact rc_max2) | (with_reducible exact rc_min2) | (with_reducible exact rv_isB) | (with_reducible exact rv_notB) | (with_reducible exact rv_isN) | (with_reducible exact rv_notN) | (with_reducible apply ev_chainI) | (with_reducible exact rc_isiI) | (with_reducible exact rc_isiB)))
/-! ### texts: parts, words -/
def stepP (qs : List (Int × Int)) (x : Int) : List (Int × Int) := match qs.getLast? with
  | some q => if q.2 + 1 = x then qs.dropLast ++ [(q.1, x)] else qs ++ [(x, x)]
  | none => [(x, x)]
def partsL (ns : List Int) : List (Int × Int) := ns.foldl stepP []
theorem partsL_snoc (ns : List Int) (x : Int) : partsL (ns ++ [x]) = stepP (partsL ns) x := by unfold partsL; rw [List.foldl_append]; rfl
theorem stepP_nil (x : Int) : stepP [] x = [(x, x)] := rfl
theorem stepP_snoc (qs : List (Int × Int)) (a b x : Int) : stepP (qs ++ [(a, b)]) x = if b + 1 = x then qs ++ [(a, x)] else qs ++ [(a, b)] ++ [(x, x)] := by
  unfold stepP
  rw [List.getLast?_append]
  simp
/-- by an induction from the end -/
theorem rev_ind {P : List Int → Prop} (h0 : P []) (h1 : ∀ l x, P l → P (l ++ [x])) : ∀ l, P l := fun l => by
  have : ∀ m : List Int, P m.reverse := fun m => by
    induction m with
    | nil => exact h0
    | cons x r ih => rw [List.reverse_cons]; exact h1 _ _ ih
  have := this l.reverse
  rwa [List.reverse_reverse] at this
theorem snoc_cases (qs : List (Int × Int)) : qs = [] ∨ ∃ rs a b, qs = rs ++ [(a, b)] := by
  by_cases h : qs = []
  · exact .inl h
  · exact .inr ⟨qs.dropLast, (qs.getLast h).1, (qs.getLast h).2, (List.dropLast_concat_getLast h).symm⟩
/-- parts are stretches that give the list back; the last ends where the list does -/
theorem partsL_ok (ns : List Int) : (partsL ns).flatMap (fun q => rgI q.1 (q.2 + 1)) = ns ∧ (∀ q ∈ partsL ns, q.1 ≤ q.2) ∧ (partsL ns = [] ↔ ns = []) ∧ (∀ rs a b, partsL ns = rs ++ [(a, b)] → ∃ l, ns = l ++ [b]) := by
  refine rev_ind (P := fun ns => (partsL ns).flatMap (fun q => rgI q.1 (q.2 + 1)) = ns ∧ (∀ q ∈ partsL ns, q.1 ≤ q.2) ∧ (partsL ns = [] ↔ ns = []) ∧ (∀ rs a b, partsL ns = rs ++ [(a, b)] → ∃ l, ns = l ++ [b])) ⟨rfl, fun q hq => (by cases hq), ⟨fun _ => rfl, fun _ => rfl⟩, fun rs a b h => by
    have := congrArg List.length h
    simp [partsL] at this⟩ (fun l x ih => ?_) ns
  obtain ⟨h1, h2, h3, h4⟩ := ih
  have one : rgI x (x + 1) = [x] := by rw [rgI_cons (by omega), rgI_nil (by omega)]
  rw [partsL_snoc]
  rcases snoc_cases (partsL l) with hq | ⟨rs, a, b, hq⟩
  · have hl := h3.mp hq
    rw [hq, stepP_nil]
    refine ⟨by rw [hl]; simp [one], fun q hm => ?_, ⟨fun h => by simp at h, fun h => by simp at h⟩, fun rs a b h => ⟨l, ?_⟩⟩
    · have : q = (x, x) := by simpa using hm
      rw [this]; exact Int.le_refl _
    · have := List.append_inj' (show ([] : List (Int × Int)) ++ [(x, x)] = rs ++ [(a, b)] from h) rfl
      have h5 := this.2
      simp at h5
      rw [h5.2]
  · rw [hq] at h1 h2
    rw [hq, stepP_snoc]
    have hab : a ≤ b := h2 (a, b) (by simp)
    by_cases hx : b + 1 = x
    · rw [if_pos hx]
      rw [List.flatMap_append] at h1 ⊢
      refine ⟨?_, fun q hm => ?_, ⟨fun h => by simp at h, fun h => by simp at h⟩, fun rs' a' b' h => ⟨l, ?_⟩⟩
      · rw [← h1, List.append_assoc]
        congr 1
        simp only [List.flatMap_cons, List.flatMap_nil, List.append_nil]
        rw [← hx]
        exact rgI_snoc (by omega)
      · rw [List.mem_append] at hm
        rcases hm with hm | hm
        · exact h2 q (List.mem_append_left _ hm)
        · have : q = (a, x) := by simpa using hm
          rw [this]; show a ≤ x; omega
      · have h5 := (List.append_inj' h rfl).2
        simp at h5
        rw [h5.2]
    · rw [if_neg hx]
      rw [List.flatMap_append (xs := rs ++ [(a, b)])]
      refine ⟨?_, fun q hm => ?_, ⟨fun h => by simp at h, fun h => by simp at h⟩, fun rs' a' b' h => ⟨l, ?_⟩⟩
      · rw [h1]
        simp [one]
      · rw [List.mem_append] at hm
        rcases hm with hm | hm
        · exact h2 q hm
        · have : q = (x, x) := by simpa using hm
          rw [this]; exact Int.le_refl _
      · have h5 := (List.append_inj' h rfl).2
        simp at h5
        rw [h5.2]
theorem partsL_len (ns : List Int) : (partsL ns).length ≤ ns.length := by
  refine rev_ind (P := fun ns => (partsL ns).length ≤ ns.length) (Nat.le_refl _) (fun l x ih => ?_) ns
  rw [partsL_snoc, List.length_append]
  rcases snoc_cases (partsL l) with hq | ⟨rs, a, b, hq⟩
  · rw [hq, stepP_nil]; simp
  · rw [hq] at ih ⊢
    rw [stepP_snoc]
    rw [List.length_append] at ih
    split
    · rw [List.length_append]; simp at ih ⊢; omega
    · rw [List.length_append, List.length_append]; simp at ih ⊢; omega
/-- a part is a stretch of members -/
theorem parts_mem {ns : List Int} {q : Int × Int} (h : q ∈ partsL ns) : q.1 ∈ ns ∧ q.2 ∈ ns ∧ q.1 ≤ q.2 ∧ q.2 + 1 - q.1 ≤ ns.length := by
  obtain ⟨h1, h2, _, _⟩ := partsL_ok ns
  have h3 := h2 q h
  have mem : ∀ z, q.1 ≤ z → z ≤ q.2 → z ∈ ns := fun z a b => by
    rw [← h1, List.mem_flatMap]
    exact ⟨q, h, mem_rgI.mpr ⟨a, by omega⟩⟩
  refine ⟨mem _ (Int.le_refl _) h3, mem _ h3 (Int.le_refl _), h3, ?_⟩
  obtain ⟨s, t, e⟩ := List.append_of_mem h
  have h4 := congrArg List.length h1
  rw [e, List.flatMap_append, List.flatMap_cons, List.length_append, List.length_append, rgI_length] at h4
  omega
/-! ### the text of a part, of a list -/
def wordT (q : Int × Int) : Str := if q.1 = q.2 then Str.ofString (toString q.1) else Str.ofString (toString q.1) ++ Str.ofString "-" ++ Str.ofString (toString q.2)
def fmtT (ns : List Int) : Str := Txt.join (Str.ofString " ") ((partsL ns).map wordT)
theorem tl_dash : tl (Str.ofString "-") = [45] := by rw [tl_ofString]; rfl
theorem tl_space : tl (Str.ofString " ") = [32] := by rw [tl_ofString]; rfl
theorem tl_str {n : Int} (h : 0 ≤ n) : tl (Str.ofString (toString n)) = numL n.toNat := str_num h
theorem tl_word {q : Int × Int} (h1 : 0 ≤ q.1) (h2 : 0 ≤ q.2) : tl (wordT q) = numL q.1.toNat ++ (if q.1 = q.2 then [] else 45 :: numL q.2.toNat) := by
  unfold wordT
  split
  · rw [tl_str h1, List.append_nil]
  · rw [tl_append, tl_append, tl_dash, tl_str h1, tl_str h2, List.append_assoc]; rfl
theorem numL_le4 {n : Int} (h : BegC n) : (numL n.toNat).length ≤ 4 := numL_len (by decide) (by have := h.hi; have := h.lo; omega)
theorem word_len {q : Int × Int} (h1 : BegC q.1) (h2 : BegC q.2) : (wordT q).length ≤ 9 := by
  rw [len_tl, tl_word (by have := h1.lo; omega) (by have := h2.lo; omega), List.length_append]
  have a := numL_le4 h1
  have b := numL_le4 h2
  split
  · simp; omega
  · rw [List.length_cons]; omega
theorem joinL_len (S : List Nat) : ∀ ps : List (List Nat), (joinL S ps).length ≤ (ps.map List.length).sum + ps.length * S.length
  | [] => by simp [joinL]
  | [p] => by simp [joinL]
  | p :: q :: r => by
    have ih := joinL_len S (q :: r)
    have e : joinL S (p :: q :: r) = p ++ (S ++ joinL S (q :: r)) := rfl
    rw [e, List.length_append, List.length_append]
    simp only [List.map_cons, List.sum_cons, List.length_cons] at ih ⊢
    rw [Nat.add_mul (r.length + 1) 1]
    omega
theorem sum_le {α : Type} {f : α → Nat} {k : Nat} : ∀ {l : List α}, (∀ x ∈ l, f x ≤ k) → (l.map f).sum ≤ l.length * k
  | [], _ => by simp
  | x :: r, h => by
    have ih := sum_le (l := r) fun y hy => h y (List.mem_cons_of_mem _ hy)
    have := h x List.mem_cons_self
    rw [List.map_cons, List.sum_cons, List.length_cons, Nat.add_mul]
    omega
/-- a list of 1 to 20 beginnings -/
def rowB (ns : List Int) : Bool := decide (1 ≤ (ns.length : Int)) && decide ((ns.length : Int) ≤ 20) && ns.all fun z => decide (BegC z)
structure RowC (ns : List Int) : Prop where
  lo : 1 ≤ ns.length
  hi : ns.length ≤ 20
  bg : ∀ z ∈ ns, BegC z
theorem rowB_iff (ns : List Int) : rowB ns = true ↔ RowC ns := by
  unfold rowB
  rw [Bool.and_eq_true, Bool.and_eq_true, decide_eq_true_eq, decide_eq_true_eq, List.all_eq_true]
  constructor
  · rintro ⟨⟨h1, h2⟩, h3⟩
    exact ⟨by omega, by omega, fun z hz => of_decide_eq_true (h3 z hz)⟩
  · intro h
    exact ⟨⟨by have := h.lo; omega, by have := h.hi; omega⟩, fun z hz => decide_eq_true (h.bg z hz)⟩
theorem RowC.part {ns : List Int} (h : RowC ns) {q : Int × Int} (hq : q ∈ partsL ns) : BegC q.1 ∧ BegC q.2 ∧ q.1 ≤ q.2 ∧ q.2 - q.1 ≤ 20 := by
  have hm := parts_mem hq
  exact ⟨h.bg _ hm.1, h.bg _ hm.2.1, hm.2.2.1, by have := hm.2.2.2; have := h.hi; omega⟩
theorem fmt_len {ns : List Int} (h : RowC ns) : (fmtT ns).length ≤ 200 := by
  unfold fmtT
  rw [join_eq, len_tl, tl_join, tl_space]
  refine Nat.le_trans (joinL_len _ _) ?_
  rw [List.map_map, List.map_map, List.length_map, List.length_map]
  have hl := partsL_len ns
  have h1 := h.hi
  have h2 : ((partsL ns).map ((List.length ∘ tl) ∘ wordT)).sum ≤ (partsL ns).length * 9 := sum_le fun q hq => by
    have hp := h.part hq
    show (tl (wordT q)).length ≤ 9
    rw [← len_tl]
    exact word_len hp.1 hp.2.1
  simp only [List.length_cons, List.length_nil] at *
  omega
/-! ### reading a number -/
def okW (l : List Nat) : Bool := decide (1 ≤ (l.length : Int)) && decide ((l.length : Int) ≤ 4) && (l.all fun c => decide (c ∈ tl (Str.ofString "0123456789"))) && !decide (l.head? = some 48)
def numT (w : Str) : Option Int := if okW (tl w) = true then some (NumText.digitsVal (tl w) : Int) else none
theorem tl_digits : tl (Str.ofString "0123456789") = [48, 49, 50, 51, 52, 53, 54, 55, 56, 57] := by rw [tl_ofString]; rfl
theorem okW_iff (l : List Nat) : okW l = true ↔ 1 ≤ l.length ∧ l.length ≤ 4 ∧ NumText.AllDigits l ∧ l.head? ≠ some 48 := by
  unfold okW
  rw [tl_digits, Bool.and_eq_true, Bool.and_eq_true, Bool.and_eq_true, decide_eq_true_eq, decide_eq_true_eq, List.all_eq_true]
  have mem : ∀ c : Nat, c ∈ [48, 49, 50, 51, 52, 53, 54, 55, 56, 57] ↔ 48 ≤ c ∧ c ≤ 57 := fun c => by
    simp only [List.mem_cons, List.not_mem_nil, or_false]
    omega
  constructor
  · rintro ⟨⟨⟨h1, h2⟩, h3⟩, h4⟩
    exact ⟨by omega, by omega, fun c hc => (mem c).mp (of_decide_eq_true (h3 c hc)), by simpa using h4⟩
  · rintro ⟨h1, h2, h3, h4⟩
    exact ⟨⟨⟨by omega, by omega⟩, fun c hc => decide_eq_true ((mem c).mpr (h3 c hc))⟩, by simpa using h4⟩
theorem val_snoc (l : List Nat) (c : Nat) : NumText.digitsVal (l ++ [c]) = NumText.digitsVal l * 10 + (c - 48) := by unfold NumText.digitsVal; rw [List.foldl_append]; rfl
theorem numL_of {l : List Nat} : NumText.AllDigits l → l ≠ [] → l.head? ≠ some 48 → numL (NumText.digitsVal l) = l ∧ 0 < NumText.digitsVal l := by
  have : ∀ m : List Nat, NumText.AllDigits m.reverse → m.reverse ≠ [] → m.reverse.head? ≠ some 48 → numL (NumText.digitsVal m.reverse) = m.reverse ∧ 0 < NumText.digitsVal m.reverse := fun m => by
    induction m with
    | nil => intro _ h; exact absurd rfl h
    | cons c r ih =>
      intro hd _ hh
      rw [List.reverse_cons] at hd hh ⊢
      have hc := hd c (by simp)
      rw [val_snoc]
      by_cases hr : r.reverse = []
      · rw [hr] at hh ⊢
        have hc0 : c ≠ 48 := by simpa using hh
        have e : NumText.digitsVal [] * 10 + (c - 48) = c - 48 := by
          have : NumText.digitsVal [] = 0 := rfl
          omega
        rw [e, numL_lt (by omega)]
        refine ⟨?_, by omega⟩
        rw [show 48 + (c - 48) = c by omega]
        rfl
      · have hh' : r.reverse.head? ≠ some 48 := by
          cases hq : r.reverse with
          | nil => exact absurd hq hr
          | cons y t => rw [hq] at hh; simpa using hh
        have ih' := ih (fun y hy => hd y (List.mem_append_left _ hy)) hr hh'
        rw [numL_step (by omega), show (NumText.digitsVal r.reverse * 10 + (c - 48)) / 10 = NumText.digitsVal r.reverse by omega, show 48 + (NumText.digitsVal r.reverse * 10 + (c - 48)) % 10 = c by omega, ih'.1]
        exact ⟨rfl, by omega⟩
  intro h1 h2 h3
  have := this l.reverse
  rw [List.reverse_reverse] at this
  exact this h1 h2 h3
theorem numT_some {w : Str} {n : Int} (h : numT w = some n) : BegC n ∧ w = Str.ofString (toString n) := by
  unfold numT at h
  split at h
  · rename_i hk
    obtain ⟨h1, h2, h3, h4⟩ := (okW_iff _).mp hk
    have e := numL_of h3 (by intro e; rw [e] at h1; simp at h1) h4
    have hn : n = ((NumText.digitsVal (tl w) : Nat) : Int) := (Option.some.inj h).symm
    have hlt : NumText.digitsVal (tl w) < 10 ^ 4 := by
      have := sz_lt_pow (NumText.digitsVal (tl w))
      have h5 : sz (NumText.digitsVal (tl w)) ≤ 4 := by unfold sz; rw [e.1]; exact h2
      exact Nat.lt_of_lt_of_le this (Nat.pow_le_pow_right (by decide) h5)
    refine ⟨⟨by omega, by omega⟩, ext_tl ?_⟩
    rw [hn, tl_num, e.1]
  · cases h
theorem numT_num {n : Int} (h : BegC n) : numT (Str.ofString (toString n)) = some n := by
  have h0 := h.lo
  have h1 := h.hi
  unfold numT
  have e : tl (Str.ofString (toString n)) = numL n.toNat := tl_str (by omega)
  have hne := numL_ne n.toNat
  have hd := numL_digits n.toNat
  have hh : (numL n.toNat).head? ≠ some 48 := by
    intro hz
    -- the first digit is not 0
    have : ∀ k : Nat, 0 < k → (numL k).head? ≠ some 48 := fun k => by
      induction k using Nat.strongRecOn with
      | _ k ih =>
        intro hk
        by_cases h10 : k < 10
        · rw [numL_lt h10]; simp; omega
        · rw [numL_step (by omega)]
          have := ih (k / 10) (by omega) (by omega)
          cases hq : numL (k / 10) with
          | nil => exact absurd hq (numL_ne _)
          | cons y t => rw [hq] at this; simpa using this
    exact this n.toNat (by omega) hz
  have hk : okW (tl (Str.ofString (toString n))) = true := by
    rw [okW_iff, e]
    refine ⟨?_, numL_le4 h, hd, hh⟩
    cases hq : numL n.toNat with
    | nil => exact absurd hq hne
    | cons y t => simp
  rw [if_pos hk, e, numL_val]
  congr 1
  omega
/-! ### a word, a text -/
def wordP (w : Str) : Option (List Int) := match numT (Txt.partition w (Str.ofString "-")).1 with
  | none => none
  | some f => match (if (Txt.partition w (Str.ofString "-")).2.1 = Str.ofString "" then some f else numT (Txt.partition w (Str.ofString "-")).2.2) with
    | none => none
    | some l => if 20 < l - f then none else some (rgI f (l + 1))
def wordL (w : Str) : List Int := (wordP w).getD []
def parseT (t : Str) : Option (List Int) := if ((Txt.split t (Str.ofString " ")).all fun w => (wordP w).isSome) = true ∧ rowB ((Txt.split t (Str.ofString " ")).flatMap wordL) = true ∧ fmtT ((Txt.split t (Str.ofString " ")).flatMap wordL) = t then some ((Txt.split t (Str.ofString " ")).flatMap wordL) else none
theorem empty_str : (Str.ofString "" : Str) = Str.empty := ext_tl (by rw [tl_ofString]; rfl)
theorem dash_ne : ¬ Str.ofString "-" = (Str.ofString "" : Str) := fun h => by
  have := congrArg tl h
  rw [tl_dash, tl_ofString] at this
  cases this
theorem wordP_word {q : Int × Int} (h1 : BegC q.1) (h2 : BegC q.2) (h3 : q.1 ≤ q.2) (h4 : q.2 - q.1 ≤ 20) : wordP (wordT q) = some (rgI q.1 (q.2 + 1)) := by
  have fr : ∀ {n : Int}, BegC n → 45 ∉ tl (Str.ofString (toString n)) := fun {n} h => by rw [tl_str (by have := h.lo; omega)]; exact numL_free (.inl (by decide))
  unfold wordP wordT
  by_cases he : q.1 = q.2
  · rw [if_pos he, partition_none (y := Str.ofString "-") tl_dash (fr h1)]
    show (match numT (Str.ofString (toString q.1)) with | none => none | some f => match (if Str.empty = Str.ofString "" then some f else numT Str.empty) with | none => none | some l => if 20 < l - f then none else some (rgI f (l + 1))) = _
    rw [numT_num h1]
    show (match (if Str.empty = Str.ofString "" then some q.1 else numT Str.empty) with | none => none | some l => if 20 < l - q.1 then none else some (rgI q.1 (l + 1))) = _
    rw [if_pos empty_str.symm]
    show (if 20 < q.1 - q.1 then none else some (rgI q.1 (q.1 + 1))) = _
    rw [if_neg (by omega), ← he]
  · rw [if_neg he, partition_app (y := Str.ofString "-") tl_dash (fr h1)]
    show (match numT (Str.ofString (toString q.1)) with | none => none | some f => match (if Str.ofString "-" = Str.ofString "" then some f else numT (Str.ofString (toString q.2))) with | none => none | some l => if 20 < l - f then none else some (rgI f (l + 1))) = _
    rw [numT_num h1]
    show (match (if Str.ofString "-" = Str.ofString "" then some q.1 else numT (Str.ofString (toString q.2))) with | none => none | some l => if 20 < l - q.1 then none else some (rgI q.1 (l + 1))) = _
    rw [if_neg dash_ne, numT_num h2]
    show (if 20 < q.2 - q.1 then none else some (rgI q.1 (q.2 + 1))) = _
    rw [if_neg (by omega)]
theorem word_free {q : Int × Int} (h1 : BegC q.1) (h2 : BegC q.2) : 32 ∉ tl (wordT q) := by
  rw [tl_word (by have := h1.lo; omega) (by have := h2.lo; omega), List.mem_append]
  rintro (h | h)
  · exact numL_free (n := q.1.toNat) (s := 32) (.inl (by decide)) h
  · split at h
    · cases h
    · rw [List.mem_cons] at h
      rcases h with h | h
      · cases h
      · exact numL_free (n := q.2.toNat) (s := 32) (.inl (by decide)) h
theorem split_fmt {ns : List Int} (h : RowC ns) : Txt.split (fmtT ns) (Str.ofString " ") = (partsL ns).map wordT := by
  have hne : (partsL ns).map wordT ≠ [] := by
    intro e
    have := (partsL_ok ns).2.2.1.mp (List.map_eq_nil_iff.mp e)
    have h1 := h.lo
    rw [this] at h1
    simp at h1
  exact split_join (y := Str.ofString " ") tl_space (by decide +kernel) hne fun w hw => by
    rw [List.mem_map] at hw
    obtain ⟨q, hq, rfl⟩ := hw
    have hp := h.part hq
    exact word_free hp.1 hp.2.1
theorem parse_fmt {ns : List Int} (h : RowC ns) : parseT (fmtT ns) = some ns := by
  have hw : ∀ q ∈ partsL ns, wordP (wordT q) = some (rgI q.1 (q.2 + 1)) := fun q hq => by
    have hp := h.part hq
    exact wordP_word hp.1 hp.2.1 hp.2.2.1 hp.2.2.2
  have hf : ((partsL ns).map wordT).flatMap wordL = ns := by
    rw [List.flatMap_map]
    have : (partsL ns).flatMap (fun q => wordL (wordT q)) = (partsL ns).flatMap fun q => rgI q.1 (q.2 + 1) := by
      rw [List.flatMap_def, List.flatMap_def]
      congr 1
      apply List.map_congr_left
      intro q hq
      unfold wordL
      rw [hw q hq]
      rfl
    exact this.trans (partsL_ok ns).1
  unfold parseT
  have ha : (((partsL ns).map wordT).all fun w => (wordP w).isSome) = true := by
    rw [List.all_eq_true]
    intro w hm
    rw [List.mem_map] at hm
    obtain ⟨q, hq, rfl⟩ := hm
    rw [hw q hq]
    rfl
  rw [split_fmt h, hf, if_pos ⟨ha, (rowB_iff ns).mpr h, rfl⟩]
theorem parse_some {t : Str} {ns : List Int} (h : parseT t = some ns) : RowC ns ∧ fmtT ns = t := by
  unfold parseT at h
  split at h
  · rename_i hk
    have e := Option.some.inj h
    rw [e] at hk
    exact ⟨(rowB_iff ns).mp hk.2.1, hk.2.2⟩
  · cases h
end FD

namespace FD
open PySem PySem.Spec PyProof.Rows L2 Evl TL
local macro_rules | `(tactic| walk_at "ev") => `(tactic| repeat' (first | (with_reducible exact ev_c) | ((with_reducible apply ev_var); rfl) | (with_reducible exact ea_nil) | (with_reducible apply ea_cons) | (with_reducible apply ev_op) | (with_reducible exact rv_I0) | (with_reducible apply rv_I) | (with_reducible exact rv_eqI) | (with_reducible exact rv_neI) | (with_reducible exact rv_eqS) | (with_reducible apply ev_ok) | (with_reducible apply ev_cb) | (with_reducible apply spv_I1) | (with_reducible apply spv_I2) | (with_reducible apply spv_I3) | (with_reducible apply et_test) | (with_reducible apply et_B) | (with_reducible apply et_not) | (with_reducible apply ev_notV) | (with_reducible apply ev_un) | (with_reducible exact ru_negI) | (with_reducible exact rc_max2) | (with_reducible exact rc_min2) | (with_reducible exact rv_isB) | (with_reducible exact rv_notB) | (with_reducible exact rv_isN) | (with_reducible exact rv_notN) | (with_reducible apply ev_chainI) | (with_reducible exact rc_isiI) | (with_reducible exact rc_isiB)))
/-! ### texts.py -/
abbrev rSplit : V → List V → Hp → VK → Prop := fun x xs H Q => ∃ a b, x = .str a ∧ xs = [.str b] ∧ (b.length == 0) = false ∧ a.length + 2 ≤ sizeLine ∧ rNewStrs (Txt.split a b) H Q
abbrev rPartn : V → List V → Hp → VK → Prop := fun x xs H Q => ∃ a b, x = .str a ∧ xs = [.str b] ∧ (b.length == 0) = false ∧ a.length ≤ sizeLine ∧ ∀ p, H p = none → Q (.ref p) (upd H p (.tup [.str (Txt.partition a b).1, .str (Txt.partition a b).2.1, .str (Txt.partition a b).2.2]))
abbrev rJoin (K : PySem.W.Frag) : V → List V → Hp → VK → Prop := fun x xs H Q => ∃ a p, ∃ ys : List Str, x = .str a ∧ xs = [.ref p] ∧ (SqL K H p (ys.map V.str) ∨ SqT K H p (ys.map V.str)) ∧ (ys.map (·.length)).sum + ys.length * a.length ≤ 16777216 ∧ Q (.str (Txt.join a ys)) H
abbrev rCountS : V → List V → Hp → VK → Prop := fun x xs H Q => ∃ a b, x = .str a ∧ xs = [.str b] ∧ Q (.int (Txt.count a b)) H
section
variable {K : PySem.W.Frag} {σ : L2.St} {H : Hp} {ta tb te tl' : TE} {vs : List Nat} {j ja jb : Nat}
theorem rc_isiL {p : Addr} {xs : List V} (h : H p = some (.lst xs)) : RC (rIsi K) [.ref p, .ty "list"] H (.bl true) := fun H1 e Q q => ⟨.ref p, .ty "list", .type "list", .type "list", true, rfl, .ty _, .base (.lst (e _ _ h)), kit_ty (by decide +kernel), q H1 (Ex.refl _)⟩
theorem rc_isiS {w : Str} : RC (rIsi K) [.str w, .ty "str"] H (.bl true) := fun H1 e Q q => ⟨.str w, .ty "str", .type "str", .type "str", true, rfl, .ty _, .base (.str w), kit_ty (by decide +kernel), q H1 (Ex.refl _)⟩
theorem ev_all {bs : List Bool} (h : EvL ta σ H (bs.map V.bl)) : Ev (tCB (rAll K) (tCons ta tNil)) σ H (.bl (bs.all id)) := fun H1 e Q q =>
  h H1 e _ fun p H2 hp e2 h2 => ⟨p, bs, rfl, sq_of h2, q H2 e2⟩
/-- [e for a, b in pairs] -/
theorem el_lcSU {qs : List (Int × Int)} (v : Int × Int → V) (h : EvS tl' σ H qs) (hz : qs.length ≤ 40000) (hw : ∀ x y, wipe (((wipe σ vs).set ja (some x)).set jb (some y)) vs = wipe σ vs)
    (he : ∀ q H1, Ex H H1 → q ∈ qs → Ev te (((wipe σ vs).set ja (some (.int q.1))).set jb (some (.int q.2))) H1 (v q)) : EvL (tLc (iList K tl') (gTup K 2 (gCons (gName ja) (gCons (gName jb) gNil))) tYes te vs) σ H (qs.map v) := fun H0 e Q k =>
  h H0 e _ fun p rs H1 hp e1 hx hr => ⟨p, rfl, ⟨_, sq_of hx⟩, fun Dl hD =>
    lc_list (K := K) (a := p) (xs := rs.map V.ref) (Cw H1 (fun _ => true) (fun i => v (qs.getD i (0, 0))) Dl) ⟨hD, Ex.new hD, upd_same⟩ (fun i H' _ p' => sq_of (p'.2.1 _ _ hx)) (fun i x H' hi p' => by
      rw [List.getElem?_map] at hi
      cases hq : rs[i]? with
      | none => rw [hq] at hi; cases hi
      | some r =>
        rw [hq] at hi
        have hi : V.ref r = x := Option.some.inj hi
        subst hi
        obtain ⟨q, h1, h2⟩ := prs_at hr hq
        have hlt := (List.getElem?_eq_some_iff.mp h1).1
        refine ⟨r, [.int q.1, .int q.2], rfl, st_of (p'.2.1 _ _ h2), rfl, _, _, rfl, _, _, rfl, rfl, hw _ _, ?_⟩
        exact cw_turn p' (by omega) et_yes fun _ => by
          rw [List.getD, h1]
          exact he q H1 (e.trans e1) (List.mem_of_getElem? h1)) (fun H' p' => by
      obtain ⟨p1, p2, p3⟩ := p'
      rw [List.length_map, prs_len hr] at p3
      have hg := gen_list qs (0, 0) (fun _ => true) v
      rw [show qs.filter (fun _ => true) = qs from List.filter_eq_self.mpr fun _ _ => rfl] at hg
      have : given qs.length (fun _ => true) (fun i => v (qs.getD i (0, 0))) = qs.map v := hg
      rw [this] at p3
      exact k Dl H' (fresh_back e1 p1) (e1.trans p2) p3)⟩
/-- [e for c in a text] -/
theorem el_lcStr {w : Str} (v : Nat → V) (h : Ev ta σ H (.str w)) (hz : w.length ≤ 40000) (hw : ∀ x, wipe ((wipe σ vs).set j (some x)) vs = wipe σ vs)
    (he : ∀ c H1, Ex H H1 → c ∈ tl w → Ev te ((wipe σ vs).set j (some (.str ⟨#[c]⟩))) H1 (v c)) : EvL (tLc (iStr ta) (gName j) tYes te vs) σ H ((tl w).map v) := fun H0 e Q k =>
  h H0 e _ fun H1 e1 => ⟨w, rfl, fun Dl hD =>
    lc_it (walk_str (z := w)) (Cw H1 (fun _ => true) (fun i => v ((tl w).getD i 0)) Dl) ⟨hD, Ex.new hD, upd_same⟩ (fun _ _ _ _ => trivial) (fun i x H' H'' hi p' y => by
      obtain ⟨rfl, c, hc, rfl⟩ := y
      have hc' : (tl w)[i]? = some c := by rw [← hc]; simp [tl]
      refine ⟨hw _, cw_turn p' ?_ et_yes fun _ => ?_⟩
      · have : w.cps.size = w.length := rfl
        omega
      · rw [List.getD, hc']
        exact he c H1 (e.trans e1) (List.mem_of_getElem? hc')) (fun H' p' => by
      obtain ⟨p1, p2, p3⟩ := p'
      have hl : w.cps.size = (tl w).length := by simp [tl]
      rw [hl] at p3
      have hg := gen_list (tl w) 0 (fun _ => true) v
      rw [show (tl w).filter (fun _ => true) = tl w from List.filter_eq_self.mpr fun _ _ => rfl] at hg
      have : given (tl w).length (fun _ => true) (fun i => v ((tl w).getD i 0)) = (tl w).map v := hg
      rw [this] at p3
      exact k Dl H' (fresh_back e1 p1) (e1.trans p2) p3)⟩
end
/-! ### is_row -/
abbrev sp_is_row : Sp := sp1 fun a H Q => ∃ p ns, a = .ref p ∧ H p = some (.lst (ns.map V.int)) ∧ ∀ H', Ex H H' → Q (.bl (rowB ns)) H'
def rd_is_row (K : PySem.W.Frag) : TS :=
      (tRet (tAndV (tCB (rIsi K) (tCons (tVar 0) (tCons (tC (.ty "list")) tNil))) (tAndV (tChain rLeI rLeI (tC (.int 1)) (tCB (rLenSeq K) (tCons (tVar 0) tNil)) (tC (.int 20))) (tCB (rAll K) (tCons (tLc (iList K (tVar 0)) (gName 1) tYes (tCall (sp_is_beginning) [] E0 (tCons (tVar 1) tNil)) [1]) tNil)))))
def N_is_row : List Str := ["value", "one"]
theorem pure_is_row {K : PySem.W.Frag} (vs : List V) (H : Hp) (Q : VK) (E : XK) (h : sp_is_row vs H Q E) : rd_is_row K { nx := fun _ H' => Q .non H', rt := Q } (start N_is_row vs) H := by
  match vs, h with
  | [a], h =>
    obtain ⟨p, ns, rfl, hp, q⟩ := h
    refine s_ret (v := .bl (rowB ns)) (ev_is (ev_andV (a := true) (b := (decide (1 ≤ ((ns.map V.int).length : Int)) && decide (((ns.map V.int).length : Int) ≤ 20)) && ((ns.map fun z => decide (BegC z)).all id)) (ev_cb (ea_cons (ev_var rfl) (ea_cons ev_c ea_nil)) (rc_isiL hp)) fun _ => ev_andV (ev_chainI ev_c (ev_lenVL (ev_var rfl) hp) ev_c) fun hlen => ev_all (el_is (el_lcLy (fun z => .bl (decide (BegC z))) (ev_var rfl) (sq_of hp) ?_ (fun _ => rfl) (fun z H1 e1 hz => ev_ok (vs := [.int z]) (ea_cons (ev_var rfl) ea_nil) (spv_I1 (g := fun n => .bl (decide (BegC n))) trivial))) (by rw [List.map_map]; rfl))) ?_) q
    · rw [Bool.and_eq_true, decide_eq_true_eq, decide_eq_true_eq, List.length_map] at hlen
      omega
    · unfold rowB
      rw [List.length_map, List.all_map]
      rfl
/-! ### parts_of -/
theorem dp_prs {K : PySem.W.Frag} {H : Hp} : ∀ {rs : List Addr} {qs : List (Int × Int)}, PrsAt H rs qs → DpAll K H (rs.map V.ref) (qs.map fun q => .tuple [.int q.1, .int q.2])
  | [], [], _ => .nil
  | r :: rs, q :: qs, h => by
    have h1 : H r = some (tp q) := (List.cons.inj h).1
    have h2 : PrsAt H rs qs := (List.cons.inj h).2
    exact .cons (.tup (st_of h1) (.cons (.int _) (.cons (.int _) .nil))) (dp_prs h2)
  | [], _ :: _, h => by cases h
  | _ :: _, [], h => by cases h
theorem shaped_prs (qs : List (Int × Int)) : SeqAt.shaped (.list (qs.map fun q => .tuple [.int q.1, .int q.2])) = true := by
  have h1 : ∀ qs : List (Int × Int), PyData.canLayAll0 (qs.map fun q => .tuple [.int q.1, .int q.2]) = true := fun qs => by
    induction qs with
    | nil => rfl
    | cons n r ih => simp only [List.map_cons, PyData.canLayAll0, PyData.canLay0, ih]; rfl
  have h2 : ∀ qs : List (Int × Int), PyData.depthAll (qs.map fun q => .tuple [.int q.1, .int q.2]) ≤ 2 := fun qs => by
    induction qs with
    | nil => simp [PyData.depthAll]
    | cons n r ih => simp only [List.map_cons, PyData.depthAll, PyData.depth]; omega
  have h3 := h2 qs
  have h4 : PyData.depth (.list (qs.map fun q => .tuple [.int q.1, .int q.2])) ≤ 64 := by
    simp only [PyData.depth]
    omega
  have h5 : PyData.canLay0 (.list (qs.map fun q => .tuple [.int q.1, .int q.2])) = true := by
    simp only [PyData.canLay0]
    exact h1 qs
  unfold SeqAt.shaped
  rw [h5, decide_eq_true h4]
  rfl
theorem prs_snoc {H : Hp} {rs : List Addr} {qs : List (Int × Int)} {r : Addr} {q : Int × Int} (h : PrsAt H rs qs) (hr : H r = some (tp q)) : PrsAt H (rs ++ [r]) (qs ++ [q]) := by
  show (rs ++ [r]).map H = (qs ++ [q]).map _
  rw [List.map_append, List.map_append, show rs.map H = qs.map _ from h, List.map_singleton, hr]
  rfl
theorem prs_unsnoc {H : Hp} {rs : List Addr} {qs : List (Int × Int)} {q : Int × Int} (h : PrsAt H rs (qs ++ [q])) : ∃ rs' r, rs = rs' ++ [r] ∧ PrsAt H rs' qs ∧ H r = some (tp q) := by
  have hl := prs_len h
  rw [List.length_append] at hl
  have hne : rs ≠ [] := by
    intro e
    rw [e] at hl
    simp at hl
  refine ⟨rs.dropLast, rs.getLast hne, (List.dropLast_concat_getLast hne).symm, ?_⟩
  have h2 : (rs.dropLast ++ [rs.getLast hne]).map H = (qs ++ [q]).map (fun q => some (tp q)) := by rw [List.dropLast_concat_getLast]; exact h
  rw [List.map_append, List.map_append] at h2
  have h3 := List.append_inj' h2 rfl
  exact ⟨h3.1, by simpa using h3.2⟩
theorem ixN_last (n : Nat) : ixN (n + 1) (-1) = some n := by
  unfold ixN
  rw [if_neg (by decide), if_pos (by omega)]
  congr 1
  omega
abbrev sp_parts_of : Sp := sp1 fun a H Q => ∃ p ns, a = .ref p ∧ H p = some (.lst (ns.map V.int)) ∧ ns.length ≤ 10000 ∧ ∀ q rs H', H q = none → Ex H H' → H' q = some (.lst (rs.map V.ref)) → PrsAt H' rs (partsL ns) → Q (.ref q) H'
def rd_parts_of (K : PySem.W.Frag) : TS :=
      (tSeq (tAsg (tLst tNil) (gName 1))
      (tSeq (tFor (iList K (tVar 0)) (gName 2)
        (tIfS (tAnd (tTest (tOp (rNeD K) (tVar 1) (tLst tNil))) (tTest (tOp rEq (tOp rAddI (tOp (rIxT K) (tOp (rIxL K) (tVar 1) (tUn rNeg (tC (.int 1)))) (tC (.int 1))) (tC (.int 1))) (tVar 2))))
        (tAsg (tTup (tCons (tOp (rIxT K) (tOp (rIxL K) (tVar 1) (tUn rNeg (tC (.int 1)))) (tC (.int 0))) (tCons (tVar 2) tNil))) (gSub (tVar 1) (tUn rNeg (tC (.int 1))) rSetL))
        (tDrop (tBM K "list" rAppend (tVar 1) (tCons (tTup (tCons (tVar 2) (tCons (tVar 2) tNil))) tNil)))))
      (tRet (tVar 1))))
def N_parts_of : List Str := ["value", "found", "one"]
theorem pure_parts_of {K : PySem.W.Frag} (vs : List V) (H : Hp) (Q : VK) (E : XK) (h : sp_parts_of vs H Q E) : rd_parts_of K { nx := fun _ H' => Q .non H', rt := Q } (start N_parts_of vs) H := by
  match vs, h with
  | [a], h =>
    obtain ⟨p, ns, rfl, hp, hz, q⟩ := h
    unfold rd_parts_of
    refine q_asgL (xs := []) (el_lst ea_nil (by simp)) fun pf H1 hpf e1 h1 => ?_
    have hne : p ≠ pf := ne_of_none hp hpf
    show tSeq _ _ _ [some (.ref p), some (.ref pf), none] H1
    refine Evl.q_forLn (a := p) (xs := ns.map V.int) (ev_var rfl) (sq_of (e1 _ _ hp)) (fun i σ' H' => ∃ (y2 : Option V) (rs : List Addr), σ' = [some (.ref p), some (.ref pf), y2] ∧ Ex H H' ∧ H' pf = some (.lst (rs.map V.ref)) ∧ PrsAt H' rs (partsL (ns.take i))) (fun H2 e2 => ⟨none, [], rfl, e1.trans e2, e2 _ _ h1, rfl⟩) (fun i σ' H' _ hp' => ?_) (fun i x σ' H' hx hp' => ?_) (fun σ' H' hp' => ?_)
    · obtain ⟨_, _, _, e, _⟩ := hp'
      exact sq_of (e _ _ hp)
    · obtain ⟨y2, rs, rfl, e, hf, hr⟩ := hp'
      rw [List.getElem?_map] at hx
      cases hq : ns[i]? with
      | none => rw [hq] at hx; cases hx
      | some z =>
        rw [hq] at hx
        have hx : V.int z = x := Option.some.inj hx
        subst hx
        have htk : ns.take (i + 1) = ns.take i ++ [z] := by rw [List.take_add_one, hq]; rfl
        obtain ⟨qs, hqs⟩ : ∃ qs, qs = partsL (ns.take i) := ⟨_, rfl⟩
        have hstep : partsL (ns.take (i + 1)) = stepP qs z := by rw [htk, partsL_snoc, hqs]
        rw [← hqs] at hr
        have hlen : rs.length ≤ 10000 := by
          have h2 := prs_len hr
          have h3 := partsL_len (ns.take i)
          rw [← hqs] at h3
          rw [List.length_take] at h3
          omega
        show tIfS _ _ _ _ [some (.ref p), some (.ref pf), some (.int z)] H'
        have hempty : EvT (tTest (tOp (rNeD K) (tVar 1) (tLst tNil))) [some (.ref p), some (.ref pf), some (.int z)] H' (!PyData.eqv (.list (qs.map fun q => .tuple [.int q.1, .int q.2])) (.list (([] : List Int).map PyData.int))) := et_test (ev_neP (ep_var rfl (.lst (sq_of hf) (dp_prs hr))) (ep_lstI (el_lst ea_nil (by simp))) (shaped_prs qs) rfl)
        have grow : ∀ (H2 : Hp), Ex H' H2 → stepP qs z = qs ++ [(z, z)] → (tDrop (tBM K "list" rAppend (tVar 1) (tCons (tTup (tCons (tVar 2) (tCons (tVar 2) tNil))) tNil))) { nx := fun σ' H' => ∃ (y2 : Option V) (rs : List Addr), σ' = [some (.ref p), some (.ref pf), y2] ∧ Ex H H' ∧ H' pf = some (.lst (rs.map V.ref)) ∧ PrsAt H' rs (partsL (ns.take (i + 1))), rt := Q, bk := (tRet (tVar 1)) { nx := fun _ H' => Q .non H', rt := Q }, ct := fun σ' H' => ∃ (y2 : Option V) (rs : List Addr), σ' = [some (.ref p), some (.ref pf), y2] ∧ Ex H H' ∧ H' pf = some (.lst (rs.map V.ref)) ∧ PrsAt H' rs (partsL (ns.take (i + 1))) } [some (.ref p), some (.ref pf), some (.int z)] H2 := fun H2 e2 hst => by
          refine s_appU (ys := [.int z, .int z]) (e2 _ _ hf) (ev_var rfl) (eu_tup (by walk_at "ev") (by simp)) (by rw [List.length_map]; omega) fun t H3 ht e3 h3 => ⟨_, rs ++ [t], rfl, Ex.mut ((e.trans e2).trans e3) hpf, ?_, ?_⟩
          · rw [upd_same, List.map_append]; rfl
          · rw [hstep, hst]
            exact prs_upd (e3 _ _ (e2 _ _ hf)) (prs_snoc (prs_ex (e2.trans e3) hr) h3)
        rcases snoc_cases qs with hnil | ⟨qs', aa, bb, hsn⟩
        · refine s_if (b := false && false) (et_and (et_is hempty (by rw [hnil]; simp [PyData.eqv, PyData.eqvAll])) fun hf => by cases hf) (fun hb => by cases hb) (fun _ H2 e2 => grow H2 e2 (by rw [hnil]; rfl))
        · rw [hsn] at hr
          obtain ⟨rs', r, hrs, hr', hrr⟩ := prs_unsnoc hr
          have hlast : atI (rs.map V.ref) (-1) = some (.ref r) := by rw [hrs, List.map_append]; exact atI_last _ _
          have ixl : ∀ {H2 : Hp}, Ex H' H2 → ∀ (k : Int) (v : V), atI [V.int aa, V.int bb] k = some v → Ev (tOp (rIxT K) (tOp (rIxL K) (tVar 1) (tUn rNeg (tC (.int 1)))) (tC (.int k))) [some (.ref p), some (.ref pf), some (.int z)] H2 v := fun {H2} e2 k v hk => ev_op (ev_ixV (i := -1) (ev_var rfl) (e2 _ _ hf) (ev_un ev_c ru_negI) hlast) ev_c (rv_ixT (st_of (e2 _ _ hrr)) hk)
          refine s_if (b := true && decide (bb + 1 = z)) (et_and (et_is hempty (by rw [hsn, List.map_append]; cases qs' <;> simp [PyData.eqv, PyData.eqvAll])) fun _ => et_test (ev_op (ev_op (ixl (Ex.refl _) 1 (.int bb) (atI_nat (j := 1) rfl)) ev_c rv_I0) (ev_var rfl) rv_eqI)) (fun hb H2 e2 => ?_) (fun hb H2 e2 => grow H2 e2 ?_)
          · have hb : bb + 1 = z := by simpa using hb
            refine eu_tup (H := H2) (ea_cons (x := .int aa) (ixl e2 0 (.int aa) (atI_nat (j := 0) rfl)) (ea_cons (x := .int z) (ev_var rfl) ea_nil)) (by simp) H2 (Ex.refl _) _ fun t H3 ht e3 h3 => ?_
            have hf3 := e3 _ _ (e2 _ _ hf)
            refine ⟨.ref pf, rfl, 1, rfl, pf, rs.map V.ref, -1, rs'.length, rfl, rfl, hf3, by rw [List.length_map, hrs, List.length_append]; exact ixN_last _, ?_⟩
            refine ⟨_, rs' ++ [t], rfl, Ex.mut ((e.trans e2).trans e3) hpf, ?_, ?_⟩
            · rw [upd_same, hrs, List.map_append, List.map_append]
              congr 2
              have : rs'.length = (rs'.map V.ref).length := by rw [List.length_map]
              rw [this, List.set_append_right _ _ (Nat.le_refl _), Nat.sub_self]
              rfl
            · rw [hstep, hsn, stepP_snoc, if_pos hb]
              exact prs_upd hf3 (prs_snoc (prs_ex (e2.trans e3) hr') h3)
          · have hb : ¬ bb + 1 = z := by simpa using hb
            rw [hsn, stepP_snoc, if_neg hb]
    · obtain ⟨y2, rs, rfl, e, hf, hr⟩ := hp'
      rw [List.length_map, List.take_length] at hr
      exact ⟨.ref pf, rfl, q pf rs H' hpf e hf hr⟩
/-! ### text_of, format_beginnings -/
theorem es_parts {σ : L2.St} {H : Hp} {E : XK} {i : Nat} {p : Addr} {ns : List Int} (hi : σ[i]? = some (some (.ref p))) (hp : H p = some (.lst (ns.map V.int))) (hz : ns.length ≤ 10000) : EvS (tCall sp_parts_of [] E (tCons (tVar i) tNil)) σ H (partsL ns) := fun H1 e Q q =>
  ⟨.ref p, hi, p, ns, rfl, e _ _ hp, hz, q⟩
theorem log_small {n : Int} (h0 : 0 ≤ n) (h1 : n ≤ 100000) : n.natAbs.log2 < 1920 := by
  by_cases hz : n = 0
  · subst hz; decide
  · rw [Nat.log2_lt (by omega)]
    exact Nat.lt_of_lt_of_le (show n.natAbs < 2 ^ 17 by omega) (Nat.pow_le_pow_right (by decide) (by decide))
theorem sz200 {n : Nat} (h : n ≤ 1000) : n ≤ sizeLine := Nat.le_trans h (by decide)
abbrev sp_text_of : Sp := sp1 fun a H Q => ∃ p ns, a = .ref p ∧ H p = some (.lst (ns.map V.int)) ∧ RowC ns ∧ ∀ H', Ex H H' → Q (.str (fmtT ns)) H'
def rd_text_of (K : PySem.W.Frag) : TS :=
      (tRet (tM1 (rJoin K) (tC (.str " ")) (tLc (iList K (tCall (sp_parts_of) [] E0 (tCons (tVar 0) tNil))) (gTup K 2 (gCons (gName 1) (gCons (gName 2) gNil))) tYes (tIf (tTest (tOp rEq (tVar 1) (tVar 2))) (tCB rStrInt (tCons (tVar 1) tNil)) (tJoined [(tFmt (tVar 1)), (tC (.str "-")), (tFmt (tVar 2))])) [1, 2])))
def N_text_of : List Str := ["value", "one", "other"]
theorem ev_word {σ : L2.St} {H : Hp} {i j : Nat} {a b : Int} (hi : σ[i]? = some (some (.int a))) (hj : σ[j]? = some (some (.int b))) (ha : BegC a) (hb : BegC b) : Ev (tJoined [(tFmt (tVar i)), (tC (.str "-")), (tFmt (tVar j))]) σ H (.str (Str.ofString (toString a) ++ Str.ofString "-" ++ Str.ofString (toString b))) := fun H1 e Q q => by
  have a0 := ha.lo
  have a1 := ha.hi
  have b0 := hb.lo
  have b1 := hb.hi
  have la : (Str.ofString (toString a)).length ≤ 4 := by rw [len_tl, tl_str (by omega)]; exact numL_le4 ha
  have lb : (Str.ofString (toString b)).length ≤ 4 := by rw [len_tl, tl_str (by omega)]; exact numL_le4 hb
  have ld : (Str.ofString "-").length = 1 := by rw [len_tl, tl_dash]; rfl
  have ap : ∀ x y : Str, (x ++ y).length = x.length + y.length := fun x y => by rw [len_tl, len_tl, len_tl, tl_append, List.length_append]
  have le : Str.empty.length = 0 := rfl
  refine ⟨.int a, hi, .inr ⟨a, rfl, log_small (by omega) (by omega), _, rfl, sz200 (by rw [ap]; omega), _, rfl, sz200 ?_, .int b, hj, .inr ⟨b, rfl, log_small (by omega) (by omega), _, rfl, sz200 ?_, ?_⟩⟩⟩
  · show (Str.empty ++ Str.ofString (toString a) ++ Str.ofString "-").length ≤ 1000
    rw [ap, ap]
    omega
  · show (Str.empty ++ Str.ofString (toString a) ++ Str.ofString "-" ++ Str.ofString (toString b)).length ≤ 1000
    rw [ap, ap, ap]
    omega
  · have e : (Str.empty ++ Str.ofString (toString a) ++ Str.ofString "-" ++ Str.ofString (toString b)) = Str.ofString (toString a) ++ Str.ofString "-" ++ Str.ofString (toString b) := ext_tl (by rw [tl_append, tl_append, tl_append, tl_append, tl_append]; rfl)
    show Q (.str (Str.empty ++ Str.ofString (toString a) ++ Str.ofString "-" ++ Str.ofString (toString b))) H1
    rw [e]
    exact q H1 (Ex.refl _)
theorem pure_text_of {K : PySem.W.Frag} (vs : List V) (H : Hp) (Q : VK) (E : XK) (h : sp_text_of vs H Q E) : rd_text_of K { nx := fun _ H' => Q .non H', rt := Q } (start N_text_of vs) H := by
  match vs, h with
  | [a], h =>
    obtain ⟨p, ns, rfl, hp, hR, q⟩ := h
    unfold rd_text_of
    have hl : EvL (tLc (iList K (tCall (sp_parts_of) [] E0 (tCons (tVar 0) tNil))) (gTup K 2 (gCons (gName 1) (gCons (gName 2) gNil))) tYes (tIf (tTest (tOp rEq (tVar 1) (tVar 2))) (tCB rStrInt (tCons (tVar 1) tNil)) (tJoined [(tFmt (tVar 1)), (tC (.str "-")), (tFmt (tVar 2))])) [1, 2]) (start N_text_of [.ref p]) H ((partsL ns).map fun q => .str (wordT q)) := el_lcSU (fun q => .str (wordT q)) (es_parts rfl hp (by have := hR.hi; omega)) (by have := partsL_len ns; have := hR.hi; omega) (fun _ _ => rfl) fun q H1 e1 hq => by
      have hpq := hR.part hq
      have h0 := hpq.1.lo
      refine ev_if (b := decide (q.1 = q.2)) (et_test (ev_op (ev_var rfl) (ev_var rfl) rv_eqI)) (fun hb => ?_) (fun hb => ?_)
      · unfold wordT
        rw [if_pos (of_decide_eq_true hb)]
        exact ev_cb (ea_cons (ev_var rfl) ea_nil) (rc_strInt (str_ok hpq.1.txt))
      · unfold wordT
        rw [if_neg (of_decide_eq_false hb)]
        exact ev_word rfl rfl hpq.1 hpq.2.1
    refine ⟨⟨_, rfl⟩, hl H (Ex.refl _) _ fun pw H1 hpw e1 h1 => ⟨Str.ofString " ", pw, (partsL ns).map wordT, rfl, rfl, .inl (sq_of (by rw [List.map_map]; exact h1)), ?_, q H1 e1⟩⟩
    have l1 := partsL_len ns
    have l2 := hR.hi
    have l3 : (Str.ofString " ").length = 1 := by rw [len_tl, tl_space]; rfl
    rw [List.map_map, List.length_map, l3]
    have h2 : ((partsL ns).map ((fun x : Str => x.length) ∘ wordT)).sum ≤ (partsL ns).length * 9 := sum_le fun q hq => by
      have hp := hR.part hq
      exact word_len hp.1 hp.2.1
    omega
abbrev sp_format_beginnings : Sp := sp_text_of
def rd_format_beginnings (K : PySem.W.Frag) : TS :=
      (tSeq (tIfS (tNot (tB (tCall (sp_is_row) [] E0 (tCons (tVar 0) tNil))))
        tNever
        tNext)
      (tRet (tCall (sp_text_of) [] E0 (tCons (tVar 0) tNil))))
def N_format_beginnings : List Str := ["value"]
theorem pure_format_beginnings {K : PySem.W.Frag} (vs : List V) (H : Hp) (Q : VK) (E : XK) (h : sp_format_beginnings vs H Q E) : rd_format_beginnings K { nx := fun _ H' => Q .non H', rt := Q } (start N_format_beginnings vs) H := by
  match vs, h with
  | [a], h =>
    obtain ⟨p, ns, rfl, hp, hR, q⟩ := h
    unfold rd_format_beginnings
    refine q_if1 (b := !rowB ns) (et_not (et_B fun H1 e Q' q' => ⟨.ref p, rfl, p, ns, rfl, e _ _ hp, q'⟩)) (fun hb => by rw [(rowB_iff ns).mpr hR] at hb; cases hb) (fun _ H1 e1 => ?_)
    exact ⟨.ref p, rfl, p, ns, rfl, e1 _ _ hp, hR, fun H2 e2 => q H2 (e1.trans e2)⟩
theorem ev_format {σ : L2.St} {H : Hp} {te : TE} {E : XK} {p : Addr} {ns : List Int} (h : Ev te σ H (.ref p)) (hp : H p = some (.lst (ns.map V.int))) (hR : RowC ns) : Ev (tCall sp_format_beginnings [] E (tCons te tNil)) σ H (.str (fmtT ns)) := fun H1 e Q q =>
  h H1 e _ fun H2 e2 => ⟨p, ns, rfl, (e.trans e2) _ _ hp, hR, fun H3 e3 => q H3 (e2.trans e3)⟩
theorem ev_formatN {σ : L2.St} {H : Hp} {te : TE} {E : XK} {ns : List Int} (h : EvL te σ H (ns.map V.int)) (hR : RowC ns) : Ev (tCall sp_format_beginnings [] E (tCons te tNil)) σ H (.str (fmtT ns)) := fun H1 e Q q =>
  h H1 e _ fun p H2 hp e2 h2 => ⟨p, ns, rfl, h2, hR, fun H3 e3 => q H3 (e2.trans e3)⟩
end FD

namespace FD
open PySem PySem.Spec PyProof.Rows L2 Evl TL
local macro_rules | `(tactic| walk_at "ev") => `(tactic| repeat' (first | (with_reducible exact ev_c) | ((with_reducible apply ev_var); rfl) | (with_reducible exact ea_nil) | (with_reducible apply ea_cons) | (with_reducible apply ev_op) | (with_reducible exact rv_I0) | (with_reducible apply rv_I) | (with_reducible exact rv_eqI) | (with_reducible exact rv_neI) | (with_reducible exact rv_eqS) | (with_reducible apply ev_ok) | (with_reducible apply ev_cb) | (with_reducible apply spv_I1) | (with_reducible apply spv_I2) | (with_reducible apply spv_I3) | (with_reducible apply et_test) | (with_reducible apply et_B) | (with_reducible apply et_not) | (with_reducible apply ev_notV) | (with_reducible apply ev_un) | (with_reducible exact ru_negI) | (with_reducible exact rc_max2) | (with_reducible exact rc_min2) | (with_reducible exact rv_isB) | (with_reducible exact rv_notB) | (with_reducible exact rv_isN) | (with_reducible exact rv_notN) | (with_reducible apply ev_chainI) | (with_reducible exact rc_isiI) | (with_reducible exact rc_isiB)))
/-! ### number_in -/
abbrev spx_number_in (x : ExA) : Sp := spe1 fun a H Q E => ∃ w, a = .str w ∧ w.length ≤ 10000 ∧ (∀ n, numT w = some n → ∀ H', Ex H H' → Q (.int n) H') ∧ (numT w = none → ∀ H', Ex H H' → E (.ref x.bt) none H')
def rdx_number_in (x : ExA) (E : XK) (K : PySem.W.Frag) : TS :=
      (tSeq (tIfS (tOr (tNot (tTest (tChain rLeI rLeI (tC (.int 1)) (tCB rLenStr (tCons (tVar 0) tNil)) (tC (.int 4))))) (tOr (tNot (tB (tCB (rAll K) (tCons (tLc (iStr (tVar 0)) (gName 1) tYes (tOp rInS (tVar 1) (tC (.str "0123456789"))) [1]) tNil)))) (tTest (tOp rEq (tOp rIxS (tVar 0) (tC (.int 0))) (tC (.str "0"))))))
        (tRaise x.bt E)
        tNext)
      (tRet (tCB rIntStr (tCons (tVar 0) tNil))))
def N_number_in : List Str := ["word", "sign"]
theorem one_str (c : Nat) : decide ((⟨#[c]⟩ : Str) = Str.ofString "0") = decide (c = 48) := by
  apply decide_iff_eq
  constructor
  · intro h
    have := congrArg tl h
    rw [tl_ofString] at this
    have h2 : [c] = [48] := this
    simpa using h2
  · intro h
    rw [h]
    exact ext_tl (by rw [tl_ofString]; rfl)
theorem purex_number_in {x : ExA} {K : PySem.W.Frag} (vs : List V) (H : Hp) (Q : VK) (E : XK) (h : spx_number_in x vs H Q E) : rdx_number_in x E K { nx := fun _ H' => Q .non H', rt := Q } (start N_number_in vs) H := by
  match vs, h with
  | [a], h =>
    obtain ⟨w, rfl, hz, q, he⟩ := h
    unfold rdx_number_in
    obtain ⟨b1, hb1⟩ : ∃ b1 : Bool, b1 = (decide (1 ≤ (w.length : Int)) && decide ((w.length : Int) ≤ 4)) := ⟨_, rfl⟩
    obtain ⟨b2, hb2⟩ : ∃ b2 : Bool, b2 = (((tl w).map fun c => decide (c ∈ tl (Str.ofString "0123456789"))).all id) := ⟨_, rfl⟩
    obtain ⟨b3, hb3⟩ : ∃ b3 : Bool, b3 = decide ((tl w).head? = some 48) := ⟨_, rfl⟩
    have hok : okW (tl w) = ((b1 && b2) && !b3) := by
      unfold okW
      rw [hb1, hb2, hb3, List.all_map, len_tl]
      rfl
    have ht : EvT (tOr (tNot (tTest (tChain rLeI rLeI (tC (.int 1)) (tCB rLenStr (tCons (tVar 0) tNil)) (tC (.int 4))))) (tOr (tNot (tB (tCB (rAll K) (tCons (tLc (iStr (tVar 0)) (gName 1) tYes (tOp rInS (tVar 1) (tC (.str "0123456789"))) [1]) tNil)))) (tTest (tOp rEq (tOp rIxS (tVar 0) (tC (.int 0))) (tC (.str "0")))))) (start N_number_in [.str w]) H (!b1 || (!b2 || b3)) := by
      refine et_or (et_is (et_not (et_test (ev_chainI ev_c (ev_cb (ea_cons (ev_var rfl) ea_nil) (rc_lenStr (by omega))) ev_c))) (by rw [hb1])) fun h1 => et_or (et_is (et_not (et_B (ev_all (bs := (tl w).map fun c => decide (c ∈ tl (Str.ofString "0123456789"))) (el_is (el_lcStr (fun c => .bl (decide (c ∈ tl (Str.ofString "0123456789")))) (ev_var rfl) (by omega) (fun _ => rfl) fun c H1 e1 hc H2 e2 Q' q' => ⟨.str ⟨#[c]⟩, rfl, c, Str.ofString "0123456789", rfl, rfl, q' H2 (Ex.refl _)⟩) (by rw [List.map_map]; rfl))))) (by rw [hb2])) fun _ => ?_
      have h1' : b1 = true := by simpa using h1
      rw [hb1, Bool.and_eq_true, decide_eq_true_eq, decide_eq_true_eq] at h1'
      cases hq : tl w with
      | nil =>
        rw [len_tl, hq] at h1'
        simp at h1'
      | cons c r =>
        refine et_test (ev_is (ev_op (ev_op (ev_var rfl) ev_c (rv_ixS (c := c) (by omega) (atI_nat (j := 0) (by show (tl w)[0]? = some c; rw [hq]; rfl)))) ev_c rv_eqS) ?_)
        rw [hb3, hq]
        show V.bl (decide ((⟨#[c]⟩ : Str) = Str.ofString "0")) = _
        rw [one_str]
        congr 1
        apply decide_iff_eq
        simp
    refine q_if1 ht (fun hb H1 e1 => he ?_ H1 e1) (fun hb H1 e1 => ?_)
    · unfold numT
      rw [hok, if_neg]
      cases b1 <;> cases b2 <;> cases b3 <;> simp at hb ⊢
    · have hk : okW (tl w) = true := by
        rw [hok]
        cases b1 <;> cases b2 <;> cases b3 <;> simp at hb ⊢
      obtain ⟨n, hn⟩ : ∃ n, numT w = some n := ⟨_, by unfold numT; rw [if_pos hk]⟩
      obtain ⟨hB, hw⟩ := numT_some hn
      have hb0 := hB.lo
      have hl := numL_le4 hB
      have h640 : w.length ≤ 640 := by rw [len_tl, hw, tl_str (by omega)]; omega
      have hint : PySem.intText? w = some n := by
        obtain ⟨k, hk⟩ := Int.eq_ofNat_of_zero_le (show 0 ≤ n by omega)
        rw [hw, hk]
        rw [hk, Int.toNat_natCast] at hl
        exact int_num (by omega)
      exact s_ret (ev_cb (ea_cons (ev_var rfl) ea_nil) (rc_intStr hint h640)) fun H2 e2 => q n hn H2 (e1.trans e2)
/-! ### parse_beginnings -/
theorem spl_len (S : List Nat) : ∀ (l : List Nat) (k : Nat) (acc : List Nat), (spl S k acc l).length ≤ l.length + 1
  | [], k, acc => by rw [spl_nil]; simp
  | c :: r, k, acc => by
    rw [spl_pass]
    cases k with
    | zero =>
      rw [List.drop_zero]
      by_cases h : pre S (c :: r) = true
      · rw [spl_hit h, List.length_cons, List.length_cons]
        have := spl_len S r (S.length - 1) []
        omega
      · have h : pre S (c :: r) = false := by simpa using h
        rw [spl_miss h, List.length_cons]
        have := spl_len S r 0 (acc ++ [c])
        omega
    | succ k =>
      show (spl S 0 acc (r.drop k)).length ≤ _
      rw [← spl_pass, List.length_cons]
      have := spl_len S r k acc
      omega
theorem split_len (t : Str) : (Txt.split t (Str.ofString " ")).length ≤ t.length + 1 := by
  have h := split_spl t (Str.ofString " ") (by rw [tl_space]; simp) (kind_ok (by decide +kernel))
  have h2 := congrArg List.length h
  rw [List.length_map] at h2
  rw [h2, len_tl]
  exact spl_len _ _ _ _
theorem spl_sub (S : List Nat) : ∀ (l : List Nat) (k : Nat) (acc : List Nat), ∀ p ∈ spl S k acc l, p.length ≤ acc.length + l.length
  | [], k, acc => by rw [spl_nil]; intro p hp; have : p = acc := by simpa using hp
                     rw [this]; simp
  | c :: r, k, acc => by
    rw [spl_pass]
    intro p hp
    cases k with
    | zero =>
      rw [List.drop_zero] at hp
      by_cases h : pre S (c :: r) = true
      · rw [spl_hit h, List.mem_cons] at hp
        rcases hp with rfl | hp
        · omega
        · have := spl_sub S r (S.length - 1) [] p hp
          simp at this ⊢
          omega
      · have h : pre S (c :: r) = false := by simpa using h
        rw [spl_miss h] at hp
        have := spl_sub S r 0 (acc ++ [c]) p hp
        simp at this ⊢
        omega
    | succ k =>
      have hp : p ∈ spl S 0 acc (r.drop k) := hp
      rw [← spl_pass] at hp
      have := spl_sub S r k acc p hp
      simp
      omega
theorem split_sub {t w : Str} (h : w ∈ Txt.split t (Str.ofString " ")) : w.length ≤ t.length := by
  have h1 := split_spl t (Str.ofString " ") (by rw [tl_space]; simp) (kind_ok (by decide +kernel))
  have h2 : tl w ∈ spl (tl (Str.ofString " ")) 0 [] (tl t) := by rw [← h1]; exact List.mem_map.mpr ⟨w, h, rfl⟩
  have := spl_sub _ _ _ _ _ h2
  rw [len_tl, len_tl]
  simpa using this
theorem part_len (w : Str) : (Txt.partition w (Str.ofString "-")).1.length ≤ w.length ∧ (Txt.partition w (Str.ofString "-")).2.2.length ≤ w.length := by
  by_cases h : 45 ∈ tl w
  · obtain ⟨s, t, e, hn⟩ : ∃ s t, tl w = s ++ 45 :: t ∧ 45 ∉ s := by
      have key : ∀ l : List Nat, 45 ∈ l → ∃ s t, l = s ++ 45 :: t ∧ 45 ∉ s := fun l => by
        induction l with
        | nil => intro h; cases h
        | cons c r ih =>
          intro h
          by_cases hc : c = 45
          · exact ⟨[], r, by rw [hc]; rfl, by simp⟩
          · rw [List.mem_cons] at h
            rcases h with h | h
            · exact absurd h.symm hc
            · obtain ⟨s, t, e, hn⟩ := ih h
              exact ⟨c :: s, t, by rw [e]; rfl, by rw [List.mem_cons]; rintro (h | h); exact hc h.symm; exact hn h⟩
      exact key _ h
    have hw : w = (⟨s.toArray⟩ : Str) ++ Str.ofString "-" ++ (⟨t.toArray⟩ : Str) := ext_tl (by rw [tl_append, tl_append, tl_dash, e, List.append_assoc]; rfl)
    have hp := partition_app (y := Str.ofString "-") tl_dash (a := (⟨s.toArray⟩ : Str)) (b := (⟨t.toArray⟩ : Str)) (by rw [tl_mk]; exact hn)
    rw [hw, hp]
    show (⟨s.toArray⟩ : Str).length ≤ _ ∧ (⟨t.toArray⟩ : Str).length ≤ _
    rw [len_tl, len_tl, len_tl, tl_append, tl_append, List.length_append, List.length_append]
    exact ⟨by omega, by omega⟩
  · rw [partition_none (y := Str.ofString "-") tl_dash h]
    exact ⟨Nat.le_refl _, Nat.zero_le _⟩
/-- what is no text -/
def NoStr (H : Hp) (a : V) : Prop := a = .non ∨ (∃ i, a = .int i) ∨ ∃ p xs, a = .ref p ∧ H p = some (.lst xs)
abbrev spx_parse_beginnings (x : ExA) : Sp := spe1 fun a H Q E => (∃ t, a = .str t ∧ t.length ≤ 1000 ∧ (∀ L, parseT t = some L → ∀ p H', H p = none → Ex H H' → H' p = some (.lst (L.map V.int)) → Q (.ref p) H') ∧ (parseT t = none → ∀ H', Ex H H' → E (.ref x.bt) none H')) ∨ (NoStr H a ∧ ∀ H', Ex H H' → E (.ref x.bt) none H')
def rdx_parse_beginnings (x : ExA) (E : XK) (K : PySem.W.Frag) : TS :=
      (tSeq (tIfS (tNot (tB (tCB (rIsi K) (tCons (tVar 0) (tCons (tC (.ty "str")) tNil)))))
        (tRaise x.bt E)
        tNext)
      (tSeq (tAsg (tLst tNil) (gName 1))
      (tSeq (tFor (iList K (tM1 rSplit (tVar 0) (tC (.str " ")))) (gName 2)
        (tSeq (tAsg (tM1 rPartn (tVar 2) (tC (.str "-"))) (gTup K 3 (gCons (gName 3) (gCons (gName 4) (gCons (gName 5) gNil)))))
      (tSeq (tAsg (tCall (spx_number_in x) [] E (tCons (tVar 3) tNil)) (gName 6))
      (tSeq (tAsg (tIf (tTest (tOp rNe (tVar 4) (tC (.str "")))) (tCall (spx_number_in x) [] E (tCons (tVar 5) tNil)) (tVar 6)) (gName 7))
      (tSeq (tIfS (tTest (tOp rGtI (tOp rSubI (tVar 7) (tVar 6)) (tC (.int 20))))
        (tRaise x.bt E)
        tNext)
      (tAug 1 (tLstRg (tRg2 (tVar 6) (tOp rAddI (tVar 7) (tC (.int 1))))) rExt2))))))
      (tSeq (tIfS (tOr (tNot (tB (tCall (sp_is_row) [] E0 (tCons (tVar 1) tNil)))) (tTest (tOp rNe (tCall (sp_text_of) [] E0 (tCons (tVar 1) tNil)) (tVar 0))))
        (tRaise x.bt E)
        tNext)
      (tRet (tVar 1))))))
def N_parse_beginnings : List Str := ["text", "found", "word", "head", "stroke", "tail", "first", "last"]
theorem parse_bad {t w : Str} (hw : w ∈ Txt.split t (Str.ofString " ")) (h : wordP w = none) : parseT t = none := by
  unfold parseT
  rw [if_neg]
  rintro ⟨h1, _⟩
  rw [List.all_eq_true] at h1
  have := h1 w hw
  rw [h] at this
  cases this
theorem wordP_eq {w : Str} {f l : Int} (h1 : numT (Txt.partition w (Str.ofString "-")).1 = some f) (h2 : (if (Txt.partition w (Str.ofString "-")).2.1 = Str.ofString "" then some f else numT (Txt.partition w (Str.ofString "-")).2.2) = some l) : wordP w = if 20 < l - f then none else some (rgI f (l + 1)) := by
  unfold wordP
  rw [h1]
  show (match (if (Txt.partition w (Str.ofString "-")).2.1 = Str.ofString "" then some f else numT (Txt.partition w (Str.ofString "-")).2.2) with | none => none | some l => if 20 < l - f then none else some (rgI f (l + 1))) = _
  rw [h2]
theorem wordP_no1 {w : Str} (h1 : numT (Txt.partition w (Str.ofString "-")).1 = none) : wordP w = none := by
  unfold wordP
  rw [h1]
theorem wordP_no2 {w : Str} {f : Int} (h1 : numT (Txt.partition w (Str.ofString "-")).1 = some f) (h2 : ¬ (Txt.partition w (Str.ofString "-")).2.1 = Str.ofString "") (h3 : numT (Txt.partition w (Str.ofString "-")).2.2 = none) : wordP w = none := by
  unfold wordP
  rw [h1]
  show (match (if (Txt.partition w (Str.ofString "-")).2.1 = Str.ofString "" then some f else numT (Txt.partition w (Str.ofString "-")).2.2) with | none => none | some l => if 20 < l - f then none else some (rgI f (l + 1))) = none
  rw [if_neg h2, h3]
theorem rc_isiN {K : PySem.W.Frag} {H : Hp} {a : V} (h : NoStr H a) : RC (rIsi K) [a, .ty "str"] H (.bl false) := fun H1 e Q q => by
  rcases h with rfl | ⟨i, rfl⟩ | ⟨p, xs, rfl, hp⟩
  · exact ⟨.non, .ty "str", .type "NoneType", .type "str", false, rfl, .ty _, .base .non, kit_ty (by decide +kernel), q H1 (Ex.refl _)⟩
  · exact ⟨.int i, .ty "str", .type "int", .type "str", false, rfl, .ty _, .base (.int i), kit_ty (by decide +kernel), q H1 (Ex.refl _)⟩
  · exact ⟨.ref p, .ty "str", .type "list", .type "str", false, rfl, .ty _, .base (.lst (e _ _ hp)), kit_ty (by decide +kernel), q H1 (Ex.refl _)⟩
theorem rv_neS {a b : Str} {H : Hp} : RV rNe (.str a) (.str b) H (.bl (!decide (a = b))) := fun H1 _ _ q => ⟨rfl, by
  have e : decide (a = b) = decide (V.str a = V.str b) := by rw [decide_eq_decide]; exact ⟨fun h => by rw [h], V.str.inj⟩
  rw [← e]
  exact q H1 (Ex.refl H1)⟩
theorem purex_parse_beginnings {x : ExA} {K : PySem.W.Frag} (vs : List V) (H : Hp) (Q : VK) (E : XK) (h : spx_parse_beginnings x vs H Q E) : rdx_parse_beginnings x E K { nx := fun _ H' => Q .non H', rt := Q } (start N_parse_beginnings vs) H := by
  match vs, h with
  | [a], h =>
    unfold rdx_parse_beginnings
    rcases h with ⟨t, rfl, hz, q, he⟩ | ⟨hno, he⟩
    · refine q_if1 (b := !true) (et_not (et_B (ev_cb (ea_cons (ev_var rfl) (ea_cons ev_c ea_nil)) rc_isiS))) (fun hb => by cases hb) (fun _ H1 e1 => ?_)
      refine q_asgL (xs := []) (el_lst ea_nil (by simp)) fun pf H2 hpf e2 h2 => ?_
      obtain ⟨ws, hws⟩ : ∃ ws, ws = Txt.split t (Str.ofString " ") := ⟨_, rfl⟩
      have hwl : ws.length ≤ 1001 := by have := split_len t; rw [hws]; omega
      have hwm : ∀ w, w ∈ ws → w.length ≤ 1000 := fun w hw => by
        have := split_sub (t := t) (w := w) (by rw [← hws]; exact hw)
        omega
      have hpf0 : H pf = none := fresh_back e1 hpf
      show tSeq _ _ _ [some (.str t), some (.ref pf), none, none, none, none, none, none] H2
      have hE : EvL (tM1 rSplit (tVar 0) (tC (.str " "))) [some (.str t), some (.ref pf), none, none, none, none, none, none] H2 (ws.map V.str) := fun H3 e3 Q' q' => ⟨.str t, rfl, ⟨t, rfl⟩, t, Str.ofString " ", rfl, rfl, by decide +kernel, sz_of (by omega), fun p hp => q' p _ hp (Ex.new hp) (by rw [upd_same, hws])⟩
      refine Evl.q_forNLn hE (fun p i σ' H' => ∃ y2 y3 y4 y5 y6 y7, σ' = [some (.str t), some (.ref pf), y2, y3, y4, y5, y6, y7] ∧ Ex H H' ∧ H' p = some (.lst (ws.map V.str)) ∧ H' pf = some (.lst (((ws.take i).flatMap wordL).map V.int)) ∧ p ≠ pf ∧ ((ws.take i).all fun w => (wordP w).isSome) = true ∧ ((ws.take i).flatMap wordL).length ≤ 21 * i) (fun p H3 hp e3 h3 => ⟨none, none, none, none, none, none, rfl, (e1.trans e2).trans e3, h3, e3 _ _ h2, (ne_of_none h2 hp).symm, rfl, by simp⟩) (fun p i σ' H' _ hp => ?_) (fun p i w σ' H' hw hp => ?_) (fun p σ' H' hp => ?_)
      · obtain ⟨_, _, _, _, _, _, _, _, h, _⟩ := hp
        exact sq_of h
      · obtain ⟨y2, y3, y4, y5, y6, y7, rfl, e, hp1, hf, hne, hall, hfl⟩ := hp
        rw [List.getElem?_map] at hw
        cases hq : ws[i]? with
        | none => rw [hq] at hw; cases hw
        | some w' =>
          rw [hq] at hw
          have hw : V.str w' = w := Option.some.inj hw
          subst hw
          have hwi : i < ws.length := (List.getElem?_eq_some_iff.mp hq).1
          have hmem : w' ∈ ws := List.mem_of_getElem? hq
          have hmem2 : w' ∈ Txt.split t (Str.ofString " ") := by rw [← hws]; exact hmem
          have hwlen := hwm w' hmem
          have hpl := part_len w'
          have htk : ws.take (i + 1) = ws.take i ++ [w'] := by rw [List.take_add_one, hq]; rfl
          show tSeq _ _ _ [some (.str t), some (.ref pf), some (.str w'), y3, y4, y5, y6, y7] H'
          obtain ⟨hd, hhd⟩ : ∃ hd, hd = (Txt.partition w' (Str.ofString "-")).1 := ⟨_, rfl⟩
          obtain ⟨sk, hsk⟩ : ∃ sk, sk = (Txt.partition w' (Str.ofString "-")).2.1 := ⟨_, rfl⟩
          obtain ⟨tt, htt⟩ : ∃ tt, tt = (Txt.partition w' (Str.ofString "-")).2.2 := ⟨_, rfl⟩
          refine ⟨.str w', rfl, ⟨w', rfl⟩, w', Str.ofString "-", rfl, rfl, by decide +kernel, sz200 (by omega), fun pt hpt => ?_⟩
          refine ⟨pt, [.str hd, .str sk, .str tt], rfl, st_of (by rw [upd_same, hhd, hsk, htt]), rfl, _, _, rfl, _, _, rfl, _, _, rfl, rfl, ?_⟩
          have e3 : Ex H' (upd H' pt (.tup [.str (Txt.partition w' (Str.ofString "-")).1, .str (Txt.partition w' (Str.ofString "-")).2.1, .str (Txt.partition w' (Str.ofString "-")).2.2])) := Ex.new hpt
          revert e3
          generalize (upd H' pt (.tup [.str (Txt.partition w' (Str.ofString "-")).1, .str (Txt.partition w' (Str.ofString "-")).2.1, .str (Txt.partition w' (Str.ofString "-")).2.2])) = H3
          intro e3
          show tSeq _ _ _ [some (.str t), some (.ref pf), some (.str w'), some (.str hd), some (.str sk), some (.str tt), y6, y7] H3
          refine ⟨.str hd, rfl, hd, rfl, by rw [hhd]; omega, fun f hf1 H4 e4 => ?_, fun hn H4 e4 => he (parse_bad hmem2 (wordP_no1 (by rw [← hhd]; exact hn))) H4 ((e.trans e3).trans e4)⟩
          rw [hhd] at hf1
          have hfB := (numT_some hf1).1
          show tSeq _ _ _ [some (.str t), some (.ref pf), some (.str w'), some (.str hd), some (.str sk), some (.str tt), some (.int f), y7] H4
          -- what follows the second number
          have rest : ∀ (l : Int) (H5 : Hp), Ex H4 H5 → BegC l → (if sk = Str.ofString "" then some f else numT tt) = some l →
              (tSeq (tIfS (tTest (tOp rGtI (tOp rSubI (tVar 7) (tVar 6)) (tC (.int 20)))) (tRaise x.bt E) tNext) (tAug 1 (tLstRg (tRg2 (tVar 6) (tOp rAddI (tVar 7) (tC (.int 1))))) rExt2)) { nx := fun σ' H' => ∃ y2 y3 y4 y5 y6 y7, σ' = [some (.str t), some (.ref pf), y2, y3, y4, y5, y6, y7] ∧ Ex H H' ∧ H' p = some (.lst (ws.map V.str)) ∧ H' pf = some (.lst (((ws.take (i + 1)).flatMap wordL).map V.int)) ∧ p ≠ pf ∧ ((ws.take (i + 1)).all fun w => (wordP w).isSome) = true ∧ ((ws.take (i + 1)).flatMap wordL).length ≤ 21 * (i + 1), rt := Q, bk := (tSeq (tIfS (tOr (tNot (tB (tCall (sp_is_row) [] E0 (tCons (tVar 1) tNil)))) (tTest (tOp rNe (tCall (sp_text_of) [] E0 (tCons (tVar 1) tNil)) (tVar 0)))) (tRaise x.bt E) tNext) (tRet (tVar 1))) { nx := fun _ H' => Q .non H', rt := Q }, ct := fun σ' H' => ∃ y2 y3 y4 y5 y6 y7, σ' = [some (.str t), some (.ref pf), y2, y3, y4, y5, y6, y7] ∧ Ex H H' ∧ H' p = some (.lst (ws.map V.str)) ∧ H' pf = some (.lst (((ws.take (i + 1)).flatMap wordL).map V.int)) ∧ p ≠ pf ∧ ((ws.take (i + 1)).all fun w => (wordP w).isSome) = true ∧ ((ws.take (i + 1)).flatMap wordL).length ≤ 21 * (i + 1) } [some (.str t), some (.ref pf), some (.str w'), some (.str hd), some (.str sk), some (.str tt), some (.int f), some (.int l)] H5 := fun l H5 e5 hlB hl2 => by
            have hwp := wordP_eq (w := w') (f := f) (l := l) hf1 (by rw [← hsk, ← htt]; exact hl2)
            have f0 := hfB.lo
            have f1 := hfB.hi
            have l0 := hlB.lo
            have l1 := hlB.hi
            refine q_if1 (b := decide (20 < l - f)) (et_test (by walk_at "ev")) (fun hb H6 e6 => he (parse_bad hmem2 (by rw [hwp, if_pos (of_decide_eq_true hb)])) H6 ((((e.trans e3).trans e4).trans e5).trans e6)) (fun hb H6 e6 => ?_)
            have hb := of_decide_eq_false hb
            rw [if_neg hb] at hwp
            have hwL : wordL w' = rgI f (l + 1) := by unfold wordL; rw [hwp]; rfl
            have e36 := ((e3.trans e4).trans e5).trans e6
            have hrl := rgI_length f (l + 1)
            refine ⟨.ref pf, rfl, el_rg2 (H := H6) (a := f) (b := l + 1) (ev_var rfl) (ev_op (ev_var rfl) ev_c rv_I0) (RgOk.of_le (by omega) (by omega) (by omega) (by omega)) H6 (Ex.refl _) _ fun pr H7 hpr e7 h7 => ?_⟩
            have e37 := e36.trans e7
            refine ⟨pf, pr, _, _, rfl, rfl, e37 _ _ hf, h7, ?_, ?_⟩
            · rw [List.length_map, rgV_eq, List.length_map, hrl]
              exact sz_of (by omega)
            · refine ⟨_, _, _, _, _, _, rfl, Ex.mut (e.trans e37) hpf0, by rw [upd_ne hne]; exact e37 _ _ hp1, ?_, hne, ?_, ?_⟩
              · rw [upd_same, htk, List.flatMap_append, List.map_append, rgV_eq, ← hwL]
                simp
              · rw [htk, List.all_append, hall]
                simp [hwp]
              · rw [htk, List.flatMap_append, List.length_append]
                rw [List.flatMap_cons, List.flatMap_nil, List.append_nil, hwL, hrl]
                omega
          by_cases hs0 : sk = Str.ofString ""
          · refine q_asg (v := .int f) (ev_if (b := !decide (sk = Str.ofString "")) (et_test (ev_op (ev_var rfl) ev_c rv_neS)) (fun hb => by rw [decide_eq_true hs0] at hb; cases hb) (fun _ => ev_var rfl)) fun H5 e5 => rest f H5 e5 hfB (by rw [if_pos hs0])
          · refine (et_test (H := H4) (ev_op (ev_var rfl) ev_c rv_neS)) H4 (Ex.refl _) _ fun H5 e5 => ?_
            rw [decide_eq_false hs0]
            show if true = true then _ else _
            rw [if_pos rfl]
            refine ⟨.str tt, rfl, tt, rfl, by rw [htt]; omega, fun l hl H6 e6 => rest l H6 (e5.trans e6) (numT_some hl).1 (by rw [if_neg hs0]; exact hl), fun hn H6 e6 => he (parse_bad hmem2 (wordP_no2 hf1 (by rw [← hsk]; exact hs0) (by rw [← htt]; exact hn))) H6 ((((e.trans e3).trans e4).trans e5).trans e6)⟩
      · obtain ⟨y2, y3, y4, y5, y6, y7, rfl, e, hp1, hf, hne, hall, hfl⟩ := hp
        rw [List.length_map, List.take_length] at hf hall hfl
        obtain ⟨L, hL⟩ : ∃ L, L = ws.flatMap wordL := ⟨_, rfl⟩
        rw [← hL] at hf hfl
        have hpT : parseT t = if rowB L = true ∧ fmtT L = t then some L else none := by
          unfold parseT
          rw [← hws, ← hL]
          by_cases hk : rowB L = true ∧ fmtT L = t
          · rw [if_pos ⟨hall, hk⟩, if_pos hk]
          · rw [if_neg (fun h => hk h.2), if_neg hk]
        by_cases hrow : RowC L
        · refine q_if1 (b := !rowB L || !decide (fmtT L = t)) (et_or (et_not (et_B fun H1 e Q' q' => ⟨.ref pf, rfl, pf, L, rfl, e _ _ hf, q'⟩)) fun _ => et_test (ev_op (x := .str (fmtT L)) (fun H1 e Q' q' => ⟨.ref pf, rfl, pf, L, rfl, e _ _ hf, hrow, q'⟩) (ev_var rfl) rv_neS)) (fun hb H3 e3 => he ?_ H3 (e.trans e3)) (fun hb H3 e3 => ?_)
          · rw [hpT, if_neg]
            rintro ⟨h1, h2⟩
            rw [h1, decide_eq_true h2] at hb
            cases hb
          · have hb' : rowB L = true ∧ fmtT L = t := by
              rw [(rowB_iff L).mpr hrow] at hb ⊢
              simpa using hb
            rw [if_pos hb'] at hpT
            exact ⟨.ref pf, rfl, q L hpT pf H3 hpf0 (e.trans e3) (e3 _ _ hf)⟩
        · have hr : rowB L = false := by
            cases hq : rowB L with
            | false => rfl
            | true => exact absurd ((rowB_iff L).mp hq) hrow
          refine q_if1 (b := !rowB L || false) (et_or (et_not (et_B fun H1 e Q' q' => ⟨.ref pf, rfl, pf, L, rfl, e _ _ hf, q'⟩)) fun hf => by rw [hr] at hf; cases hf) (fun hb H3 e3 => he ?_ H3 (e.trans e3)) (fun hb => by rw [hr] at hb; cases hb)
          rw [hpT, if_neg]
          rintro ⟨h1, _⟩
          rw [hr] at h1
          cases h1
    · exact q_if1 (b := !false) (et_not (et_B (ev_cb (ea_cons (ev_var rfl) (ea_cons ev_c ea_nil)) (rc_isiN hno)))) (fun _ H1 e1 => he H1 e1) (fun hb => by cases hb)
end FD

namespace FD
open PySem PySem.Spec PyProof.Rows L2 Evl TL
local macro_rules | `(tactic| walk_at "ev") => `(tactic| repeat' (first | (with_reducible exact ev_c) | ((with_reducible apply ev_var); rfl) | (with_reducible exact ea_nil) | (with_reducible apply ea_cons) | (with_reducible apply ev_op) | (with_reducible exact rv_I0) | (with_reducible apply rv_I) | (with_reducible exact rv_eqI) | (with_reducible exact rv_neI) | (with_reducible exact rv_eqS) | (with_reducible apply ev_ok) | (with_reducible apply ev_cb) | (with_reducible apply spv_I1) | (with_reducible apply spv_I2) | (with_reducible apply spv_I3) | (with_reducible apply et_test) | (with_reducible apply et_B) | (with_reducible apply et_not) | (with_reducible apply ev_notV) | (with_reducible apply ev_un) | (with_reducible exact ru_negI) | (with_reducible exact rc_max2) | (with_reducible exact rc_min2) | (with_reducible exact rv_isB) | (with_reducible exact rv_notB) | (with_reducible exact rv_isN) | (with_reducible exact rv_notN) | (with_reducible apply ev_chainI) | (with_reducible exact rc_isiI) | (with_reducible exact rc_isiB)))
/-! ### draws: tests, bounds, appends -/
/-- a test that may draw -/
def EvDT (d nn : Addr) (t : TT) (σ : L2.St) (H : Hp) (P : Bool → Prop) : Prop := ∀ H1, Go d nn H H1 → ∀ Q : Bool → Hp → Prop, (∀ b H2, P b → Go d nn H1 H2 → Q b H2) → t σ H1 Q
section
variable {K : PySem.W.Frag} {d nn : Addr} {σ : L2.St} {H : Hp} {ta tb te : TE} {t u : TT} {tA : TA} {tu : TS} {D : Ends} {E : XK}
theorem edt_et {b : Bool} (h : ∀ H1, Go d nn H H1 → EvT t σ H1 b) : EvDT d nn t σ H (fun x => x = b) := fun H1 g Q q => h H1 g H1 (Ex.refl _) Q fun H2 e2 => q b H2 rfl (.of g.dr e2)
theorem edt_test {P : V → Prop} {P' : Bool → Prop} (h : EvD d nn te σ H P) (k : ∀ v, P v → ∃ b, v = .bl b ∧ P' b) : EvDT d nn (tTest te) σ H P' := fun H1 g Q q => h H1 g _ fun v H2 hv g2 => by
  obtain ⟨b, rfl, hb⟩ := k v hv
  exact ⟨b, rfl, q b H2 hb g2⟩
theorem edt_and {P P' : Bool → Prop} (h1 : EvDT d nn t σ H P) (h2 : P true → EvDT d nn u σ H P') : EvDT d nn (tAnd t u) σ H (fun b => b = true → P true ∧ P' true) := fun H1 g Q q => h1 H1 g _ fun b H2 hb g2 => by
  cases b with
  | true =>
    show u σ H2 Q
    exact h2 hb H2 (g.trans g2) Q fun b' H3 hb' g3 => q b' H3 (fun e => ⟨hb, e ▸ hb'⟩) (g2.trans g3)
  | false =>
    show Q false H2
    exact q false H2 (fun e => nomatch e) g2
theorem ed_if {P : Bool → Prop} {R : V → Prop} (h : EvDT d nn t σ H P) (h1 : P true → EvD d nn ta σ H R) (h2 : P false → EvD d nn tb σ H R) : EvD d nn (tIf t ta tb) σ H R := fun H1 g Q q => h H1 g _ fun b H2 hb g2 => by
  cases b with
  | true =>
    show ta σ H2 Q
    exact h1 hb H2 (g.trans g2) Q fun v H3 hv g3 => q v H3 hv (g2.trans g3)
  | false =>
    show tb σ H2 Q
    exact h2 hb H2 (g.trans g2) Q fun v H3 hv g3 => q v H3 hv (g2.trans g3)
theorem eda_ea {vs : List V} (h : ∀ H1, Go d nn H H1 → EvA tA σ H1 vs) : EvDA d nn tA σ H (fun x => x = vs) := fun H1 g Q q => h H1 g H1 (Ex.refl _) Q fun H2 e2 => q vs H2 rfl (.of g.dr e2)
/-- a loop over a range with a drawn bound -/
theorem q_forR1D {tb : TS} {j : Nat} {lo M : Int} (hD : Dr d nn H) (h : EvD d nn te σ H fun x => ∃ r, x = .int r ∧ lo ≤ r ∧ r ≤ M) (h0' : 0 ≤ lo) (hM : M ≤ 100000) (Pv : Nat → L2.St → Hp → Prop) (h0 : ∀ H1, Go d nn H H1 → Pv 0 σ H1)
    (hs : ∀ (i : Nat) σ' H', (i : Int) < M → Pv i σ' H' → tb { D with nx := Pv (i + 1), ct := Pv (i + 1), bk := tu D } (σ'.set j (some (.int (i : Int)))) H') (hd : ∀ (r : Nat) σ' H', lo ≤ r → r ≤ M → Pv r σ' H' → tu D σ' H') : tSeq (tFor (iRng1 (tCons te tNil)) (gName j) tb) tu D σ H :=
  h H (.refl hD) _ fun v H1 hv g => by
    obtain ⟨r, rfl, r0, r1⟩ := hv
    refine ⟨r, rfl, by omega, by omega, for_range (D := { D with nx := tu D }) (lo := 0) (n := r.toNat) Pv (h0 H1 g) (fun i σ' H' hi p => ?_) fun σ' H' p => hd r.toNat σ' H' (by omega) (by omega) p⟩
    have e0 : (0 : Int) + (i : Int) = (i : Int) := Int.zero_add _
    show tb { D with nx := Pv (i + 1), ct := Pv (i + 1), bk := tu D } (σ'.set j (some (.int ((0 : Int) + (i : Int))))) H'
    rw [e0]
    exact hs i σ' H' (by omega) p
/-- an append of a value that is drawn -/
theorem s_appD {i : Nat} {l : Addr} {xs : List V} {P : V → Prop} (hD : Dr d nn H) (hl : H l = some (.lst xs)) (n1 : l ≠ d) (n2 : l ≠ nn) (hi : σ[i]? = some (some (.ref l))) (h : EvD d nn te σ H P) (hz : xs.length < 100000)
    (k : ∀ v H1, P v → Go d nn H H1 → H1 l = some (.lst xs) → D.nx σ (upd H1 l (.lst (xs ++ [v])))) : tDrop (tBM K "list" rAppend (tVar i) (tCons te tNil)) D σ H :=
  ⟨.ref l, hi, Or.inl ⟨rfl, xs, sq_of hl⟩, h H (.refl hD) _ fun v H2 hv g => ⟨l, xs, v, rfl, rfl, g.st _ _ n1 n2 hl, Evl.sz_lt hz, k v H2 hv g (g.st _ _ n1 n2 hl)⟩⟩
end
end FD

namespace FD
open PySem PySem.Spec PyProof.Rows L2 Evl TL
local macro_rules | `(tactic| walk_at "ev") => `(tactic| repeat' (first | (with_reducible exact ev_c) | ((with_reducible apply ev_var); rfl) | (with_reducible exact ea_nil) | (with_reducible apply ea_cons) | (with_reducible apply ev_op) | (with_reducible exact rv_I0) | (with_reducible apply rv_I) | (with_reducible exact rv_eqI) | (with_reducible exact rv_neI) | (with_reducible exact rv_eqS) | (with_reducible apply ev_ok) | (with_reducible apply ev_cb) | (with_reducible apply spv_I1) | (with_reducible apply spv_I2) | (with_reducible apply spv_I3) | (with_reducible apply et_test) | (with_reducible apply et_B) | (with_reducible apply et_not) | (with_reducible apply ev_notV) | (with_reducible apply ev_un) | (with_reducible exact ru_negI) | (with_reducible exact rc_max2) | (with_reducible exact rc_min2) | (with_reducible exact rv_isB) | (with_reducible exact rv_notB) | (with_reducible exact rv_isN) | (with_reducible exact rv_notN) | (with_reducible apply ev_chainI) | (with_reducible exact rc_isiI) | (with_reducible exact rc_isiB)))
/-! ### lists of meetings are not empty -/
/-- the first two digits -/
theorem two_first : ∀ (n : Nat) (q : Int), q.toNat ≤ n → 10 ≤ q → ∃ (f : Int) (i : Nat), 10 ≤ f ∧ f < 100 ∧ f * 10 ^ i ≤ q ∧ q < (f + 1) * 10 ^ i
  | 0, q, h, h1 => by omega
  | n + 1, q, h, h1 => by
    by_cases hq : q < 100
    · exact ⟨q, 0, h1, hq, by rw [Int.pow_zero]; omega, by rw [Int.pow_zero]; omega⟩
    · obtain ⟨f, i, a1, a2, a3, a4⟩ := two_first n (q / 10) (by omega) (by omega)
      refine ⟨f, i + 1, a1, a2, ?_, ?_⟩
      · rw [Int.pow_succ, ← Int.mul_assoc]; omega
      · rw [Int.pow_succ, ← Int.mul_assoc]; omega
theorem meet_two {l h : Int × Int} (l1 : 1 ≤ l.1) (l2 : 1 ≤ l.2) (l3 : l.2 ≤ 1000) (h2 : 1 ≤ h.2) (hlt : l.1 * h.2 < h.1 * l.2) : ∃ f, 10 ≤ f ∧ f < 100 ∧ Meet l h f := by
  have hq : 10 ≤ l.1 * 10 ^ 4 / l.2 := by
    rw [Int.le_ediv_iff_mul_le (by omega)]
    have : (10 : Int) ^ 4 = 10000 := rfl
    rw [this]
    omega
  obtain ⟨f, i, a1, a2, a3, a4⟩ := two_first _ (l.1 * 10 ^ 4 / l.2) (Nat.le_refl _) hq
  have b1 : l.1 * 10 ^ 4 / l.2 * l.2 ≤ l.1 * 10 ^ 4 := Int.ediv_mul_le _ (by omega)
  have b2 : l.1 * 10 ^ 4 < (l.1 * 10 ^ 4 / l.2 + 1) * l.2 := Int.lt_ediv_add_one_mul_self _ (by omega)
  have c1 : f * 10 ^ i * l.2 ≤ l.1 * 10 ^ 4 := Int.le_trans (Int.mul_le_mul_of_nonneg_right a3 (by omega)) b1
  refine ⟨f, a1, a2, i, 4, ?_, ?_⟩
  · have c2 : f * 10 ^ i * l.2 * h.2 ≤ l.1 * 10 ^ 4 * h.2 := Int.mul_le_mul_of_nonneg_right c1 (by omega)
    have c3 : l.1 * h.2 * 10 ^ 4 < h.1 * l.2 * 10 ^ 4 := ml_r 4 hlt
    have e1 : f * 10 ^ i * l.2 * h.2 = f * 10 ^ i * h.2 * l.2 := Int.mul_right_comm _ _ _
    have e2 : l.1 * 10 ^ 4 * h.2 = l.1 * h.2 * 10 ^ 4 := Int.mul_right_comm _ _ _
    have e3 : h.1 * l.2 * 10 ^ 4 = h.1 * 10 ^ 4 * l.2 := Int.mul_right_comm _ _ _
    exact Int.lt_of_mul_lt_mul_right (a := l.2) (by omega) (by omega)
  · exact Int.lt_of_lt_of_le b2 (Int.mul_le_mul_of_nonneg_right (by omega) (by omega))
theorem meetL_ne {l h : Int × Int} (l1 : 1 ≤ l.1) (l2 : 1 ≤ l.2) (l3 : l.2 ≤ 1000) (h2 : 1 ≤ h.2) (hh : h.1 ≤ 1000000000) (hlt : l.1 * h.2 < h.1 * l.2) : meetL l h 2 ≠ [] := by
  obtain ⟨f, f1, f2, hm⟩ := meet_two l1 l2 l3 h2 hlt
  have hc : MeetC l h f := ⟨by omega, by have : (10 : Int) ^ 12 = 1000000000000 := rfl
                                         omega, h2, l1, by
    have : (10 : Int) ^ 12 = 1000000000000 := rfl
    have h3 := Int.mul_le_mul (show f + 1 ≤ 100 by omega) l3 (by omega) (by decide)
    omega⟩
  intro e
  have : f ∈ meetL l h 2 := by
    unfold meetL
    rw [List.mem_filter, mem_rgI]
    exact ⟨⟨f1, f2⟩, (meets_iff hc).mpr hm⟩
  rw [e] at this
  cases this
theorem meetL_mem {l h : Int × Int} {z : Int} (hz : z ∈ meetL l h 2) : BegC z := by
  unfold meetL at hz
  rw [List.mem_filter, mem_rgI] at hz
  have e1 : tenI (2 - 1) = 10 := rfl
  have e2 : tenI 2 = 100 := rfl
  exact ⟨by omega, by omega⟩
theorem rowC_take {l : List Int} (hne : l ≠ []) (hB : ∀ z ∈ l, BegC z) : RowC (l.take 20) := ⟨by
  rw [List.length_take]
  cases l with
  | nil => exact absurd rfl hne
  | cons a r => simp only [List.length_cons]; omega, by rw [List.length_take]; omega, fun z hz => hB z (List.mem_of_mem_take hz)⟩
theorem root_ex : ∀ n : Nat, ∃ o : Nat, o * o ≤ n ∧ n < (o + 1) * (o + 1)
  | 0 => ⟨0, by decide, by decide⟩
  | n + 1 => by
    obtain ⟨o, h1, h2⟩ := root_ex n
    by_cases h : n + 1 < (o + 1) * (o + 1)
    · exact ⟨o, by omega, h⟩
    · refine ⟨o + 1, by omega, ?_⟩
      have : (o + 1 + 1) * (o + 1 + 1) = (o + 1) * (o + 1) + (o + 1) + (o + 1) + 1 := by
        rw [Nat.add_mul, Nat.mul_add]; omega
      omega
theorem rootL_ne {b : Int} (h1 : 1 ≤ b) (h2 : b ≤ 99) : rootL b 2 ≠ [] := by
  obtain ⟨o, o1, o2⟩ := root_ex (b.toNat * 100)
  have lo : 10 ≤ o := by
    apply Classical.byContradiction
    intro hn
    have := Nat.mul_le_mul (show o + 1 ≤ 10 by omega) (show o + 1 ≤ 10 by omega)
    omega
  have hi : o < 100 := by
    apply Classical.byContradiction
    intro hn
    have := Nat.mul_le_mul (show 100 ≤ o by omega) (show 100 ≤ o by omega)
    omega
  intro e
  have hB : BegC (o : Int) := ⟨by omega, by omega⟩
  have : (o : Int) ∈ rootL b 2 := by
    unfold rootL
    rw [List.mem_filter, mem_rgI]
    refine ⟨⟨?_, ?_⟩, ?_⟩
    · show (10 : Int) ≤ o; omega
    · show (o : Int) < 100; omega
    · unfold prodB
      rw [meets_iff (prodC hB hB ⟨h1, by omega⟩)]
      refine ⟨2, 0, ?_, ?_⟩
      · show b * 10 ^ 2 * 1 < ((o : Int) + 1) * ((o : Int) + 1) * 10 ^ 0
        have e1 : ((o : Int) + 1) * ((o : Int) + 1) = (((o + 1) * (o + 1) : Nat) : Int) := by simp
        rw [Int.mul_one, Int.pow_zero, Int.mul_one, e1]
        have : (10 : Int) ^ 2 = 100 := rfl
        omega
      · show (o : Int) * (o : Int) * 10 ^ 0 < (b + 1) * 10 ^ 2 * 1
        have e1 : (o : Int) * (o : Int) = ((o * o : Nat) : Int) := by simp
        rw [Int.mul_one, Int.pow_zero, Int.mul_one, e1]
        have : (10 : Int) ^ 2 = 100 := rfl
        omega
  rw [e] at this
  cases this
theorem rootL_mem {b z : Int} (hz : z ∈ rootL b 2) : BegC z := by
  unfold rootL at hz
  rw [List.mem_filter, mem_rgI] at hz
  have e1 : tenI (2 - 1) = 10 := rfl
  have e2 : tenI 2 = 100 := rfl
  exact ⟨by omega, by omega⟩
/-! ### marks in a text -/
theorem cnt_join (c : Nat) : ∀ ps : List (List Nat), ps ≠ [] → cnt c (joinL [32] ps) = (ps.map (cnt c)).sum + (if c = 32 then ((ps.length : Int) - 1) else 0)
  | [], h => absurd rfl h
  | [p], _ => by
    show cnt c p = _
    simp
  | p :: q :: r, _ => by
    have ih := cnt_join c (q :: r) (by simp)
    have e : joinL [32] (p :: q :: r) = p ++ ([32] ++ joinL [32] (q :: r)) := rfl
    rw [e, cnt_append, cnt_append, ih, cnt_cons, cnt_nil, List.map_cons (f := cnt c) (l := q :: r), List.sum_cons]
    simp only [List.length_cons]
    by_cases hc : c = 32
    · rw [if_pos hc, if_pos hc.symm, if_pos hc]; omega
    · rw [if_neg hc, if_neg (fun h => hc h.symm), if_neg hc]; omega
theorem cnt_num {c : Nat} (h : c < 48) (n : Nat) : cnt c (numL n) = 0 := by
  refine cnt_none c _ fun hm => ?_
  have := numL_digits n c hm
  omega
theorem cnt_word {c : Nat} (h : c < 48) {q : Int × Int} (h1 : 0 ≤ q.1) (h2 : 0 ≤ q.2) : cnt c (tl (wordT q)) = if c = 45 ∧ q.1 ≠ q.2 then 1 else 0 := by
  rw [tl_word h1 h2, cnt_append, cnt_num h]
  by_cases hq : q.1 = q.2
  · rw [if_pos hq, cnt_nil, if_neg (fun hh => hh.2 hq)]; omega
  · rw [if_neg hq, cnt_cons, cnt_num h]
    by_cases hc : c = 45
    · rw [if_pos hc.symm, if_pos ⟨hc, hq⟩]; omega
    · rw [if_neg (fun h => hc h.symm), if_neg (fun hh => hc hh.1)]; omega
def cntP (qs : List (Int × Int)) : Int := (qs.length : Int) - 1 + (qs.map fun q => if q.1 ≠ q.2 then (1 : Int) else 0).sum
theorem count_fmt {ns : List Int} (h : RowC ns) : Txt.count (fmtT ns) (Str.ofString "-") + Txt.count (fmtT ns) (Str.ofString " ") = cntP (partsL ns) := by
  have e1 : Str.ofString "-" = ⟨#[45]⟩ := by decide +kernel
  have e2 : Str.ofString " " = ⟨#[32]⟩ := by decide +kernel
  have ht : (fmtT ns).cps.toList = joinL [32] ((partsL ns).map fun q => tl (wordT q)) := by
    show tl (fmtT ns) = _
    unfold fmtT
    rw [join_eq, tl_join, List.map_map, tl_space]
    rfl
  have hne : partsL ns ≠ [] := fun e => by
    have := (partsL_ok ns).2.2.1.mp e
    have hl := h.lo
    rw [this] at hl
    simp at hl
  have hne2 : (partsL ns).map (fun q => tl (wordT q)) ≠ [] := by simpa using hne
  rw [e1, e2, count_cnt, count_cnt, ht, cnt_join _ _ hne2, cnt_join _ _ hne2, List.map_map, List.map_map, List.length_map]
  have w : ∀ c < 48, (partsL ns).map (cnt c ∘ fun q => tl (wordT q)) = (partsL ns).map fun q => if c = 45 ∧ q.1 ≠ q.2 then (1 : Int) else 0 := fun c hc => by
    apply List.map_congr_left
    intro q hq
    have hp := h.part hq
    exact cnt_word hc (by have := hp.1.lo; omega) (by have := hp.2.1.lo; omega)
  rw [w 45 (by decide), w 32 (by decide)]
  unfold cntP
  have z : ∀ qs : List (Int × Int), (qs.map fun q => if (32 : Nat) = 45 ∧ q.1 ≠ q.2 then (1 : Int) else 0).sum = 0 := fun qs => by
    induction qs with
    | nil => rfl
    | cons a r ih => rw [List.map_cons, List.sum_cons, ih]; simp
  rw [z]
  simp only [true_and, ne_eq, reduceCtorEq, if_true]
  rw [if_neg (by decide)]
  omega
/-- the marks one more member makes -/
theorem cntP_step {rs : List (Int × Int)} {a b x : Int} (hab : a ≤ b) : cntP (stepP (rs ++ [(a, b)]) x) = cntP (rs ++ [(a, b)]) + (if b + 1 = x ∧ a ≠ b then 0 else 1) := by
  rw [stepP_snoc]
  unfold cntP
  by_cases hx : b + 1 = x
  · rw [if_pos hx]
    by_cases h : a = b
    · rw [if_neg (fun hh => hh.2 h)]
      simp only [List.length_append, List.map_append, List.sum_append, List.map_cons, List.map_nil, List.sum_cons, List.sum_nil, List.length_cons, List.length_nil]
      rw [if_pos (show a ≠ x by omega), if_neg (show ¬ a ≠ b from fun hh => hh h)]
      omega
    · rw [if_pos ⟨hx, h⟩]
      simp only [List.length_append, List.map_append, List.sum_append, List.map_cons, List.map_nil, List.sum_cons, List.sum_nil, List.length_cons, List.length_nil]
      rw [if_pos (show a ≠ x by omega), if_pos h]
      omega
  · rw [if_neg hx, if_neg (fun hh => hx hh.1)]
    simp only [List.length_append, List.map_append, List.sum_append, List.map_cons, List.map_nil, List.sum_cons, List.sum_nil, List.length_cons, List.length_nil]
    rw [if_neg (show ¬ x ≠ x from fun hh => hh rfl)]
    omega
theorem takeL {ns : List Int} {k : Nat} (h : k < ns.length) : ns.take (k + 1) = ns.take k ++ [ns.getD k 0] := by
  rw [List.take_add_one, List.getElem?_eq_getElem h, List.getD, List.getElem?_eq_getElem h]
  rfl
/-- the last part after k + 1 members -/
theorem last_part {ns : List Int} {k : Nat} (h : k < ns.length) : ∃ rs a, partsL (ns.take (k + 1)) = rs ++ [(a, ns.getD k 0)] ∧ a ≤ ns.getD k 0 ∧ (a ≠ ns.getD k 0 ↔ 0 < k ∧ ns.getD k 0 = ns.getD (k - 1) 0 + 1) := by
  have le : ∀ (m : List Int) rs a b, partsL m = rs ++ [(a, b)] → a ≤ b := fun m rs a b e => (partsL_ok m).2.1 (a, b) (by rw [e]; simp)
  rw [takeL h, partsL_snoc]
  rcases snoc_cases (partsL (ns.take k)) with hq | ⟨rs, a, b, hq⟩
  · have h0 := (partsL_ok (ns.take k)).2.2.1.mp hq
    have hk : k = 0 := by
      have := congrArg List.length h0
      rw [List.length_take, List.length_nil] at this
      omega
    rw [hq, stepP_nil]
    exact ⟨[], _, rfl, Int.le_refl _, ⟨fun hh => absurd rfl hh, fun hh => by omega⟩⟩
  · obtain ⟨l, hl⟩ := (partsL_ok (ns.take k)).2.2.2 rs a b hq
    have hab := le _ _ _ _ hq
    have hk : 0 < k := by
      apply Nat.pos_of_ne_zero
      intro e
      rw [e] at hl
      have := congrArg List.length hl
      simp at this
    have hb2 : b = ns.getD (k - 1) 0 := by
      have e := takeL (ns := ns) (k := k - 1) (by omega)
      rw [show k - 1 + 1 = k by omega, hl] at e
      have := (List.append_inj' e rfl).2
      simpa using this
    rw [hq, stepP_snoc]
    by_cases hx : b + 1 = ns.getD k 0
    · rw [if_pos hx]
      exact ⟨rs, a, rfl, by omega, ⟨fun _ => ⟨hk, by rw [← hb2]; omega⟩, fun _ => by omega⟩⟩
    · rw [if_neg hx]
      exact ⟨rs ++ [(a, b)], _, rfl, Int.le_refl _, ⟨fun hh => absurd rfl hh, fun hh => by rw [← hb2] at hh; omega⟩⟩
theorem cntP_one (x : Int) : cntP (partsL [x]) = 0 := by
  show cntP [(x, x)] = 0
  unfold cntP
  simp
theorem cntP_go {ns : List Int} {k : Nat} (h : k + 1 < ns.length) : cntP (partsL (ns.take (k + 1 + 1))) = cntP (partsL (ns.take (k + 1))) + (if ns.getD (k + 1) 0 = ns.getD k 0 + 1 ∧ (0 < k ∧ ns.getD k 0 = ns.getD (k - 1) 0 + 1) then 0 else 1) := by
  obtain ⟨rs, a, h1, h2, h3⟩ := last_part (ns := ns) (k := k) (by omega)
  rw [takeL (k := k + 1) h, partsL_snoc, h1, cntP_step h2]
  congr 1
  by_cases hc : ns.getD k 0 + 1 = ns.getD (k + 1) 0 ∧ a ≠ ns.getD k 0
  · rw [if_pos hc, if_pos ⟨hc.1.symm, h3.mp hc.2⟩]
  · rw [if_neg hc, if_neg (fun hh => hc ⟨hh.1.symm, h3.mpr hh.2⟩)]
/-! ### the parts of a stretch, of a falling list -/
theorem parts_rg (a : Int) : ∀ n : Nat, partsL (rgI a (a + (n : Int) + 1)) = [(a, a + (n : Int))]
  | 0 => by
    rw [rgI_cons (by omega), rgI_nil (by omega)]
    show [(a, a)] = _
    simp
  | n + 1 => by
    rw [rgI_snoc (by omega), show a + ((n + 1 : Nat) : Int) = a + (n : Int) + 1 by omega, partsL_snoc, parts_rg a n]
    have := stepP_snoc [] a (a + (n : Int)) (a + (n : Int) + 1)
    rw [List.nil_append] at this
    rw [this, if_pos rfl]
    rfl
theorem fmt_rg {a b : Int} (h : a < b) : fmtT (rgI a (b + 1)) = Str.ofString (toString a) ++ Str.ofString "-" ++ Str.ofString (toString b) := by
  have := parts_rg a (b - a).toNat
  rw [show a + ((b - a).toNat : Int) = b by omega] at this
  unfold fmtT
  rw [this]
  show Txt.join _ [wordT (a, b)] = _
  unfold wordT
  rw [if_neg (show ¬ a = b by omega)]
  apply ext_tl
  rw [join_eq, tl_join]
  rfl
theorem fmt_one (a : Int) : fmtT [a] = Str.ofString (toString a) := by
  unfold fmtT
  show Txt.join _ [wordT (a, a)] = _
  unfold wordT
  rw [if_pos (show a = a from rfl)]
  apply ext_tl
  rw [join_eq, tl_join]
  rfl
theorem parts_fall : ∀ (n : Nat) (a : Int), partsL ((rgI a (a + (n : Int))).reverse) = ((rgI a (a + (n : Int))).reverse).map fun x => (x, x)
  | 0, a => by rw [rgI_nil (by omega)]; rfl
  | n + 1, a => by
    rw [rgI_cons (by omega), List.reverse_cons, partsL_snoc, show a + ((n + 1 : Nat) : Int) = a + 1 + (n : Int) by omega, parts_fall n (a + 1), List.map_append]
    cases n with
    | zero => rw [rgI_nil (by omega)]; rfl
    | succ m =>
      rw [rgI_cons (by omega), List.reverse_cons, List.map_append]
      show stepP (_ ++ [(a + 1, a + 1)]) a = _
      rw [stepP_snoc, if_neg (by omega)]
      rfl
theorem fmt_fall (n : Nat) (a : Int) : fmtT ((rgI a (a + (n : Int))).reverse) = Txt.join (Str.ofString " ") (((rgI a (a + (n : Int))).reverse).map fun x => Str.ofString (toString x)) := by
  unfold fmtT
  rw [parts_fall, List.map_map]
  congr 1
  apply List.map_congr_left
  intro x _
  show wordT (x, x) = _
  unfold wordT
  rw [if_pos rfl]
/-- exception facts: BadText alone -/
structure ExB (K : PySem.W.Frag) (mg : Str → Option Value) (x : ExA) : Prop where
  gbt : mg "BadText" = some (.ref x.bt)
  bt : ExF K x.bt x.de
theorem exB_of {K : PySem.W.Frag} {h : Heap} {mg : Str → Option Value} {de bt : Addr} (X : K.In h) (G : h.Ns mainGlobals mg) (a_de : PySem.W.nsIn K mainGlobals "DigitError" = some (some (.ref de))) (a_bt : PySem.W.nsIn K mainGlobals "BadText" = some (some (.ref bt)))
    (f_bt : ExF K bt de) : ExB K mg ⟨de, de, de, de, bt, de⟩ := ⟨PySem.W.mg_of X G a_bt, f_bt⟩
end FD

namespace FD
open PySem PySem.Spec PyProof.Rows L2 Evl TL
local macro_rules | `(tactic| walk_at "ev") => `(tactic| repeat' (first | (with_reducible exact ev_c) | ((with_reducible apply ev_var); rfl) | (with_reducible exact ea_nil) | (with_reducible apply ea_cons) | (with_reducible apply ev_op) | (with_reducible exact rv_I0) | (with_reducible apply rv_I) | (with_reducible exact rv_eqI) | (with_reducible exact rv_neI) | (with_reducible exact rv_eqS) | (with_reducible apply ev_ok) | (with_reducible apply ev_cb) | (with_reducible apply spv_I1) | (with_reducible apply spv_I2) | (with_reducible apply spv_I3) | (with_reducible apply et_test) | (with_reducible apply et_B) | (with_reducible apply et_not) | (with_reducible apply ev_notV) | (with_reducible apply ev_un) | (with_reducible exact ru_negI) | (with_reducible exact rc_max2) | (with_reducible exact rc_min2) | (with_reducible exact rv_isB) | (with_reducible exact rv_notB) | (with_reducible exact rv_isN) | (with_reducible exact rv_notN) | (with_reducible apply ev_chainI) | (with_reducible exact rc_isiI) | (with_reducible exact rc_isiB)))
/-! ### stretches.py and powers.py with their exceptions (as in the laws k02, k03) -/
abbrev spx_stretch (x : ExA) : Sp := spe2 fun a a' H Q E => ∃ b c, a = .int b ∧ a' = .int c ∧ BegC b ∧ 1 ≤ c ∧ c ≤ 60 ∧ (c < size b → ∀ H', Ex H H' → E (.ref x.nf) none H') ∧ (size b ≤ c → ∀ p H', H p = none → Ex H H' → H' p = some (.tup [.int (stF b c), .int (stL b c)]) → Q (.ref p) H')
def rdx_stretch (x : ExA) (E : XK) (K : PySem.W.Frag) : TS :=
      (tSeq (tDrop (tCall (sp_check_beginning) [] E0 (tCons (tVar 0) tNil)))
      (tSeq (tDrop (tCall (sp_check_count) [] E0 (tCons (tVar 1) (tCons (tC (.int 1)) (tCons (tC (.int 60)) tNil)))))
      (tSeq (tIfS (tTest (tOp rLtI (tVar 1) (tCall (sp_size_of) [] E0 (tCons (tVar 0) tNil))))
        (tRaise x.nf E)
        tNext)
      (tRet (tCall (sp_stretch_of) [] E0 (tCons (tVar 0) (tCons (tVar 1) tNil)))))))
theorem purex_stretch {x : ExA} {K : PySem.W.Frag} (vs : List V) (H : Hp) (Q : VK) (E : XK) (h : spx_stretch x vs H Q E) : rdx_stretch x E K { nx := fun _ H' => Q .non H', rt := Q } (start N_stretch vs) H := by
  match vs, h with
  | [a, b], h =>
    obtain ⟨b, c, rfl, rfl, hb, h1, h2, he, q⟩ := h
    have hp := size_pos b
    unfold rdx_stretch
    refine q_drop (v := .non) (by walk_at "ev"; exact hb) fun H1 e1 => ?_
    refine q_drop (v := .non) (by walk_at "ev"; show 1 ≤ c ∧ c ≤ 60; omega) fun H2 e2 => ?_
    refine q_if1 (b := decide (c < size b)) (et_test (by walk_at "ev"; exact hb.txt)) (fun hb' H3 e3 => he (of_decide_eq_true hb') H3 ((e1.trans e2).trans e3)) (fun hb' H3 e3 => ?_)
    have hge := of_decide_eq_false hb'
    exact s_retU (eu_ok (by walk_at "ev") (spv_U2 ⟨hb, by omega, by omega⟩)) fun p H4 hp e4 h4 => q (by omega) p H4 (fresh_back ((e1.trans e2).trans e3) hp) (((e1.trans e2).trans e3).trans e4) h4
/-- z is the greatest below n that begins so -/
structure LastB (b n z : Int) : Prop where
  lo : 1 ≤ z
  lt : z < n
  be : begins z b = true
  mx : ∀ y, y < n → begins y b = true → y ≤ z
theorem last_of {b n c : Int} (hb : 1 ≤ b) (h1 : size b ≤ c) (h3 : stF b c < n) (hno : ∀ c', c < c' → c' ≤ size n → n ≤ stF b c') : LastB b n (min (stL b c) (n - 1)) := by
  have hp := size_pos b
  have hL := stL_eq b c
  have ht := tenI_pos (c - size b)
  have hF : 1 ≤ stF b c := by
    have : 1 * 1 ≤ stF b c := Int.mul_le_mul hb (by omega) (by decide) (by omega)
    omega
  refine ⟨by omega, by omega, (in_stretch hb h1 (by omega) (by omega)).1, fun y hy hby => ?_⟩
  have h2 := stretch_of_begins hby
  have h4 := size_mono (m := y) (n := n) (by omega)
  by_cases hc : size y ≤ c
  · by_cases he : size y = c
    · rw [he] at h2; omega
    · have h5 : 0 ≤ y := by
        have h9 := stF_mono (b := b) (c := size b) (c' := size y) (by omega) h2.1
        rw [stF_self] at h9
        omega
      have h6 := lt_ten_size h5
      have h7 := tenI_mono (a := size y) (b := c - 1) (by omega)
      have h8 := ten_size_le hF
      rw [(stF_begins hb h1).2] at h8
      omega
  · have := hno (size y) (by omega) h4
    omega
theorem last_none {b n : Int} (hb : 1 ≤ b) (h : n ≤ b) : ∀ y, y < n → begins y b = false := fun y hy => by
  cases hq : begins y b with
  | false => rfl
  | true =>
    have h2 := stretch_of_begins hq
    have h3 := stF_mono (b := b) (by omega) h2.1
    rw [stF_self] at h3
    omega
abbrev spx_last_before (x : ExA) : Sp := spe2 fun a a' H Q E => ∃ b n, a = .int b ∧ a' = .int n ∧ BegC b ∧ NumC n ∧ (n ≤ b → ∀ H', Ex H H' → E (.ref x.nf) none H') ∧ (b < n → ∀ z, LastB b n z → ∀ H', Ex H H' → Q (.int z) H')
def rdx_last_before (x : ExA) (E : XK) (K : PySem.W.Frag) : TS :=
      (tSeq (tDrop (tCall (sp_check_beginning) [] E0 (tCons (tVar 0) tNil)))
      (tSeq (tDrop (tCall (sp_check_number) [] E0 (tCons (tVar 1) tNil)))
      (tSeq (tFor (iRng3 (tCons (tCall (sp_size_of) [] E0 (tCons (tVar 1) tNil)) (tCons (tOp rSubI (tCall (sp_size_of) [] E0 (tCons (tVar 0) tNil)) (tC (.int 1))) (tCons (tUn rNeg (tC (.int 1))) tNil)))) (gName 2)
        (tSeq (tAsg (tCall (sp_stretch_of) [] E0 (tCons (tVar 0) (tCons (tVar 2) tNil))) (gTup K 2 (gCons (gName 3) (gCons (gName 4) gNil))))
      (tIfS (tTest (tOp rLtI (tVar 3) (tVar 1)))
        (tRet (tCB rMin2I (tCons (tVar 4) (tCons (tOp rSubI (tVar 1) (tC (.int 1))) tNil))))
        tNext)))
      (tRaise x.nf E))))
theorem purex_last_before {x : ExA} {K : PySem.W.Frag} (vs : List V) (H : Hp) (Q : VK) (E : XK) (h : spx_last_before x vs H Q E) : rdx_last_before x E K { nx := fun _ H' => Q .non H', rt := Q } (start N_last_before vs) H := by
  match vs, h with
  | [a, b], h =>
    obtain ⟨b, n, rfl, rfl, hb, hn, he, q⟩ := h
    have hs1 := size_beg hb
    have hs2 := size_num hn
    unfold rdx_last_before
    refine q_drop (v := .non) (by walk_at "ev"; exact hb) fun H1 e1 => ?_
    refine q_drop (v := .non) (by walk_at "ev"; exact hn) fun H2 e2 => ?_
    refine q_forDn (lo := size n) (n := size b - 1) (by walk_at "ev"; exact hn.txt; exact hb.txt) (by omega) (fun i σ' H' => ∃ y2 y3 y4, σ' = [some (.int b), some (.int n), y2, y3, y4] ∧ Ex H H' ∧ ∀ c', size n - (i : Int) < c' → c' ≤ size n → n ≤ stF b c')
      (fun H3 e3 => ⟨none, none, none, rfl, (e1.trans e2).trans e3, fun c' h1 h2 => by omega⟩) (fun i σ' H' hi hp => ?_) (fun σ' H' hp => ?_)
    · obtain ⟨y2, y3, y4, rfl, e, hall⟩ := hp
      refine q_asgT (v := .int (stF b (size n - i))) (w := .int (stL b (size n - i))) (eu_ok (by walk_at "ev") (spv_U2 ⟨hb, by omega, by omega⟩)) fun H3 e3 => ?_
      refine s_if (b := decide (stF b (size n - i) < n)) (et_test (by walk_at "ev")) (fun hb' H4 e4 => ?_) (fun hb' H4 e4 => ?_)
      · have hlt : b < n := by
          have h3 := stF_mono (b := b) (c := size b) (c' := size n - i) (by have := hb.lo; omega) (by omega)
          rw [stF_self] at h3
          have := of_decide_eq_true hb'
          omega
        exact s_ret (v := .int (min (stL b (size n - i)) (n - 1))) (by walk_at "ev") fun H5 e5 => q hlt _ (last_of hb.lo (by omega) (of_decide_eq_true hb') hall) H5 (((e.trans e3).trans e4).trans e5)
      · refine ⟨_, _, _, rfl, (e.trans e3).trans e4, fun c' h1 h2 => ?_⟩
        have := of_decide_eq_false hb'
        by_cases hc : c' = size n - (i : Int)
        · rw [hc]; omega
        · exact hall c' (by omega) h2
    · obtain ⟨y2, y3, y4, rfl, e, hall⟩ := hp
      refine he ?_ H' e
      by_cases hle : n ≤ b
      · exact hle
      · have := hall (size b) (by omega) (size_mono (by omega))
        rw [stF_self] at this
        exact this
abbrev spx_rank_of (x : ExA) : Sp := spe2 fun a a' H Q E => ∃ b n, a = .int b ∧ a' = .int n ∧ BegC b ∧ NumC n ∧ (begins n b = false → ∀ H', Ex H H' → E (.ref x.nf) none H') ∧ (begins n b = true → ∀ H', Ex H H' → Q (.int (upTo b n - 1)) H')
def rdx_rank_of (x : ExA) (E : XK) (K : PySem.W.Frag) : TS :=
      (tSeq (tDrop (tCall (sp_check_beginning) [] E0 (tCons (tVar 0) tNil)))
      (tSeq (tDrop (tCall (sp_check_number) [] E0 (tCons (tVar 1) tNil)))
      (tSeq (tIfS (tNot (tB (tCall (sp_begins_of) [] E0 (tCons (tVar 1) (tCons (tVar 0) tNil)))))
        (tRaise x.nf E)
        tNext)
      (tRet (tOp rSubI (tCall (sp_up_to_of) [] E0 (tCons (tVar 0) (tCons (tVar 1) tNil))) (tC (.int 1)))))))
theorem purex_rank_of {x : ExA} {K : PySem.W.Frag} (vs : List V) (H : Hp) (Q : VK) (E : XK) (h : spx_rank_of x vs H Q E) : rdx_rank_of x E K { nx := fun _ H' => Q .non H', rt := Q } (start N_rank_of vs) H := by
  match vs, h with
  | [a, b], h =>
    obtain ⟨b, n, rfl, rfl, hb, hn, he, q⟩ := h
    unfold rdx_rank_of
    refine q_drop (v := .non) (by walk_at "ev"; exact hb) fun H1 e1 => ?_
    refine q_drop (v := .non) (by walk_at "ev"; exact hn) fun H2 e2 => ?_
    refine q_if1 (b := !begins n b) (et_not (et_B (by walk_at "ev"; exact ⟨hn.txt, hb.txt⟩))) (fun hb' H3 e3 => he (by simpa using hb') H3 ((e1.trans e2).trans e3)) (fun hb' H3 e3 => ?_)
    exact s_ret (v := .int (upTo b n - 1)) (by walk_at "ev"; exact ⟨hb, hn.txt⟩) fun H4 e4 => q (by simpa using hb') H4 (((e1.trans e2).trans e3).trans e4)
theorem gapsL_len (l : List Int) : (gapsL l).length = l.length - 1 := by
  unfold gapsL
  rw [List.length_zipWith, List.length_drop]
  omega
theorem gapsL_nil {l : List Int} : gapsL l = [] ↔ l.length < 2 := by
  rw [← List.length_eq_zero_iff, gapsL_len]
  omega
theorem gapsL_get {l : List Int} {i : Nat} (h : i + 1 < l.length) : (gapsL l)[i]? = some (l.getD (i + 1) 0 - l.getD i 0) := by
  unfold gapsL
  rw [List.getElem?_zipWith, List.getElem?_drop, List.getElem?_eq_getElem (show i < l.length by omega), List.getElem?_eq_getElem (show 1 + i < l.length by omega)]
  have e1 : l.getD (i + 1) 0 = l[1 + i] := by rw [List.getD, List.getElem?_eq_getElem (show i + 1 < l.length by omega)]; show l[i + 1] = l[1 + i]; congr 1; omega
  have e2 : l.getD i 0 = l[i] := by rw [List.getD, List.getElem?_eq_getElem (show i < l.length by omega)]; rfl
  rw [e1, e2]
theorem MaxAt.lt {l : List Int} {m : Int} {j : Nat} (h : MaxAt (gapsL l) m j) : j + 1 < l.length ∧ l[j]? = some (l.getD j 0) := by
  have h1 := (List.getElem?_eq_some_iff.mp h.at_).1
  rw [gapsL_len] at h1
  have h2 : j + 1 < l.length := by omega
  refine ⟨h2, ?_⟩
  rw [List.getD, List.getElem?_eq_getElem (show j < l.length by omega)]
  rfl
abbrev spx_longest_wait (x : ExA) : Sp := spe3 fun a a' a'' H Q E => ∃ b g m, a = .int b ∧ a' = .int g ∧ a'' = .int m ∧ (BaseC b ∧ BegC g ∧ 0 ≤ m ∧ m ≤ 300) ∧ ((placesL b g m).length < 2 → ∀ H', Ex H H' → E (.ref x.nf) none H') ∧ (2 ≤ (placesL b g m).length → ∀ mx j, MaxAt (gapsL (placesL b g m)) mx j → ∀ p H', H p = none → Ex H H' → H' p = some (.tup ([(placesL b g m).getD j 0, mx].map V.int)) → Q (.ref p) H')
def rdx_longest_wait (x : ExA) (E : XK) (K : PySem.W.Frag) : TS :=
      (tSeq (tDrop (tCall (sp_check_all) [] E0 (tCons (tVar 0) (tCons (tVar 1) (tCons (tVar 2) tNil)))))
      (tSeq (tAsg (tCall (sp_places_of) [] E0 (tCons (tVar 0) (tCons (tVar 1) (tCons (tVar 2) tNil)))) (gName 3))
      (tSeq (tIfS (tTest (tOp rLtI (tCB (rLenSeq K) (tCons (tVar 3) tNil)) (tC (.int 2))))
        (tRaise x.nf E)
        tNext)
      (tSeq (tAsg (tLc (iZip K (tCons (tVar 3) (tCons (tSl (rSlL K) (tVar 3) (tPart (tC (.int 1))) tNoPart) tNil))) (gTup K 2 (gCons (gName 5) (gCons (gName 6) gNil))) tYes (tOp rSubI (tVar 6) (tVar 5)) [5, 6]) (gName 4))
      (tRet (tTup (tCons (tOp (rIxL K) (tVar 3) (tBM K "list" rIndexV (tVar 4) (tCons (tCB (rMax K) (tCons (tVar 4) tNil)) tNil))) (tCons (tCB (rMax K) (tCons (tVar 4) tNil)) tNil))))))))
def N_longest_wait : List Str := ["base", "beginning", "most", "found", "gaps", "one", "other"]
theorem purex_longest_wait {x : ExA} {K : PySem.W.Frag} (vs : List V) (H : Hp) (Q : VK) (E : XK) (h : spx_longest_wait x vs H Q E) : rdx_longest_wait x E K { nx := fun _ H' => Q .non H', rt := Q } (start N_longest_wait vs) H := by
  match vs, h with
  | [a, b, c], h =>
    obtain ⟨b, g, m, rfl, rfl, rfl, hc, he, q⟩ := h
    unfold rdx_longest_wait
    obtain ⟨L, hL⟩ : ∃ L, L = placesL b g m := ⟨_, rfl⟩
    have hlen : L.length ≤ 301 := by have := placesL_len b g m; rw [hL]; omega
    refine q_drop (v := .non) (by walk_at "ev"; exact hc) fun H1 e1 => ?_
    refine q_asgL (xs := L.map V.int) (el_is (el_ok (vs := [.int b, .int g, .int m]) (by walk_at "ev") (spv_L3 hc)) (by rw [hL])) fun p H2 hp e2 h2 => ?_
    rw [← hL] at he q
    show tSeq _ _ _ [some (.int b), some (.int g), some (.int m), some (.ref p), none, none, none] H2
    refine q_if1 (b := decide (((L.map V.int).length : Int) < 2)) (et_test (ev_op (ev_lenVL (ev_var rfl) h2) ev_c rv_I0)) (fun hb H3 e3 => ?_) (fun hb H3 e3 => ?_)
    · have hb := of_decide_eq_true hb
      rw [List.length_map] at hb
      exact he (by omega) H3 ((e1.trans e2).trans e3)
    · have hb := of_decide_eq_false hb
      rw [List.length_map] at hb
      have h3 := e3 _ _ h2
      refine q_asgL (xs := (gapsL L).map V.int) (el_gaps (i := 3) (j := 5) (k := 6) rfl (sq_of h3) (by omega) (fun _ _ => rfl) (fun _ _ => rfl) (fun _ _ => rfl)) fun pg H4 hpg e4 h4 => ?_
      have h34 := e4 _ _ h3
      obtain ⟨mx, j, hM⟩ := MaxAt.ex (l := gapsL L) (fun e => by rw [gapsL_nil] at e; omega)
      have hlt := hM.lt
      refine s_retU (xs := [L.getD j 0, mx].map V.int) (eu_tup (ea_cons (x := .int (L.getD j 0)) (ev_ixV (i := (j : Int)) (ev_var rfl) h34 (ev_indexI (ev_var rfl) h4 (ev_maxV (ev_var rfl) h4 hM.mem hM.mx) hM.at_ hM.fst) (atI_int (by omega) (by rw [Int.toNat_natCast]; exact hlt.2))) (ea_cons (x := .int mx) (ev_maxV (ev_var rfl) h4 hM.mem hM.mx) ea_nil)) (by simp)) fun pr H5 hpr e5 h5 => ?_
      have e15 := ((e1.trans e2).trans e3).trans e4
      exact q (by omega) mx j hM pr H5 (fresh_back e15 hpr) (e15.trans e5) h5
/-! ### values of any kind -/
def KdV (H : Hp) (v : V) : Prop := v = .non ∨ (∃ b, v = .bl b) ∨ (∃ n, v = .int n) ∨ (∃ s, v = .str s) ∨ (∃ p xs, v = .ref p ∧ (H p = some (.tup xs) ∨ H p = some (.lst xs)))
theorem KdV.ex {H H' : Hp} {v : V} (h : KdV H v) (e : Ex H H') : KdV H' v := by
  rcases h with h | h | h | h | ⟨p, xs, h, h2⟩
  · exact .inl h
  · exact .inr (.inl h)
  · exact .inr (.inr (.inl h))
  · exact .inr (.inr (.inr (.inl h)))
  · exact .inr (.inr (.inr (.inr ⟨p, xs, h, h2.imp (e _ _) (e _ _)⟩)))
theorem KdV.non {H : Hp} : KdV H .non := .inl rfl
theorem KdV.int {H : Hp} {n : Int} : KdV H (.int n) := .inr (.inr (.inl ⟨n, rfl⟩))
theorem KdV.bl {H : Hp} {b : Bool} : KdV H (.bl b) := .inr (.inl ⟨b, rfl⟩)
theorem KdV.str {H : Hp} {s : Str} : KdV H (.str s) := .inr (.inr (.inr (.inl ⟨s, rfl⟩)))
theorem KdV.tup {H : Hp} {p : Addr} {xs : List V} (h : H p = some (.tup xs)) : KdV H (.ref p) := .inr (.inr (.inr (.inr ⟨p, xs, rfl, .inl h⟩)))
theorem KdV.lst {H : Hp} {p : Addr} {xs : List V} (h : H p = some (.lst xs)) : KdV H (.ref p) := .inr (.inr (.inr (.inr ⟨p, xs, rfl, .inr h⟩)))
def intV (v : V) (lo hi : Int) : Bool := match v with
  | .int n => decide (lo ≤ n) && decide (n ≤ hi)
  | _ => false
def numV (v : V) : Bool := match v with
  | .int n => decide (NumC n)
  | _ => false
def begV (v : V) : Bool := match v with
  | .int n => decide (BegC n)
  | _ => false
abbrev baseV (v : V) : Bool := intV v 2 99
abbrev stepV (v : V) : Bool := intV v 1 1000000
theorem intV_is {v : V} {lo hi : Int} (h : intV v lo hi = true) : ∃ n, v = .int n ∧ lo ≤ n ∧ n ≤ hi := by
  cases v with
  | int n =>
    have h : (decide (lo ≤ n) && decide (n ≤ hi)) = true := h
    rw [Bool.and_eq_true, decide_eq_true_eq, decide_eq_true_eq] at h
    exact ⟨n, rfl, h⟩
  | _ => cases h
theorem numV_is {v : V} (h : numV v = true) : ∃ n, v = .int n ∧ NumC n := by
  cases v with
  | int n => exact ⟨n, rfl, of_decide_eq_true h⟩
  | _ => cases h
theorem begV_is {v : V} (h : begV v = true) : ∃ n, v = .int n ∧ BegC n := by
  cases v with
  | int n => exact ⟨n, rfl, of_decide_eq_true h⟩
  | _ => cases h
/-! ### is_int and the checks, any kind -/
abbrev spb_is_int (x : ExA) : Sp := spe3 fun a b c H Q _ => ∃ lo hi, KdV H a ∧ b = .int lo ∧ c = .int hi ∧ ∀ H', Ex H H' → Q (.bl (intV a lo hi)) H'
def rdb_is_int (x : ExA) (E : XK) (K : PySem.W.Frag) : TS :=
      (tRet (tAndV (tCB (rIsi K) (tCons (tVar 0) (tCons (tC (.ty "int")) tNil))) (tAndV (tNotV (tCB (rIsi K) (tCons (tVar 0) (tCons (tC (.ty "bool")) tNil)))) (tChain rLeI rLeI (tVar 1) (tVar 0) (tVar 2)))))
section
variable {K : PySem.W.Frag} {σ : L2.St} {H : Hp} {te : TE} {v : V}
theorem ev_isi {t : Value} {n : String} {b : Bool} {i : Nat} (hv : σ[i]? = some (some v)) (ht : ∀ H', Ex H H' → TyX K H' v t) (hk : PySem.W.kitOne K t (.type n) = some b) : Ev (tCB (rIsi K) (tCons (tVar i) (tCons (tC (.ty n)) tNil))) σ H (.bl b) := fun H1 e Q q =>
  ⟨v, hv, v, .ty n, t, .type n, b, rfl, .ty n, ht H1 e, hk, q H1 (Ex.refl _)⟩
end
theorem pureb_is_int {x : ExA} {K : PySem.W.Frag} (vs : List V) (H : Hp) (Q : VK) (E : XK) (h : spb_is_int x vs H Q E) : rdb_is_int x E K { nx := fun _ H' => Q .non H', rt := Q } (start N_is_int vs) H := by
  match vs, h with
  | [a, b, c], h =>
    obtain ⟨lo, hi, hk, rfl, rfl, q⟩ := h
    unfold rdb_is_int
    have no : ∀ (t : Value), (∀ H', Ex H H' → TyX K H' a t) → PySem.W.kitOne K t (.type "int") = some false → intV a lo hi = false → (tRet (tAndV (tCB (rIsi K) (tCons (tVar 0) (tCons (tC (.ty "int")) tNil))) (tAndV (tNotV (tCB (rIsi K) (tCons (tVar 0) (tCons (tC (.ty "bool")) tNil)))) (tChain rLeI rLeI (tVar 1) (tVar 0) (tVar 2))))) { nx := fun _ H' => Q .non H', rt := Q } (start N_is_int [a, .int lo, .int hi]) H := fun t ht hk hi => by
      refine s_ret (v := .bl (false && false)) (ev_andV (ev_isi rfl ht hk) fun hf => by cases hf) fun H1 e => ?_
      rw [hi] at q
      exact q H1 e
    rcases hk with rfl | ⟨b, rfl⟩ | ⟨n, rfl⟩ | ⟨s, rfl⟩ | ⟨p, xs, rfl, hp⟩
    · exact no _ (fun _ _ => .base .non) (kit_ty (by decide +kernel)) rfl
    · refine s_ret (v := .bl (true && (false && false))) (ev_andV (ev_isi rfl (fun _ _ => .base (.bl b)) (kit_ty (by decide +kernel))) fun _ => ev_andV (ev_is (ev_notV (a := true) (ev_isi rfl (fun _ _ => .base (.bl b)) (kit_ty (by decide +kernel)))) (by rfl)) fun hf => by cases hf) fun H1 e => q H1 e
    · refine s_ret (v := .bl (true && (true && (decide (lo ≤ n) && decide (n ≤ hi))))) (ev_andV (ev_isi rfl (fun _ _ => .base (.int n)) (kit_ty (by decide +kernel))) fun _ => ev_andV (ev_is (ev_notV (a := false) (ev_isi rfl (fun _ _ => .base (.int n)) (kit_ty (by decide +kernel)))) (by rfl)) fun _ => ?_) (fun H1 e => ?_)
      · exact ev_chainI (by walk_at "ev") (by walk_at "ev") (by walk_at "ev")
      · exact q H1 e
    · exact no _ (fun _ _ => .base (.str s)) (kit_ty (by decide +kernel)) rfl
    · rcases hp with hp | hp
      · exact no _ (fun _ e => .base (.tup (e _ _ hp))) (kit_ty (by decide +kernel)) rfl
      · exact no _ (fun _ e => .base (.lst (e _ _ hp))) (kit_ty (by decide +kernel)) rfl
abbrev spb_is_number (x : ExA) : Sp := spe1 fun a H Q _ => KdV H a ∧ ∀ H', Ex H H' → Q (.bl (numV a)) H'
def rdb_is_number (x : ExA) (E : XK) (K : PySem.W.Frag) : TS :=
      (tRet (tCall (spb_is_int x) [] E0 (tCons (tVar 0) (tCons (tC (.int 1)) (tCons (tOp rSubI (tCall (sp_ten_to) [] E0 (tCons (tC (.int 60)) tNil)) (tC (.int 1))) tNil)))))
theorem numV_int (a : V) : intV a 1 (tenI 60 - 1) = numV a := by
  cases a with
  | int n =>
    show (decide (1 ≤ n) && decide (n ≤ tenI 60 - 1)) = decide (NumC n)
    rw [ten60, ← Bool.decide_and]
    exact decide_iff_eq ⟨fun h => ⟨h.1, by omega⟩, fun h => ⟨h.lo, by have := h.hi; omega⟩⟩
  | _ => rfl
theorem begV_int (a : V) : intV a 1 9999 = begV a := by
  cases a with
  | int n =>
    show (decide (1 ≤ n) && decide (n ≤ 9999)) = decide (BegC n)
    rw [← Bool.decide_and]
    exact decide_iff_eq ⟨fun h => ⟨h.1, h.2⟩, fun h => ⟨h.lo, h.hi⟩⟩
  | _ => rfl
section
variable {x : ExA} {K : PySem.W.Frag} {σ : L2.St} {H : Hp} {E : XK} {ta tb tc : TE} {v : V} {lo hi : Int}
theorem ev_bint (h1 : Ev ta σ H v) (hk : KdV H v) (h2 : Ev tb σ H (.int lo)) (h3 : Ev tc σ H (.int hi)) : Ev (tCall (spb_is_int x) [] E (tCons ta (tCons tb (tCons tc tNil)))) σ H (.bl (intV v lo hi)) := fun H1 e Q q =>
  h1 H1 e _ fun H2 e2 => h2 H2 (e.trans e2) _ fun H3 e3 => h3 H3 ((e.trans e2).trans e3) _ fun H4 e4 => ⟨lo, hi, hk.ex (((e.trans e2).trans e3).trans e4), rfl, rfl, fun H5 e5 => q H5 (((e2.trans e3).trans e4).trans e5)⟩
theorem ev_bnum (h1 : Ev ta σ H v) (hk : KdV H v) : Ev (tCall (spb_is_number x) [] E (tCons ta tNil)) σ H (.bl (numV v)) := fun H1 e Q q =>
  h1 H1 e _ fun H2 e2 => ⟨hk.ex (e.trans e2), fun H5 e5 => q H5 (e2.trans e5)⟩
end
theorem pureb_is_number {x : ExA} {K : PySem.W.Frag} (vs : List V) (H : Hp) (Q : VK) (E : XK) (h : spb_is_number x vs H Q E) : rdb_is_number x E K { nx := fun _ H' => Q .non H', rt := Q } (start N_is_number vs) H := by
  match vs, h with
  | [a], h =>
    obtain ⟨hk, q⟩ := h
    exact s_ret (ev_is (ev_bint (ev_var rfl) hk ev_c (by walk_at "ev"; decide)) (congrArg V.bl (numV_int a))) q
abbrev spb_is_beginning (x : ExA) : Sp := spe1 fun a H Q _ => KdV H a ∧ ∀ H', Ex H H' → Q (.bl (begV a)) H'
def rdb_is_beginning (x : ExA) (E : XK) (K : PySem.W.Frag) : TS :=
      (tRet (tCall (spb_is_int x) [] E0 (tCons (tVar 0) (tCons (tC (.int 1)) (tCons (tC (.int 9999)) tNil)))))
theorem pureb_is_beginning {x : ExA} {K : PySem.W.Frag} (vs : List V) (H : Hp) (Q : VK) (E : XK) (h : spb_is_beginning x vs H Q E) : rdb_is_beginning x E K { nx := fun _ H' => Q .non H', rt := Q } (start N_is_beginning vs) H := by
  match vs, h with
  | [a], h =>
    obtain ⟨hk, q⟩ := h
    exact s_ret (ev_is (ev_bint (ev_var rfl) hk ev_c ev_c) (congrArg V.bl (begV_int a))) q
section
variable {x : ExA} {K : PySem.W.Frag} {σ : L2.St} {H : Hp} {E : XK} {ta tb tc : TE} {v : V}
theorem ev_bbeg (h1 : Ev ta σ H v) (hk : KdV H v) : Ev (tCall (spb_is_beginning x) [] E (tCons ta tNil)) σ H (.bl (begV v)) := fun H1 e Q q =>
  h1 H1 e _ fun H2 e2 => ⟨hk.ex (e.trans e2), fun H5 e5 => q H5 (e2.trans e5)⟩
/-- if not t: raise .. -/
theorem s_chk {t : TE} {b : Bool} {D : Ends} {C : Addr} (h : Ev t σ H (.bl b)) (q : b = true → ∀ H', Ex H H' → D.nx σ H') (he : b = false → ∀ H', Ex H H' → E (.ref C) none H') : tIfS (tNot (tB t)) (tRaise C E) tNext D σ H :=
  s_if (b := !b) (et_not (et_B h)) (fun hb H1 e => he (by simpa using hb) H1 e) (fun hb H1 e => q (by simpa using hb) H1 e)
end
/-- a check of one value -/
abbrev spbC (ok : V → Bool) (C : Addr) : Sp := spe1 fun a H Q E => KdV H a ∧ (ok a = true → ∀ H', Ex H H' → Q .non H') ∧ (ok a = false → ∀ H', Ex H H' → E (.ref C) none H')
abbrev spb_check_number (x : ExA) : Sp := spbC numV x.bn
def rdb_check_number (x : ExA) (E : XK) (K : PySem.W.Frag) : TS :=
      (tIfS (tNot (tB (tCall (spb_is_number x) [] E0 (tCons (tVar 0) tNil))))
        (tRaise x.bn E)
        tNext)
theorem pureb_check_number {x : ExA} {K : PySem.W.Frag} (vs : List V) (H : Hp) (Q : VK) (E : XK) (h : spb_check_number x vs H Q E) : rdb_check_number x E K { nx := fun _ H' => Q .non H', rt := Q } (start N_check_number vs) H := by
  match vs, h with
  | [a], ⟨hk, q, he⟩ => exact s_chk (ev_bnum (ev_var rfl) hk) q he
abbrev spb_check_beginning (x : ExA) : Sp := spbC begV x.bb
def rdb_check_beginning (x : ExA) (E : XK) (K : PySem.W.Frag) : TS :=
      (tIfS (tNot (tB (tCall (spb_is_beginning x) [] E0 (tCons (tVar 0) tNil))))
        (tRaise x.bb E)
        tNext)
theorem pureb_check_beginning {x : ExA} {K : PySem.W.Frag} (vs : List V) (H : Hp) (Q : VK) (E : XK) (h : spb_check_beginning x vs H Q E) : rdb_check_beginning x E K { nx := fun _ H' => Q .non H', rt := Q } (start N_check_beginning vs) H := by
  match vs, h with
  | [a], ⟨hk, q, he⟩ => exact s_chk (ev_bbeg (ev_var rfl) hk) q he
abbrev spb_check_base (x : ExA) : Sp := spbC baseV x.bn
def rdb_check_base (x : ExA) (E : XK) (K : PySem.W.Frag) : TS :=
      (tIfS (tNot (tB (tCall (spb_is_int x) [] E0 (tCons (tVar 0) (tCons (tC (.int 2)) (tCons (tC (.int 99)) tNil))))))
        (tRaise x.bn E)
        tNext)
theorem pureb_check_base {x : ExA} {K : PySem.W.Frag} (vs : List V) (H : Hp) (Q : VK) (E : XK) (h : spb_check_base x vs H Q E) : rdb_check_base x E K { nx := fun _ H' => Q .non H', rt := Q } (start N_check_base vs) H := by
  match vs, h with
  | [a], ⟨hk, q, he⟩ => exact s_chk (ev_bint (ev_var rfl) hk ev_c ev_c) q he
abbrev spb_check_step (x : ExA) : Sp := spbC stepV x.bn
def rdb_check_step (x : ExA) (E : XK) (K : PySem.W.Frag) : TS :=
      (tIfS (tNot (tB (tCall (spb_is_int x) [] E0 (tCons (tVar 0) (tCons (tC (.int 1)) (tCons (tC (.int 1000000)) tNil))))))
        (tRaise x.bn E)
        tNext)
theorem pureb_check_step {x : ExA} {K : PySem.W.Frag} (vs : List V) (H : Hp) (Q : VK) (E : XK) (h : spb_check_step x vs H Q E) : rdb_check_step x E K { nx := fun _ H' => Q .non H', rt := Q } (start N_check_step vs) H := by
  match vs, h with
  | [a], ⟨hk, q, he⟩ => exact s_chk (ev_bint (ev_var rfl) hk ev_c ev_c) q he
abbrev spb_check_count (x : ExA) : Sp := spe3 fun a b c H Q E => ∃ lo hi, KdV H a ∧ b = .int lo ∧ c = .int hi ∧ (intV a lo hi = true → ∀ H', Ex H H' → Q .non H') ∧ (intV a lo hi = false → ∀ H', Ex H H' → E (.ref x.bc) none H')
def rdb_check_count (x : ExA) (E : XK) (K : PySem.W.Frag) : TS :=
      (tIfS (tNot (tB (tCall (spb_is_int x) [] E0 (tCons (tVar 0) (tCons (tVar 1) (tCons (tVar 2) tNil))))))
        (tRaise x.bc E)
        tNext)
theorem pureb_check_count {x : ExA} {K : PySem.W.Frag} (vs : List V) (H : Hp) (Q : VK) (E : XK) (h : spb_check_count x vs H Q E) : rdb_check_count x E K { nx := fun _ H' => Q .non H', rt := Q } (start N_check_count vs) H := by
  match vs, h with
  | [a, b, c], ⟨lo, hi, hk, hb, hc, q, he⟩ =>
    subst hb hc
    exact s_chk (ev_bint (ev_var rfl) hk (ev_var rfl) (ev_var rfl)) q he
/-! ### the first check that fails -/
def fstB : List (Bool × Nat) → Option Nat
  | [] => none
  | (true, _) :: r => fstB r
  | (false, i) :: _ => some i
/-- some check fails, and its exception is raised -/
def BadX (x : ExA) (H : Hp) (E : XK) (vs : List V) (cs : List (Bool × Nat)) : Prop := (∀ v ∈ vs, KdV H v) ∧ ∃ i, fstB cs = some i ∧ ∀ H', Ex H H' → E (.ref (x.at i)) none H'
section
variable {x : ExA} {K : PySem.W.Frag} {σ : L2.St} {H H0 : Hp} {E : XK} {v a b c : V} {j j2 j3 i : Nat} {cs : List (Bool × Nat)} {D : Ends} {tu t1 t2 : TS} {lo hi : Int}
theorem qb_num (hv : σ[j]? = some (some v)) (e : Ex H0 H) (hk : KdV H0 v) (h : fstB ((numV v, 0) :: cs) = some i) (he : ∀ H', Ex H0 H' → E (.ref (x.at i)) none H') (k : ∀ H1, Ex H0 H1 → fstB cs = some i → tu D σ H1) : tSeq (tDrop (tCall (spb_check_number x) [] E (tCons (tVar j) tNil))) tu D σ H :=
  ⟨v, hv, hk.ex e, fun hb H1 e1 => k H1 (e.trans e1) (by rw [hb] at h; exact h), fun hb H1 e1 => by rw [hb] at h; cases (show some 0 = some i from h); exact he H1 (e.trans e1)⟩
theorem qb_beg (hv : σ[j]? = some (some v)) (e : Ex H0 H) (hk : KdV H0 v) (h : fstB ((begV v, 1) :: cs) = some i) (he : ∀ H', Ex H0 H' → E (.ref (x.at i)) none H') (k : ∀ H1, Ex H0 H1 → fstB cs = some i → tu D σ H1) : tSeq (tDrop (tCall (spb_check_beginning x) [] E (tCons (tVar j) tNil))) tu D σ H :=
  ⟨v, hv, hk.ex e, fun hb H1 e1 => k H1 (e.trans e1) (by rw [hb] at h; exact h), fun hb H1 e1 => by rw [hb] at h; cases (show some 1 = some i from h); exact he H1 (e.trans e1)⟩
theorem qb_base (hv : σ[j]? = some (some v)) (e : Ex H0 H) (hk : KdV H0 v) (h : fstB ((baseV v, 0) :: cs) = some i) (he : ∀ H', Ex H0 H' → E (.ref (x.at i)) none H') (k : ∀ H1, Ex H0 H1 → fstB cs = some i → tu D σ H1) : tSeq (tDrop (tCall (spb_check_base x) [] E (tCons (tVar j) tNil))) tu D σ H :=
  ⟨v, hv, hk.ex e, fun hb H1 e1 => k H1 (e.trans e1) (by rw [hb] at h; exact h), fun hb H1 e1 => by rw [hb] at h; cases (show some 0 = some i from h); exact he H1 (e.trans e1)⟩
theorem qb_step (hv : σ[j]? = some (some v)) (e : Ex H0 H) (hk : KdV H0 v) (h : fstB ((stepV v, 0) :: cs) = some i) (he : ∀ H', Ex H0 H' → E (.ref (x.at i)) none H') (k : ∀ H1, Ex H0 H1 → fstB cs = some i → tu D σ H1) : tSeq (tDrop (tCall (spb_check_step x) [] E (tCons (tVar j) tNil))) tu D σ H :=
  ⟨v, hv, hk.ex e, fun hb H1 e1 => k H1 (e.trans e1) (by rw [hb] at h; exact h), fun hb H1 e1 => by rw [hb] at h; cases (show some 0 = some i from h); exact he H1 (e.trans e1)⟩
theorem qb_cnt (hv : σ[j]? = some (some v)) (e : Ex H0 H) (hk : KdV H0 v) (h : fstB ((intV v lo hi, 2) :: cs) = some i) (he : ∀ H', Ex H0 H' → E (.ref (x.at i)) none H') (k : ∀ H1, Ex H0 H1 → fstB cs = some i → tu D σ H1) : tSeq (tDrop (tCall (spb_check_count x) [] E (tCons (tVar j) (tCons (tC (.int lo)) (tCons (tC (.int hi)) tNil))))) tu D σ H :=
  ⟨v, hv, lo, hi, hk.ex e, rfl, rfl, fun hb H1 e1 => k H1 (e.trans e1) (by rw [hb] at h; exact h), fun hb H1 e1 => by rw [hb] at h; cases (show some 2 = some i from h); exact he H1 (e.trans e1)⟩
theorem cb_num (h : tSeq (tDrop (tCall sp_check_number [] E0 (tCons (tVar j) tNil))) t1 D σ H) (k : ∀ H1, t1 D σ H1 → t2 D σ H1) : tSeq (tDrop (tCall (spb_check_number x) [] E (tCons (tVar j) tNil))) t2 D σ H := by
  obtain ⟨v, hv, n, rfl, hn, q⟩ := h
  exact ⟨_, hv, .int, fun _ H1 e1 => k H1 (q H1 e1), fun hb => by rw [show numV (.int n) = true from decide_eq_true hn] at hb; cases hb⟩
theorem cb_beg (h : tSeq (tDrop (tCall sp_check_beginning [] E0 (tCons (tVar j) tNil))) t1 D σ H) (k : ∀ H1, t1 D σ H1 → t2 D σ H1) : tSeq (tDrop (tCall (spb_check_beginning x) [] E (tCons (tVar j) tNil))) t2 D σ H := by
  obtain ⟨v, hv, n, rfl, hn, q⟩ := h
  exact ⟨_, hv, .int, fun _ H1 e1 => k H1 (q H1 e1), fun hb => by rw [show begV (.int n) = true from decide_eq_true hn] at hb; cases hb⟩
theorem intV_ok {n : Int} (h0 : lo ≤ n) (h1 : n ≤ hi) : intV (.int n) lo hi = true := by
  show (decide (lo ≤ n) && decide (n ≤ hi)) = true
  rw [decide_eq_true h0, decide_eq_true h1]
  rfl
theorem cb_base (h : tSeq (tDrop (tCall sp_check_base [] E0 (tCons (tVar j) tNil))) t1 D σ H) (k : ∀ H1, t1 D σ H1 → t2 D σ H1) : tSeq (tDrop (tCall (spb_check_base x) [] E (tCons (tVar j) tNil))) t2 D σ H := by
  obtain ⟨v, hv, n, rfl, hn, q⟩ := h
  exact ⟨_, hv, .int, fun _ H1 e1 => k H1 (q H1 e1), fun hb => by rw [show baseV (.int n) = true from intV_ok hn.lo hn.hi] at hb; cases hb⟩
theorem cb_step (h : tSeq (tDrop (tCall sp_check_step [] E0 (tCons (tVar j) tNil))) t1 D σ H) (k : ∀ H1, t1 D σ H1 → t2 D σ H1) : tSeq (tDrop (tCall (spb_check_step x) [] E (tCons (tVar j) tNil))) t2 D σ H := by
  obtain ⟨v, hv, n, rfl, hn, q⟩ := h
  exact ⟨_, hv, .int, fun _ H1 e1 => k H1 (q H1 e1), fun hb => by rw [show stepV (.int n) = true from intV_ok hn.lo hn.hi] at hb; cases hb⟩
theorem cb_cnt (h : tSeq (tDrop (tCall sp_check_count [] E0 (tCons (tVar j) (tCons (tC (.int lo)) (tCons (tC (.int hi)) tNil))))) t1 D σ H) (k : ∀ H1, t1 D σ H1 → t2 D σ H1) : tSeq (tDrop (tCall (spb_check_count x) [] E (tCons (tVar j) (tCons (tC (.int lo)) (tCons (tC (.int hi)) tNil))))) t2 D σ H := by
  obtain ⟨v, hv, n, lo', hi', rfl, h1, h2, hn, q⟩ := h
  cases h1
  cases h2
  exact ⟨_, hv, lo, hi, .int, rfl, rfl, fun _ H1 e1 => k H1 (q H1 e1), fun hb => by rw [intV_ok hn.1 hn.2] at hb; cases hb⟩
end
/-- base, beginning, exponent -/
abbrev spb_check_all (x : ExA) : Sp := spe3 fun a b c H Q E => (∀ v ∈ [a, b, c], KdV H v) ∧ (fstB [(baseV a, 0), (begV b, 1), (intV c 0 300, 2)] = none → ∀ H', Ex H H' → Q .non H') ∧ (∀ i, fstB [(baseV a, 0), (begV b, 1), (intV c 0 300, 2)] = some i → ∀ H', Ex H H' → E (.ref (x.at i)) none H')
def rdb_check_all (x : ExA) (E : XK) (K : PySem.W.Frag) : TS :=
      (tSeq (tDrop (tCall (spb_check_base x) [] E (tCons (tVar 0) tNil)))
      (tSeq (tDrop (tCall (spb_check_beginning x) [] E (tCons (tVar 1) tNil)))
      (tDrop (tCall (spb_check_count x) [] E (tCons (tVar 2) (tCons (tC (.int 0)) (tCons (tC (.int 300)) tNil)))))))
theorem pureb_check_all {x : ExA} {K : PySem.W.Frag} (vs : List V) (H : Hp) (Q : VK) (E : XK) (h : spb_check_all x vs H Q E) : rdb_check_all x E K { nx := fun _ H' => Q .non H', rt := Q } (start N_check_all vs) H := by
  match vs, h with
  | [a, b, c], ⟨hk, q, he⟩ =>
    unfold rdb_check_all
    refine ⟨a, rfl, hk a (by simp), fun h1 H1 e1 => ⟨b, rfl, (hk b (by simp)).ex e1, fun h2 H2 e2 => ⟨c, rfl, 0, 300, (hk c (by simp)).ex (e1.trans e2), rfl, rfl, fun h3 H3 e3 => q ?_ H3 ((e1.trans e2).trans e3), fun h3 H3 e3 => he 2 ?_ H3 ((e1.trans e2).trans e3)⟩, fun h2 H2 e2 => he 1 ?_ H2 (e1.trans e2)⟩, fun h1 H1 e1 => he 0 ?_ H1 e1⟩
    · rw [h1, h2, h3]; rfl
    · rw [h1, h2, h3]; rfl
    · rw [h1, h2]; rfl
    · rw [h1]; rfl
section
variable {x : ExA} {K : PySem.W.Frag} {σ : L2.St} {H H0 : Hp} {E : XK} {a b c : V} {j j2 j3 i : Nat} {D : Ends} {tu t1 t2 : TS}
theorem qb_all (h1 : σ[j]? = some (some a)) (h2 : σ[j2]? = some (some b)) (h3 : σ[j3]? = some (some c)) (e : Ex H0 H) (hk : ∀ v ∈ [a, b, c], KdV H0 v) (h : fstB [(baseV a, 0), (begV b, 1), (intV c 0 300, 2)] = some i) (he : ∀ H', Ex H0 H' → E (.ref (x.at i)) none H') :
    tSeq (tDrop (tCall (spb_check_all x) [] E (tCons (tVar j) (tCons (tVar j2) (tCons (tVar j3) tNil))))) tu D σ H :=
  ⟨a, h1, b, h2, c, h3, fun v hv => (hk v hv).ex e, (fun hn => by rw [h] at hn; cases hn), fun i' hi H1 e1 => by rw [h] at hi; cases hi; exact he H1 (e.trans e1)⟩
theorem cb_all (h : tSeq (tDrop (tCall sp_check_all [] E0 (tCons (tVar j) (tCons (tVar j2) (tCons (tVar j3) tNil))))) t1 D σ H) (k : ∀ H1, t1 D σ H1 → t2 D σ H1) : tSeq (tDrop (tCall (spb_check_all x) [] E (tCons (tVar j) (tCons (tVar j2) (tCons (tVar j3) tNil))))) t2 D σ H := by
  obtain ⟨u, h1, v, h2, w, h3, n, m, l, rfl, rfl, rfl, ⟨hb, hg, m0, m1⟩, q⟩ := h
  have hf : fstB [(baseV (.int n), 0), (begV (.int m), 1), (intV (.int l) 0 300, 2)] = none := by
    rw [show baseV (.int n) = true from intV_ok hb.lo hb.hi, show begV (.int m) = true from decide_eq_true hg, intV_ok m0 m1]
    rfl
  refine ⟨_, h1, _, h2, _, h3, fun v hv => ?_, fun _ H1 e1 => k H1 (q H1 e1), fun i hi => by rw [hf] at hi; cases hi⟩
  simp only [List.mem_cons, List.not_mem_nil, or_false] at hv
  rcases hv with rfl | rfl | rfl <;> exact .int
end
end FD

namespace FD
open PySem PySem.Spec PyProof.Rows L2 Evl TL
local macro_rules | `(tactic| walk_at "ev") => `(tactic| repeat' (first | (with_reducible exact ev_c) | ((with_reducible apply ev_var); rfl) | (with_reducible exact ea_nil) | (with_reducible apply ea_cons) | (with_reducible apply ev_op) | (with_reducible exact rv_I0) | (with_reducible apply rv_I) | (with_reducible exact rv_eqI) | (with_reducible exact rv_neI) | (with_reducible exact rv_eqS) | (with_reducible apply ev_ok) | (with_reducible apply ev_cb) | (with_reducible apply spv_I1) | (with_reducible apply spv_I2) | (with_reducible apply spv_I3) | (with_reducible apply et_test) | (with_reducible apply et_B) | (with_reducible apply et_not) | (with_reducible apply ev_notV) | (with_reducible apply ev_un) | (with_reducible exact ru_negI) | (with_reducible exact rc_max2) | (with_reducible exact rc_min2) | (with_reducible exact rv_isB) | (with_reducible exact rv_notB) | (with_reducible exact rv_isN) | (with_reducible exact rv_notN) | (with_reducible apply ev_chainI) | (with_reducible exact rc_isiI) | (with_reducible exact rc_isiB)))
abbrev spb_are_apart (x : ExA) : Sp := spe2 fun a b H Q E => sp_are_apart [a, b] H Q E ∨ BadX x H E [a, b] [(begV a, 1), (begV b, 1)]
def rdb_are_apart (x : ExA) (E : XK) (K : PySem.W.Frag) : TS :=
      (tSeq (tDrop (tCall (spb_check_beginning x) [] E (tCons (tVar 0) tNil)))
      (tSeq (tDrop (tCall (spb_check_beginning x) [] E (tCons (tVar 1) tNil)))
      (tRet (tAndV (tNotV (tCall (sp_begins_of) [] E0 (tCons (tVar 0) (tCons (tVar 1) tNil)))) (tNotV (tCall (sp_begins_of) [] E0 (tCons (tVar 1) (tCons (tVar 0) tNil))))))))
theorem pureb_are_apart {x : ExA} {K : PySem.W.Frag} (vs : List V) (H : Hp) (Q : VK) (E : XK) (h : spb_are_apart x vs H Q E) : rdb_are_apart x E K { nx := fun _ H' => Q .non H', rt := Q } (start N_are_apart vs) H := by
  match vs, h with
  | [a, b], .inl h =>
    have g := pure_are_apart (K := K) [a, b] H Q E h
    unfold rd_are_apart at g
    unfold rdb_are_apart
    exact cb_beg g fun _ g => cb_beg g fun _ g => g
  | [a, b], .inr ⟨hk, i, hi, he⟩ =>
    unfold rdb_are_apart
    exact qb_beg (v := a) rfl (Ex.refl _) (hk a (by simp)) hi he fun H1 e1 hi => qb_beg (v := b) rfl (e1) (hk b (by simp)) hi he fun H2 e2 hi => by cases (show none = some i from hi)
abbrev spb_begins (x : ExA) : Sp := spe2 fun a b H Q E => sp_begins [a, b] H Q E ∨ BadX x H E [a, b] [(numV a, 0), (begV b, 1)]
def rdb_begins (x : ExA) (E : XK) (K : PySem.W.Frag) : TS :=
      (tSeq (tDrop (tCall (spb_check_number x) [] E (tCons (tVar 0) tNil)))
      (tSeq (tDrop (tCall (spb_check_beginning x) [] E (tCons (tVar 1) tNil)))
      (tRet (tCall (sp_begins_of) [] E0 (tCons (tVar 0) (tCons (tVar 1) tNil))))))
theorem pureb_begins {x : ExA} {K : PySem.W.Frag} (vs : List V) (H : Hp) (Q : VK) (E : XK) (h : spb_begins x vs H Q E) : rdb_begins x E K { nx := fun _ H' => Q .non H', rt := Q } (start N_begins vs) H := by
  match vs, h with
  | [a, b], .inl h =>
    have g := pure_begins (K := K) [a, b] H Q E h
    unfold rd_begins at g
    unfold rdb_begins
    exact cb_num g fun _ g => cb_beg g fun _ g => g
  | [a, b], .inr ⟨hk, i, hi, he⟩ =>
    unfold rdb_begins
    exact qb_num (v := a) rfl (Ex.refl _) (hk a (by simp)) hi he fun H1 e1 hi => qb_beg (v := b) rfl (e1) (hk b (by simp)) hi he fun H2 e2 hi => by cases (show none = some i from hi)
abbrev spb_can_be_product (x : ExA) : Sp := spe3 fun a b c H Q E => sp_can_be_product [a, b, c] H Q E ∨ BadX x H E [a, b, c] [(begV a, 1), (begV b, 1), (begV c, 1)]
def rdb_can_be_product (x : ExA) (E : XK) (K : PySem.W.Frag) : TS :=
      (tSeq (tDrop (tCall (spb_check_beginning x) [] E (tCons (tVar 0) tNil)))
      (tSeq (tDrop (tCall (spb_check_beginning x) [] E (tCons (tVar 1) tNil)))
      (tSeq (tDrop (tCall (spb_check_beginning x) [] E (tCons (tVar 2) tNil)))
      (tSeq (tAsg (tCall (sp_product_bounds) [] E0 (tCons (tVar 0) (tCons (tVar 1) tNil))) (gTup K 2 (gCons (gName 3) (gCons (gName 4) gNil))))
      (tRet (tCall (sp_meets) [] E0 (tCons (tVar 3) (tCons (tVar 4) (tCons (tVar 2) tNil)))))))))
theorem pureb_can_be_product {x : ExA} {K : PySem.W.Frag} (vs : List V) (H : Hp) (Q : VK) (E : XK) (h : spb_can_be_product x vs H Q E) : rdb_can_be_product x E K { nx := fun _ H' => Q .non H', rt := Q } (start N_can_be_product vs) H := by
  match vs, h with
  | [a, b, c], .inl h =>
    have g := pure_can_be_product (K := K) [a, b, c] H Q E h
    unfold rd_can_be_product at g
    unfold rdb_can_be_product
    exact cb_beg g fun _ g => cb_beg g fun _ g => cb_beg g fun _ g => g
  | [a, b, c], .inr ⟨hk, i, hi, he⟩ =>
    unfold rdb_can_be_product
    exact qb_beg (v := a) rfl (Ex.refl _) (hk a (by simp)) hi he fun H1 e1 hi => qb_beg (v := b) rfl (e1) (hk b (by simp)) hi he fun H2 e2 hi => qb_beg (v := c) rfl (e2) (hk c (by simp)) hi he fun H3 e3 hi => by cases (show none = some i from hi)
abbrev spb_can_be_quotient (x : ExA) : Sp := spe3 fun a b c H Q E => sp_can_be_quotient [a, b, c] H Q E ∨ BadX x H E [a, b, c] [(begV a, 1), (begV b, 1), (begV c, 1)]
def rdb_can_be_quotient (x : ExA) (E : XK) (K : PySem.W.Frag) : TS :=
      (tSeq (tDrop (tCall (spb_check_beginning x) [] E (tCons (tVar 0) tNil)))
      (tSeq (tDrop (tCall (spb_check_beginning x) [] E (tCons (tVar 1) tNil)))
      (tSeq (tDrop (tCall (spb_check_beginning x) [] E (tCons (tVar 2) tNil)))
      (tRet (tCall (sp_meets) [] E0 (tCons (tTup (tCons (tVar 0) (tCons (tOp rAddI (tVar 1) (tC (.int 1))) tNil))) (tCons (tTup (tCons (tOp rAddI (tVar 0) (tC (.int 1))) (tCons (tVar 1) tNil))) (tCons (tVar 2) tNil))))))))
theorem pureb_can_be_quotient {x : ExA} {K : PySem.W.Frag} (vs : List V) (H : Hp) (Q : VK) (E : XK) (h : spb_can_be_quotient x vs H Q E) : rdb_can_be_quotient x E K { nx := fun _ H' => Q .non H', rt := Q } (start N_can_be_quotient vs) H := by
  match vs, h with
  | [a, b, c], .inl h =>
    have g := pure_can_be_quotient (K := K) [a, b, c] H Q E h
    unfold rd_can_be_quotient at g
    unfold rdb_can_be_quotient
    exact cb_beg g fun _ g => cb_beg g fun _ g => cb_beg g fun _ g => g
  | [a, b, c], .inr ⟨hk, i, hi, he⟩ =>
    unfold rdb_can_be_quotient
    exact qb_beg (v := a) rfl (Ex.refl _) (hk a (by simp)) hi he fun H1 e1 hi => qb_beg (v := b) rfl (e1) (hk b (by simp)) hi he fun H2 e2 hi => qb_beg (v := c) rfl (e2) (hk c (by simp)) hi he fun H3 e3 hi => by cases (show none = some i from hi)
abbrev spb_count_between (x : ExA) : Sp := spe3 fun a b c H Q E => sp_count_between [a, b, c] H Q E ∨ BadX x H E [a, b, c] [(begV a, 1), (numV b, 0), (numV c, 0)]
def rdb_count_between (x : ExA) (E : XK) (K : PySem.W.Frag) : TS :=
      (tSeq (tDrop (tCall (spb_check_beginning x) [] E (tCons (tVar 0) tNil)))
      (tSeq (tDrop (tCall (spb_check_number x) [] E (tCons (tVar 1) tNil)))
      (tSeq (tDrop (tCall (spb_check_number x) [] E (tCons (tVar 2) tNil)))
      (tSeq (tIfS (tTest (tOp rGtI (tVar 1) (tVar 2)))
        (tRet (tC (.int 0)))
        tNext)
      (tRet (tOp rSubI (tCall (sp_up_to_of) [] E0 (tCons (tVar 0) (tCons (tVar 2) tNil))) (tIf (tTest (tOp rGtI (tVar 1) (tC (.int 1)))) (tCall (sp_up_to_of) [] E0 (tCons (tVar 0) (tCons (tOp rSubI (tVar 1) (tC (.int 1))) tNil))) (tC (.int 0)))))))))
theorem pureb_count_between {x : ExA} {K : PySem.W.Frag} (vs : List V) (H : Hp) (Q : VK) (E : XK) (h : spb_count_between x vs H Q E) : rdb_count_between x E K { nx := fun _ H' => Q .non H', rt := Q } (start N_count_between vs) H := by
  match vs, h with
  | [a, b, c], .inl h =>
    have g := pure_count_between (K := K) [a, b, c] H Q E h
    unfold rd_count_between at g
    unfold rdb_count_between
    exact cb_beg g fun _ g => cb_num g fun _ g => cb_num g fun _ g => g
  | [a, b, c], .inr ⟨hk, i, hi, he⟩ =>
    unfold rdb_count_between
    exact qb_beg (v := a) rfl (Ex.refl _) (hk a (by simp)) hi he fun H1 e1 hi => qb_num (v := b) rfl (e1) (hk b (by simp)) hi he fun H2 e2 hi => qb_num (v := c) rfl (e2) (hk c (by simp)) hi he fun H3 e3 hi => by cases (show none = some i from hi)
abbrev spb_count_multiples (x : ExA) : Sp := spe3 fun a b c H Q E => sp_count_multiples [a, b, c] H Q E ∨ BadX x H E [a, b, c] [(stepV a, 0), (begV b, 1), (intV c 1 60, 2)]
def rdb_count_multiples (x : ExA) (E : XK) (K : PySem.W.Frag) : TS :=
      (tSeq (tDrop (tCall (spb_check_step x) [] E (tCons (tVar 0) tNil)))
      (tSeq (tDrop (tCall (spb_check_beginning x) [] E (tCons (tVar 1) tNil)))
      (tSeq (tDrop (tCall (spb_check_count x) [] E (tCons (tVar 2) (tCons (tC (.int 1)) (tCons (tC (.int 60)) tNil)))))
      (tSeq (tIfS (tTest (tOp rLtI (tVar 2) (tCall (sp_size_of) [] E0 (tCons (tVar 1) tNil))))
        (tRet (tC (.int 0)))
        tNext)
      (tSeq (tAsg (tCall (sp_stretch_of) [] E0 (tCons (tVar 1) (tCons (tVar 2) tNil))) (gTup K 2 (gCons (gName 3) (gCons (gName 4) gNil))))
      (tRet (tOp rSubI (tOp rDivW (tVar 4) (tVar 0)) (tOp rDivW (tOp rSubI (tVar 3) (tC (.int 1))) (tVar 0)))))))))
theorem pureb_count_multiples {x : ExA} {K : PySem.W.Frag} (vs : List V) (H : Hp) (Q : VK) (E : XK) (h : spb_count_multiples x vs H Q E) : rdb_count_multiples x E K { nx := fun _ H' => Q .non H', rt := Q } (start N_count_multiples vs) H := by
  match vs, h with
  | [a, b, c], .inl h =>
    have g := pure_count_multiples (K := K) [a, b, c] H Q E h
    unfold rd_count_multiples at g
    unfold rdb_count_multiples
    exact cb_step g fun _ g => cb_beg g fun _ g => cb_cnt g fun _ g => g
  | [a, b, c], .inr ⟨hk, i, hi, he⟩ =>
    unfold rdb_count_multiples
    exact qb_step (v := a) rfl (Ex.refl _) (hk a (by simp)) hi he fun H1 e1 hi => qb_beg (v := b) rfl (e1) (hk b (by simp)) hi he fun H2 e2 hi => qb_cnt (v := c) rfl (e2) (hk c (by simp)) hi he fun H3 e3 hi => by cases (show none = some i from hi)
abbrev spb_count_up_to (x : ExA) : Sp := spe2 fun a b H Q E => sp_count_up_to [a, b] H Q E ∨ BadX x H E [a, b] [(begV a, 1), (numV b, 0)]
def rdb_count_up_to (x : ExA) (E : XK) (K : PySem.W.Frag) : TS :=
      (tSeq (tDrop (tCall (spb_check_beginning x) [] E (tCons (tVar 0) tNil)))
      (tSeq (tDrop (tCall (spb_check_number x) [] E (tCons (tVar 1) tNil)))
      (tRet (tCall (sp_up_to_of) [] E0 (tCons (tVar 0) (tCons (tVar 1) tNil))))))
theorem pureb_count_up_to {x : ExA} {K : PySem.W.Frag} (vs : List V) (H : Hp) (Q : VK) (E : XK) (h : spb_count_up_to x vs H Q E) : rdb_count_up_to x E K { nx := fun _ H' => Q .non H', rt := Q } (start N_count_up_to vs) H := by
  match vs, h with
  | [a, b], .inl h =>
    have g := pure_count_up_to (K := K) [a, b] H Q E h
    unfold rd_count_up_to at g
    unfold rdb_count_up_to
    exact cb_beg g fun _ g => cb_num g fun _ g => g
  | [a, b], .inr ⟨hk, i, hi, he⟩ =>
    unfold rdb_count_up_to
    exact qb_beg (v := a) rfl (Ex.refl _) (hk a (by simp)) hi he fun H1 e1 hi => qb_num (v := b) rfl (e1) (hk b (by simp)) hi he fun H2 e2 hi => by cases (show none = some i from hi)
abbrev spb_digit_count (x : ExA) : Sp := spe1 fun a H Q E => sp_digit_count [a] H Q E ∨ BadX x H E [a] [(numV a, 0)]
def rdb_digit_count (x : ExA) (E : XK) (K : PySem.W.Frag) : TS :=
      (tSeq (tDrop (tCall (spb_check_number x) [] E (tCons (tVar 0) tNil)))
      (tRet (tCall (sp_size_of) [] E0 (tCons (tVar 0) tNil))))
theorem pureb_digit_count {x : ExA} {K : PySem.W.Frag} (vs : List V) (H : Hp) (Q : VK) (E : XK) (h : spb_digit_count x vs H Q E) : rdb_digit_count x E K { nx := fun _ H' => Q .non H', rt := Q } (start N_digit_count vs) H := by
  match vs, h with
  | [a], .inl h =>
    have g := pure_digit_count (K := K) [a] H Q E h
    unfold rd_digit_count at g
    unfold rdb_digit_count
    exact cb_num g fun _ g => g
  | [a], .inr ⟨hk, i, hi, he⟩ =>
    unfold rdb_digit_count
    exact qb_num (v := a) rfl (Ex.refl _) (hk a (by simp)) hi he fun H1 e1 hi => by cases (show none = some i from hi)
abbrev spb_digit_table (x : ExA) : Sp := spe2 fun a b H Q E => sp_digit_table [a, b] H Q E ∨ BadX x H E [a, b] [(baseV a, 0), (intV b 0 300, 2)]
def rdb_digit_table (x : ExA) (E : XK) (K : PySem.W.Frag) : TS :=
      (tSeq (tDrop (tCall (spb_check_base x) [] E (tCons (tVar 0) tNil)))
      (tSeq (tDrop (tCall (spb_check_count x) [] E (tCons (tVar 1) (tCons (tC (.int 0)) (tCons (tC (.int 300)) tNil)))))
      (tSeq (tAsg (tOp rRep (tLst (tCons (tC (.int 0)) tNil)) (tC (.int 9))) (gName 2))
      (tSeq (tFor (iList K (tCall (sp_powers_of) [] E0 (tCons (tVar 0) (tCons (tVar 1) tNil)))) (gName 3)
        (tAugS (tVar 2) (tOp rSubI (tCall (sp_first_of) [] E0 (tCons (tVar 3) (tCons (tC (.int 1)) tNil))) (tC (.int 1))) (tC (.int 1)) (rGetL K) rAddI rSetL))
      (tRet (tVar 2))))))
theorem pureb_digit_table {x : ExA} {K : PySem.W.Frag} (vs : List V) (H : Hp) (Q : VK) (E : XK) (h : spb_digit_table x vs H Q E) : rdb_digit_table x E K { nx := fun _ H' => Q .non H', rt := Q } (start N_digit_table vs) H := by
  match vs, h with
  | [a, b], .inl h =>
    have g := pure_digit_table (K := K) [a, b] H Q E h
    unfold rd_digit_table at g
    unfold rdb_digit_table
    exact cb_base g fun _ g => cb_cnt g fun _ g => g
  | [a, b], .inr ⟨hk, i, hi, he⟩ =>
    unfold rdb_digit_table
    exact qb_base (v := a) rfl (Ex.refl _) (hk a (by simp)) hi he fun H1 e1 hi => qb_cnt (v := b) rfl (e1) (hk b (by simp)) hi he fun H2 e2 hi => by cases (show none = some i from hi)
abbrev spb_first_digits (x : ExA) : Sp := spe2 fun a b H Q E => sp_first_digits [a, b] H Q E ∨ BadX x H E [a, b] [(numV a, 0), (intV b 1 4, 2)]
def rdb_first_digits (x : ExA) (E : XK) (K : PySem.W.Frag) : TS :=
      (tSeq (tDrop (tCall (spb_check_number x) [] E (tCons (tVar 0) tNil)))
      (tSeq (tDrop (tCall (spb_check_count x) [] E (tCons (tVar 1) (tCons (tC (.int 1)) (tCons (tC (.int 4)) tNil)))))
      (tRet (tCall (sp_first_of) [] E0 (tCons (tVar 0) (tCons (tVar 1) tNil))))))
theorem pureb_first_digits {x : ExA} {K : PySem.W.Frag} (vs : List V) (H : Hp) (Q : VK) (E : XK) (h : spb_first_digits x vs H Q E) : rdb_first_digits x E K { nx := fun _ H' => Q .non H', rt := Q } (start N_first_digits vs) H := by
  match vs, h with
  | [a, b], .inl h =>
    have g := pure_first_digits (K := K) [a, b] H Q E h
    unfold rd_first_digits at g
    unfold rdb_first_digits
    exact cb_num g fun _ g => cb_cnt g fun _ g => g
  | [a, b], .inr ⟨hk, i, hi, he⟩ =>
    unfold rdb_first_digits
    exact qb_num (v := a) rfl (Ex.refl _) (hk a (by simp)) hi he fun H1 e1 hi => qb_cnt (v := b) rfl (e1) (hk b (by simp)) hi he fun H2 e2 hi => by cases (show none = some i from hi)
abbrev spb_first_multiple (x : ExA) : Sp := spe2 fun a b H Q E => sp_first_multiple [a, b] H Q E ∨ BadX x H E [a, b] [(stepV a, 0), (begV b, 1)]
def rdb_first_multiple (x : ExA) (E : XK) (K : PySem.W.Frag) : TS :=
      (tSeq (tDrop (tCall (spb_check_step x) [] E (tCons (tVar 0) tNil)))
      (tSeq (tDrop (tCall (spb_check_beginning x) [] E (tCons (tVar 1) tNil)))
      (tSeq (tAsg (tCall (sp_size_of) [] E0 (tCons (tVar 1) tNil)) (gName 2))
      (tSeq (tAsg (tCall (sp_stretch_of) [] E0 (tCons (tVar 1) (tCons (tVar 2) tNil))) (gTup K 2 (gCons (gName 3) (gCons (gName 4) gNil))))
      (tSeq (tWhile (tTest (tOp rIsN (tCall (sp_first_of_stretch) [] E0 (tCons (tVar 0) (tCons (tVar 3) (tCons (tVar 4) tNil)))) (tC .non)))
        (tSeq (tAug 2 (tC (.int 1)) rAddI)
      (tAsg (tCall (sp_stretch_of) [] E0 (tCons (tVar 1) (tCons (tVar 2) tNil))) (gTup K 2 (gCons (gName 3) (gCons (gName 4) gNil))))))
      (tRet (tCall (sp_first_of_stretch) [] E0 (tCons (tVar 0) (tCons (tVar 3) (tCons (tVar 4) tNil))))))))))
theorem pureb_first_multiple {x : ExA} {K : PySem.W.Frag} (vs : List V) (H : Hp) (Q : VK) (E : XK) (h : spb_first_multiple x vs H Q E) : rdb_first_multiple x E K { nx := fun _ H' => Q .non H', rt := Q } (start N_first_multiple vs) H := by
  match vs, h with
  | [a, b], .inl h =>
    have g := pure_first_multiple (K := K) [a, b] H Q E h
    unfold rd_first_multiple at g
    unfold rdb_first_multiple
    exact cb_step g fun _ g => cb_beg g fun _ g => g
  | [a, b], .inr ⟨hk, i, hi, he⟩ =>
    unfold rdb_first_multiple
    exact qb_step (v := a) rfl (Ex.refl _) (hk a (by simp)) hi he fun H1 e1 hi => qb_beg (v := b) rfl (e1) (hk b (by simp)) hi he fun H2 e2 hi => by cases (show none = some i from hi)
abbrev spb_first_power (x : ExA) : Sp := spe3 fun a b c H Q E => sp_first_power [a, b, c] H Q E ∨ BadX x H E [a, b, c] [(baseV a, 0), (begV b, 1), (intV c 0 300, 2)]
def rdb_first_power (x : ExA) (E : XK) (K : PySem.W.Frag) : TS :=
      (tSeq (tDrop (tCall (spb_check_all x) [] E (tCons (tVar 0) (tCons (tVar 1) (tCons (tVar 2) tNil)))))
      (tSeq (tAsg (tCall (sp_places_of) [] E0 (tCons (tVar 0) (tCons (tVar 1) (tCons (tVar 2) tNil)))) (gName 3))
      (tRet (tIf (tTest (tOp (rNeD K) (tVar 3) (tLst tNil))) (tOp (rIxL K) (tVar 3) (tC (.int 0))) (tC .non)))))
theorem pureb_first_power {x : ExA} {K : PySem.W.Frag} (vs : List V) (H : Hp) (Q : VK) (E : XK) (h : spb_first_power x vs H Q E) : rdb_first_power x E K { nx := fun _ H' => Q .non H', rt := Q } (start N_first_power vs) H := by
  match vs, h with
  | [a, b, c], .inl h =>
    have g := pure_first_power (K := K) [a, b, c] H Q E h
    unfold rd_first_power at g
    unfold rdb_first_power
    exact cb_all g fun _ g => g
  | [a, b, c], .inr ⟨hk, i, hi, he⟩ =>
    unfold rdb_first_power
    exact qb_all rfl rfl rfl (Ex.refl _) hk hi he
abbrev spb_is_within (x : ExA) : Sp := spe2 fun a b H Q E => sp_is_within [a, b] H Q E ∨ BadX x H E [a, b] [(begV a, 1), (begV b, 1)]
def rdb_is_within (x : ExA) (E : XK) (K : PySem.W.Frag) : TS :=
      (tSeq (tDrop (tCall (spb_check_beginning x) [] E (tCons (tVar 0) tNil)))
      (tSeq (tDrop (tCall (spb_check_beginning x) [] E (tCons (tVar 1) tNil)))
      (tRet (tCall (sp_begins_of) [] E0 (tCons (tVar 0) (tCons (tVar 1) tNil))))))
theorem pureb_is_within {x : ExA} {K : PySem.W.Frag} (vs : List V) (H : Hp) (Q : VK) (E : XK) (h : spb_is_within x vs H Q E) : rdb_is_within x E K { nx := fun _ H' => Q .non H', rt := Q } (start N_is_within vs) H := by
  match vs, h with
  | [a, b], .inl h =>
    have g := pure_is_within (K := K) [a, b] H Q E h
    unfold rd_is_within at g
    unfold rdb_is_within
    exact cb_beg g fun _ g => cb_beg g fun _ g => g
  | [a, b], .inr ⟨hk, i, hi, he⟩ =>
    unfold rdb_is_within
    exact qb_beg (v := a) rfl (Ex.refl _) (hk a (by simp)) hi he fun H1 e1 hi => qb_beg (v := b) rfl (e1) (hk b (by simp)) hi he fun H2 e2 hi => by cases (show none = some i from hi)
abbrev spb_last_before (x : ExA) : Sp := spe2 fun a b H Q E => spx_last_before x [a, b] H Q E ∨ BadX x H E [a, b] [(begV a, 1), (numV b, 0)]
def rdb_last_before (x : ExA) (E : XK) (K : PySem.W.Frag) : TS :=
      (tSeq (tDrop (tCall (spb_check_beginning x) [] E (tCons (tVar 0) tNil)))
      (tSeq (tDrop (tCall (spb_check_number x) [] E (tCons (tVar 1) tNil)))
      (tSeq (tFor (iRng3 (tCons (tCall (sp_size_of) [] E0 (tCons (tVar 1) tNil)) (tCons (tOp rSubI (tCall (sp_size_of) [] E0 (tCons (tVar 0) tNil)) (tC (.int 1))) (tCons (tUn rNeg (tC (.int 1))) tNil)))) (gName 2)
        (tSeq (tAsg (tCall (sp_stretch_of) [] E0 (tCons (tVar 0) (tCons (tVar 2) tNil))) (gTup K 2 (gCons (gName 3) (gCons (gName 4) gNil))))
      (tIfS (tTest (tOp rLtI (tVar 3) (tVar 1)))
        (tRet (tCB rMin2I (tCons (tVar 4) (tCons (tOp rSubI (tVar 1) (tC (.int 1))) tNil))))
        tNext)))
      (tRaise x.nf E))))
theorem pureb_last_before {x : ExA} {K : PySem.W.Frag} (vs : List V) (H : Hp) (Q : VK) (E : XK) (h : spb_last_before x vs H Q E) : rdb_last_before x E K { nx := fun _ H' => Q .non H', rt := Q } (start N_last_before vs) H := by
  match vs, h with
  | [a, b], .inl h =>
    have g := purex_last_before (K := K) [a, b] H Q E h
    unfold rdx_last_before at g
    unfold rdb_last_before
    exact cb_beg g fun _ g => cb_num g fun _ g => g
  | [a, b], .inr ⟨hk, i, hi, he⟩ =>
    unfold rdb_last_before
    exact qb_beg (v := a) rfl (Ex.refl _) (hk a (by simp)) hi he fun H1 e1 hi => qb_num (v := b) rfl (e1) (hk b (by simp)) hi he fun H2 e2 hi => by cases (show none = some i from hi)
abbrev spb_least_from (x : ExA) : Sp := spe2 fun a b H Q E => sp_least_from [a, b] H Q E ∨ BadX x H E [a, b] [(begV a, 1), (numV b, 0)]
def rdb_least_from (x : ExA) (E : XK) (K : PySem.W.Frag) : TS :=
      (tSeq (tDrop (tCall (spb_check_beginning x) [] E (tCons (tVar 0) tNil)))
      (tSeq (tDrop (tCall (spb_check_number x) [] E (tCons (tVar 1) tNil)))
      (tSeq (tIfS (tB (tCall (sp_begins_of) [] E0 (tCons (tVar 1) (tCons (tVar 0) tNil))))
        (tRet (tVar 1))
        tNext)
      (tSeq (tAsg (tCB rMax2I (tCons (tCall (sp_size_of) [] E0 (tCons (tVar 1) tNil)) (tCons (tCall (sp_size_of) [] E0 (tCons (tVar 0) tNil)) tNil))) (gName 2))
      (tSeq (tAsg (tCall (sp_stretch_of) [] E0 (tCons (tVar 0) (tCons (tVar 2) tNil))) (gTup K 2 (gCons (gName 3) (gCons (gName 4) gNil))))
      (tRet (tIf (tTest (tOp rGeI (tVar 3) (tVar 1))) (tVar 3) (tOp (rIxT K) (tCall (sp_stretch_of) [] E0 (tCons (tVar 0) (tCons (tOp rAddI (tVar 2) (tC (.int 1))) tNil))) (tC (.int 0))))))))))
theorem pureb_least_from {x : ExA} {K : PySem.W.Frag} (vs : List V) (H : Hp) (Q : VK) (E : XK) (h : spb_least_from x vs H Q E) : rdb_least_from x E K { nx := fun _ H' => Q .non H', rt := Q } (start N_least_from vs) H := by
  match vs, h with
  | [a, b], .inl h =>
    have g := pure_least_from (K := K) [a, b] H Q E h
    unfold rd_least_from at g
    unfold rdb_least_from
    exact cb_beg g fun _ g => cb_num g fun _ g => g
  | [a, b], .inr ⟨hk, i, hi, he⟩ =>
    unfold rdb_least_from
    exact qb_beg (v := a) rfl (Ex.refl _) (hk a (by simp)) hi he fun H1 e1 hi => qb_num (v := b) rfl (e1) (hk b (by simp)) hi he fun H2 e2 hi => by cases (show none = some i from hi)
abbrev spb_least_root (x : ExA) : Sp := spe1 fun a H Q E => sp_least_root [a] H Q E ∨ BadX x H E [a] [(begV a, 1)]
def rdb_least_root (x : ExA) (E : XK) (K : PySem.W.Frag) : TS :=
      (tSeq (tDrop (tCall (spb_check_beginning x) [] E (tCons (tVar 0) tNil)))
      (tSeq (tAsg (tCB rLenStr (tCons (tCB rStrInt (tCons (tVar 0) tNil)) tNil)) (gName 1))
      (tSeq (tAsg (tCall (sp_stretch_of) [] E0 (tCons (tVar 0) (tCons (tVar 1) tNil))) (gTup K 2 (gCons (gName 2) (gCons (gName 3) gNil))))
      (tSeq (tAsg (tCall (sp_root_from) [] E0 (tCons (tVar 2) tNil)) (gName 4))
      (tSeq (tWhile (tTest (tOp rGtI (tOp rMulX (tVar 4) (tVar 4)) (tVar 3)))
        (tSeq (tAug 1 (tC (.int 1)) rAddI)
      (tSeq (tAsg (tCall (sp_stretch_of) [] E0 (tCons (tVar 0) (tCons (tVar 1) tNil))) (gTup K 2 (gCons (gName 2) (gCons (gName 3) gNil))))
      (tAsg (tCall (sp_root_from) [] E0 (tCons (tVar 2) tNil)) (gName 4)))))
      (tRet (tVar 4)))))))
theorem pureb_least_root {x : ExA} {K : PySem.W.Frag} (vs : List V) (H : Hp) (Q : VK) (E : XK) (h : spb_least_root x vs H Q E) : rdb_least_root x E K { nx := fun _ H' => Q .non H', rt := Q } (start N_least_root vs) H := by
  match vs, h with
  | [a], .inl h =>
    have g := pure_least_root (K := K) [a] H Q E h
    unfold rd_least_root at g
    unfold rdb_least_root
    exact cb_beg g fun _ g => g
  | [a], .inr ⟨hk, i, hi, he⟩ =>
    unfold rdb_least_root
    exact qb_beg (v := a) rfl (Ex.refl _) (hk a (by simp)) hi he fun H1 e1 hi => by cases (show none = some i from hi)
abbrev spb_longer (x : ExA) : Sp := spe2 fun a b H Q E => sp_longer [a, b] H Q E ∨ BadX x H E [a, b] [(begV a, 1), (intV b 1 4, 2)]
def rdb_longer (x : ExA) (E : XK) (K : PySem.W.Frag) : TS :=
      (tSeq (tDrop (tCall (spb_check_beginning x) [] E (tCons (tVar 0) tNil)))
      (tSeq (tDrop (tCall (spb_check_count x) [] E (tCons (tVar 1) (tCons (tC (.int 1)) (tCons (tC (.int 4)) tNil)))))
      (tSeq (tAsg (tOp rSubI (tVar 1) (tCall (sp_size_of) [] E0 (tCons (tVar 0) tNil))) (gName 2))
      (tSeq (tIfS (tTest (tOp rLtI (tVar 2) (tC (.int 0))))
        (tRet (tLst tNil))
        tNext)
      (tRet (tLstRg (tRg2 (tOp rMulX (tVar 0) (tCall (sp_ten_to) [] E0 (tCons (tVar 2) tNil))) (tOp rMulX (tOp rAddI (tVar 0) (tC (.int 1))) (tCall (sp_ten_to) [] E0 (tCons (tVar 2) tNil))))))))))
theorem pureb_longer {x : ExA} {K : PySem.W.Frag} (vs : List V) (H : Hp) (Q : VK) (E : XK) (h : spb_longer x vs H Q E) : rdb_longer x E K { nx := fun _ H' => Q .non H', rt := Q } (start N_longer vs) H := by
  match vs, h with
  | [a, b], .inl h =>
    have g := pure_longer (K := K) [a, b] H Q E h
    unfold rd_longer at g
    unfold rdb_longer
    exact cb_beg g fun _ g => cb_cnt g fun _ g => g
  | [a, b], .inr ⟨hk, i, hi, he⟩ =>
    unfold rdb_longer
    exact qb_beg (v := a) rfl (Ex.refl _) (hk a (by simp)) hi he fun H1 e1 hi => qb_cnt (v := b) rfl (e1) (hk b (by simp)) hi he fun H2 e2 hi => by cases (show none = some i from hi)
abbrev spb_longest_wait (x : ExA) : Sp := spe3 fun a b c H Q E => spx_longest_wait x [a, b, c] H Q E ∨ BadX x H E [a, b, c] [(baseV a, 0), (begV b, 1), (intV c 0 300, 2)]
def rdb_longest_wait (x : ExA) (E : XK) (K : PySem.W.Frag) : TS :=
      (tSeq (tDrop (tCall (spb_check_all x) [] E (tCons (tVar 0) (tCons (tVar 1) (tCons (tVar 2) tNil)))))
      (tSeq (tAsg (tCall (sp_places_of) [] E0 (tCons (tVar 0) (tCons (tVar 1) (tCons (tVar 2) tNil)))) (gName 3))
      (tSeq (tIfS (tTest (tOp rLtI (tCB (rLenSeq K) (tCons (tVar 3) tNil)) (tC (.int 2))))
        (tRaise x.nf E)
        tNext)
      (tSeq (tAsg (tLc (iZip K (tCons (tVar 3) (tCons (tSl (rSlL K) (tVar 3) (tPart (tC (.int 1))) tNoPart) tNil))) (gTup K 2 (gCons (gName 5) (gCons (gName 6) gNil))) tYes (tOp rSubI (tVar 6) (tVar 5)) [5, 6]) (gName 4))
      (tRet (tTup (tCons (tOp (rIxL K) (tVar 3) (tBM K "list" rIndexV (tVar 4) (tCons (tCB (rMax K) (tCons (tVar 4) tNil)) tNil))) (tCons (tCB (rMax K) (tCons (tVar 4) tNil)) tNil))))))))
theorem pureb_longest_wait {x : ExA} {K : PySem.W.Frag} (vs : List V) (H : Hp) (Q : VK) (E : XK) (h : spb_longest_wait x vs H Q E) : rdb_longest_wait x E K { nx := fun _ H' => Q .non H', rt := Q } (start N_longest_wait vs) H := by
  match vs, h with
  | [a, b, c], .inl h =>
    have g := purex_longest_wait (K := K) [a, b, c] H Q E h
    unfold rdx_longest_wait at g
    unfold rdb_longest_wait
    exact cb_all g fun _ g => g
  | [a, b, c], .inr ⟨hk, i, hi, he⟩ =>
    unfold rdb_longest_wait
    exact qb_all rfl rfl rfl (Ex.refl _) hk hi he
abbrev spb_multiple_places (x : ExA) : Sp := spe3 fun a b c H Q E => sp_multiple_places [a, b, c] H Q E ∨ BadX x H E [a, b, c] [(stepV a, 0), (begV b, 1), (intV c 1 1000, 2)]
def rdb_multiple_places (x : ExA) (E : XK) (K : PySem.W.Frag) : TS :=
      (tSeq (tDrop (tCall (spb_check_step x) [] E (tCons (tVar 0) tNil)))
      (tSeq (tDrop (tCall (spb_check_beginning x) [] E (tCons (tVar 1) tNil)))
      (tSeq (tDrop (tCall (spb_check_count x) [] E (tCons (tVar 2) (tCons (tC (.int 1)) (tCons (tC (.int 1000)) tNil)))))
      (tRet (tLc (iRng2 (tCons (tC (.int 1)) (tCons (tOp rAddI (tVar 2) (tC (.int 1))) tNil))) (gName 3) (tB (tCall (sp_begins_of) [] E0 (tCons (tOp rMulX (tVar 0) (tVar 3)) (tCons (tVar 1) tNil)))) (tVar 3) [3])))))
theorem pureb_multiple_places {x : ExA} {K : PySem.W.Frag} (vs : List V) (H : Hp) (Q : VK) (E : XK) (h : spb_multiple_places x vs H Q E) : rdb_multiple_places x E K { nx := fun _ H' => Q .non H', rt := Q } (start N_multiple_places vs) H := by
  match vs, h with
  | [a, b, c], .inl h =>
    have g := pure_multiple_places (K := K) [a, b, c] H Q E h
    unfold rd_multiple_places at g
    unfold rdb_multiple_places
    exact cb_step g fun _ g => cb_beg g fun _ g => cb_cnt g fun _ g => g
  | [a, b, c], .inr ⟨hk, i, hi, he⟩ =>
    unfold rdb_multiple_places
    exact qb_step (v := a) rfl (Ex.refl _) (hk a (by simp)) hi he fun H1 e1 hi => qb_beg (v := b) rfl (e1) (hk b (by simp)) hi he fun H2 e2 hi => qb_cnt (v := c) rfl (e2) (hk c (by simp)) hi he fun H3 e3 hi => by cases (show none = some i from hi)
abbrev spb_never (x : ExA) : Sp := spe3 fun a b c H Q E => sp_never [a, b, c] H Q E ∨ BadX x H E [a, b, c] [(baseV a, 0), (intV b 1 3, 2), (intV c 0 300, 2)]
def rdb_never (x : ExA) (E : XK) (K : PySem.W.Frag) : TS :=
      (tSeq (tDrop (tCall (spb_check_base x) [] E (tCons (tVar 0) tNil)))
      (tSeq (tDrop (tCall (spb_check_count x) [] E (tCons (tVar 1) (tCons (tC (.int 1)) (tCons (tC (.int 3)) tNil)))))
      (tSeq (tDrop (tCall (spb_check_count x) [] E (tCons (tVar 2) (tCons (tC (.int 0)) (tCons (tC (.int 300)) tNil)))))
      (tSeq (tAsg (tOp rRep (tLst (tCons (tC (.bl false)) tNil)) (tCall (sp_ten_to) [] E0 (tCons (tVar 1) tNil))) (gName 3))
      (tSeq (tFor (iList K (tCall (sp_powers_of) [] E0 (tCons (tVar 0) (tCons (tVar 2) tNil)))) (gName 4)
        (tIfS (tTest (tOp rGeI (tCall (sp_size_of) [] E0 (tCons (tVar 4) tNil)) (tVar 1)))
        (tAsg (tC (.bl true)) (gSub (tVar 3) (tCall (sp_first_of) [] E0 (tCons (tVar 4) (tCons (tVar 1) tNil))) rSetL))
        tNext))
      (tRet (tLc (iRng2 (tCons (tCall (sp_ten_to) [] E0 (tCons (tOp rSubI (tVar 1) (tC (.int 1))) tNil)) (tCons (tCall (sp_ten_to) [] E0 (tCons (tVar 1) tNil)) tNil))) (gName 5) (tNot (tB (tOp (rIxL K) (tVar 3) (tVar 5)))) (tVar 5) [5])))))))
theorem pureb_never {x : ExA} {K : PySem.W.Frag} (vs : List V) (H : Hp) (Q : VK) (E : XK) (h : spb_never x vs H Q E) : rdb_never x E K { nx := fun _ H' => Q .non H', rt := Q } (start N_never vs) H := by
  match vs, h with
  | [a, b, c], .inl h =>
    have g := pure_never (K := K) [a, b, c] H Q E h
    unfold rd_never at g
    unfold rdb_never
    exact cb_base g fun _ g => cb_cnt g fun _ g => cb_cnt g fun _ g => g
  | [a, b, c], .inr ⟨hk, i, hi, he⟩ =>
    unfold rdb_never
    exact qb_base (v := a) rfl (Ex.refl _) (hk a (by simp)) hi he fun H1 e1 hi => qb_cnt (v := b) rfl (e1) (hk b (by simp)) hi he fun H2 e2 hi => qb_cnt (v := c) rfl (e2) (hk c (by simp)) hi he fun H3 e3 hi => by cases (show none = some i from hi)
abbrev spb_number_at (x : ExA) : Sp := spe2 fun a b H Q E => sp_number_at [a, b] H Q E ∨ BadX x H E [a, b] [(begV a, 1), (intV b 0 1000000000, 2)]
def rdb_number_at (x : ExA) (E : XK) (K : PySem.W.Frag) : TS :=
      (tSeq (tDrop (tCall (spb_check_beginning x) [] E (tCons (tVar 0) tNil)))
      (tSeq (tDrop (tCall (spb_check_count x) [] E (tCons (tVar 1) (tCons (tC (.int 0)) (tCons (tC (.int 1000000000)) tNil)))))
      (tSeq (tPar 2 3 (tCons (tVar 1) (tCons (tC (.int 0)) tNil)))
      (tSeq (tWhile (tTest (tOp rGeI (tVar 2) (tCall (sp_ten_to) [] E0 (tCons (tVar 3) tNil))))
        (tSeq (tAug 2 (tCall (sp_ten_to) [] E0 (tCons (tVar 3) tNil)) rSubI)
      (tAug 3 (tC (.int 1)) rAddI)))
      (tRet (tOp rAddI (tOp rMulX (tVar 0) (tCall (sp_ten_to) [] E0 (tCons (tVar 3) tNil))) (tVar 2)))))))
theorem pureb_number_at {x : ExA} {K : PySem.W.Frag} (vs : List V) (H : Hp) (Q : VK) (E : XK) (h : spb_number_at x vs H Q E) : rdb_number_at x E K { nx := fun _ H' => Q .non H', rt := Q } (start N_number_at vs) H := by
  match vs, h with
  | [a, b], .inl h =>
    have g := pure_number_at (K := K) [a, b] H Q E h
    unfold rd_number_at at g
    unfold rdb_number_at
    exact cb_beg g fun _ g => cb_cnt g fun _ g => g
  | [a, b], .inr ⟨hk, i, hi, he⟩ =>
    unfold rdb_number_at
    exact qb_beg (v := a) rfl (Ex.refl _) (hk a (by simp)) hi he fun H1 e1 hi => qb_cnt (v := b) rfl (e1) (hk b (by simp)) hi he fun H2 e2 hi => by cases (show none = some i from hi)
abbrev spb_power_places (x : ExA) : Sp := spe3 fun a b c H Q E => sp_power_places [a, b, c] H Q E ∨ BadX x H E [a, b, c] [(baseV a, 0), (begV b, 1), (intV c 0 300, 2)]
def rdb_power_places (x : ExA) (E : XK) (K : PySem.W.Frag) : TS :=
      (tSeq (tDrop (tCall (spb_check_all x) [] E (tCons (tVar 0) (tCons (tVar 1) (tCons (tVar 2) tNil)))))
      (tRet (tCall (sp_places_of) [] E0 (tCons (tVar 0) (tCons (tVar 1) (tCons (tVar 2) tNil))))))
theorem pureb_power_places {x : ExA} {K : PySem.W.Frag} (vs : List V) (H : Hp) (Q : VK) (E : XK) (h : spb_power_places x vs H Q E) : rdb_power_places x E K { nx := fun _ H' => Q .non H', rt := Q } (start N_power_places vs) H := by
  match vs, h with
  | [a, b, c], .inl h =>
    have g := pure_power_places (K := K) [a, b, c] H Q E h
    unfold rd_power_places at g
    unfold rdb_power_places
    exact cb_all g fun _ g => g
  | [a, b, c], .inr ⟨hk, i, hi, he⟩ =>
    unfold rdb_power_places
    exact qb_all rfl rfl rfl (Ex.refl _) hk hi he
abbrev spb_powers_with (x : ExA) : Sp := spe2 fun a b H Q E => sp_powers_with [a, b] H Q E ∨ BadX x H E [a, b] [(baseV a, 0), (intV b 1 600, 2)]
def rdb_powers_with (x : ExA) (E : XK) (K : PySem.W.Frag) : TS :=
      (tSeq (tDrop (tCall (spb_check_base x) [] E (tCons (tVar 0) tNil)))
      (tSeq (tDrop (tCall (spb_check_count x) [] E (tCons (tVar 1) (tCons (tC (.int 1)) (tCons (tC (.int 600)) tNil)))))
      (tRet (tLc (iEnum K (tCons (tCall (sp_powers_of) [] E0 (tCons (tVar 0) (tCons (tC (.int 300)) tNil))) tNil)) (gTup K 2 (gCons (gName 2) (gCons (gName 3) gNil))) (tTest (tOp rEq (tCall (sp_size_of) [] E0 (tCons (tVar 3) tNil)) (tVar 1))) (tVar 2) [2, 3]))))
theorem pureb_powers_with {x : ExA} {K : PySem.W.Frag} (vs : List V) (H : Hp) (Q : VK) (E : XK) (h : spb_powers_with x vs H Q E) : rdb_powers_with x E K { nx := fun _ H' => Q .non H', rt := Q } (start N_powers_with vs) H := by
  match vs, h with
  | [a, b], .inl h =>
    have g := pure_powers_with (K := K) [a, b] H Q E h
    unfold rd_powers_with at g
    unfold rdb_powers_with
    exact cb_base g fun _ g => cb_cnt g fun _ g => g
  | [a, b], .inr ⟨hk, i, hi, he⟩ =>
    unfold rdb_powers_with
    exact qb_base (v := a) rfl (Ex.refl _) (hk a (by simp)) hi he fun H1 e1 hi => qb_cnt (v := b) rfl (e1) (hk b (by simp)) hi he fun H2 e2 hi => by cases (show none = some i from hi)
abbrev spb_product_example (x : ExA) : Sp := spe3 fun a b c H Q E => spx_product_example x [a, b, c] H Q E ∨ BadX x H E [a, b, c] [(begV a, 1), (begV b, 1), (begV c, 1)]
def rdb_product_example (x : ExA) (E : XK) (K : PySem.W.Frag) : TS :=
      (tSeq (tDrop (tCall (spb_check_beginning x) [] E (tCons (tVar 0) tNil)))
      (tSeq (tDrop (tCall (spb_check_beginning x) [] E (tCons (tVar 1) tNil)))
      (tSeq (tDrop (tCall (spb_check_beginning x) [] E (tCons (tVar 2) tNil)))
      (tSeq (tAsg (tCall (sp_product_bounds) [] E0 (tCons (tVar 0) (tCons (tVar 1) tNil))) (gTup K 2 (gCons (gName 3) (gCons (gName 4) gNil))))
      (tSeq (tIfS (tNot (tB (tCall (sp_meets) [] E0 (tCons (tVar 3) (tCons (tVar 4) (tCons (tVar 2) tNil))))))
        (tRaise x.nf E)
        tNext)
      (tSeq (tAsg (tC (.int 0)) (gName 5))
      (tSeq (tAsg (tCall (sp_least_behind) [] E0 (tCons (tVar 0) (tCons (tVar 1) (tCons (tVar 2) (tCons (tVar 5) tNil))))) (gName 6))
      (tSeq (tWhile (tTest (tOp rIsN (tVar 6) (tC .non)))
        (tSeq (tAug 5 (tC (.int 1)) rAddI)
      (tAsg (tCall (sp_least_behind) [] E0 (tCons (tVar 0) (tCons (tVar 1) (tCons (tVar 2) (tCons (tVar 5) tNil))))) (gName 6))))
      (tRet (tTup (tCons (tOp rAddI (tOp rMulX (tVar 0) (tCall (sp_ten_to) [] E0 (tCons (tVar 5) tNil))) (tVar 6)) (tCons (tOp rAddI (tOp rMulX (tVar 1) (tCall (sp_ten_to) [] E0 (tCons (tVar 5) tNil))) (tVar 6)) tNil))))))))))))
theorem pureb_product_example {x : ExA} {K : PySem.W.Frag} (vs : List V) (H : Hp) (Q : VK) (E : XK) (h : spb_product_example x vs H Q E) : rdb_product_example x E K { nx := fun _ H' => Q .non H', rt := Q } (start N_product_example vs) H := by
  match vs, h with
  | [a, b, c], .inl h =>
    have g := purex_product_example (K := K) [a, b, c] H Q E h
    unfold rdx_product_example at g
    unfold rdb_product_example
    exact cb_beg g fun _ g => cb_beg g fun _ g => cb_beg g fun _ g => g
  | [a, b, c], .inr ⟨hk, i, hi, he⟩ =>
    unfold rdb_product_example
    exact qb_beg (v := a) rfl (Ex.refl _) (hk a (by simp)) hi he fun H1 e1 hi => qb_beg (v := b) rfl (e1) (hk b (by simp)) hi he fun H2 e2 hi => qb_beg (v := c) rfl (e2) (hk c (by simp)) hi he fun H3 e3 hi => by cases (show none = some i from hi)
abbrev spb_products (x : ExA) : Sp := spe3 fun a b c H Q E => sp_products [a, b, c] H Q E ∨ BadX x H E [a, b, c] [(begV a, 1), (begV b, 1), (intV c 1 3, 2)]
def rdb_products (x : ExA) (E : XK) (K : PySem.W.Frag) : TS :=
      (tSeq (tDrop (tCall (spb_check_beginning x) [] E (tCons (tVar 0) tNil)))
      (tSeq (tDrop (tCall (spb_check_beginning x) [] E (tCons (tVar 1) tNil)))
      (tSeq (tDrop (tCall (spb_check_count x) [] E (tCons (tVar 2) (tCons (tC (.int 1)) (tCons (tC (.int 3)) tNil)))))
      (tSeq (tAsg (tCall (sp_product_bounds) [] E0 (tCons (tVar 0) (tCons (tVar 1) tNil))) (gTup K 2 (gCons (gName 3) (gCons (gName 4) gNil))))
      (tRet (tCall (sp_all_meeting) [] E0 (tCons (tVar 3) (tCons (tVar 4) (tCons (tVar 2) tNil)))))))))
theorem pureb_products {x : ExA} {K : PySem.W.Frag} (vs : List V) (H : Hp) (Q : VK) (E : XK) (h : spb_products x vs H Q E) : rdb_products x E K { nx := fun _ H' => Q .non H', rt := Q } (start N_products vs) H := by
  match vs, h with
  | [a, b, c], .inl h =>
    have g := pure_products (K := K) [a, b, c] H Q E h
    unfold rd_products at g
    unfold rdb_products
    exact cb_beg g fun _ g => cb_beg g fun _ g => cb_cnt g fun _ g => g
  | [a, b, c], .inr ⟨hk, i, hi, he⟩ =>
    unfold rdb_products
    exact qb_beg (v := a) rfl (Ex.refl _) (hk a (by simp)) hi he fun H1 e1 hi => qb_beg (v := b) rfl (e1) (hk b (by simp)) hi he fun H2 e2 hi => qb_cnt (v := c) rfl (e2) (hk c (by simp)) hi he fun H3 e3 hi => by cases (show none = some i from hi)
abbrev spb_quotients (x : ExA) : Sp := spe3 fun a b c H Q E => sp_quotients [a, b, c] H Q E ∨ BadX x H E [a, b, c] [(begV a, 1), (begV b, 1), (intV c 1 3, 2)]
def rdb_quotients (x : ExA) (E : XK) (K : PySem.W.Frag) : TS :=
      (tSeq (tDrop (tCall (spb_check_beginning x) [] E (tCons (tVar 0) tNil)))
      (tSeq (tDrop (tCall (spb_check_beginning x) [] E (tCons (tVar 1) tNil)))
      (tSeq (tDrop (tCall (spb_check_count x) [] E (tCons (tVar 2) (tCons (tC (.int 1)) (tCons (tC (.int 3)) tNil)))))
      (tRet (tCall (sp_all_meeting) [] E0 (tCons (tTup (tCons (tVar 0) (tCons (tOp rAddI (tVar 1) (tC (.int 1))) tNil))) (tCons (tTup (tCons (tOp rAddI (tVar 0) (tC (.int 1))) (tCons (tVar 1) tNil))) (tCons (tVar 2) tNil))))))))
theorem pureb_quotients {x : ExA} {K : PySem.W.Frag} (vs : List V) (H : Hp) (Q : VK) (E : XK) (h : spb_quotients x vs H Q E) : rdb_quotients x E K { nx := fun _ H' => Q .non H', rt := Q } (start N_quotients vs) H := by
  match vs, h with
  | [a, b, c], .inl h =>
    have g := pure_quotients (K := K) [a, b, c] H Q E h
    unfold rd_quotients at g
    unfold rdb_quotients
    exact cb_beg g fun _ g => cb_beg g fun _ g => cb_cnt g fun _ g => g
  | [a, b, c], .inr ⟨hk, i, hi, he⟩ =>
    unfold rdb_quotients
    exact qb_beg (v := a) rfl (Ex.refl _) (hk a (by simp)) hi he fun H1 e1 hi => qb_beg (v := b) rfl (e1) (hk b (by simp)) hi he fun H2 e2 hi => qb_cnt (v := c) rfl (e2) (hk c (by simp)) hi he fun H3 e3 hi => by cases (show none = some i from hi)
abbrev spb_rank_of (x : ExA) : Sp := spe2 fun a b H Q E => spx_rank_of x [a, b] H Q E ∨ BadX x H E [a, b] [(begV a, 1), (numV b, 0)]
def rdb_rank_of (x : ExA) (E : XK) (K : PySem.W.Frag) : TS :=
      (tSeq (tDrop (tCall (spb_check_beginning x) [] E (tCons (tVar 0) tNil)))
      (tSeq (tDrop (tCall (spb_check_number x) [] E (tCons (tVar 1) tNil)))
      (tSeq (tIfS (tNot (tB (tCall (sp_begins_of) [] E0 (tCons (tVar 1) (tCons (tVar 0) tNil)))))
        (tRaise x.nf E)
        tNext)
      (tRet (tOp rSubI (tCall (sp_up_to_of) [] E0 (tCons (tVar 0) (tCons (tVar 1) tNil))) (tC (.int 1)))))))
theorem pureb_rank_of {x : ExA} {K : PySem.W.Frag} (vs : List V) (H : Hp) (Q : VK) (E : XK) (h : spb_rank_of x vs H Q E) : rdb_rank_of x E K { nx := fun _ H' => Q .non H', rt := Q } (start N_rank_of vs) H := by
  match vs, h with
  | [a, b], .inl h =>
    have g := purex_rank_of (K := K) [a, b] H Q E h
    unfold rdx_rank_of at g
    unfold rdb_rank_of
    exact cb_beg g fun _ g => cb_num g fun _ g => g
  | [a, b], .inr ⟨hk, i, hi, he⟩ =>
    unfold rdb_rank_of
    exact qb_beg (v := a) rfl (Ex.refl _) (hk a (by simp)) hi he fun H1 e1 hi => qb_num (v := b) rfl (e1) (hk b (by simp)) hi he fun H2 e2 hi => by cases (show none = some i from hi)
abbrev spb_roots (x : ExA) : Sp := spe2 fun a b H Q E => sp_roots [a, b] H Q E ∨ BadX x H E [a, b] [(begV a, 1), (intV b 1 3, 2)]
def rdb_roots (x : ExA) (E : XK) (K : PySem.W.Frag) : TS :=
      (tSeq (tDrop (tCall (spb_check_beginning x) [] E (tCons (tVar 0) tNil)))
      (tSeq (tDrop (tCall (spb_check_count x) [] E (tCons (tVar 1) (tCons (tC (.int 1)) (tCons (tC (.int 3)) tNil)))))
      (tSeq (tPar 2 3 (tCons (tLst tNil) (tCons (tCall (sp_scales) [] E0 tNil) tNil)))
      (tSeq (tFor (iRng2 (tCons (tCall (sp_ten_to) [] E0 (tCons (tOp rSubI (tVar 1) (tC (.int 1))) tNil)) (tCons (tCall (sp_ten_to) [] E0 (tCons (tVar 1) tNil)) tNil))) (gName 4)
        (tSeq (tAsg (tTup (tCons (tTup (tCons (tOp rMulX (tVar 4) (tVar 4)) (tCons (tC (.int 1)) tNil))) (tCons (tTup (tCons (tOp rMulX (tOp rAddI (tVar 4) (tC (.int 1))) (tOp rAddI (tVar 4) (tC (.int 1)))) (tCons (tC (.int 1)) tNil))) tNil))) (gTup K 2 (gCons (gName 5) (gCons (gName 6) gNil))))
      (tIfS (tB (tCB (rAny K) (tCons (tLc (iList K (tVar 3)) (gName 7) tYes (tCall (sp_crosses) [] E0 (tCons (tVar 5) (tCons (tVar 6) (tCons (tVar 0) (tCons (tOp rAddI (tVar 0) (tC (.int 1))) (tCons (tVar 7) tNil)))))) [7]) tNil)))
        (tDrop (tBM K "list" rAppend (tVar 2) (tCons (tVar 4) tNil)))
        tNext)))
      (tRet (tVar 2))))))
theorem pureb_roots {x : ExA} {K : PySem.W.Frag} (vs : List V) (H : Hp) (Q : VK) (E : XK) (h : spb_roots x vs H Q E) : rdb_roots x E K { nx := fun _ H' => Q .non H', rt := Q } (start N_roots vs) H := by
  match vs, h with
  | [a, b], .inl h =>
    have g := pure_roots (K := K) [a, b] H Q E h
    unfold rd_roots at g
    unfold rdb_roots
    exact cb_beg g fun _ g => cb_cnt g fun _ g => g
  | [a, b], .inr ⟨hk, i, hi, he⟩ =>
    unfold rdb_roots
    exact qb_beg (v := a) rfl (Ex.refl _) (hk a (by simp)) hi he fun H1 e1 hi => qb_cnt (v := b) rfl (e1) (hk b (by simp)) hi he fun H2 e2 hi => by cases (show none = some i from hi)
abbrev spb_roots_with (x : ExA) : Sp := spe2 fun a b H Q E => spx_roots_with x [a, b] H Q E ∨ BadX x H E [a, b] [(begV a, 1), (intV b 1 60, 2)]
def rdb_roots_with (x : ExA) (E : XK) (K : PySem.W.Frag) : TS :=
      (tSeq (tDrop (tCall (spb_check_beginning x) [] E (tCons (tVar 0) tNil)))
      (tSeq (tDrop (tCall (spb_check_count x) [] E (tCons (tVar 1) (tCons (tC (.int 1)) (tCons (tC (.int 60)) tNil)))))
      (tSeq (tIfS (tTest (tOp rLtI (tVar 1) (tCB rLenStr (tCons (tCB rStrInt (tCons (tVar 0) tNil)) tNil))))
        (tRaise x.nf E)
        tNext)
      (tSeq (tAsg (tCall (sp_stretch_of) [] E0 (tCons (tVar 0) (tCons (tVar 1) tNil))) (gTup K 2 (gCons (gName 2) (gCons (gName 3) gNil))))
      (tSeq (tPar 4 5 (tCons (tCall (sp_root_from) [] E0 (tCons (tVar 2) tNil)) (tCons (tOp rSubI (tCall (sp_root_from) [] E0 (tCons (tOp rAddI (tVar 3) (tC (.int 1))) tNil)) (tC (.int 1))) tNil)))
      (tSeq (tIfS (tTest (tOp rGtI (tVar 4) (tVar 5)))
        (tRaise x.nf E)
        tNext)
      (tRet (tTup (tCons (tVar 4) (tCons (tVar 5) tNil))))))))))
theorem pureb_roots_with {x : ExA} {K : PySem.W.Frag} (vs : List V) (H : Hp) (Q : VK) (E : XK) (h : spb_roots_with x vs H Q E) : rdb_roots_with x E K { nx := fun _ H' => Q .non H', rt := Q } (start N_roots_with vs) H := by
  match vs, h with
  | [a, b], .inl h =>
    have g := purex_roots_with (K := K) [a, b] H Q E h
    unfold rdx_roots_with at g
    unfold rdb_roots_with
    exact cb_beg g fun _ g => cb_cnt g fun _ g => g
  | [a, b], .inr ⟨hk, i, hi, he⟩ =>
    unfold rdb_roots_with
    exact qb_beg (v := a) rfl (Ex.refl _) (hk a (by simp)) hi he fun H1 e1 hi => qb_cnt (v := b) rfl (e1) (hk b (by simp)) hi he fun H2 e2 hi => by cases (show none = some i from hi)
abbrev spb_squares (x : ExA) : Sp := spe2 fun a b H Q E => sp_squares [a, b] H Q E ∨ BadX x H E [a, b] [(begV a, 1), (intV b 1 3, 2)]
def rdb_squares (x : ExA) (E : XK) (K : PySem.W.Frag) : TS :=
      (tSeq (tDrop (tCall (spb_check_beginning x) [] E (tCons (tVar 0) tNil)))
      (tSeq (tDrop (tCall (spb_check_count x) [] E (tCons (tVar 1) (tCons (tC (.int 1)) (tCons (tC (.int 3)) tNil)))))
      (tRet (tCall (sp_all_meeting) [] E0 (tCons (tTup (tCons (tOp rMulX (tVar 0) (tVar 0)) (tCons (tC (.int 1)) tNil))) (tCons (tTup (tCons (tOp rMulX (tOp rAddI (tVar 0) (tC (.int 1))) (tOp rAddI (tVar 0) (tC (.int 1)))) (tCons (tC (.int 1)) tNil))) (tCons (tVar 1) tNil)))))))
theorem pureb_squares {x : ExA} {K : PySem.W.Frag} (vs : List V) (H : Hp) (Q : VK) (E : XK) (h : spb_squares x vs H Q E) : rdb_squares x E K { nx := fun _ H' => Q .non H', rt := Q } (start N_squares vs) H := by
  match vs, h with
  | [a, b], .inl h =>
    have g := pure_squares (K := K) [a, b] H Q E h
    unfold rd_squares at g
    unfold rdb_squares
    exact cb_beg g fun _ g => cb_cnt g fun _ g => g
  | [a, b], .inr ⟨hk, i, hi, he⟩ =>
    unfold rdb_squares
    exact qb_beg (v := a) rfl (Ex.refl _) (hk a (by simp)) hi he fun H1 e1 hi => qb_cnt (v := b) rfl (e1) (hk b (by simp)) hi he fun H2 e2 hi => by cases (show none = some i from hi)
abbrev spb_stretch (x : ExA) : Sp := spe2 fun a b H Q E => spx_stretch x [a, b] H Q E ∨ BadX x H E [a, b] [(begV a, 1), (intV b 1 60, 2)]
def rdb_stretch (x : ExA) (E : XK) (K : PySem.W.Frag) : TS :=
      (tSeq (tDrop (tCall (spb_check_beginning x) [] E (tCons (tVar 0) tNil)))
      (tSeq (tDrop (tCall (spb_check_count x) [] E (tCons (tVar 1) (tCons (tC (.int 1)) (tCons (tC (.int 60)) tNil)))))
      (tSeq (tIfS (tTest (tOp rLtI (tVar 1) (tCall (sp_size_of) [] E0 (tCons (tVar 0) tNil))))
        (tRaise x.nf E)
        tNext)
      (tRet (tCall (sp_stretch_of) [] E0 (tCons (tVar 0) (tCons (tVar 1) tNil)))))))
theorem pureb_stretch {x : ExA} {K : PySem.W.Frag} (vs : List V) (H : Hp) (Q : VK) (E : XK) (h : spb_stretch x vs H Q E) : rdb_stretch x E K { nx := fun _ H' => Q .non H', rt := Q } (start N_stretch vs) H := by
  match vs, h with
  | [a, b], .inl h =>
    have g := purex_stretch (K := K) [a, b] H Q E h
    unfold rdx_stretch at g
    unfold rdb_stretch
    exact cb_beg g fun _ g => cb_cnt g fun _ g => g
  | [a, b], .inr ⟨hk, i, hi, he⟩ =>
    unfold rdb_stretch
    exact qb_beg (v := a) rfl (Ex.refl _) (hk a (by simp)) hi he fun H1 e1 hi => qb_cnt (v := b) rfl (e1) (hk b (by simp)) hi he fun H2 e2 hi => by cases (show none = some i from hi)
abbrev spb_sums (x : ExA) : Sp := spe3 fun a b c H Q E => sp_sums [a, b, c] H Q E ∨ BadX x H E [a, b, c] [(begV a, 1), (begV b, 1), (intV c 1 3, 2)]
def rdb_sums (x : ExA) (E : XK) (K : PySem.W.Frag) : TS :=
      (tSeq (tDrop (tCall (spb_check_beginning x) [] E (tCons (tVar 0) tNil)))
      (tSeq (tDrop (tCall (spb_check_beginning x) [] E (tCons (tVar 1) tNil)))
      (tSeq (tDrop (tCall (spb_check_count x) [] E (tCons (tVar 2) (tCons (tC (.int 1)) (tCons (tC (.int 3)) tNil)))))
      (tSeq (tPar 3 4 (tCons (tOp rMulX (tVar 0) (tCall (sp_ten_to) [] E0 (tCons (tOp rSubI (tC (.int 4)) (tCall (sp_size_of) [] E0 (tCons (tVar 0) tNil))) tNil))) (tCons (tOp rMulX (tVar 1) (tCall (sp_ten_to) [] E0 (tCons (tOp rSubI (tC (.int 4)) (tCall (sp_size_of) [] E0 (tCons (tVar 1) tNil))) tNil))) tNil)))
      (tSeq (tPar 5 6 (tCons (tCall (sp_ten_to) [] E0 (tCons (tOp rSubI (tC (.int 4)) (tCall (sp_size_of) [] E0 (tCons (tVar 0) tNil))) tNil)) (tCons (tCall (sp_ten_to) [] E0 (tCons (tOp rSubI (tC (.int 4)) (tCall (sp_size_of) [] E0 (tCons (tVar 1) tNil))) tNil)) tNil)))
      (tRet (tCall (sp_all_meeting) [] E0 (tCons (tTup (tCons (tOp rAddI (tVar 3) (tVar 4)) (tCons (tC (.int 1)) tNil))) (tCons (tTup (tCons (tOp rAddI (tOp rAddI (tOp rAddI (tVar 3) (tVar 5)) (tVar 4)) (tVar 6)) (tCons (tC (.int 1)) tNil))) (tCons (tVar 2) tNil))))))))))
theorem pureb_sums {x : ExA} {K : PySem.W.Frag} (vs : List V) (H : Hp) (Q : VK) (E : XK) (h : spb_sums x vs H Q E) : rdb_sums x E K { nx := fun _ H' => Q .non H', rt := Q } (start N_sums vs) H := by
  match vs, h with
  | [a, b, c], .inl h =>
    have g := pure_sums (K := K) [a, b, c] H Q E h
    unfold rd_sums at g
    unfold rdb_sums
    exact cb_beg g fun _ g => cb_beg g fun _ g => cb_cnt g fun _ g => g
  | [a, b, c], .inr ⟨hk, i, hi, he⟩ =>
    unfold rdb_sums
    exact qb_beg (v := a) rfl (Ex.refl _) (hk a (by simp)) hi he fun H1 e1 hi => qb_beg (v := b) rfl (e1) (hk b (by simp)) hi he fun H2 e2 hi => qb_cnt (v := c) rfl (e2) (hk c (by simp)) hi he fun H3 e3 hi => by cases (show none = some i from hi)
abbrev spb_waits (x : ExA) : Sp := spe3 fun a b c H Q E => sp_waits [a, b, c] H Q E ∨ BadX x H E [a, b, c] [(baseV a, 0), (begV b, 1), (intV c 0 300, 2)]
def rdb_waits (x : ExA) (E : XK) (K : PySem.W.Frag) : TS :=
      (tSeq (tDrop (tCall (spb_check_all x) [] E (tCons (tVar 0) (tCons (tVar 1) (tCons (tVar 2) tNil)))))
      (tSeq (tAsg (tCall (sp_places_of) [] E0 (tCons (tVar 0) (tCons (tVar 1) (tCons (tVar 2) tNil)))) (gName 3))
      (tRet (tLc (iZip K (tCons (tVar 3) (tCons (tSl (rSlL K) (tVar 3) (tPart (tC (.int 1))) tNoPart) tNil))) (gTup K 2 (gCons (gName 4) (gCons (gName 5) gNil))) tYes (tOp rSubI (tVar 5) (tVar 4)) [4, 5]))))
theorem pureb_waits {x : ExA} {K : PySem.W.Frag} (vs : List V) (H : Hp) (Q : VK) (E : XK) (h : spb_waits x vs H Q E) : rdb_waits x E K { nx := fun _ H' => Q .non H', rt := Q } (start N_waits vs) H := by
  match vs, h with
  | [a, b, c], .inl h =>
    have g := pure_waits (K := K) [a, b, c] H Q E h
    unfold rd_waits at g
    unfold rdb_waits
    exact cb_all g fun _ g => g
  | [a, b, c], .inr ⟨hk, i, hi, he⟩ =>
    unfold rdb_waits
    exact qb_all rfl rfl rfl (Ex.refl _) hk hi he
end FD

namespace FD
open PySem PySem.Spec PyProof.Rows L2 Evl TL
local macro_rules | `(tactic| walk_at "ev") => `(tactic| repeat' (first | (with_reducible exact ev_c) | ((with_reducible apply ev_var); rfl) | (with_reducible exact ea_nil) | (with_reducible apply ea_cons) | (with_reducible apply ev_op) | (with_reducible exact rv_I0) | (with_reducible apply rv_I) | (with_reducible exact rv_eqI) | (with_reducible exact rv_neI) | (with_reducible exact rv_eqS) | (with_reducible apply ev_ok) | (with_reducible apply ev_cb) | (with_reducible apply spv_I1) | (with_reducible apply spv_I2) | (with_reducible apply spv_I3) | (with_reducible apply et_test) | (with_reducible apply et_B) | (with_reducible apply et_not) | (with_reducible apply ev_notV) | (with_reducible apply ev_un) | (with_reducible exact ru_negI) | (with_reducible exact rc_max2) | (with_reducible exact rc_min2) | (with_reducible exact rv_isB) | (with_reducible exact rv_notB) | (with_reducible exact rv_isN) | (with_reducible exact rv_notN) | (with_reducible apply ev_chainI) | (with_reducible exact rc_isiI) | (with_reducible exact rc_isiB)))
/-! ### rows, values of any kind -/
section
variable {x : ExA} {σ : L2.St} {H : Hp} {E : XK} {j : Nat} {D : Ends} {t1 t2 : TS}
theorem cbx_num (h : tSeq (tDrop (tCall (spx_check_number x) [] E (tCons (tVar j) tNil))) t1 D σ H) (k : ∀ H1, t1 D σ H1 → t2 D σ H1) : tSeq (tDrop (tCall (spb_check_number x) [] E (tCons (tVar j) tNil))) t2 D σ H := by
  obtain ⟨v, hv, n, rfl, q, he⟩ := h
  exact ⟨_, hv, .int, fun hb H1 e1 => k H1 (q (of_decide_eq_true hb) H1 e1), fun hb H1 e1 => he (of_decide_eq_false hb) H1 e1⟩
theorem cbx_base (h : tSeq (tDrop (tCall (spx_check_base x) [] E (tCons (tVar j) tNil))) t1 D σ H) (k : ∀ H1, t1 D σ H1 → t2 D σ H1) : tSeq (tDrop (tCall (spb_check_base x) [] E (tCons (tVar j) tNil))) t2 D σ H := by
  obtain ⟨v, hv, n, rfl, q, he⟩ := h
  refine ⟨_, hv, .int, fun hb H1 e1 => k H1 (q ?_ H1 e1), fun hb H1 e1 => he (fun hB => ?_) H1 e1⟩
  · obtain ⟨m, hm, h1, h2⟩ := intV_is hb
    cases hm
    exact ⟨h1, h2⟩
  · rw [show baseV (.int n) = true from intV_ok hB.lo hB.hi] at hb
    cases hb
end
/-- of the wrong kind, or out of bounds -/
def BadR (C : Addr) (H : Hp) (E : XK) (a : V) (ok : Bool) : Prop := KdV H a ∧ ok = false ∧ ∀ H', Ex H H' → E (.ref C) none H'
abbrev spb_Row_init (x : ExA) (c : Addr) : Sp := spe2 fun s a H Q E => spx_Row_init x c [s, a] H Q E ∨ BadR x.bn H E a (numV a)
def rdb_Row_init (x : ExA) (E : XK) (K : PySem.W.Frag) : TS :=
      (tSeq (tDrop (tCall (spb_check_number x) [] E (tCons (tVar 1) tNil)))
      (tSeq (sFld K (tVar 0) (tLst (tCons (tVar 1) tNil)) "line")
      (sFld K (tVar 0) (tLst tNil) "past")))
theorem pureb_Row_init {x : ExA} {K : PySem.W.Frag} {mg : Str → Option Value} {c : Addr} (R : RowF K mg c) (vs : List V) (H : Hp) (Q : VK) (E : XK) (h : spb_Row_init x c vs H Q E) : rdb_Row_init x E K { nx := fun _ H' => Q .non H', rt := Q } (start N_Row_init vs) H := by
  match vs, h with
  | [s, a], .inl h =>
    have g := purex_Row_init R [s, a] H Q E h
    unfold rdx_Row_init at g
    unfold rdb_Row_init
    exact cbx_num g fun _ g => g
  | [s, a], .inr ⟨hk, hb, he⟩ =>
    unfold rdb_Row_init
    exact qb_num (i := 0) (cs := []) (v := a) rfl (Ex.refl _) hk (by rw [hb]; rfl) he fun _ _ hi => by cases (show none = some 0 from hi)
abbrev spb_Row_add (x : ExA) (c : Addr) : Sp := spe2 fun s a H Q E => spx_Row_add x c [s, a] H Q E ∨ BadR x.bn H E a (numV a)
def rdb_Row_add (x : ExA) (c : Addr) (E : XK) (K : PySem.W.Frag) : TS :=
      (tSeq (tDrop (tCall (spb_check_number x) [] E (tCons (tVar 1) tNil)))
      (tRet (tMeth c "grown" (spx_Row_grown x c) [] E (tVar 0) (tCons (tOp rAddI (tOp (rIxL K) (tFld K (tVar 0) "line") (tUn rNeg (tC (.int 1)))) (tVar 1)) tNil))))
theorem pureb_Row_add {x : ExA} {K : PySem.W.Frag} {mg : Str → Option Value} {c : Addr} (R : RowF K mg c) (vs : List V) (H : Hp) (Q : VK) (E : XK) (h : spb_Row_add x c vs H Q E) : rdb_Row_add x c E K { nx := fun _ H' => Q .non H', rt := Q } (start N_Row_add vs) H := by
  match vs, h with
  | [s, a], .inl h =>
    have g := purex_Row_add R [s, a] H Q E h
    unfold rdx_Row_add at g
    unfold rdb_Row_add
    exact cbx_num g fun _ g => g
  | [s, a], .inr ⟨hk, hb, he⟩ =>
    unfold rdb_Row_add
    exact qb_num (i := 0) (cs := []) (v := a) rfl (Ex.refl _) hk (by rw [hb]; rfl) he fun _ _ hi => by cases (show none = some 0 from hi)
abbrev spb_Row_multiply (x : ExA) (c : Addr) : Sp := spe2 fun s a H Q E => spx_Row_multiply x c [s, a] H Q E ∨ BadR x.bn H E a (baseV a)
def rdb_Row_multiply (x : ExA) (c : Addr) (E : XK) (K : PySem.W.Frag) : TS :=
      (tSeq (tDrop (tCall (spb_check_base x) [] E (tCons (tVar 1) tNil)))
      (tRet (tMeth c "grown" (spx_Row_grown x c) [] E (tVar 0) (tCons (tOp rMulX (tOp (rIxL K) (tFld K (tVar 0) "line") (tUn rNeg (tC (.int 1)))) (tVar 1)) tNil))))
theorem pureb_Row_multiply {x : ExA} {K : PySem.W.Frag} {mg : Str → Option Value} {c : Addr} (R : RowF K mg c) (vs : List V) (H : Hp) (Q : VK) (E : XK) (h : spb_Row_multiply x c vs H Q E) : rdb_Row_multiply x c E K { nx := fun _ H' => Q .non H', rt := Q } (start N_Row_multiply vs) H := by
  match vs, h with
  | [s, a], .inl h =>
    have g := purex_Row_multiply R [s, a] H Q E h
    unfold rdx_Row_multiply at g
    unfold rdb_Row_multiply
    exact cbx_base g fun _ g => g
  | [s, a], .inr ⟨hk, hb, he⟩ =>
    unfold rdb_Row_multiply
    exact qb_base (i := 0) (cs := []) (v := a) rfl (Ex.refl _) hk (by rw [hb]; rfl) he fun _ _ hi => by cases (show none = some 0 from hi)
abbrev spb_Row_first_digits (x : ExA) (c : Addr) : Sp := spe2 fun s a H Q E => sp_Row_first_digits c [s, a] H Q E ∨ BadR x.bc H E a (intV a 1 4)
def rdb_Row_first_digits (x : ExA) (E : XK) (K : PySem.W.Frag) : TS :=
      (tSeq (tDrop (tCall (spb_check_count x) [] E (tCons (tVar 1) (tCons (tC (.int 1)) (tCons (tC (.int 4)) tNil)))))
      (tRet (tCall (sp_first_of) [] E0 (tCons (tOp (rIxL K) (tFld K (tVar 0) "line") (tUn rNeg (tC (.int 1)))) (tCons (tVar 1) tNil)))))
theorem pureb_Row_first_digits {x : ExA} {K : PySem.W.Frag} {mg : Str → Option Value} {c : Addr} (R : RowF K mg c) (vs : List V) (H : Hp) (Q : VK) (E : XK) (h : spb_Row_first_digits x c vs H Q E) : rdb_Row_first_digits x E K { nx := fun _ H' => Q .non H', rt := Q } (start N_Row_first_digits vs) H := by
  match vs, h with
  | [s, a], .inl h =>
    have g := pure_Row_first_digits R [s, a] H Q E h
    unfold rd_Row_first_digits at g
    unfold rdb_Row_first_digits
    exact cb_cnt g fun _ g => g
  | [s, a], .inr ⟨hk, hb, he⟩ =>
    unfold rdb_Row_first_digits
    exact qb_cnt (i := 2) (cs := []) (v := a) rfl (Ex.refl _) hk (by rw [hb]; rfl) he fun _ _ hi => by cases (show none = some 2 from hi)
abbrev spb_Row_places (x : ExA) (c : Addr) : Sp := spe2 fun s a H Q E => sp_Row_places c [s, a] H Q E ∨ BadR x.bb H E a (begV a)
def rdb_Row_places (x : ExA) (E : XK) (K : PySem.W.Frag) : TS :=
      (tSeq (tDrop (tCall (spb_check_beginning x) [] E (tCons (tVar 1) tNil)))
      (tRet (tLc (iEnum K (tCons (tFld K (tVar 0) "line") tNil)) (gTup K 2 (gCons (gName 2) (gCons (gName 3) gNil))) (tB (tCall (sp_begins_of) [] E0 (tCons (tVar 3) (tCons (tVar 1) tNil)))) (tVar 2) [2, 3])))
theorem pureb_Row_places {x : ExA} {K : PySem.W.Frag} {mg : Str → Option Value} {c : Addr} (R : RowF K mg c) (vs : List V) (H : Hp) (Q : VK) (E : XK) (h : spb_Row_places x c vs H Q E) : rdb_Row_places x E K { nx := fun _ H' => Q .non H', rt := Q } (start N_Row_places vs) H := by
  match vs, h with
  | [s, a], .inl h =>
    have g := pure_Row_places R [s, a] H Q E h
    unfold rd_Row_places at g
    unfold rdb_Row_places
    exact cb_beg g fun _ g => g
  | [s, a], .inr ⟨hk, hb, he⟩ =>
    unfold rdb_Row_places
    exact qb_beg (i := 1) (cs := []) (v := a) rfl (Ex.refl _) hk (by rw [hb]; rfl) he fun _ _ hi => by cases (show none = some 1 from hi)
/-! ### outcomes -/
/-- done (none), or an exception -/
def Out (x : ExA) (H : Hp) (Q : VK) (E : XK) : Option Nat → Prop
  | none => ∀ u H', Ex H H' → Q u H'
  | some i => ∀ H', Ex H H' → E (.ref (x.at i)) none H'
section
variable {x : ExA} {K : PySem.W.Frag} {c : Addr} {σ : L2.St} {H H0 : Hp} {Q : VK} {E : XK} {vs : List V} {cs : List (Bool × Nat)} {r : Option Nat} {te : TE} {tu : TS} {D : Ends} {k i : Int} {a v : V} {n : Int}
theorem ob (ho : Out x H Q E r) (hk : ∀ v ∈ vs, KdV H v) (hf : ∃ j, fstB cs = some j ∧ r = some j) : BadX x H E vs cs := by
  obtain ⟨j, h1, rfl⟩ := hf
  exact ⟨hk, j, h1, ho⟩
/-- if which == i: return .. -/
theorem q_case (hk : σ[0]? = some (some (.int k))) (h1 : k = i → te σ H D.rt) (h2 : k ≠ i → tu D σ H) : tSeq (tIfS (tTest (tOp rEq (tVar 0) (tC (.int i)))) (tRet te) tNext) tu D σ H := by
  refine ⟨.int k, hk, rfl, decide (V.int k = V.int i), rfl, ?_⟩
  by_cases h : k = i
  · rw [decide_eq_true (by rw [h])]
    exact h1 h
  · rw [decide_eq_false (fun e => h (V.int.inj e))]
    exact h2 h
/-- return .. if which == i else .. -/
theorem q_last {ta tb : TE} (hk : σ[0]? = some (some (.int k))) (h1 : k = i → ta σ H D.rt) (h2 : k ≠ i → tb σ H D.rt) : tRet (tIf (tTest (tOp rEq (tVar 0) (tC (.int i)))) ta tb) D σ H := by
  refine ⟨.int k, hk, rfl, decide (V.int k = V.int i), rfl, ?_⟩
  by_cases h : k = i
  · rw [decide_eq_true (by rw [h])]
    exact h1 h
  · rw [decide_eq_false (fun e => h (V.int.inj e))]
    exact h2 h
theorem two_ex {r dx : Addr} {o o' : HO} (hr : H r = none) (hd : H dx = none) (ne : dx ≠ r) : Ex H (upd (upd H dx o) r o') := (Ex.new hd).trans (Ex.new (by rw [upd_ne ne.symm]; exact hr))
/-- Row(n), a number -/
theorem c_row {j : TE} (h : ∀ H1, Ex H H1 → Ev j σ H1 (.int n)) (hn : NumC n) (q : ∀ r l p H1, Ex H H1 → RowAt c H1 r l p [] n → H l = none → H p = none → Q (.ref r) H1) : tMake c (spb_Row_init x c) [] E (tCons j tNil) σ H Q :=
  h H (Ex.refl _) H (Ex.refl _) _ fun H1 e1 r dx hr hd ne => .inl ⟨r, dx, n, rfl, rfl, upd_same, fun _ l p H2 hR hst hl hp _ => by
    have back : ∀ u, upd (upd H1 dx (.own r)) r (.ins c dx []) u = none → H1 u = none := fun u hu => by
      have n1 : u ≠ r := fun e => by rw [e, upd_same] at hu; cases hu
      rw [upd_ne n1] at hu
      have n2 : u ≠ dx := fun e => by rw [e, upd_same] at hu; cases hu
      rw [upd_ne n2] at hu
      exact hu
    exact ⟨rfl, q r l p H2 (fun b o hb => by
      have hb1 := e1 _ _ hb
      have n1 : b ≠ r := fun e => by rw [e, hr] at hb1; cases hb1
      have n2 : b ≠ dx := fun e => by rw [e, hd] at hb1; cases hb1
      exact hst b o n1 (by rw [upd_ne n1, upd_ne n2]; exact hb1)) hR (fresh_back e1 (back l hl)) (fresh_back e1 (back p hp))⟩, fun hf => absurd hn hf⟩
theorem ex_rowgo {l p : Addr} {H1 H2 : Hp} (e : Ex H H1) (hl : H l = none) (hp : H p = none) (g : RowGo l p H1 H2) : Ex H H2 := fun b o hb => g.st b o (fun z => by rw [z, hl] at hb; cases hb) (fun z => by rw [z, hp] at hb; cases hb) (e _ _ hb)
theorem kd1 (ha : KdV H a) : ∀ v ∈ [a], KdV H v := fun u hu => by rw [List.mem_singleton.mp hu]; exact ha
theorem kd2 {b : V} (ha : KdV H a) (hb : KdV H b) : ∀ v ∈ [a, b], KdV H v := fun u hu => (List.mem_cons.mp hu).elim (fun e => e ▸ ha) (kd1 hb u)
theorem kd3 {b d : V} (ha : KdV H a) (hb : KdV H b) (hd : KdV H d) : ∀ v ∈ [a, b, d], KdV H v := fun u hu => (List.mem_cons.mp hu).elim (fun e => e ▸ ha) (kd2 hb hd u)
/-- Row(v), no number -/
theorem c_rowB {j : Nat} (hj : σ[j]? = some (some v)) (hk : KdV H v) (hv : numV v = false) (he : ∀ H', Ex H H' → E (.ref x.bn) none H') : tMake c (spb_Row_init x c) [] E (tCons (tVar j) tNil) σ H Q :=
  ⟨v, hj, fun r dx hr hd ne => .inr ⟨hk.ex (two_ex hr hd ne), hv, fun H' e => he H' ((two_ex hr hd ne).trans e)⟩⟩
end
/-! ### lists of texts -/
section
variable {K : PySem.W.Frag} {σ : L2.St} {H : Hp} {ta tb te : TE}
theorem rep_flat1 {x : V} (n : Nat) : (List.replicate n [x]).flatten = List.replicate n x := by
  induction n with
  | zero => rfl
  | succ n ih => rw [List.replicate_succ, List.flatten_cons, ih]; rfl
theorem el_rep1 {x : V} {n : Int} (h1 : EvL ta σ H [x]) (h2 : Ev tb σ H (.int n)) (h0 : 0 ≤ n) (hn : n ≤ 1000) : EvL (tOp rRep ta tb) σ H (List.replicate n.toNat x) := fun H1 e Q q =>
  h1 H1 e _ fun p H2 hp e2 hx => h2 H2 (e.trans e2) _ fun H3 e3 => ⟨p, n, [x], rfl, rfl, e3 _ _ hx, by omega, by omega, by
    show 1 * n.toNat ≤ sizeLine
    exact sz_of (by omega), fun p3 hp3 => by
    rw [rep_flat1]
    exact q p3 _ (fresh_back (e2.trans e3) hp3) ((e2.trans e3).trans (Ex.new hp3)) upd_same⟩
theorem dp_strs {H : Hp} : ∀ ns : List Str, DpAll K H (ns.map V.str) (ns.map PyData.str)
  | [] => .nil
  | n :: ns => .cons (.str n) (dp_strs ns)
theorem ep_lstS {ns : List Str} (h : EvL te σ H (ns.map V.str)) : EvP K te σ H (.list (ns.map PyData.str)) := fun H1 e Q q => h H1 e Q fun p H2 hp e2 h2 => q _ H2 e2 (.lst (sq_of h2) (dp_strs ns))
theorem shaped_sl (ns : List Str) (hs : ns.all PyData.strOk = true) : SeqAt.shaped (.list (ns.map PyData.str)) = true := by
  have h1 : ∀ ns : List Str, ns.all PyData.strOk = true → PyData.canLayAll0 (ns.map PyData.str) = true := fun ns hs => by
    induction ns with
    | nil => rfl
    | cons n r ih =>
      rw [List.all_cons, Bool.and_eq_true] at hs
      simp only [List.map_cons, PyData.canLayAll0, PyData.canLay0, ih hs.2, hs.1]
      rfl
  have h2 : ∀ ns : List Str, PyData.depthAll (ns.map PyData.str) = 0 := fun ns => by
    induction ns with
    | nil => rfl
    | cons n r ih => simp only [List.map_cons, PyData.depthAll, PyData.depth, ih]; rfl
  unfold SeqAt.shaped
  simp only [PyData.canLay0, h1 ns hs, PyData.depth, h2]
  decide
theorem eqv_sl (ns : List Str) : PyData.eqv (.list (ns.map PyData.str)) (.list (ns.map PyData.str)) = true := by
  have h : ∀ ns : List Str, PyData.eqvAll (ns.map PyData.str) (ns.map PyData.str) = true := fun ns => by
    induction ns with
    | nil => rfl
    | cons n r ih => simp only [List.map_cons, PyData.eqvAll, ih, eqv_str]; rfl
  simp only [PyData.eqv, h]
/-- two lists of texts, alike -/
theorem et_sameS {l l' : List Str} (h1 : EvL ta σ H (l.map V.str)) (h2 : EvL tb σ H (l'.map V.str)) (e : l = l') (hs : l.all PyData.strOk = true) : EvT (tTest (tOp (rNeD K) ta tb)) σ H false := by
  subst e
  exact et_is (et_test (ev_neP (ep_lstS h1) (ep_lstS h2) (shaped_sl l hs) (shaped_sl l hs))) (by rw [eqv_sl]; rfl)
theorem ev_eqS' {a b : Str} (h1 : Ev ta σ H (.str a)) (h2 : Ev tb σ H (.str b)) : Ev (tOp rEq ta tb) σ H (.bl (decide (a = b))) := ev_op h1 h2 rv_eqS
/-- [e for x in (..)] -/
theorem el_lcT {xs : List V} {j : Nat} {vs : List Nat} {tl : TE} (f : V → V) (h : EvU tl σ H xs) (hz : xs.length ≤ 1000) (hw : ∀ x, wipe ((wipe σ vs).set j (some x)) vs = wipe σ vs)
    (he : ∀ z H1, Ex H H1 → z ∈ xs → Ev te ((wipe σ vs).set j (some z)) H1 (f z)) : EvL (tLc (iTup K tl) (gName j) tYes te vs) σ H (xs.map f) := fun H0 e Q q =>
  h H0 e _ fun p H1 hp e1 h1 => ⟨p, rfl, ⟨xs, st_of h1⟩, fun Dl hD =>
    lc_tup (xs := xs) (fun i H' => H1 Dl = none ∧ Ex H1 H' ∧ H' Dl = some (.lst ((xs.take i).map f))) ⟨hD, Ex.new hD, upd_same⟩ (fun i H' _ p' => st_of (p'.2.1 p _ h1)) (fun i z H' hi p' => ⟨hw _, by
      obtain ⟨p1, p2, p3⟩ := p'
      have hil := (List.getElem?_eq_some_iff.mp hi).1
      show te _ H' _
      refine he z H' ((e.trans e1).trans p2) (List.mem_of_getElem? hi) H' (Ex.refl _) _ fun H4 e4 => ⟨_, e4 _ _ p3, Evl.sz_lt (by rw [List.length_map, List.length_take]; omega), p1, Ex.mut (p2.trans e4) p1, ?_⟩
      rw [upd_same, List.take_add_one, hi, List.map_append]
      rfl⟩) fun H' p' => by
      obtain ⟨p1, p2, p3⟩ := p'
      rw [List.take_length] at p3
      exact q Dl H' (fresh_back e1 p1) (e1.trans p2) p3⟩
end
/-! ### lists of values of some kind -/
def EvK (te : TE) (σ : L2.St) (H : Hp) (P : Hp → V → Prop) : Prop := ∀ H1, Ex H H1 → ∀ Q : VK, (∀ v H2, Ex H1 H2 → P H2 v → Q v H2) → te σ H1 Q
def EvKA (ta : TA) (σ : L2.St) (H : Hp) (P : Hp → V → Prop) (n : Nat) : Prop := ∀ H1, Ex H H1 → ∀ Q : List V → Hp → Prop, (∀ vs H2, Ex H1 H2 → vs.length = n → (∀ v ∈ vs, P H2 v) → Q vs H2) → ta σ H1 Q
section
variable {K : PySem.W.Frag} {d nn : Addr} {σ : L2.St} {H : Hp} {te ta tb : TE} {tA : TA} {P : Hp → V → Prop} {n : Nat} {v : V} {tB tu : TS} {D : Ends} {j : Nat}
theorem ek_ev (h : Ev te σ H v) (hp : ∀ H', Ex H H' → P H' v) : EvK te σ H P := fun H1 e Q q => h H1 e Q fun H2 e2 => q v H2 e2 (hp H2 (e.trans e2))
theorem ek_tup {vs : List V} (h : EvA tA σ H vs) (hl : vs.length ≤ 1000) (hp : ∀ p H', H' p = some (.tup vs) → P H' (.ref p)) : EvK (tTup tA) σ H P := fun H1 e Q q => eu_tup h (by omega) H1 e Q fun p H2 _ e2 h2 => q _ H2 e2 (hp p H2 h2)
theorem ek_nil : EvKA tNil σ H P 0 := fun H1 e Q q => q [] H1 (Ex.refl _) rfl fun v hv => nomatch hv
theorem ek_cons (h : EvK ta σ H P) (hr : EvKA tA σ H P n) (st : ∀ H H' v, Ex H H' → P H v → P H' v) : EvKA (tCons ta tA) σ H P (n + 1) := fun H1 e Q q =>
  h H1 e _ fun v H2 e2 hv => hr H2 (e.trans e2) _ fun vs H3 e3 hl hvs => q (v :: vs) H3 (e2.trans e3) (by rw [List.length_cons, hl]) fun u hu => (List.mem_cons.mp hu).elim (fun z => z ▸ st _ _ _ e3 hv) (hvs u)
/-- for x in [..] -/
theorem q_forK (st : ∀ H H' v, Ex H H' → P H v → P H' v) (h : EvKA tA σ H P n) (hn : n ≤ 1000) (Pv : L2.St → Hp → Prop) (h0 : ∀ H1, Ex H H1 → Pv σ H1)
    (hs : ∀ v σ' H' N, P H' v → Pv σ' H' → (∀ σ2 H2, Ex H' H2 → Pv σ2 H2 → N σ2 H2) → tB { D with nx := N, ct := N, bk := tu D } (σ'.set j (some v)) H') (hd : ∀ σ' H', Pv σ' H' → tu D σ' H') :
    tSeq (tFor (iList K (tLst tA)) (gName j) tB) tu D σ H :=
  h H (Ex.refl _) _ fun vs H1 e1 hl hv => ⟨sz_of (by omega), fun p hp => ⟨p, rfl, ⟨vs, sq_of upd_same⟩, for_list (D := { D with nx := tu D }) (xs := vs) (fun _ σ' H' => Ex (upd H1 p (.lst vs)) H' ∧ Pv σ' H') ⟨Ex.refl _, h0 _ (e1.trans (Ex.new hp))⟩ (fun i σ' H' hi hP => sq_of (hP.1 _ _ upd_same)) (fun i v σ' H' hi hP => hs v σ' H' _ (st _ _ _ ((Ex.new hp).trans hP.1) (hv v (List.mem_of_getElem? hi))) hP.2 fun σ2 H2 e2 h2 => ⟨hP.1.trans e2, h2⟩) fun σ' H' hP => hd σ' H' hP.2⟩⟩
theorem edl_mono {P P' : List V → Prop} (h : EvDL d nn te σ H P) (k : ∀ xs, P xs → P' xs) : EvDL d nn te σ H P' := fun H1 g Q q => h H1 g Q fun p xs H2 hx => q p xs H2 (k xs hx)
theorem el_catN {xs ys : List V} (h1 : EvL ta σ H xs) (h2 : EvL tb σ H ys) (hl : xs.length + ys.length ≤ 1000) : EvL (tOp rCat ta tb) σ H (xs ++ ys) := fun H1 e Q q =>
  h1 H1 e _ fun p1 H2 hp1 e2 hx => h2 H2 (e.trans e2) _ fun p2 H3 hp2 e3 hy => ⟨p1, p2, xs, ys, rfl, rfl, e3 _ _ hx, hy, sz_of (by omega), fun p3 hp3 => q p3 _ (fresh_back (e2.trans e3) hp3) ((e2.trans e3).trans (Ex.new hp3)) upd_same⟩
theorem el_slV {p : Addr} {xs : List V} {tl th : TO} {a b : Option Int} (h : Ev te σ H (.ref p)) (hp : H p = some (.lst xs)) (h1 : EvO tl σ H a) (h2 : EvO th σ H b) : EvL (tSl (rSlL K) te tl th) σ H (cutV xs a b) := fun H1 e Q q =>
  h H1 e _ fun H2 e2 => h1 H2 (e.trans e2) _ fun H3 e3 => h2 H3 ((e.trans e2).trans e3) _ fun H4 e4 => ⟨p, xs, rfl, sq_of ((((e.trans e2).trans e3).trans e4) _ _ hp), fun p5 hp5 => q p5 _ (fresh_back ((e2.trans e3).trans e4) hp5) (((e2.trans e3).trans e4).trans (Ex.new hp5)) upd_same⟩
end
end FD

namespace FD
open PySem PySem.Spec PyProof.Rows L2 Evl TL
local macro_rules | `(tactic| walk_at "ev") => `(tactic| repeat' (first | (with_reducible exact ev_c) | ((with_reducible apply ev_var); rfl) | (with_reducible exact ea_nil) | (with_reducible apply ea_cons) | (with_reducible apply ev_op) | (with_reducible exact rv_I0) | (with_reducible apply rv_I) | (with_reducible exact rv_eqI) | (with_reducible exact rv_neI) | (with_reducible exact rv_eqS) | (with_reducible apply ev_ok) | (with_reducible apply ev_cb) | (with_reducible apply spv_I1) | (with_reducible apply spv_I2) | (with_reducible apply spv_I3) | (with_reducible apply et_test) | (with_reducible apply et_B) | (with_reducible apply et_not) | (with_reducible apply ev_notV) | (with_reducible apply ev_un) | (with_reducible exact ru_negI) | (with_reducible exact rc_max2) | (with_reducible exact rc_min2) | (with_reducible exact rv_isB) | (with_reducible exact rv_notB) | (with_reducible exact rv_isN) | (with_reducible exact rv_notN) | (with_reducible apply ev_chainI) | (with_reducible exact rc_isiI) | (with_reducible exact rc_isiB)))
/-! ### is_row, format_beginnings: any kind -/
theorem el_lcV {K : PySem.W.Frag} {σ : L2.St} {H : Hp} {te tl : TE} {xs : List V} {j : Nat} {vs : List Nat} {a : Addr} (f : V → V) (h : Ev tl σ H (.ref a)) (ha : H a = some (.lst xs)) (hz : xs.length ≤ 1000) (hw : ∀ x, wipe ((wipe σ vs).set j (some x)) vs = wipe σ vs)
    (he : ∀ z H1, Ex H H1 → z ∈ xs → Ev te ((wipe σ vs).set j (some z)) H1 (f z)) : EvL (tLc (iList K tl) (gName j) tYes te vs) σ H (xs.map f) := fun H0 e Q q =>
  h H0 e _ fun H1 e1 => by
    have h1 := (e.trans e1) _ _ ha
    exact ⟨a, rfl, ⟨xs, sq_of h1⟩, fun Dl hD =>
    lc_list (xs := xs) (fun i H' => H1 Dl = none ∧ Ex H1 H' ∧ H' Dl = some (.lst ((xs.take i).map f))) ⟨hD, Ex.new hD, upd_same⟩ (fun i H' _ p' => sq_of (p'.2.1 a _ h1)) (fun i z H' hi p' => ⟨hw _, by
      obtain ⟨p1, p2, p3⟩ := p'
      have hil := (List.getElem?_eq_some_iff.mp hi).1
      show te _ H' _
      refine he z H' ((e.trans e1).trans p2) (List.mem_of_getElem? hi) H' (Ex.refl _) _ fun H4 e4 => ⟨_, e4 _ _ p3, Evl.sz_lt (by rw [List.length_map, List.length_take]; omega), p1, Ex.mut (p2.trans e4) p1, ?_⟩
      rw [upd_same, List.take_add_one, hi, List.map_append]
      rfl⟩) fun H' p' => by
      obtain ⟨p1, p2, p3⟩ := p'
      rw [List.take_length] at p3
      exact q Dl H' (fresh_back e1 p1) (e1.trans p2) p3⟩
def NoL (H : Hp) (v : V) : Prop := v = .non ∨ (∃ b, v = .bl b) ∨ (∃ n, v = .int n) ∨ (∃ s, v = .str s) ∨ ∃ p xs, v = .ref p ∧ H p = some (.tup xs)
theorem NoL.ex {H H' : Hp} {v : V} (h : NoL H v) (e : Ex H H') : NoL H' v := by
  rcases h with h | h | h | h | ⟨p, xs, h, h2⟩
  · exact .inl h
  · exact .inr (.inl h)
  · exact .inr (.inr (.inl h))
  · exact .inr (.inr (.inr (.inl h)))
  · exact .inr (.inr (.inr (.inr ⟨p, xs, h, e _ _ h2⟩)))
def rowVB (xs : List V) : Bool := (decide (1 ≤ (xs.length : Int)) && decide ((xs.length : Int) ≤ 20)) && xs.all begV
abbrev spb_is_row (x : ExA) : Sp := spe1 fun a H Q _ => (NoL H a ∧ ∀ H', Ex H H' → Q (.bl false) H') ∨ (∃ p xs, a = .ref p ∧ H p = some (.lst xs) ∧ (∀ v ∈ xs, KdV H v) ∧ xs.length ≤ 1000 ∧ ∀ H', Ex H H' → Q (.bl (rowVB xs)) H')
def rdb_is_row (x : ExA) (E : XK) (K : PySem.W.Frag) : TS :=
      (tRet (tAndV (tCB (rIsi K) (tCons (tVar 0) (tCons (tC (.ty "list")) tNil))) (tAndV (tChain rLeI rLeI (tC (.int 1)) (tCB (rLenSeq K) (tCons (tVar 0) tNil)) (tC (.int 20))) (tCB (rAll K) (tCons (tLc (iList K (tVar 0)) (gName 1) tYes (tCall (spb_is_beginning x) [] E0 (tCons (tVar 1) tNil)) [1]) tNil)))))
theorem pureb_is_row {x : ExA} {K : PySem.W.Frag} (vs : List V) (H : Hp) (Q : VK) (E : XK) (h : spb_is_row x vs H Q E) : rdb_is_row x E K { nx := fun _ H' => Q .non H', rt := Q } (start N_is_row vs) H := by
  match vs, h with
  | [a], .inl ⟨hk, q⟩ =>
    unfold rdb_is_row
    have no : ∀ (t : Value), (∀ H', Ex H H' → TyX K H' a t) → PySem.W.kitOne K t (.type "list") = some false → Ev (tAndV (tCB (rIsi K) (tCons (tVar 0) (tCons (tC (.ty "list")) tNil))) (tAndV (tChain rLeI rLeI (tC (.int 1)) (tCB (rLenSeq K) (tCons (tVar 0) tNil)) (tC (.int 20))) (tCB (rAll K) (tCons (tLc (iList K (tVar 0)) (gName 1) tYes (tCall (spb_is_beginning x) [] E0 (tCons (tVar 1) tNil)) [1]) tNil)))) (start N_is_row [a]) H (.bl (false && false)) := fun t ht hk => ev_andV (ev_isi rfl ht hk) fun hf => by cases hf
    rcases hk with rfl | ⟨b, rfl⟩ | ⟨n, rfl⟩ | ⟨s, rfl⟩ | ⟨p, xs, rfl, hp⟩
    · exact s_ret (no _ (fun _ _ => .base .non) (kit_ty (by decide +kernel))) q
    · exact s_ret (no _ (fun _ _ => .base (.bl b)) (kit_ty (by decide +kernel))) q
    · exact s_ret (no _ (fun _ _ => .base (.int n)) (kit_ty (by decide +kernel))) q
    · exact s_ret (no _ (fun _ _ => .base (.str s)) (kit_ty (by decide +kernel))) q
    · exact s_ret (no _ (fun _ e => .base (.tup (e _ _ hp))) (kit_ty (by decide +kernel))) q
  | [a], .inr ⟨p, xs, ha, hp, hk, hz, q⟩ =>
    subst ha
    unfold rdb_is_row
    refine s_ret (v := .bl (rowVB xs)) (ev_is (ev_andV (a := true) (b := (decide (1 ≤ (xs.length : Int)) && decide ((xs.length : Int) ≤ 20)) && ((xs.map begV).all id)) (ev_isi rfl (fun _ e => .base (.lst (e _ _ hp))) (kit_ty (by decide +kernel))) fun _ => ev_andV (ev_chainI ev_c (ev_lenVL (ev_var rfl) hp) ev_c) fun _ => ev_all (el_is (el_lcV (fun v => .bl (begV v)) (ev_var rfl) hp hz (fun _ => rfl) fun z H1 e1 hz => ev_bbeg (ev_var rfl) ((hk z hz).ex e1)) (by rw [List.map_map]; rfl))) ?_) q
    unfold rowVB
    rw [List.all_map]
    rfl
/-- no list of beginnings -/
def BadL (H : Hp) (v : V) : Prop := NoL H v ∨ ∃ p xs, v = .ref p ∧ H p = some (.lst xs) ∧ (∀ u ∈ xs, KdV H u) ∧ xs.length ≤ 1000 ∧ rowVB xs = false
theorem BadL.ex {H H' : Hp} {v : V} (h : BadL H v) (e : Ex H H') : BadL H' v := h.imp (fun h => h.ex e) fun ⟨p, xs, h1, h2, h3, h4⟩ => ⟨p, xs, h1, e _ _ h2, fun u hu => (h3 u hu).ex e, h4⟩
abbrev spb_format_beginnings (x : ExA) : Sp := spe1 fun a H Q E => sp_format_beginnings [a] H Q E ∨ (BadL H a ∧ ∀ H', Ex H H' → E (.ref x.bb) none H')
def rdb_format_beginnings (x : ExA) (E : XK) (K : PySem.W.Frag) : TS :=
      (tSeq (tIfS (tNot (tB (tCall (spb_is_row x) [] E0 (tCons (tVar 0) tNil))))
        (tRaise x.bb E)
        tNext)
      (tRet (tCall (sp_text_of) [] E0 (tCons (tVar 0) tNil))))
theorem pureb_format_beginnings {x : ExA} {K : PySem.W.Frag} (vs : List V) (H : Hp) (Q : VK) (E : XK) (h : spb_format_beginnings x vs H Q E) : rdb_format_beginnings x E K { nx := fun _ H' => Q .non H', rt := Q } (start N_format_beginnings vs) H := by
  match vs, h with
  | [a], .inl h =>
    obtain ⟨p, ns, rfl, hp, hR, q⟩ := h
    unfold rdb_format_beginnings
    have hi := hR.hi
    have hB : rowVB (ns.map V.int) = true := by
      have := (rowB_iff ns).mpr hR
      unfold rowB at this
      unfold rowVB
      rw [List.length_map, List.all_map]
      exact this
    refine q_if1 (b := !true) (et_not (et_B fun H1 e Q' q' => ⟨.ref p, rfl, .inr ⟨p, ns.map V.int, rfl, e _ _ hp, fun v hv => ?_, by rw [List.length_map]; omega, by rw [hB]; exact q'⟩⟩)) (fun hb => by cases hb) (fun _ H1 e1 => ?_)
    · obtain ⟨z, _, rfl⟩ := List.mem_map.mp hv
      exact .int
    · exact ⟨.ref p, rfl, p, ns, rfl, e1 _ _ hp, hR, fun H2 e2 => q H2 (e1.trans e2)⟩
  | [a], .inr ⟨hb, he⟩ =>
    unfold rdb_format_beginnings
    refine q_if1 (b := !false) (et_not (et_B fun H1 e Q' q' => ⟨a, rfl, ?_⟩)) (fun _ H1 e1 => he H1 e1) (fun hf => by cases hf)
    rcases hb.ex e with h | ⟨p, xs, rfl, h1, h2, h3, h4⟩
    · exact .inl ⟨h, q'⟩
    · exact .inr ⟨p, xs, rfl, h1, h2, h3, by rw [h4]; exact q'⟩
section
variable {σ : L2.St} {H : Hp} {A B : TS} {D : Ends} {k i : Int} {j : Nat}
/-- if x == i: .. else: .. -/
theorem s_case (hk : σ[j]? = some (some (.int k))) (h1 : k = i → A D σ H) (h2 : k ≠ i → B D σ H) : tIfS (tTest (tOp rEq (tVar j) (tC (.int i)))) A B D σ H := by
  refine ⟨.int k, hk, rfl, decide (V.int k = V.int i), rfl, ?_⟩
  by_cases h : k = i
  · rw [decide_eq_true (by rw [h])]
    exact h1 h
  · rw [decide_eq_false (fun e => h (V.int.inj e))]
    exact h2 h
end
theorem out_try {x : ExA} {H : Hp} {r : Option Nat} {nx : Hp → Prop} {W : Value → Option Addr → Hp → Prop} (hl : ∀ i, r = some i → i < 5) (h1 : r = none → ∀ H', Ex H H' → nx H') (h2 : ∀ i, i < 5 → r = some i → ∀ H', Ex H H' → W (.ref (x.at i)) none H') : Out x H (fun _ H' => nx H') W r := by
  cases r with
  | none => exact fun u H' e => h1 rfl H' e
  | some i => exact fun H' e => h2 i (hl i rfl) rfl H' e
def outS : Option Nat → Str
  | none => "done"
  | some i => exName i
end FD

namespace FD
open PySem PySem.Spec PyProof.Rows L2 Evl TL L2H
/-! ### a def called within an except suite whose exception is tracked: its body raises nothing and walks nothing -/
structure FnQ (P : Program) (w : World) (K : PySem.W.Frag) (mg : Str → Option Value) (base : Heap) (k : Nat) (f : Addr) (fd : FuncData) (ps : List Str) (sp : Sp) : Prop where
  len : ∀ vs H Q E, sp vs H Q E → vs.length = ps.length
  run : ∀ (A : Around) (outer : List Env) (s : Shared) (H : Hp) (args : Args) (us : List Value) (vs : List V) (Q : VK) (E : XK), RoomH k A → Env0 P w K mg base A outer s H → BindsTo s fd args (ps.zip us) → Vals vs us → sp vs H Q E → codeAny (model P w) A (.call (.ref f) args) (CR CX0 outer P w H s Q E) s
section
variable {P : Program} {w : World} {K : PySem.W.Frag} {mg : Str → Option Value} {base : Heap}
/-- the def's own object, as a pin -/
theorem pin_fn {A : Around} {outer : List Env} {s : Shared} {H : Hp} {f : Addr} {o : Obj} {fd : FuncData} (e0 : Env0 P w K mg base A outer s H) (lk : K.lookup f = some o) (ho : o.data = .func fd) : PinOk outer H s (f, o) := by
  have hb := e0.mod.kin f o lk
  have h1 := e0.bs f o hb
  refine ⟨h1.1, h1.2, fun hm => ?_, fun v hv => ?_⟩
  · have := (e0.funs.mem hm).1
    rw [hb] at this
    cases this
  · have hv : o.data = .cell v := hv
    rw [ho] at hv
    cases hv
theorem fn_quiet {k : Nat} {f : Addr} {name qual : Str} {params : Arguments} {body : List Stmt} {scope : Scope} {dV kV doc pm cdv ct oc : Value} {an od : Option Addr} {osl : Array (Option Value)} {N ps : List Str} {sp : Sp}
    (lk : K.lookup f = some ⟨oc, od, .func (PySem.W.fnOf name qual params body scope dV kV doc pm an cdv ct), osl⟩) (hcd : PySem.W.codeIn K cdv qual = true) (S : FnScope N ps scope) (len : ∀ vs H Q E, sp vs H Q E → vs.length = ps.length) (rd : TS) (pure : ∀ vs H Q E, sp vs H Q E → rd { nx := fun _ H' => Q .non H', rt := Q } (L2.start N vs) H)
    (hbody : ∀ (A : Around) (outer : List Env) (s : Shared) (H : Hp) (E : XK) (p : Addr × Obj), PSs (cxH CX0 P w K mg base N qual scope f cdv A outer s H E p) body rd) :
    FnQ P w K mg base (k + 1) f (PySem.W.fnOf name qual params body scope dV kV doc pm an cdv ct) ps sp := by
  refine ⟨len, fun A outer s H args us vs Q E hr e0 hb r hsp => ?_⟩
  have KX : K.In s.heap := e0.mod.kin.keeps fun b o e => (e0.bs b o e).1
  have nl : s.heap.NoLimit := e0.mod.nolimit.keeps fun b o e => (e0.bs b o e).1
  have kinds : ∀ y ∈ ps.zip us, scope.names.lookup y.1 = some .local ∨ (scope.names.lookup y.1 = some .cell ∧ ((cellsFrom (s.heap.objs.size + 1) scope.names []).lookup y.1).isSome = true) := fun y hy =>
    (S.par y.1 (List.of_mem_zip (a := y.1) (b := y.2) hy).1).imp id fun q => ⟨q, PySem.W.cellsFrom_some _ _ _ (.inl q)⟩
  refine codeAny_call_function hr.depth (KX _ _ lk) rfl S.co S.gen rfl (PySem.W.codeRec_of KX hcd) (hb _ _ _ _ (wpAny_newFunctionEnv_cells S.kind kinds fun env he s1 x => ?_))
  subst he
  refine ⟨nl.keeps x.toInCall.keep, codeAny_func ?_⟩
  have I := inv_startH (CX := CX0) (E := E) S (pin_fn e0 lk rfl) e0 (len _ _ _ _ hsp) r x
  refine wpAny_mono ((hbody A outer s H E _).run [] s1 (L2.start N vs) H _ I (pure vs H Q E hsp)) (fun fl s' hs => ?_) fun e s' hs => hs
  cases fl with
  | ret u =>
    obtain ⟨v, σ', H', J, rv, q⟩ := hs
    exact ⟨v, H', J.os, J.bare, J.base, J.hok, rv, q⟩
  | next =>
    obtain ⟨σ', H', J, q⟩ := hs
    exact ⟨.non, H', J.os, J.bare, J.base, J.hok, rfl, q⟩
  | brk => exact hs.elim fun _ hs => hs.elim fun _ hs => hs.2.elim
  | cont => exact hs.elim fun _ hs => hs.elim fun _ hs => hs.2.elim
end
structure OkQ (P : Program) (w : World) (K : PySem.W.Frag) (mg : Str → Option Value) (base : Heap) (k : Nat) (x : Str) (ps : List Str) (sp : Sp) : Prop where
  ex : ∃ (f : Addr) (fd : FuncData), mg x = some (.ref f) ∧ PySem.W.keepIn K (.ref f) = true ∧ Binds K fd ps [] ∧ FnQ P w K mg base k f fd ps sp
theorem OkQ.of {P : Program} {w : World} {K : PySem.W.Frag} {mg : Str → Option Value} {base : Heap} {x : Str} {st : Stmt} {N ps : List Str} {k : Nat} {sp : Sp} (F : FunAt K mg x st) (S : FnScope N ps (defScope st)) (len : ∀ vs H Q E, sp vs H Q E → vs.length = ps.length)
    (hb : ∀ (kV doc pm : Value) (an : Option Addr) (cdv ct : Value) (us : List Value), us.length = ps.length → bindArgs (PySem.W.fnOf x x (defArgs st) (defBody st) (defScope st) .none kV doc pm an cdv ct) ⟨us, []⟩ = pure (ps.zip us))
    (rd : TS) (pure : ∀ vs H Q E, sp vs H Q E → rd { nx := fun _ H' => Q .non H', rt := Q } (start N vs) H)
    (hbody : ∀ (f : Addr) (cdv : Value) (A : Around) (outer : List Env) (s : Shared) (H : Hp) (E : XK) (p : Addr × Obj), PSs (cxH CX0 P w K mg base N x (defScope st) f cdv A outer s H E p) (defBody st) rd) : OkQ P w K mg base (k + 1) x ps sp := by
  obtain ⟨f, fd, hm, F⟩ := F.ex
  have hB := F.binds hb
  have hK := F.kp
  obtain ⟨oc, od, kV, doc, pm, an, cd, ct, osl, rfl, lk, hcd⟩ := F.ex
  exact ⟨f, _, hm, hK, hB, fn_quiet lk hcd S len rd pure fun A outer s H E p => hbody f cd A outer s H E p⟩
section
variable {X : Cx} {k : Nat} {ps : List Str} {sp : Sp} {x : Str} {p pos : Pos} {e : Expr} {es : List Expr} {t : TA}
theorem pe_okQ (G : OkQ X.prog X.w X.K X.mg X.base k x ps sp) (hr : RoomH k X.A) (hg : Gl X x) (ha : PA X (e :: es) t)
    (hdb : (x == ("__debug__" : Str)) = false := by decide) (he : starEach (e :: es) X.env = (false, eval e X.env) :: starEach es X.env := by rfl) (hpl : (backTo pos (starEach es X.env)).any (·.1) = false := by rfl) :
    PE X (.Call (.Name x p) (e :: es) [] pos) (tCall sp [] E0 t) := by
  obtain ⟨f, fd, hm, hk, hb, F⟩ := G.ex
  refine ⟨fun pins s σ H Q I h => wpAny_Call_Name_kw (ld_glob I hg hm (PySem.W.callWith_K (h₀ := X.base) I.ok.mod.kin hk (thn (ha.run pos pins s σ H _ I h) fun us s1 ⟨vs, H1, I1, r, q⟩ => ⟨I1.kIn, ?_⟩) he hpl) hdb)⟩
  replace q : sp (vs ++ []) H1 Q E0 := q
  rw [List.append_nil] at q
  have b := hb s1 us I1.kIn (by rw [List.append_nil, ← r.length]; exact F.len _ _ _ _ q)
  rw [List.append_nil] at b
  refine wpAny_call (codeAny_mono (F.run X.A X.stack s1 H1 ⟨us, []⟩ us vs Q E0 hr I1.env0 b r q) fun r s' hq => ?_)
  rcases r with er | fl
  · exact False.elim hq
  · cases fl with
    | ret u => exact I1.after hq
    | next => exact False.elim hq
    | brk => exact False.elim hq
    | cont => exact False.elim hq
theorem room_mark {j : Nat} {A : Around} {v : Option Value} (r : Room k A) (h : j ≤ k) : RoomH j (A.mark v) := ⟨(r.mono h).dp, (r.mono h).un⟩
end
end FD

namespace FD
open PySem PySem.Spec PyProof.Rows L2 Evl TL
local macro_rules | `(tactic| walk_at "ev") => `(tactic| repeat' (first | (with_reducible exact ev_c) | ((with_reducible apply ev_var); rfl) | (with_reducible exact ea_nil) | (with_reducible apply ea_cons) | (with_reducible apply ev_op) | (with_reducible exact rv_I0) | (with_reducible apply rv_I) | (with_reducible exact rv_eqI) | (with_reducible exact rv_neI) | (with_reducible exact rv_eqS) | (with_reducible apply ev_ok) | (with_reducible apply ev_cb) | (with_reducible apply spv_I1) | (with_reducible apply spv_I2) | (with_reducible apply spv_I3) | (with_reducible apply et_test) | (with_reducible apply et_B) | (with_reducible apply et_not) | (with_reducible apply ev_notV) | (with_reducible apply ev_un) | (with_reducible exact ru_negI) | (with_reducible exact rc_max2) | (with_reducible exact rc_min2) | (with_reducible exact rv_isB) | (with_reducible exact rv_notB) | (with_reducible exact rv_isN) | (with_reducible exact rv_notN) | (with_reducible apply ev_chainI) | (with_reducible exact rc_isiI) | (with_reducible exact rc_isiB)))
theorem one : BegC 1 := ⟨by decide, by decide⟩
theorem two : BegC 2 := ⟨by decide, by decide⟩
theorem s7 : StepC 7 := ⟨by decide, by decide⟩
theorem base2 : BaseC 2 := ⟨by decide, by decide⟩
theorem n1 : NumC 1 := ⟨by decide, by decide⟩
theorem n12345 : NumC 12345 := ⟨by decide, by decide⟩
theorem size_1 : size 1 = 1 := by decide +kernel
/-- the roots of one stretch are there if one square lies within -/
theorem rw_le {b c lo hi y : Int} (hW : RWith b c lo hi) (hy : 1 ≤ y) (h1 : stF b c ≤ y * y) (h2 : y * y ≤ stL b c) : lo ≤ hi := by
  have h3 := root_in hW.l (by omega) h1 h2
  have := hW.h.lt (y := lo) (by have := hW.l.r1; omega) (by omega)
  omega
theorem rw_one {m lo hi : Int} (m0 : 1 ≤ m) (hW : RWith 1 m lo hi) : lo ≤ hi := by
  by_cases h1 : m = 1
  · subst h1
    exact rw_le (y := 1) hW (by decide) (by decide +kernel) (by decide +kernel)
  · by_cases h2 : m = 2
    · subst h2
      exact rw_le (y := 4) hW (by decide) (by decide +kernel) (by decide +kernel)
    · have h3 := has_of (b := 1) (c := m) (by decide) (by rw [size_1]; omega) (by rw [size_1]; omega) hW.l
      have := hW.h.lt (y := lo) (by have := hW.l.r1; omega) (by omega)
      omega
def hiL : List Int := [4, 4, 4, 3, 3, 3, 3, 3, 3, 60, 60, 60, 300, 300, 300, 300, 300, 600, 1000, 1000000000]
def loL : List Int := [1, 1, 1, 1, 1, 1, 1, 1, 1, 1, 1, 1, 0, 0, 0, 0, 0, 1, 1, 0]
def hiF (k : Int) : Int := hiL.getD k.toNat 0
def loF (k : Int) : Int := loL.getD k.toNat 0
def outC (k : Int) (v : V) : Option Nat := if intV v (loF k) (hiF k) = true then none else some 2
def bhi (k : Int) : Int := if k < 8 then 99 else 1000000
def blo (k : Int) : Int := if k < 8 then 2 else 1
def dueB (k : Int) : Option Nat := if k = 7 then none else if k = 4 then some 2 else if k = 5 then some 2 else if k = 6 then some 2 else some 1
def outB (k : Int) (v : V) : Option Nat := if intV v (blo k) (bhi k) = true then dueB k else some 0
theorem outC_lt {k : Int} {v : V} {i : Nat} (h : outC k v = some i) : i < 5 := by
  unfold outC at h
  split at h
  · cases h
  · cases h; decide
theorem outB_lt {k : Int} {v : V} {i : Nat} (h : outB k v = some i) : i < 5 := by
  unfold outB dueB at h
  repeat' (split at h)
  all_goals first | (cases h; decide) | cases h
abbrev spx_law_counted (x : ExA) : Sp := spe2 fun a v H Q E => ∃ k, a = .int k ∧ (0 ≤ k ∧ k < 20) ∧ KdV H v ∧ Out x H Q E (outC k v)
abbrev spx_law_powers (x : ExA) : Sp := spe2 fun a v H Q E => ∃ k, a = .int k ∧ (12 ≤ k ∧ k < 20) ∧ KdV H v ∧ Out x H Q E (outC k v)
abbrev spx_law_based (x : ExA) : Sp := spe2 fun a v H Q E => ∃ k, a = .int k ∧ (0 ≤ k ∧ k < 11) ∧ KdV H v ∧ Out x H Q E (outB k v)
def N_law_counted : List Str := ["which", "count"]
def N_law_powers : List Str := ["which", "most"]
def N_law_based : List Str := ["which", "base"]
def rdx_law_counted (x : ExA) (c : Addr) (E : XK) (K : PySem.W.Frag) : TS :=
      (tSeq (tIfS (tTest (tOp rEq (tVar 0) (tC (.int 0))))
        (tRet (tCall (spb_first_digits x) [] E (tCons (tC (.int 12345)) (tCons (tVar 1) tNil))))
        tNext)
      (tSeq (tIfS (tTest (tOp rEq (tVar 0) (tC (.int 1))))
        (tRet (tCall (spb_longer x) [] E (tCons (tC (.int 1)) (tCons (tVar 1) tNil))))
        tNext)
      (tSeq (tIfS (tTest (tOp rEq (tVar 0) (tC (.int 2))))
        (tRet (tMeth c "first_digits" (spb_Row_first_digits x c) [] E (tMake c (spb_Row_init x c) [] E (tCons (tC (.int 12345)) tNil)) (tCons (tVar 1) tNil)))
        tNext)
      (tSeq (tIfS (tTest (tOp rEq (tVar 0) (tC (.int 3))))
        (tRet (tCall (spb_products x) [] E (tCons (tC (.int 1)) (tCons (tC (.int 2)) (tCons (tVar 1) tNil)))))
        tNext)
      (tSeq (tIfS (tTest (tOp rEq (tVar 0) (tC (.int 4))))
        (tRet (tCall (spb_quotients x) [] E (tCons (tC (.int 1)) (tCons (tC (.int 2)) (tCons (tVar 1) tNil)))))
        tNext)
      (tSeq (tIfS (tTest (tOp rEq (tVar 0) (tC (.int 5))))
        (tRet (tCall (spb_sums x) [] E (tCons (tC (.int 1)) (tCons (tC (.int 2)) (tCons (tVar 1) tNil)))))
        tNext)
      (tSeq (tIfS (tTest (tOp rEq (tVar 0) (tC (.int 6))))
        (tRet (tCall (spb_squares x) [] E (tCons (tC (.int 1)) (tCons (tVar 1) tNil))))
        tNext)
      (tSeq (tIfS (tTest (tOp rEq (tVar 0) (tC (.int 7))))
        (tRet (tCall (spb_roots x) [] E (tCons (tC (.int 1)) (tCons (tVar 1) tNil))))
        tNext)
      (tSeq (tIfS (tTest (tOp rEq (tVar 0) (tC (.int 8))))
        (tRet (tCall (spb_never x) [] E (tCons (tC (.int 2)) (tCons (tVar 1) (tCons (tC (.int 5)) tNil)))))
        tNext)
      (tSeq (tIfS (tTest (tOp rEq (tVar 0) (tC (.int 9))))
        (tRet (tCall (spb_stretch x) [] E (tCons (tC (.int 1)) (tCons (tVar 1) tNil))))
        tNext)
      (tSeq (tIfS (tTest (tOp rEq (tVar 0) (tC (.int 10))))
        (tRet (tCall (spb_count_multiples x) [] E (tCons (tC (.int 7)) (tCons (tC (.int 1)) (tCons (tVar 1) tNil)))))
        tNext)
      (tSeq (tIfS (tTest (tOp rEq (tVar 0) (tC (.int 11))))
        (tRet (tCall (spb_roots_with x) [] E (tCons (tC (.int 1)) (tCons (tVar 1) tNil))))
        tNext)
      (tRet (tCall (spx_law_powers x) [] E (tCons (tVar 0) (tCons (tVar 1) tNil))))))))))))))))
def rdx_law_powers (x : ExA) (E : XK) (K : PySem.W.Frag) : TS :=
      (tSeq (tIfS (tTest (tOp rEq (tVar 0) (tC (.int 12))))
        (tRet (tCall (spb_power_places x) [] E (tCons (tC (.int 2)) (tCons (tC (.int 1)) (tCons (tVar 1) tNil)))))
        tNext)
      (tSeq (tIfS (tTest (tOp rEq (tVar 0) (tC (.int 13))))
        (tRet (tCall (spb_first_power x) [] E (tCons (tC (.int 2)) (tCons (tC (.int 1)) (tCons (tVar 1) tNil)))))
        tNext)
      (tSeq (tIfS (tTest (tOp rEq (tVar 0) (tC (.int 14))))
        (tRet (tCall (spb_waits x) [] E (tCons (tC (.int 2)) (tCons (tC (.int 1)) (tCons (tVar 1) tNil)))))
        tNext)
      (tSeq (tIfS (tTest (tOp rEq (tVar 0) (tC (.int 15))))
        (tRet (tCall (spb_digit_table x) [] E (tCons (tC (.int 2)) (tCons (tVar 1) tNil))))
        tNext)
      (tSeq (tIfS (tTest (tOp rEq (tVar 0) (tC (.int 16))))
        (tRet (tCall (spb_never x) [] E (tCons (tC (.int 2)) (tCons (tC (.int 1)) (tCons (tVar 1) tNil)))))
        tNext)
      (tSeq (tIfS (tTest (tOp rEq (tVar 0) (tC (.int 17))))
        (tRet (tCall (spb_powers_with x) [] E (tCons (tC (.int 2)) (tCons (tVar 1) tNil))))
        tNext)
      (tSeq (tIfS (tTest (tOp rEq (tVar 0) (tC (.int 18))))
        (tRet (tCall (spb_multiple_places x) [] E (tCons (tC (.int 7)) (tCons (tC (.int 1)) (tCons (tVar 1) tNil)))))
        tNext)
      (tRet (tCall (spb_number_at x) [] E (tCons (tC (.int 1)) (tCons (tVar 1) tNil)))))))))))
def rdx_law_based (x : ExA) (c : Addr) (E : XK) (K : PySem.W.Frag) : TS :=
      (tSeq (tIfS (tTest (tOp rEq (tVar 0) (tC (.int 0))))
        (tRet (tCall (spb_power_places x) [] E (tCons (tVar 1) (tCons (tC .non) (tCons (tC .non) tNil)))))
        tNext)
      (tSeq (tIfS (tTest (tOp rEq (tVar 0) (tC (.int 1))))
        (tRet (tCall (spb_first_power x) [] E (tCons (tVar 1) (tCons (tC .non) (tCons (tC .non) tNil)))))
        tNext)
      (tSeq (tIfS (tTest (tOp rEq (tVar 0) (tC (.int 2))))
        (tRet (tCall (spb_waits x) [] E (tCons (tVar 1) (tCons (tC .non) (tCons (tC .non) tNil)))))
        tNext)
      (tSeq (tIfS (tTest (tOp rEq (tVar 0) (tC (.int 3))))
        (tRet (tCall (spb_longest_wait x) [] E (tCons (tVar 1) (tCons (tC .non) (tCons (tC .non) tNil)))))
        tNext)
      (tSeq (tIfS (tTest (tOp rEq (tVar 0) (tC (.int 4))))
        (tRet (tCall (spb_digit_table x) [] E (tCons (tVar 1) (tCons (tC .non) tNil))))
        tNext)
      (tSeq (tIfS (tTest (tOp rEq (tVar 0) (tC (.int 5))))
        (tRet (tCall (spb_never x) [] E (tCons (tVar 1) (tCons (tC .non) (tCons (tC .non) tNil)))))
        tNext)
      (tSeq (tIfS (tTest (tOp rEq (tVar 0) (tC (.int 6))))
        (tRet (tCall (spb_powers_with x) [] E (tCons (tVar 1) (tCons (tC .non) tNil))))
        tNext)
      (tSeq (tIfS (tTest (tOp rEq (tVar 0) (tC (.int 7))))
        (tRet (tMeth c "multiply" (spb_Row_multiply x c) [] E (tMake c (spb_Row_init x c) [] E (tCons (tC (.int 1)) tNil)) (tCons (tVar 1) tNil)))
        tNext)
      (tSeq (tIfS (tTest (tOp rEq (tVar 0) (tC (.int 8))))
        (tRet (tCall (spb_first_multiple x) [] E (tCons (tVar 1) (tCons (tC .non) tNil))))
        tNext)
      (tRet (tIf (tTest (tOp rEq (tVar 0) (tC (.int 9)))) (tCall (spb_multiple_places x) [] E (tCons (tVar 1) (tCons (tC .non) (tCons (tC .non) tNil)))) (tCall (spb_count_multiples x) [] E (tCons (tVar 1) (tCons (tC .non) (tCons (tC .non) tNil)))))))))))))))
theorem purex_law_powers {x : ExA} {K : PySem.W.Frag} (vs : List V) (H : Hp) (Q : VK) (E : XK) (h : spx_law_powers x vs H Q E) : rdx_law_powers x E K { nx := fun _ H' => Q .non H', rt := Q } (start N_law_powers vs) H := by
  match vs, h with
  | [a, v], ⟨k, ha, hk, hv, ho⟩ =>
    subst ha
    unfold rdx_law_powers
    cases hb : intV v (loF k) (hiF k) with
    | false =>
      replace ho : Out x H Q E (some 2) := by unfold outC at ho; rw [hb] at ho; exact ho
      refine q_case rfl (fun h => by subst h; exact ⟨v, rfl, .inr (ob (r := some 2) ho (kd3 .int .int hv) ⟨2, by rw [show intV v 0 300 = false from hb]; rfl, rfl⟩)⟩) fun h12 => ?_
      refine q_case rfl (fun h => by subst h; exact ⟨v, rfl, .inr (ob (r := some 2) ho (kd3 .int .int hv) ⟨2, by rw [show intV v 0 300 = false from hb]; rfl, rfl⟩)⟩) fun h13 => ?_
      refine q_case rfl (fun h => by subst h; exact ⟨v, rfl, .inr (ob (r := some 2) ho (kd3 .int .int hv) ⟨2, by rw [show intV v 0 300 = false from hb]; rfl, rfl⟩)⟩) fun h14 => ?_
      refine q_case rfl (fun h => by subst h; exact ⟨v, rfl, .inr (ob (r := some 2) ho (kd2 .int hv) ⟨2, by rw [show intV v 0 300 = false from hb]; rfl, rfl⟩)⟩) fun h15 => ?_
      refine q_case rfl (fun h => by subst h; exact ⟨v, rfl, .inr (ob (r := some 2) ho (kd3 .int .int hv) ⟨2, by rw [show intV v 0 300 = false from hb]; rfl, rfl⟩)⟩) fun h16 => ?_
      refine q_case rfl (fun h => by subst h; exact ⟨v, rfl, .inr (ob (r := some 2) ho (kd2 .int hv) ⟨2, by rw [show intV v 1 600 = false from hb]; rfl, rfl⟩)⟩) fun h17 => ?_
      refine q_case rfl (fun h => by subst h; exact ⟨v, rfl, .inr (ob (r := some 2) ho (kd3 .int .int hv) ⟨2, by rw [show intV v 1 1000 = false from hb]; rfl, rfl⟩)⟩) fun h18 => ?_
      have hk19 : k = 19 := by omega
      subst hk19
      exact ⟨v, rfl, .inr (ob (r := some 2) ho (kd2 .int hv) ⟨2, by rw [show intV v 0 1000000000 = false from hb]; rfl, rfl⟩)⟩
    | true =>
      replace ho : Out x H Q E none := by unfold outC at ho; rw [hb] at ho; exact ho
      obtain ⟨m, rfl, m0, m1⟩ := intV_is hb
      refine q_case rfl (fun h => by subst h; have m0 : 0 ≤ m := m0; have m1 : m ≤ 300 := m1; exact ⟨.int m, rfl, .inl ⟨2, 1, m, rfl, rfl, rfl, ⟨base2, one, m0, m1⟩, fun p H' _ e _ => ho _ H' e⟩⟩) fun h12 => ?_
      refine q_case rfl (fun h => by subst h; have m0 : 0 ≤ m := m0; have m1 : m ≤ 300 := m1; exact ⟨.int m, rfl, .inl ⟨2, 1, m, rfl, rfl, rfl, ⟨base2, one, m0, m1⟩, fun H' e => ho _ H' e⟩⟩) fun h13 => ?_
      refine q_case rfl (fun h => by subst h; have m0 : 0 ≤ m := m0; have m1 : m ≤ 300 := m1; exact ⟨.int m, rfl, .inl ⟨2, 1, m, rfl, rfl, rfl, ⟨base2, one, m0, m1⟩, fun p H' _ e _ => ho _ H' e⟩⟩) fun h14 => ?_
      refine q_case rfl (fun h => by subst h; have m0 : 0 ≤ m := m0; have m1 : m ≤ 300 := m1; exact ⟨.int m, rfl, .inl ⟨2, m, rfl, rfl, ⟨base2, m0, m1⟩, fun p H' _ e _ => ho _ H' e⟩⟩) fun h15 => ?_
      refine q_case rfl (fun h => by subst h; have m0 : 0 ≤ m := m0; have m1 : m ≤ 300 := m1; exact ⟨.int m, rfl, .inl ⟨2, 1, m, rfl, rfl, rfl, ⟨base2, ⟨by decide, by decide⟩, m0, m1⟩, fun p H' _ e _ => ho _ H' e⟩⟩) fun h16 => ?_
      refine q_case rfl (fun h => by subst h; have m0 : 1 ≤ m := m0; have m1 : m ≤ 600 := m1; exact ⟨.int m, rfl, .inl ⟨2, m, rfl, rfl, ⟨base2, m0, m1⟩, fun p H' _ e _ => ho _ H' e⟩⟩) fun h17 => ?_
      refine q_case rfl (fun h => by subst h; have m0 : 1 ≤ m := m0; have m1 : m ≤ 1000 := m1; exact ⟨.int m, rfl, .inl ⟨7, 1, m, rfl, rfl, rfl, ⟨s7, one, m0, m1⟩, fun p H' _ e _ => ho _ H' e⟩⟩) fun h18 => ?_
      have h : k = 19 := by omega
      subst h
      have m0 : 0 ≤ m := m0
      have m1 : m ≤ 1000000000 := m1
      exact ⟨.int m, rfl, .inl ⟨1, m, rfl, rfl, one, m0, m1, fun k l _ _ _ _ H' e => ho _ H' e⟩⟩
theorem purex_law_counted {x : ExA} {K : PySem.W.Frag} {c : Addr} (vs : List V) (H : Hp) (Q : VK) (E : XK) (h : spx_law_counted x vs H Q E) : rdx_law_counted x c E K { nx := fun _ H' => Q .non H', rt := Q } (start N_law_counted vs) H := by
  match vs, h with
  | [a, v], ⟨k, ha, hk, hv, ho⟩ =>
    subst ha
    unfold rdx_law_counted
    cases hb : intV v (loF k) (hiF k) with
    | false =>
      replace ho : Out x H Q E (some 2) := by unfold outC at ho; rw [hb] at ho; exact ho
      refine q_case rfl (fun h => by subst h; exact ⟨v, rfl, .inr (ob (r := some 2) ho (kd2 .int hv) ⟨2, by rw [show intV v 1 4 = false from hb]; rfl, rfl⟩)⟩) fun h0 => ?_
      refine q_case rfl (fun h => by subst h; exact ⟨v, rfl, .inr (ob (r := some 2) ho (kd2 .int hv) ⟨2, by rw [show intV v 1 4 = false from hb]; rfl, rfl⟩)⟩) fun h1 => ?_
      refine q_case rfl (fun h => ?_) fun h2 => ?_
      · subst h
        refine c_row (fun _ _ => ev_c) n12345 fun r l p H1 e1 hR hl hp => ?_
        obtain ⟨dx, hd⟩ := hR.ob
        exact ⟨r, dx, _, rfl, hd, lk_none (by decide +kernel) (by decide +kernel), v, rfl, .inr ⟨hv.ex e1, hb, fun H' e => ho H' (e1.trans e)⟩⟩
      refine q_case rfl (fun h => by subst h; exact ⟨v, rfl, .inr (ob (r := some 2) ho (kd3 .int .int hv) ⟨2, by rw [show intV v 1 3 = false from hb]; rfl, rfl⟩)⟩) fun h3 => ?_
      refine q_case rfl (fun h => by subst h; exact ⟨v, rfl, .inr (ob (r := some 2) ho (kd3 .int .int hv) ⟨2, by rw [show intV v 1 3 = false from hb]; rfl, rfl⟩)⟩) fun h4 => ?_
      refine q_case rfl (fun h => by subst h; exact ⟨v, rfl, .inr (ob (r := some 2) ho (kd3 .int .int hv) ⟨2, by rw [show intV v 1 3 = false from hb]; rfl, rfl⟩)⟩) fun h5 => ?_
      refine q_case rfl (fun h => by subst h; exact ⟨v, rfl, .inr (ob (r := some 2) ho (kd2 .int hv) ⟨2, by rw [show intV v 1 3 = false from hb]; rfl, rfl⟩)⟩) fun h6 => ?_
      refine q_case rfl (fun h => by subst h; exact ⟨v, rfl, .inr (ob (r := some 2) ho (kd2 .int hv) ⟨2, by rw [show intV v 1 3 = false from hb]; rfl, rfl⟩)⟩) fun h7 => ?_
      refine q_case rfl (fun h => by subst h; exact ⟨v, rfl, .inr (ob (r := some 2) ho (kd3 .int hv .int) ⟨2, by rw [show intV v 1 3 = false from hb]; rfl, rfl⟩)⟩) fun h8 => ?_
      refine q_case rfl (fun h => by subst h; exact ⟨v, rfl, .inr (ob (r := some 2) ho (kd2 .int hv) ⟨2, by rw [show intV v 1 60 = false from hb]; rfl, rfl⟩)⟩) fun h9 => ?_
      refine q_case rfl (fun h => by subst h; exact ⟨v, rfl, .inr (ob (r := some 2) ho (kd3 .int .int hv) ⟨2, by rw [show intV v 1 60 = false from hb]; rfl, rfl⟩)⟩) fun h10 => ?_
      refine q_case rfl (fun h => by subst h; exact ⟨v, rfl, .inr (ob (r := some 2) ho (kd2 .int hv) ⟨2, by rw [show intV v 1 60 = false from hb]; rfl, rfl⟩)⟩) fun h11 => ?_
      exact ⟨.int k, rfl, v, rfl, k, rfl, ⟨by omega, hk.2⟩, hv, by unfold outC; rw [hb]; exact ho⟩
    | true =>
      replace ho : Out x H Q E none := by unfold outC at ho; rw [hb] at ho; exact ho
      obtain ⟨m, rfl, m0, m1⟩ := intV_is hb
      refine q_case rfl (fun h => by subst h; have m0 : 1 ≤ m := m0; have m1 : m ≤ 4 := m1; exact ⟨.int m, rfl, .inl ⟨12345, m, rfl, rfl, ⟨n12345, m0, m1⟩, fun H' e => ho _ H' e⟩⟩) fun h0 => ?_
      refine q_case rfl (fun h => by subst h; have m0 : 1 ≤ m := m0; have m1 : m ≤ 4 := m1; exact ⟨.int m, rfl, .inl ⟨1, m, rfl, rfl, ⟨one, m0, m1⟩, fun p H' _ e _ => ho _ H' e⟩⟩) fun h1 => ?_
      refine q_case rfl (fun h => ?_) fun h2 => ?_
      · subst h
        refine c_row (fun _ _ => ev_c) n12345 fun r l p H1 e1 hR hl hp => ?_
        obtain ⟨dx, hd⟩ := hR.ob
        exact ⟨r, dx, _, rfl, hd, lk_none (by decide +kernel) (by decide +kernel), .int m, rfl, .inl ⟨r, l, p, [], 12345, m, rfl, rfl, hR, ⟨m0, m1⟩, fun H' e => ho _ H' (e1.trans e)⟩⟩
      refine q_case rfl (fun h => by subst h; have m0 : 1 ≤ m := m0; have m1 : m ≤ 3 := m1; exact ⟨.int m, rfl, .inl ⟨1, 2, m, rfl, rfl, rfl, ⟨one, two, m0, m1⟩, fun p H' _ e _ => ho _ H' e⟩⟩) fun h3 => ?_
      refine q_case rfl (fun h => by subst h; have m0 : 1 ≤ m := m0; have m1 : m ≤ 3 := m1; exact ⟨.int m, rfl, .inl ⟨1, 2, m, rfl, rfl, rfl, ⟨one, two, m0, m1⟩, fun p H' _ e _ => ho _ H' e⟩⟩) fun h4 => ?_
      refine q_case rfl (fun h => by subst h; have m0 : 1 ≤ m := m0; have m1 : m ≤ 3 := m1; exact ⟨.int m, rfl, .inl ⟨1, 2, m, rfl, rfl, rfl, ⟨one, two, m0, m1⟩, fun p H' _ e _ => ho _ H' e⟩⟩) fun h5 => ?_
      refine q_case rfl (fun h => by subst h; have m0 : 1 ≤ m := m0; have m1 : m ≤ 3 := m1; exact ⟨.int m, rfl, .inl ⟨1, m, rfl, rfl, ⟨one, m0, m1⟩, fun p H' _ e _ => ho _ H' e⟩⟩) fun h6 => ?_
      refine q_case rfl (fun h => by subst h; have m0 : 1 ≤ m := m0; have m1 : m ≤ 3 := m1; exact ⟨.int m, rfl, .inl ⟨1, m, rfl, rfl, ⟨one, m0, m1⟩, fun p H' _ e _ => ho _ H' e⟩⟩) fun h7 => ?_
      refine q_case rfl (fun h => by subst h; have m0 : 1 ≤ m := m0; have m1 : m ≤ 3 := m1; exact ⟨.int m, rfl, .inl ⟨2, m, 5, rfl, rfl, rfl, ⟨base2, ⟨m0, m1⟩, by decide, by decide⟩, fun p H' _ e _ => ho _ H' e⟩⟩) fun h8 => ?_
      refine q_case rfl (fun h => by subst h; have m0 : 1 ≤ m := m0; have m1 : m ≤ 60 := m1; exact ⟨.int m, rfl, .inl ⟨1, m, rfl, rfl, one, m0, m1, (fun h => absurd h (by rw [size_1]; omega)), fun _ p H' _ e _ => ho _ H' e⟩⟩) fun h9 => ?_
      refine q_case rfl (fun h => by subst h; have m0 : 1 ≤ m := m0; have m1 : m ≤ 60 := m1; exact ⟨.int m, rfl, .inl ⟨7, 1, m, rfl, rfl, rfl, ⟨s7, one, m0, m1⟩, fun H' e => ho _ H' e⟩⟩) fun h10 => ?_
      refine q_case rfl (fun h => by subst h; have m0 : 1 ≤ m := m0; have m1 : m ≤ 60 := m1; exact ⟨.int m, rfl, .inl ⟨1, m, rfl, rfl, one, m0, m1, (fun h => absurd h (by rw [size_1]; omega)), fun _ lo hi hW => ⟨fun hlt => absurd (rw_one m0 hW) (by omega), fun _ p H' _ e _ => ho _ H' e⟩⟩⟩) fun h11 => ?_
      exact ⟨.int k, rfl, .int m, rfl, k, rfl, ⟨by omega, hk.2⟩, hv, by unfold outC; rw [hb]; exact ho⟩
theorem purex_law_based {x : ExA} {K : PySem.W.Frag} {c : Addr} (vs : List V) (H : Hp) (Q : VK) (E : XK) (h : spx_law_based x vs H Q E) : rdx_law_based x c E K { nx := fun _ H' => Q .non H', rt := Q } (start N_law_based vs) H := by
  match vs, h with
  | [a, v], ⟨k, ha, hk, hv, ho⟩ =>
    subst ha
    unfold rdx_law_based
    cases hb : intV v (blo k) (bhi k) with
    | false =>
      replace ho : Out x H Q E (some 0) := by unfold outB at ho; rw [hb] at ho; exact ho
      refine q_case rfl (fun h => by subst h; exact ⟨v, rfl, .inr (ob (r := some 0) ho (kd3 hv .non .non) ⟨0, by rw [show baseV v = false from hb]; rfl, rfl⟩)⟩) fun h0 => ?_
      refine q_case rfl (fun h => by subst h; exact ⟨v, rfl, .inr (ob (r := some 0) ho (kd3 hv .non .non) ⟨0, by rw [show baseV v = false from hb]; rfl, rfl⟩)⟩) fun h1 => ?_
      refine q_case rfl (fun h => by subst h; exact ⟨v, rfl, .inr (ob (r := some 0) ho (kd3 hv .non .non) ⟨0, by rw [show baseV v = false from hb]; rfl, rfl⟩)⟩) fun h2 => ?_
      refine q_case rfl (fun h => by subst h; exact ⟨v, rfl, .inr (ob (r := some 0) ho (kd3 hv .non .non) ⟨0, by rw [show baseV v = false from hb]; rfl, rfl⟩)⟩) fun h3 => ?_
      refine q_case rfl (fun h => by subst h; exact ⟨v, rfl, .inr (ob (r := some 0) ho (kd2 hv .non) ⟨0, by rw [show baseV v = false from hb]; rfl, rfl⟩)⟩) fun h4 => ?_
      refine q_case rfl (fun h => by subst h; exact ⟨v, rfl, .inr (ob (r := some 0) ho (kd3 hv .non .non) ⟨0, by rw [show baseV v = false from hb]; rfl, rfl⟩)⟩) fun h5 => ?_
      refine q_case rfl (fun h => by subst h; exact ⟨v, rfl, .inr (ob (r := some 0) ho (kd2 hv .non) ⟨0, by rw [show baseV v = false from hb]; rfl, rfl⟩)⟩) fun h6 => ?_
      refine q_case rfl (fun h => ?_) fun h7 => ?_
      · subst h
        refine c_row (fun _ _ => ev_c) n1 fun r l p H1 e1 hR hl hp => ?_
        obtain ⟨dx, hd⟩ := hR.ob
        exact ⟨r, dx, _, rfl, hd, lk_none (by decide +kernel) (by decide +kernel), v, rfl, .inr ⟨hv.ex e1, hb, fun H' e => ho H' (e1.trans e)⟩⟩
      refine q_case rfl (fun h => by subst h; exact ⟨v, rfl, .inr (ob (r := some 0) ho (kd2 hv .non) ⟨0, by rw [show stepV v = false from hb]; rfl, rfl⟩)⟩) fun h8 => ?_
      refine q_last rfl (fun h => by subst h; exact ⟨v, rfl, .inr (ob (r := some 0) ho (kd3 hv .non .non) ⟨0, by rw [show stepV v = false from hb]; rfl, rfl⟩)⟩) fun h9 => ?_
      have hk10 : k = 10 := by omega
      subst hk10
      exact ⟨v, rfl, .inr (ob (r := some 0) ho (kd3 hv .non .non) ⟨0, by rw [show stepV v = false from hb]; rfl, rfl⟩)⟩
    | true =>
      replace ho : Out x H Q E (dueB k) := by unfold outB at ho; rw [hb] at ho; exact ho
      obtain ⟨m, rfl, m0, m1⟩ := intV_is hb
      refine q_case rfl (fun h => by subst h; exact ⟨.int m, rfl, .inr (ob (r := some 1) ho (kd3 .int .non .non) ⟨1, by rw [show baseV (.int m) = true from hb]; rfl, rfl⟩)⟩) fun h0 => ?_
      refine q_case rfl (fun h => by subst h; exact ⟨.int m, rfl, .inr (ob (r := some 1) ho (kd3 .int .non .non) ⟨1, by rw [show baseV (.int m) = true from hb]; rfl, rfl⟩)⟩) fun h1 => ?_
      refine q_case rfl (fun h => by subst h; exact ⟨.int m, rfl, .inr (ob (r := some 1) ho (kd3 .int .non .non) ⟨1, by rw [show baseV (.int m) = true from hb]; rfl, rfl⟩)⟩) fun h2 => ?_
      refine q_case rfl (fun h => by subst h; exact ⟨.int m, rfl, .inr (ob (r := some 1) ho (kd3 .int .non .non) ⟨1, by rw [show baseV (.int m) = true from hb]; rfl, rfl⟩)⟩) fun h3 => ?_
      refine q_case rfl (fun h => by subst h; exact ⟨.int m, rfl, .inr (ob (r := some 2) ho (kd2 .int .non) ⟨2, by rw [show baseV (.int m) = true from hb]; rfl, rfl⟩)⟩) fun h4 => ?_
      refine q_case rfl (fun h => by subst h; exact ⟨.int m, rfl, .inr (ob (r := some 2) ho (kd3 .int .non .non) ⟨2, by rw [show baseV (.int m) = true from hb]; rfl, rfl⟩)⟩) fun h5 => ?_
      refine q_case rfl (fun h => by subst h; exact ⟨.int m, rfl, .inr (ob (r := some 2) ho (kd2 .int .non) ⟨2, by rw [show baseV (.int m) = true from hb]; rfl, rfl⟩)⟩) fun h6 => ?_
      refine q_case rfl (fun h => ?_) fun h7 => ?_
      · subst h
        have m0 : 2 ≤ m := m0
        have m1 : m ≤ 99 := m1
        refine c_row (fun _ _ => ev_c) n1 fun r l p H1 e1 hR hl hp => ?_
        obtain ⟨dx, hd⟩ := hR.ob
        exact ⟨r, dx, _, rfl, hd, lk_none (by decide +kernel) (by decide +kernel), .int m, rfl, .inl ⟨r, l, p, [], 1, m, rfl, rfl, hR, by decide, fun _ _ H2 _ g2 => ho _ H2 (ex_rowgo e1 hl hp g2), fun hf => absurd ⟨⟨m0, m1⟩, by omega, Int.lt_of_le_of_lt (b := 99) (by omega) (by decide)⟩ hf⟩⟩
      refine q_case rfl (fun h => by subst h; exact ⟨.int m, rfl, .inr (ob (r := some 1) ho (kd2 .int .non) ⟨1, by rw [show stepV (.int m) = true from hb]; rfl, rfl⟩)⟩) fun h8 => ?_
      refine q_last rfl (fun h => by subst h; exact ⟨.int m, rfl, .inr (ob (r := some 1) ho (kd3 .int .non .non) ⟨1, by rw [show stepV (.int m) = true from hb]; rfl, rfl⟩)⟩) fun h9 => ?_
      have hk10 : k = 10 := by omega
      subst hk10
      exact ⟨.int m, rfl, .inr (ob (r := some 1) ho (kd3 .int .non .non) ⟨1, by rw [show stepV (.int m) = true from hb]; rfl, rfl⟩)⟩
/-! ### _law_asked -/
inductive Ask (H : Hp) : Int → Int → V → Option Nat → Prop where
  | cnt {k : Int} {v : V} (hk : 0 ≤ k ∧ k < 20) (hv : KdV H v) : Ask H 1 k v (outC k v)
  | bas {k : Int} {v : V} (hk : 0 ≤ k ∧ k < 11) (hv : KdV H v) : Ask H 2 k v (outB k v)
  | rowB {v : V} (h : BadL H v) : Ask H 3 0 v (some 1)
  | rowG {p : Addr} {ns : List Int} (hp : H p = some (.lst (ns.map V.int))) (hR : RowC ns) : Ask H 3 0 (.ref p) none
  | lwB {v : V} (hv : KdV H v) (h : intV v 0 300 = false) : Ask H 3 1 v (some 2)
  | lwN {m : Int} (h0 : 0 ≤ m) (h1 : m ≤ 300) (h : (placesL 2 9 m).length < 2) : Ask H 3 1 (.int m) (some 4)
  | lwG {m : Int} (h0 : 0 ≤ m) (h1 : m ≤ 300) (h : 2 ≤ (placesL 2 9 m).length) : Ask H 3 1 (.int m) none
  | stN : Ask H 3 2 (.int 2) (some 4)
  | stG : Ask H 3 2 (.int 3) none
  | rtN : Ask H 3 3 (.int 1) (some 4)
  | rtG {c : Int} (h0 : 2 ≤ c) (h1 : c ≤ 5) : Ask H 3 3 (.int c) none
  | pxB {v : V} (hv : KdV H v) (h : begV v = false) : Ask H 3 4 v (some 1)
  | pxN {f : Int} (hf : BegC f) (h : prodB 2 2 f = false) : Ask H 3 4 (.int f) (some 4)
  | pxG {f : Int} (hf : BegC f) (h : prodB 2 2 f = true) : Ask H 3 4 (.int f) none
abbrev sp_law_asked : Sp := sp3 fun a b v H Q => ∃ g k r, a = .int g ∧ b = .int k ∧ Ask H g k v r ∧ ∀ H', Ex H H' → Q (.str (outS r)) H'
def rd_law_asked (x : ExA) (K : PySem.W.Frag) : TS :=
      (tSeq (tAsg (tC .non) (gName 3))
      (tSeq (tTryK K (.ref x.de) 4 (fun W => (tIfS (tTest (tOp rEq (tVar 0) (tC (.int 1))))
        (tDrop (tCallS (spx_law_counted x) (WE W) (tCons (tVar 1) (tCons (tVar 2) tNil))))
        (tIfS (tTest (tOp rEq (tVar 0) (tC (.int 2))))
        (tDrop (tCallS (spx_law_based x) (WE W) (tCons (tVar 1) (tCons (tVar 2) tNil))))
        (tIfS (tTest (tOp rEq (tVar 1) (tC (.int 0))))
        (tDrop (tCallS (spb_format_beginnings x) (WE W) (tCons (tVar 2) tNil)))
        (tIfS (tTest (tOp rEq (tVar 1) (tC (.int 1))))
        (tDrop (tCallS (spb_longest_wait x) (WE W) (tCons (tC (.int 2)) (tCons (tC (.int 9)) (tCons (tVar 2) tNil)))))
        (tIfS (tTest (tOp rEq (tVar 1) (tC (.int 2))))
        (tDrop (tCallS (spb_stretch x) (WE W) (tCons (tC (.int 123)) (tCons (tVar 2) tNil))))
        (tIfS (tTest (tOp rEq (tVar 1) (tC (.int 3))))
        (tDrop (tCallS (spb_roots_with x) (WE W) (tCons (tC (.int 2)) (tCons (tVar 2) tNil))))
        (tDrop (tCallS (spb_product_example x) (WE W) (tCons (tC (.int 2)) (tCons (tC (.int 2)) (tCons (tVar 2) tNil)))))))))))) (tAsg (tVar 4) (gName 3)))
      (tRet (tIf (tTest (tOp rIsN (tVar 3) (tC .non))) (tC (.str "done")) (tCall (sp_law_error x) [] E0 (tCons (tVar 3) tNil))))))
def N_law_asked : List Str := ["group", "which", "one", "caught", "e"]
theorem nine : BegC 9 := ⟨by decide, by decide⟩
theorem b123 : BegC 123 := ⟨by decide, by decide⟩
theorem size_123 : size 123 = 3 := by decide +kernel
theorem size_2 : size 2 = 1 := by decide +kernel
theorem rw_two1 {lo hi : Int} (hW : RWith 2 1 lo hi) : hi < lo := by
  have e1 : stF 2 1 = 2 := by decide +kernel
  have e2 : stL 2 1 = 2 := by decide +kernel
  have h1 := hW.l
  have h2 := hW.h
  rw [e1] at h1
  rw [e2] at h2
  have a1 := h1.inj (r' := 2) ⟨by decide, by decide, by decide⟩
  have a2 := h2.inj (r' := 2) ⟨by decide, by decide, by decide⟩
  omega
theorem rw_two {c lo hi : Int} (h0 : 2 ≤ c) (h1 : c ≤ 5) (hW : RWith 2 c lo hi) : lo ≤ hi := by
  rcases (show c = 2 ∨ c = 3 ∨ c = 4 ∨ c = 5 by omega) with rfl | rfl | rfl | rfl
  · exact rw_le (y := 5) hW (by decide) (by decide +kernel) (by decide +kernel)
  · exact rw_le (y := 15) hW (by decide) (by decide +kernel) (by decide +kernel)
  · exact rw_le (y := 45) hW (by decide) (by decide +kernel) (by decide +kernel)
  · exact rw_le (y := 142) hW (by decide) (by decide +kernel) (by decide +kernel)
theorem pure_law_asked {x : ExA} {K : PySem.W.Frag} {mg : Str → Option Value} (T : ExT K mg x) (vs : List V) (H : Hp) (Q : VK) (E : XK) (h : sp_law_asked vs H Q E) : rd_law_asked x K { nx := fun _ H' => Q .non H', rt := Q } (start N_law_asked vs) H := by
  match vs, h with
  | [a, b, v], ⟨g, k, r, ha, hb, hA, q⟩ =>
    subst ha
    subst hb
    unfold rd_law_asked
    refine s_catch T (c := 3) (show 4 < 5 by decide) fun W nx ok bad => ?_
    show tIfS _ _ _ _ [some (.int g), some (.int k), some v, some .non, none] H
    have dn : r = none → ∀ H', Ex H H' → nx [some (.int g), some (.int k), some v, some .non, none] H' := fun hr H' e => ok _ H' rfl rfl ⟨.str "done", ev_c, fun H'' e'' => by
      have := q H'' (e.trans e'')
      rw [hr] at this
      exact this⟩
    have er : ∀ i, i < 5 → r = some i → ∀ H', Ex H H' → W (.ref (x.at i)) none [some (.int g), some (.int k), some v, some .non, none] H' := fun i hi hr H' e => bad i _ H' hi rfl fun H'' e'' => by
      have := q H'' (e.trans e'')
      rw [hr] at this
      exact this
    clear q ok bad
    cases hA with
    | cnt hk hv => exact s_case rfl (fun _ => ⟨.int k, rfl, v, rfl, k, rfl, hk, hv, out_try (fun i => outC_lt) dn er⟩) (fun h => absurd rfl h)
    | bas hk hv => exact s_case rfl (fun h => absurd h (by decide)) fun _ => s_case rfl (fun _ => ⟨.int k, rfl, v, rfl, k, rfl, hk, hv, out_try (fun i => outB_lt) dn er⟩) (fun h => absurd rfl h)
    | rowB h => exact s_case rfl (fun h => absurd h (by decide)) fun _ => s_case rfl (fun h => absurd h (by decide)) fun _ => s_case rfl (fun _ => ⟨v, rfl, .inr ⟨h, er 1 (by decide) rfl⟩⟩) (fun h => absurd rfl h)
    | rowG hp hR => exact s_case rfl (fun h => absurd h (by decide)) fun _ => s_case rfl (fun h => absurd h (by decide)) fun _ => s_case rfl (fun _ => ⟨_, rfl, .inl ⟨_, _, rfl, hp, hR, dn rfl⟩⟩) (fun h => absurd rfl h)
    | lwB hv hb => exact s_case rfl (fun h => absurd h (by decide)) fun _ => s_case rfl (fun h => absurd h (by decide)) fun _ => s_case rfl (fun h => absurd h (by decide)) fun _ => s_case rfl (fun _ => ⟨v, rfl, .inr ⟨kd3 .int .int hv, 2, by rw [hb]; rfl, er 2 (by decide) rfl⟩⟩) (fun h => absurd rfl h)
    | lwN h0 h1 hl => exact s_case rfl (fun h => absurd h (by decide)) fun _ => s_case rfl (fun h => absurd h (by decide)) fun _ => s_case rfl (fun h => absurd h (by decide)) fun _ => s_case rfl (fun _ => ⟨_, rfl, .inl ⟨2, 9, _, rfl, rfl, rfl, ⟨base2, nine, h0, h1⟩, fun _ => er 4 (by decide) rfl, fun hge => absurd hge (by omega)⟩⟩) (fun h => absurd rfl h)
    | lwG h0 h1 hl => exact s_case rfl (fun h => absurd h (by decide)) fun _ => s_case rfl (fun h => absurd h (by decide)) fun _ => s_case rfl (fun h => absurd h (by decide)) fun _ => s_case rfl (fun _ => ⟨_, rfl, .inl ⟨2, 9, _, rfl, rfl, rfl, ⟨base2, nine, h0, h1⟩, (fun hlt => absurd hlt (by omega)), fun _ mx j _ p H' _ e _ => dn rfl H' e⟩⟩) (fun h => absurd rfl h)
    | stN => exact s_case rfl (fun h => absurd h (by decide)) fun _ => s_case rfl (fun h => absurd h (by decide)) fun _ => s_case rfl (fun h => absurd h (by decide)) fun _ => s_case rfl (fun h => absurd h (by decide)) fun _ => s_case rfl (fun _ => ⟨_, rfl, .inl ⟨123, 2, rfl, rfl, b123, by decide, by decide, fun _ => er 4 (by decide) rfl, fun hle => absurd hle (by rw [size_123]; decide)⟩⟩) (fun h => absurd rfl h)
    | stG => exact s_case rfl (fun h => absurd h (by decide)) fun _ => s_case rfl (fun h => absurd h (by decide)) fun _ => s_case rfl (fun h => absurd h (by decide)) fun _ => s_case rfl (fun h => absurd h (by decide)) fun _ => s_case rfl (fun _ => ⟨_, rfl, .inl ⟨123, 3, rfl, rfl, b123, by decide, by decide, (fun hlt => absurd hlt (by rw [size_123]; decide)), fun _ p H' _ e _ => dn rfl H' e⟩⟩) (fun h => absurd rfl h)
    | rtN => exact s_case rfl (fun h => absurd h (by decide)) fun _ => s_case rfl (fun h => absurd h (by decide)) fun _ => s_case rfl (fun h => absurd h (by decide)) fun _ => s_case rfl (fun h => absurd h (by decide)) fun _ => s_case rfl (fun h => absurd h (by decide)) fun _ => s_case rfl (fun _ => ⟨_, rfl, .inl ⟨2, 1, rfl, rfl, two, by decide, by decide, (fun hlt => absurd hlt (by rw [size_2]; decide)), fun _ lo hi hW => ⟨fun _ => er 4 (by decide) rfl, fun hle => absurd hle (by have := rw_two1 hW; omega)⟩⟩⟩) (fun h => absurd rfl h)
    | rtG h0 h1 => exact s_case rfl (fun h => absurd h (by decide)) fun _ => s_case rfl (fun h => absurd h (by decide)) fun _ => s_case rfl (fun h => absurd h (by decide)) fun _ => s_case rfl (fun h => absurd h (by decide)) fun _ => s_case rfl (fun h => absurd h (by decide)) fun _ => s_case rfl (fun _ => ⟨_, rfl, .inl ⟨2, _, rfl, rfl, two, by omega, by omega, (fun hlt => absurd hlt (by rw [size_2]; omega)), fun _ lo hi hW => ⟨fun hlt => absurd (rw_two h0 h1 hW) (by omega), fun _ p H' _ e _ => dn rfl H' e⟩⟩⟩) (fun h => absurd rfl h)
    | pxB hv hb => exact s_case rfl (fun h => absurd h (by decide)) fun _ => s_case rfl (fun h => absurd h (by decide)) fun _ => s_case rfl (fun h => absurd h (by decide)) fun _ => s_case rfl (fun h => absurd h (by decide)) fun _ => s_case rfl (fun h => absurd h (by decide)) fun _ => s_case rfl (fun h => absurd h (by decide)) fun _ => ⟨v, rfl, .inr ⟨kd3 .int .int hv, 1, by rw [hb]; rfl, er 1 (by decide) rfl⟩⟩
    | pxN hf hp => exact s_case rfl (fun h => absurd h (by decide)) fun _ => s_case rfl (fun h => absurd h (by decide)) fun _ => s_case rfl (fun h => absurd h (by decide)) fun _ => s_case rfl (fun h => absurd h (by decide)) fun _ => s_case rfl (fun h => absurd h (by decide)) fun _ => s_case rfl (fun h => absurd h (by decide)) fun _ => ⟨_, rfl, .inl ⟨2, 2, _, rfl, rfl, rfl, two, two, hf, fun _ => er 4 (by decide) rfl, fun ht => by rw [hp] at ht; cases ht⟩⟩
    | pxG hf hp => exact s_case rfl (fun h => absurd h (by decide)) fun _ => s_case rfl (fun h => absurd h (by decide)) fun _ => s_case rfl (fun h => absurd h (by decide)) fun _ => s_case rfl (fun h => absurd h (by decide)) fun _ => s_case rfl (fun h => absurd h (by decide)) fun _ => s_case rfl (fun h => absurd h (by decide)) fun _ => ⟨_, rfl, .inl ⟨2, 2, _, rfl, rfl, rfl, two, two, hf, (fun hf' => by rw [hp] at hf'; cases hf'), fun _ M h _ p H' _ e _ => dn rfl H' e⟩⟩
section
variable {K : PySem.W.Frag} {d nn : Addr} {σ : L2.St} {H : Hp} {E : XK} {ta tb tc te : TE} {g k : Int} {v : V} {s : Str} {r : Option Nat} {tA : TA} {tB : TS} {D : Ends} {P : Hp → V → Prop} {n j : Nat}
theorem ev_asked (h1 : Ev ta σ H (.int g)) (h2 : Ev tb σ H (.int k)) (h3 : Ev tc σ H v) (hA : ∀ H', Ex H H' → Ask H' g k v r) (hs : outS r = s) : Ev (tCall sp_law_asked [] E (tCons ta (tCons tb (tCons tc tNil)))) σ H (.str s) := fun H1 e Q q =>
  h1 H1 e _ fun H2 e2 => h2 H2 (e.trans e2) _ fun H3 e3 => h3 H3 ((e.trans e2).trans e3) _ fun H4 e4 => ⟨g, k, r, rfl, rfl, hA H4 (((e.trans e2).trans e3).trans e4), fun H5 e5 => by rw [hs]; exact q H5 (((e2.trans e3).trans e4).trans e5)⟩
/-- of a new list -/
theorem ev_askedL {xs : List V} (h1 : Ev ta σ H (.int g)) (h2 : Ev tb σ H (.int k)) (h3 : EvL tc σ H xs) (hA : ∀ p H', H' p = some (.lst xs) → Ask H' g k (.ref p) r) (hs : outS r = s) : Ev (tCall sp_law_asked [] E (tCons ta (tCons tb (tCons tc tNil)))) σ H (.str s) := fun H1 e Q q =>
  h1 H1 e _ fun H2 e2 => h2 H2 (e.trans e2) _ fun H3 e3 => h3 H3 ((e.trans e2).trans e3) _ fun p H4 _ e4 h4 => ⟨g, k, r, rfl, rfl, hA p H4 h4, fun H5 e5 => by rw [hs]; exact q H5 (((e2.trans e3).trans e4).trans e5)⟩
/-- of a drawn value -/
theorem ed_asked {R : V → Prop} (h1 : ∀ H', Ev ta σ H' (.int g)) (h2 : ∀ H', Ev tb σ H' (.int k)) (h3 : EvD d nn tc σ H R) (hA : ∀ v H', R v → Ask H' g k v r) : EvD d nn (tCall sp_law_asked [] E (tCons ta (tCons tb (tCons tc tNil)))) σ H (fun u => u = .str (outS r)) := fun H1 g1 Q q =>
  h1 H1 H1 (Ex.refl _) _ fun H2 e2 => h2 H2 H2 (Ex.refl _) _ fun H3 e3 => h3 H3 ((g1.ex e2).ex e3) _ fun v H4 hv g4 => ⟨g, k, r, rfl, rfl, hA v H4 hv, fun H5 e5 => q _ H5 rfl (((Go.of g1.dr (e2.trans e3)).trans g4).ex e5)⟩
theorem s_forK (st : ∀ H H' v, Ex H H' → P H v → P H' v) (h : EvKA tA σ H P n) (hn : n ≤ 1000) (Pv : L2.St → Hp → Prop) (h0 : ∀ H1, Ex H H1 → Pv σ H1)
    (hs : ∀ v σ' H' N, P H' v → Pv σ' H' → (∀ σ2 H2, Ex H' H2 → Pv σ2 H2 → N σ2 H2) → tB { D with nx := N, ct := N, bk := D.nx } (σ'.set j (some v)) H') (hd : ∀ σ' H', Pv σ' H' → D.nx σ' H') :
    tFor (iList K (tLst tA)) (gName j) tB D σ H :=
  h H (Ex.refl _) _ fun vs H1 e1 hl hv => ⟨sz_of (by omega), fun p hp => ⟨p, rfl, ⟨vs, sq_of upd_same⟩, for_list (D := D) (xs := vs) (fun _ σ' H' => Ex (upd H1 p (.lst vs)) H' ∧ Pv σ' H') ⟨Ex.refl _, h0 _ (e1.trans (Ex.new hp))⟩ (fun i σ' H' hi hP => sq_of (hP.1 _ _ upd_same)) (fun i v σ' H' hi hP => hs v σ' H' _ (st _ _ _ ((Ex.new hp).trans hP.1) (hv v (List.mem_of_getElem? hi))) hP.2 fun σ2 H2 e2 h2 => ⟨hP.1.trans e2, h2⟩) fun σ' H' hP => hd σ' H' hP.2⟩⟩
theorem s_ifD {t : TT} {A : TS} (hD : Dr d nn H) (h : EvDT d nn t σ H fun b => b = false) (k : ∀ H1, Go d nn H H1 → D.nx σ H1) : tIfS t A tNext D σ H := h H (.refl hD) _ fun b H1 hb g => by
  subst hb
  exact k H1 g
theorem edl_el {xs : List V} (h : ∀ H1, Go d nn H H1 → EvL te σ H1 xs) : EvDL d nn te σ H (fun l => l = xs) := fun H1 g Q q =>
  h H1 g H1 (Ex.refl _) _ fun p H2 hp e2 h2 => q p xs H2 rfl hp (.of g.dr e2) h2 (Go.nd g hp).1 (Go.nd g hp).2
theorem ek_lst {xs : List V} (h : EvL te σ H xs) (hp : ∀ p H', H' p = some (.lst xs) → P H' (.ref p)) : EvK te σ H P := fun H1 e Q q => h H1 e Q fun p H2 _ e2 h2 => q _ H2 e2 (hp p H2 h2)
theorem ev_inT {z : Int} {ns : List Int} (h1 : Ev ta σ H (.int z)) (h2 : EvU tb σ H (ns.map V.int)) : Ev (tOp (rIn K false) ta tb) σ H (.bl (decide (z ∈ ns))) := fun H0 e Q q =>
  h1 H0 e _ fun H1 e1 => h2 H1 (e.trans e1) _ fun p H2 hp e2 hl => ⟨p, ns.map V.int, rfl, .inr (st_of hl), rfl, flat_ints _, by
    have := q H2 (e1.trans e2)
    rw [← inV_int] at this
    exact this⟩
end
/-! ### _law_row -/
abbrev sp_law_row : Sp := sp0 fun _ Q => ∀ H', Q (.bl true) H'
def rd_law_row (x : ExA) (c : Addr) (K : PySem.W.Frag) : TS :=
      (tSeq (tAsg (tMake c (spb_Row_init x c) [] E0 (tCons (tOp rMulX (tCall (sp_law_ten) [] E0 (tCons (tC (.int 59)) tNil)) (tC (.int 5))) tNil)) (gName 0))
      (tSeq (tAsg (tLst tNil) (gName 1))
      (tSeq (tAsg (tLst (tCons (tTup (tCons (tC (.int 0)) (tCons (tC (.int 1)) tNil))) (tCons (tTup (tCons (tC (.int 0)) (tCons (tC (.int 100)) tNil))) (tCons (tTup (tCons (tC (.int 0)) (tCons (tC (.bl true)) tNil))) (tCons (tTup (tCons (tC (.int 0)) (tCons (tC .non) tNil))) (tCons (tTup (tCons (tC (.int 0)) (tCons (tC (.int 2)) tNil))) (tCons (tTup (tCons (tC (.int 1)) (tCons (tC (.int 0)) tNil))) (tCons (tTup (tCons (tC (.int 1)) (tCons (tC .non) tNil))) (tCons (tTup (tCons (tC (.int 2)) (tCons (tC (.int 0)) tNil))) tNil))))))))) (gName 2))
      (tSeq (tFor (iList K (tOp rCat (tLst (tCons (tTup (tCons (tC (.int 1)) (tCons (tCall (sp_law_ten) [] E0 (tCons (tC (.int 60)) tNil)) tNil))) (tCons (tTup (tCons (tC (.int 1)) (tCons (tOp rMulX (tCall (sp_law_ten) [] E0 (tCons (tC (.int 59)) tNil)) (tC (.int 5))) tNil))) tNil))) (tVar 2))) (gTup K 2 (gCons (gName 3) (gCons (gName 4) gNil)))
        (tSeq (tTryK K (.ref x.de) 5 (fun W => (tIfS (tTest (tOp rEq (tVar 3) (tC (.int 0))))
        (tDrop (tMethT c "multiply" (spb_Row_multiply x c) (WE W) (tVar 0) (tCons (tVar 4) tNil)))
        (tIfS (tTest (tOp rEq (tVar 3) (tC (.int 1))))
        (tDrop (tMethT c "add" (spb_Row_add x c) (WE W) (tVar 0) (tCons (tVar 4) tNil)))
        (tDrop (tMethT c "undo" (spx_Row_undo x c) (WE W) (tVar 0) tNil))))) (tDrop (tBM K "list" rAppend (tVar 1) (tCons (tCall (sp_law_error x) [] E0 (tCons (tVar 5) tNil)) tNil))))
      (tIfS (tOr (tTest (tOp rNe (tMeth c "number" (sp_Row_number c) [] E0 (tVar 0) tNil) (tOp rMulX (tCall (sp_law_ten) [] E0 (tCons (tC (.int 59)) tNil)) (tC (.int 5))))) (tTest (tOp rNe (tCB (rLenO c (sp_Row_len c)) (tCons (tVar 0) tNil)) (tC (.int 0)))))
        (tRet (tC (.bl false)))
        tNext)))
      (tRet (tAndV (tOp (rEqD K) (tVar 1) (tOp rCat (tOp rRep (tLst (tCons (tC (.str "number")) tNil)) (tC (.int 9))) (tLst (tCons (tC (.str "none")) tNil)))) (tAndV (tOp rEq (tMeth c "add" (spb_Row_add x c) [] E0 (tVar 0) (tCons (tOp rSubI (tOp rMulX (tCall (sp_law_ten) [] E0 (tCons (tC (.int 59)) tNil)) (tC (.int 5))) (tC (.int 1))) tNil)) (tOp rSubI (tCall (sp_law_ten) [] E0 (tCons (tC (.int 60)) tNil)) (tC (.int 1)))) (tOp rEq (tCB (rLenO c (sp_Row_len c)) (tCons (tVar 0) tNil)) (tC (.int 1))))))))))
def N_law_row : List Str := ["shown", "caught", "calls", "kind", "one", "e"]
def PrV (H : Hp) (rs : List Addr) (qs : List (V × V)) : Prop := rs.map H = qs.map fun q => some (HO.tup [q.1, q.2])
theorem prv_at {H : Hp} {rs : List Addr} {qs : List (V × V)} {i : Nat} {r : Addr} (h : PrV H rs qs) (hi : rs[i]? = some r) : ∃ q, qs[i]? = some q ∧ H r = some (.tup [q.1, q.2]) := by
  have h := congrArg (fun l => l[i]?) h
  simp only [List.getElem?_map, hi, Option.map_some] at h
  cases hq : qs[i]? with
  | none => rw [hq] at h; cases h
  | some q => rw [hq] at h; exact ⟨q, rfl, Option.some.inj h⟩
theorem prv_len {H : Hp} {rs : List Addr} {qs : List (V × V)} (h : PrV H rs qs) : rs.length = qs.length := by
  have := congrArg List.length h
  simpa using this
theorem prv_ex {H H' : Hp} (e : Ex H H') : ∀ {rs : List Addr} {qs : List (V × V)}, PrV H rs qs → PrV H' rs qs
  | [], [], _ => rfl
  | [], _ :: _, h => by cases h
  | _ :: _, [], h => by cases h
  | r :: rs, q :: qs, h => by
    have h := List.cons.inj h
    show H' r :: rs.map H' = some (HO.tup [q.1, q.2]) :: _
    rw [e _ _ h.1]
    exact congrArg _ (prv_ex e h.2)
def EvPA (ta : TA) (σ : L2.St) (H : Hp) (qs : List (V × V)) : Prop := ∀ H1, Ex H H1 → ∀ Q : List V → Hp → Prop, (∀ rs H2, Ex H1 H2 → PrV H2 rs qs → Q (rs.map V.ref) H2) → ta σ H1 Q
section
variable {σ : L2.St} {H : Hp} {a b te : TE} {tA : TA} {qs : List (V × V)} {u w : V} {x : ExA} {c : Addr} {n : Int} {E : XK} {tu : TS} {D : Ends} {i : Nat}
theorem epa_nil : EvPA tNil σ H [] := fun H1 e Q q => q [] H1 (Ex.refl _) rfl
theorem epa_cons (h1 : Ev a σ H u) (h2 : Ev b σ H w) (hr : EvPA tA σ H qs) : EvPA (tCons (tTup (tCons a (tCons b tNil))) tA) σ H ((u, w) :: qs) := fun H1 e Q q =>
  eu_tup (vs := [u, w]) (ea_cons h1 (ea_cons h2 ea_nil)) (by simp) H1 e _ fun p H2 hp e2 h2 => hr H2 (e.trans e2) _ fun rs H3 e3 h3 => q (p :: rs) H3 (e2.trans e3) (by
    show H3 p :: rs.map H3 = some (HO.tup [u, w]) :: _
    rw [e3 _ _ h2]
    exact congrArg _ h3)
theorem q_rowN (h : ∀ H1, Ex H H1 → Ev te σ H1 (.int n)) (hn : NumC n) (k : ∀ r l p H1, Ex H H1 → RowAt c H1 r l p [] n → H l = none → H p = none → tu D (σ.set i (some (.ref r))) H1) : tSeq (tAsg (tMake c (spb_Row_init x c) [] E (tCons te tNil)) (gName i)) tu D σ H := c_row (Q := fun v H1 => tu D (σ.set i (some v)) H1) h hn k
theorem q_asgPA (h : EvPA tA σ H qs) (hl : qs.length ≤ 1000) (k : ∀ rs p H1, Ex H H1 → PrV H1 rs qs → H1 p = some (.lst (rs.map V.ref)) → tu D (σ.set i (some (.ref p))) H1) : tSeq (tAsg (tLst tA) (gName i)) tu D σ H :=
  h H (Ex.refl _) _ fun rs H1 e1 hp => ⟨sz_of (by rw [List.length_map, prv_len hp]; omega), fun p hp' => k rs p _ (e1.trans (Ex.new hp')) (prv_ex (Ex.new hp') hp) upd_same⟩
theorem q_forPC {K : PySem.W.Frag} {tv : TE} {tb : TS} {pk : Addr} {rs2 : List Addr} {qs' : List (V × V)} {j1 j2 : Nat} (h : EvPA tA σ H qs) (hv : Ev tv σ H (.ref pk)) (hk : H pk = some (.lst (rs2.map V.ref))) (hr : PrV H rs2 qs') (hl : qs.length + qs'.length ≤ 1000)
    (k : ∀ p rs HB, Ex H HB → H p = none → PrV HB rs (qs ++ qs') → HB p = some (.lst (rs.map V.ref)) → ∃ Pv : Nat → L2.St → Hp → Prop, Pv 0 σ HB ∧ (∀ i σ' H', Pv i σ' H' → H' p = some (.lst (rs.map V.ref))) ∧
      (∀ i t q σ' H', rs[i]? = some t → (qs ++ qs')[i]? = some q → HB t = some (.tup [q.1, q.2]) → Pv i σ' H' → H' t = some (.tup [q.1, q.2]) ∧ tb { D with nx := Pv (i + 1), ct := Pv (i + 1), bk := tu D } ((σ'.set j1 (some q.1)).set j2 (some q.2)) H') ∧ (∀ σ' H', Pv (qs ++ qs').length σ' H' → tu D σ' H')) :
    tSeq (tFor (iList K (tOp rCat (tLst tA) tv)) (gTup K 2 (gCons (gName j1) (gCons (gName j2) gNil))) tb) tu D σ H :=
  h H (Ex.refl _) _ fun rs1 H1 e1 hp1 => ⟨sz_of (by rw [List.length_map, prv_len hp1]; omega), fun p1 hf1 => hv (upd H1 p1 (.lst (rs1.map V.ref))) (e1.trans (Ex.new hf1)) _ fun H2 e2 => by
    have eN := (e1.trans (Ex.new (o := .lst (rs1.map V.ref)) hf1)).trans e2
    refine ⟨p1, pk, rs1.map V.ref, rs2.map V.ref, rfl, rfl, e2 _ _ upd_same, eN _ _ hk, sz_of (by rw [List.length_map, List.length_map, prv_len hp1, prv_len hr]; omega), fun p hp => ?_⟩
    have hpr : PrV (upd H2 p (.lst ((rs1 ++ rs2).map V.ref))) (rs1 ++ rs2) (qs ++ qs') := by
      have a1 := prv_ex (((Ex.new (o := .lst (rs1.map V.ref)) hf1).trans e2).trans (Ex.new (o := .lst ((rs1 ++ rs2).map V.ref)) hp)) hp1
      have a2 := prv_ex (eN.trans (Ex.new (o := .lst ((rs1 ++ rs2).map V.ref)) hp)) hr
      unfold PrV at a1 a2 ⊢
      rw [List.map_append (l₁ := rs1) (f := upd H2 p _), List.map_append (l₁ := qs), a1, a2]
    rw [← List.map_append]
    obtain ⟨Pv, k0, k1, k2, k3⟩ := k p (rs1 ++ rs2) _ (eN.trans (Ex.new hp)) (fresh_back eN hp) hpr upd_same
    have hlen : ((rs1 ++ rs2).map V.ref).length = (qs ++ qs').length := by rw [List.length_map, prv_len hpr]
    refine ⟨p, rfl, ⟨_, sq_of upd_same⟩, for_list (D := { D with nx := tu D }) (xs := (rs1 ++ rs2).map V.ref) Pv k0 (fun i σ' H' _ hP => sq_of (k1 i σ' H' hP)) (fun i v σ' H' hi hP => ?_) (fun σ' H' hP => k3 σ' H' (hlen ▸ hP))⟩
    rw [List.getElem?_map] at hi
    cases ht : (rs1 ++ rs2)[i]? with
    | none => rw [ht] at hi; cases hi
    | some t =>
      rw [ht] at hi
      cases Option.some.inj hi
      obtain ⟨q, hq, htup⟩ := prv_at hpr ht
      obtain ⟨ht', hb⟩ := k2 i t q σ' H' ht hq htup hP
      exact ⟨t, [q.1, q.2], rfl, st_of ht', rfl, q.1, [q.2], rfl, q.2, [], rfl, rfl, hb⟩⟩
theorem w_app {K : PySem.W.Frag} {mg : Str → Option Value} {pc : Addr} {xs : List V} {j : Nat} {D' : Ends} (T : ExT K mg x) (hj : j < 5) (hc : H pc = some (.lst xs)) (hi : (σ.set 5 (some (.ref pc)))[1]? = some (some (.ref pc))) (h1 : ∀ a, (σ.set 5 (some (.ref a)))[1]? = some (some (.ref pc))) (h5 : ∀ a, (σ.set 5 (some (.ref a)))[5]? = some (some (.ref a))) (hl : xs.length < 1000)
    (k : ∀ H8, H8 pc = some (.lst (xs ++ [.str (exName j)])) → (∀ b o, b ≠ pc → H b = some o → H8 b = some o) → D'.nx (σ.set 5 none) H8) :
    WE (wK K (.ref x.de) 5 (tDrop (tBM K "list" rAppend (tVar 1) (tCons (tCall (sp_law_error x) [] E0 (tCons (tVar 5) tNil)) tNil))) D') σ (.ref (x.at j)) none H := by
  refine ⟨rfl, T.exm j, fun a ha => ?_⟩
  have ac : pc ≠ a := ne_of_none hc ha
  refine s_app (l := pc) (xs := xs) (v := .str (exName j)) (by rw [upd_ne ac]; exact hc) (ev_var (h1 a)) (ev_error (i := j) (p := a) (h5 a) hj upd_same) (by omega) fun H7 e7 => ?_
  show D'.nx ((σ.set 5 (some (.ref a))).set 5 none) _
  rw [List.set_set]
  exact k _ upd_same fun b o hb ho => by
    rw [upd_ne hb]
    exact ((Ex.new ha).trans e7) _ _ ho
theorem q_tryK {K : PySem.W.Frag} {C : Value} {tb : WX → TS} {ts : TS} (h : tb (wK K C i ts { D with nx := tu D }) { D with nx := tu D } σ H) : tSeq (tTryK K C i tb ts) tu D σ H := h
theorem s_mT {m : Str} {sp : Sp} {ES : L2.St → XK} {j r dx : Addr} {fs : List (Str × V)} {v : V} (hi : σ[i]? = some (some (.ref r))) (hd : H r = some (.ins c dx fs)) (hl : fs.lookup m = none) (hj : σ[j]? = some (some v)) (h : sp [.ref r, v] H (fun _ H1 => D.nx σ H1) (ES σ)) : tDrop (tMethT c m sp ES (tVar i) (tCons (tVar j) tNil)) D σ H := ⟨.ref r, hi, r, dx, fs, rfl, hd, hl, v, hj, h⟩
theorem s_mT0 {m : Str} {sp : Sp} {ES : L2.St → XK} {r dx : Addr} {fs : List (Str × V)} (hi : σ[i]? = some (some (.ref r))) (hd : H r = some (.ins c dx fs)) (hl : fs.lookup m = none) (h : sp [.ref r] H (fun _ H1 => D.nx σ H1) (ES σ)) : tDrop (tMethT c m sp ES (tVar i) tNil) D σ H := ⟨.ref r, hi, r, dx, fs, rfl, hd, hl, h⟩
end
def callsA (A B : Int) : List (V × V) := [(.int 1, .int A), (.int 1, .int B)]
def callsB : List (V × V) := [(.int 0, .int 1), (.int 0, .int 100), (.int 0, .bl true), (.int 0, .non), (.int 0, .int 2), (.int 1, .int 0), (.int 1, .non), (.int 2, .int 0)]
def callN : List Str := ["number", "number", "number", "number", "number", "number", "number", "number", "number", "none"]
def CB (B : Int) (q : V × V) (j : Nat) : Prop := (∀ H, KdV H q.2) ∧ ((q.1 = .int 0 ∧ j = 0 ∧ (baseV q.2 = false ∨ q.2 = .int 2)) ∨ (q.1 = .int 1 ∧ j = 0 ∧ (numV q.2 = false ∨ q.2 = .int B)) ∨ (q.1 = .int 2 ∧ j = 4))
theorem ten_60 : tenI 60 = tenI 59 * 5 * 2 := by
  have := tenI_succ (a := 59) (by decide)
  rw [show (59 : Int) + 1 = 60 by decide] at this
  rw [this, Int.mul_assoc]
  rfl
theorem num_no {n : Int} (h : tenI 59 * 5 * 2 ≤ n) : ¬ NumC n := fun hn => by
  have := hn.hi
  rw [← ten60, ten_60] at this
  omega
theorem num_yes {n : Int} (h0 : 1 ≤ n) (h : n < tenI 59 * 5 * 2) : NumC n := ⟨h0, by rw [← ten60, ten_60]; exact h⟩
theorem calls_bad {A B : Int} (hA : ¬ NumC A) {i : Nat} {q : V × V} (h : (callsA A B ++ callsB)[i]? = some q) : ∃ j, j < 5 ∧ callN[i]? = some (exName j) ∧ CB B q j := by
  have f : numV (.int A) = false := decide_eq_false hA
  have f0 : numV (.int 0) = false := by
    show decide (NumC 0) = false
    exact decide_eq_false fun h => absurd h.lo (by decide)
  rcases i with _ | _ | _ | _ | _ | _ | _ | _ | _ | _ | i
  · cases Option.some.inj h; exact ⟨0, by decide, rfl, fun _ => .int, .inr (.inl ⟨rfl, rfl, .inl f⟩)⟩
  · cases Option.some.inj h; exact ⟨0, by decide, rfl, fun _ => .int, .inr (.inl ⟨rfl, rfl, .inr rfl⟩)⟩
  · cases Option.some.inj h; exact ⟨0, by decide, rfl, fun _ => .int, .inl ⟨rfl, rfl, .inl rfl⟩⟩
  · cases Option.some.inj h; exact ⟨0, by decide, rfl, fun _ => .int, .inl ⟨rfl, rfl, .inl rfl⟩⟩
  · cases Option.some.inj h; exact ⟨0, by decide, rfl, fun _ => .bl, .inl ⟨rfl, rfl, .inl rfl⟩⟩
  · cases Option.some.inj h; exact ⟨0, by decide, rfl, fun _ => .non, .inl ⟨rfl, rfl, .inl rfl⟩⟩
  · cases Option.some.inj h; exact ⟨0, by decide, rfl, fun _ => .int, .inl ⟨rfl, rfl, .inr rfl⟩⟩
  · cases Option.some.inj h; exact ⟨0, by decide, rfl, fun _ => .int, .inr (.inl ⟨rfl, rfl, .inl f0⟩)⟩
  · cases Option.some.inj h; exact ⟨0, by decide, rfl, fun _ => .non, .inr (.inl ⟨rfl, rfl, .inl rfl⟩)⟩
  · cases Option.some.inj h; exact ⟨4, by decide, rfl, fun _ => .int, .inr (.inr ⟨rfl, rfl⟩)⟩
  · cases (show none = some q from h)
theorem pure_law_row {x : ExA} {K : PySem.W.Frag} {mg : Str → Option Value} {c : Addr} (T : ExT K mg x) (vs : List V) (H : Hp) (Q : VK) (E : XK) (h : sp_law_row vs H Q E) : rd_law_row x c K { nx := fun _ H' => Q .non H', rt := Q } (start N_law_row vs) H := by
  match vs, h with
  | [], q =>
    obtain ⟨S, hS⟩ : ∃ S : Int, S = tenI 59 * 5 := ⟨_, rfl⟩
    have hS0 : 5 ≤ S := by have := tenI_pos 59; omega
    have e60 : tenI 60 = S * 2 := by rw [hS]; exact ten_60
    have no : ∀ n, S * 2 ≤ n → ¬ NumC n := fun n h => num_no (by rw [← hS]; exact h)
    have yes : ∀ n, 1 ≤ n → n < S * 2 → NumC n := fun n h0 h => num_yes h0 (by rw [← hS]; exact h)
    have evS : ∀ σ H', Ev (tOp rMulX (tCall (sp_law_ten) [] E0 (tCons (tC (.int 59)) tNil)) (tC (.int 5))) σ H' (.int S) := fun σ H' => by
      rw [hS]
      walk_at "ev"
      · decide
      · exact mulOk_r (by decide) (by decide)
    have ev60 : ∀ σ H', Ev (tCall (sp_law_ten) [] E0 (tCons (tC (.int 60)) tNil)) σ H' (.int (S * 2)) := fun σ H' => by
      rw [← e60]
      walk_at "ev"
      decide
    unfold rd_law_row
    refine q_rowN (fun H1 _ => evS _ _) (yes S (by omega) (by omega)) fun r l p H1 e1 hR hl hp => ?_
    show tSeq _ _ _ [some (.ref r), none, none, none, none, none] H1
    refine q_asgL (xs := []) (el_lst ea_nil (by simp)) fun pc H2 hpc e2 h2 => ?_
    have hR2 := hR.ex e2
    have lc : l ≠ pc := ne_of_none hR.ln hpc
    have pp : p ≠ pc := ne_of_none hR.ps hpc
    have rc : r ≠ pc := by
      obtain ⟨dx, hd⟩ := hR.ob
      exact ne_of_none hd hpc
    show tSeq _ _ _ [some (.ref r), some (.ref pc), none, none, none, none] H2
    have hB : EvPA (tCons (tTup (tCons (tC (.int 0)) (tCons (tC (.int 1)) tNil))) (tCons (tTup (tCons (tC (.int 0)) (tCons (tC (.int 100)) tNil))) (tCons (tTup (tCons (tC (.int 0)) (tCons (tC (.bl true)) tNil))) (tCons (tTup (tCons (tC (.int 0)) (tCons (tC .non) tNil))) (tCons (tTup (tCons (tC (.int 0)) (tCons (tC (.int 2)) tNil))) (tCons (tTup (tCons (tC (.int 1)) (tCons (tC (.int 0)) tNil))) (tCons (tTup (tCons (tC (.int 1)) (tCons (tC .non) tNil))) (tCons (tTup (tCons (tC (.int 2)) (tCons (tC (.int 0)) tNil))) tNil)))))))) [some (.ref r), some (.ref pc), none, none, none, none] H2 callsB :=
      epa_cons ev_c ev_c (epa_cons ev_c ev_c (epa_cons ev_c ev_c (epa_cons ev_c ev_c (epa_cons ev_c ev_c (epa_cons ev_c ev_c (epa_cons ev_c ev_c (epa_cons ev_c ev_c epa_nil)))))))
    refine q_asgPA hB (by decide) fun rs2 pk H4 e4 hp3 h4k => ?_
    show tSeq _ _ _ [some (.ref r), some (.ref pc), some (.ref pk), none, none, none] H4
    have hA : EvPA (tCons (tTup (tCons (tC (.int 1)) (tCons (tCall (sp_law_ten) [] E0 (tCons (tC (.int 60)) tNil)) tNil))) (tCons (tTup (tCons (tC (.int 1)) (tCons (tOp rMulX (tCall (sp_law_ten) [] E0 (tCons (tC (.int 59)) tNil)) (tC (.int 5))) tNil))) tNil)) [some (.ref r), some (.ref pc), some (.ref pk), none, none, none] H4 (callsA (S * 2) S) :=
      epa_cons ev_c (ev60 _ _) (epa_cons ev_c (evS _ _) epa_nil)
    refine q_forPC hA (ev_var rfl) h4k hp3 (show 2 + 8 ≤ 1000 by decide) fun p3 rs HB eB5 hp3' hBpr hBp3 => ?_
    have eB := e4.trans eB5
    have hBc := eB _ _ h2
    have hBR := hR2.ex eB
    have p3c : p3 ≠ pc := (ne_of_none (e4 _ _ h2) hp3').symm
    refine ⟨fun i σ' H' => (∃ y3 y4, σ' = [some (.ref r), some (.ref pc), some (.ref pk), y3, y4, none]) ∧ H' pc = some (.lst ((callN.take i).map V.str)) ∧ (∀ b o, b ≠ pc → HB b = some o → H' b = some o), ⟨⟨none, none, rfl⟩, hBc, fun b o _ h => h⟩, fun i σ' H' hP => hP.2.2 _ _ p3c hBp3, fun i t q σ' H' ht hq htup hP => ?_, fun σ' H' hP => ?_⟩
    · obtain ⟨⟨y3, y4, rfl⟩, hc, fr⟩ := hP
      obtain ⟨kd, one⟩ := q
      have tc : t ≠ pc := ne_of htup hBc fun e => by cases e
      refine ⟨fr _ _ tc htup, ?_⟩
      · skip
        obtain ⟨j, hj, hn, hk, hcb⟩ := calls_bad (no _ (Int.le_refl _)) hq
        show tSeq _ _ _ [some (.ref r), some (.ref pc), some (.ref pk), some kd, some one, none] H'
        refine q_tryK ?_
        have row : ∀ H6, (∀ b o, b ≠ pc → HB b = some o → H6 b = some o) → RowAt c H6 r l p [] S := fun H6 f6 => by
          obtain ⟨dx, hd⟩ := hBR.ob
          exact ⟨⟨dx, f6 _ _ rc hd⟩, f6 _ _ lc hBR.ln, f6 _ _ pp hBR.ps, hBR.ne, hBR.nm, hBR.sz⟩
        have hi10 : i < 10 := by
          have := (List.getElem?_eq_some_iff.mp hn).1
          exact this
        have chk : ∀ (D1 : Ends), (∀ σ' H', ((∃ y3 y4, σ' = [some (.ref r), some (.ref pc), some (.ref pk), y3, y4, none]) ∧ H' pc = some (.lst ((callN.take (i + 1)).map V.str)) ∧ (∀ b o, b ≠ pc → HB b = some o → H' b = some o)) → D1.nx σ' H') → ∀ H8, H8 pc = some (.lst ((callN.take i).map V.str ++ [.str (exName j)])) → (∀ b o, b ≠ pc → HB b = some o → H8 b = some o) →
            tIfS (tOr (tTest (tOp rNe (tMeth c "number" (sp_Row_number c) [] E0 (tVar 0) tNil) (tOp rMulX (tCall (sp_law_ten) [] E0 (tCons (tC (.int 59)) tNil)) (tC (.int 5))))) (tTest (tOp rNe (tCB (rLenO c (sp_Row_len c)) (tCons (tVar 0) tNil)) (tC (.int 0))))) (tRet (tC (.bl false))) tNext D1 [some (.ref r), some (.ref pc), some (.ref pk), some kd, some one, none] H8 := fun D1 hD1 H8 h8 f8 => by
          have hR8 := row _ f8
          refine s_if (b := !decide (S = S) || !decide ((0 : Int) = 0)) (et_or (et_test (ev_op (ev_rnumber (ev_var rfl) hR8) (evS _ _) rv_neI)) fun _ => et_test (ev_op (ev_rlen (ev_var rfl) hR8) ev_c rv_neI)) (fun hb => ?_) (fun _ H9 e9 => hD1 _ H9 ⟨⟨_, _, rfl⟩, ?_, fun b o hb ho => e9 _ _ (f8 b o hb ho)⟩)
          · rw [decide_eq_true rfl, decide_eq_true rfl] at hb
            cases hb
          · rw [e9 _ _ h8, List.take_add_one, hn, List.map_append]
            rfl
        have len : ((callN.take i).map V.str).length < 1000 := by rw [List.length_map, List.length_take]; omega
        have hRr := row _ fr
        obtain ⟨dx, hd⟩ := hRr.ob
        rcases hcb with ⟨h1, rfl, hb⟩ | ⟨h1, rfl, hb⟩ | ⟨h1, rfl⟩
        · cases h1
          refine s_case (i := 0) (j := 3) rfl (fun _ => ?_) (fun h => absurd rfl h)
          refine s_mT (i := 0) (j := 4) (r := r) (v := one) rfl hd (lk_none (by decide +kernel) (by decide +kernel)) rfl ?_
          rcases hb with hb | hb
          · exact .inr ⟨hk H', hb, fun H6 e6 => w_app (j := 0) T hj (e6 _ _ hc) rfl (fun _ => rfl) (fun _ => rfl) len fun H8 h8 f8 => chk _ (fun _ _ h => h) H8 h8 fun b o hb ho => f8 b o hb (e6 _ _ (fr b o hb ho))⟩
          · cases hb
            exact .inl ⟨r, l, p, [], S, 2, rfl, rfl, hRr, by decide, fun _ hz => absurd hz (no _ (Int.le_refl _)), fun _ H6 e6 => w_app (j := 0) T hj (e6 _ _ hc) rfl (fun _ => rfl) (fun _ => rfl) len fun H8 h8 f8 => chk _ (fun _ _ h => h) H8 h8 fun b o hb ho => f8 b o hb (e6 _ _ (fr b o hb ho))⟩
        · cases h1
          refine s_case (i := 0) (j := 3) rfl (fun h => absurd h (by decide)) fun _ => s_case (i := 1) (j := 3) rfl (fun _ => ?_) (fun h => absurd rfl h)
          refine s_mT (i := 0) (j := 4) (r := r) (v := one) rfl hd (lk_none (by decide +kernel) (by decide +kernel)) rfl ?_
          rcases hb with hb | hb
          · exact .inr ⟨hk H', hb, fun H6 e6 => w_app (j := 0) T hj (e6 _ _ hc) rfl (fun _ => rfl) (fun _ => rfl) len fun H8 h8 f8 => chk _ (fun _ _ h => h) H8 h8 fun b o hb ho => f8 b o hb (e6 _ _ (fr b o hb ho))⟩
          · cases hb
            exact .inl ⟨r, l, p, [], S, S, rfl, rfl, hRr, by decide, fun _ hz => absurd hz (no _ (by omega)), fun _ H6 e6 => w_app (j := 0) T hj (e6 _ _ hc) rfl (fun _ => rfl) (fun _ => rfl) len fun H8 h8 f8 => chk _ (fun _ _ h => h) H8 h8 fun b o hb ho => f8 b o hb (e6 _ _ (fr b o hb ho))⟩
        · cases h1
          refine s_case (i := 0) (j := 3) rfl (fun h => absurd h (by decide)) fun _ => s_case (i := 1) (j := 3) rfl (fun h => absurd h (by decide)) fun _ => ?_
          exact s_mT0 (i := 0) (r := r) rfl hd (lk_none (by decide +kernel) (by decide +kernel)) ⟨r, l, p, [], S, rfl, hRr, fun _ H6 e6 => w_app (j := 4) T hj (e6 _ _ hc) rfl (fun _ => rfl) (fun _ => rfl) len fun H8 h8 f8 => chk _ (fun _ _ h => h) H8 h8 fun b o hb ho => f8 b o hb (e6 _ _ (fr b o hb ho)), fun ms' y hm => absurd hm (by simp)⟩
    · obtain ⟨⟨y3, y4, rfl⟩, hc, fr⟩ := hP
      have hc : H' pc = some (.lst (callN.map V.str)) := hc
      have hRr : RowAt c H' r l p [] S := by
        obtain ⟨dx, hd⟩ := hBR.ob
        exact ⟨⟨dx, fr _ _ rc hd⟩, fr _ _ lc hBR.ln, fr _ _ pp hBR.ps, hBR.ne, hBR.nm, hBR.sz⟩
      show tRet _ _ [some (.ref r), some (.ref pc), some (.ref pk), y3, y4, none] H'
      have h1 : Ev (tOp (rEqD K) (tVar 1) (tOp rCat (tOp rRep (tLst (tCons (tC (.str "number")) tNil)) (tC (.int 9))) (tLst (tCons (tC (.str "none")) tNil)))) [some (.ref r), some (.ref pc), some (.ref pk), y3, y4, none] H' (.bl true) := ev_is (ev_eqP (ep_var (v := .ref pc) rfl (.lst (sq_of hc) (dp_strs callN))) (ep_lstS (ns := callN) (el_is (el_catN (el_rep1 (x := .str "number") (n := 9) (el_lst (vs := [.str "number"]) (by walk_at "ev") (by simp)) ev_c (by decide) (by decide)) (el_lst (vs := [.str "none"]) (by walk_at "ev") (by simp)) (by simp)) (by decide +kernel))) (shaped_sl callN (by decide +kernel)) (shaped_sl callN (by decide +kernel))) (by rw [eqv_sl])
      refine h1 H' (Ex.refl _) _ fun H6 e6 => ⟨true, rfl, ?_⟩
      show if true = true then _ else _
      rw [if_pos rfl]
      have hR6 := hRr.ex e6
      obtain ⟨dx, hd⟩ := hR6.ob
      refine ⟨.ref r, rfl, r, dx, _, rfl, hd, lk_none (by decide +kernel) (by decide +kernel), ?_⟩
      refine (ev_op (x := .int S) (y := .int 1) (evS _ _) ev_c rv_I0 : Ev _ _ H6 (.int (S - 1))) H6 (Ex.refl _) _ fun H7 e7 => ?_
      refine .inl ⟨r, l, p, [], S, S - 1, rfl, rfl, hR6.ex e7, by decide, fun _ _ H8 hR8 _ => ?_, fun hf => absurd ⟨yes _ (by omega) (by omega), yes _ (by omega) (by omega)⟩ hf⟩
      refine (ev_op (x := .int (S * 2)) (y := .int 1) (ev60 _ _) ev_c rv_I0 : Ev _ _ H8 (.int (S * 2 - 1))) H8 (Ex.refl _) _ fun H9 e9 => ?_
      refine rv_eqI (n := S + (S - 1)) (m := S * 2 - 1) (H := H9) H9 (Ex.refl _) _ fun H10 e10 => ⟨true, by rw [decide_eq_true (by omega)], ?_⟩
      show if true = true then _ else _
      rw [if_pos rfl]
      exact (ev_is (ev_op (ev_rlen (ev_var rfl) ((hR8.ex e9).ex e10)) ev_c rv_eqI) rfl : Ev _ _ H10 (.bl true)) H10 (Ex.refl _) _ fun H11 _ => q H11
def rd_law (K : PySem.W.Frag) : TS :=
      (tSeq (tAsg (tCall (sp_law_start K) [] E0 (tCons (tVar 0) tNil)) (gName 1))
      (tSeq (tAsg (tLst (tCons (tC (.int 4)) (tCons (tC (.int 4)) (tCons (tC (.int 4)) (tCons (tC (.int 3)) (tCons (tC (.int 3)) (tCons (tC (.int 3)) (tCons (tC (.int 3)) (tCons (tC (.int 3)) (tCons (tC (.int 3)) (tCons (tC (.int 60)) (tCons (tC (.int 60)) (tCons (tC (.int 60)) (tCons (tC (.int 300)) (tCons (tC (.int 300)) (tCons (tC (.int 300)) (tCons (tC (.int 300)) (tCons (tC (.int 300)) (tCons (tC (.int 600)) (tCons (tC (.int 1000)) (tCons (tC (.int 1000000000)) tNil))))))))))))))))))))) (gName 2))
      (tSeq (tAsg (tOp rCat (tOp rCat (tOp rRep (tLst (tCons (tC (.int 1)) tNil)) (tC (.int 12))) (tOp rRep (tLst (tCons (tC (.int 0)) tNil)) (tC (.int 5)))) (tLst (tCons (tC (.int 1)) (tCons (tC (.int 1)) (tCons (tC (.int 0)) tNil))))) (gName 3))
      (tSeq (tFor (iRng1 (tCons (tC (.int 20)) tNil)) (gName 4)
        (tFor (iList K (tLst (tCons (tC .non) (tCons (tOp rSubI (tOp (rIxL K) (tVar 3) (tVar 4)) (tC (.int 1))) (tCons (tOp rAddI (tOp (rIxL K) (tVar 2) (tVar 4)) (tC (.int 1))) (tCons (tC (.bl true)) (tCons (tC (.str "2")) tNil))))))) (gName 5)
        (tIfS (tTest (tOp rNe (tCall (sp_law_asked) [] E0 (tCons (tC (.int 1)) (tCons (tVar 4) (tCons (tVar 5) tNil)))) (tC (.str "count"))))
        (tRet (tC (.bl false)))
        tNext)))
      (tSeq (tIfS (tOr (tTest (tOp (rNeD K) (tLc (iRng1 (tCons (tC (.int 20)) tNil)) (gName 10) tYes (tCall (sp_law_asked) [] E0 (tCons (tC (.int 1)) (tCons (tVar 10) (tCons (tOp (rIxL K) (tVar 2) (tVar 10)) tNil)))) [10]) (tOp rRep (tLst (tCons (tC (.str "done")) tNil)) (tC (.int 20))))) (tTest (tOp (rNeD K) (tLc (iRng1 (tCons (tC (.int 20)) tNil)) (gName 10) tYes (tCall (sp_law_asked) [] E0 (tCons (tC (.int 1)) (tCons (tVar 10) (tCons (tOp (rIxL K) (tVar 3) (tVar 10)) tNil)))) [10]) (tOp rRep (tLst (tCons (tC (.str "done")) tNil)) (tC (.int 20))))))
        (tRet (tC (.bl false)))
        tNext)
      (tSeq (tFor (iRng1 (tCons (tC (.int 11)) tNil)) (gName 4)
        (tSeq (tAsg (tIf (tTest (tOp rLtI (tVar 4) (tC (.int 8)))) (tC (.int 99)) (tC (.int 1000000))) (gName 6))
      (tSeq (tAsg (tIf (tTest (tOp rLtI (tVar 4) (tC (.int 8)))) (tC (.int 2)) (tC (.int 1))) (gName 7))
      (tSeq (tFor (iList K (tLst (tCons (tC .non) (tCons (tOp rSubI (tVar 7) (tC (.int 1))) (tCons (tOp rAddI (tVar 6) (tC (.int 1))) (tCons (tOp rSubI (tC (.int 0)) (tC (.int 1))) (tCons (tC (.bl true)) (tCons (tC (.str "2")) tNil)))))))) (gName 5)
        (tIfS (tTest (tOp rNe (tCall (sp_law_asked) [] E0 (tCons (tC (.int 2)) (tCons (tVar 4) (tCons (tVar 5) tNil)))) (tC (.str "number"))))
        (tRet (tC (.bl false)))
        tNext))
      (tSeq (tAsg (tIf (tTest (tOp (rIn K false) (tVar 4) (tTup (tCons (tC (.int 0)) (tCons (tC (.int 1)) (tCons (tC (.int 2)) (tCons (tC (.int 3)) (tCons (tC (.int 8)) (tCons (tC (.int 9)) (tCons (tC (.int 10)) tNil)))))))))) (tC (.str "beginning")) (tIf (tTest (tOp rEq (tVar 4) (tC (.int 7)))) (tC (.str "done")) (tC (.str "count")))) (gName 8))
      (tIfS (tTest (tOp rNe (tCall (sp_law_asked) [] E0 (tCons (tC (.int 2)) (tCons (tVar 4) (tCons (tCall (sp_law_pick) [] E0 (tCons (tVar 1) (tCons (tLst (tCons (tVar 7) (tCons (tVar 6) tNil))) tNil))) tNil)))) (tVar 8)))
        (tRet (tC (.bl false)))
        tNext))))))
      (tSeq (tFor (iList K (tLst (tCons (tC .non) (tCons (tC (.int 5)) (tCons (tTup tNil) (tCons (tLst tNil) (tCons (tTup (tCons (tC (.int 1)) (tCons (tC (.int 2)) tNil))) (tCons (tLst (tCons (tC (.int 0)) tNil)) (tCons (tLst (tCons (tC (.int 10000)) tNil)) (tCons (tLst (tCons (tC (.bl true)) tNil)) (tCons (tLst (tCons (tC (.str "1")) tNil)) (tCons (tOp rRep (tLst (tCons (tC (.int 1)) tNil)) (tC (.int 21))) (tCons (tLst (tCons (tC (.int 1)) (tCons (tC .non) tNil))) tNil))))))))))))) (gName 5)
        (tIfS (tTest (tOp rNe (tCall (sp_law_asked) [] E0 (tCons (tC (.int 3)) (tCons (tC (.int 0)) (tCons (tVar 5) tNil)))) (tC (.str "beginning"))))
        (tRet (tC (.bl false)))
        tNext))
      (tSeq (tAsg (tLc (iTup K (tTup (tCons (tC .non) (tCons (tC (.int 301)) (tCons (tC (.int 53)) (tCons (tC (.int 62)) (tCons (tC (.int 63)) tNil))))))) (gName 11) tYes (tCall (sp_law_asked) [] E0 (tCons (tC (.int 3)) (tCons (tC (.int 1)) (tCons (tVar 11) tNil)))) [11]) (gName 9))
      (tSeq (tIfS (tOr (tTest (tOp rNe (tCall (sp_law_asked) [] E0 (tCons (tC (.int 3)) (tCons (tC (.int 0)) (tCons (tOp rRep (tLst (tCons (tC (.int 9999)) tNil)) (tC (.int 20))) tNil)))) (tC (.str "done")))) (tTest (tOp (rNeD K) (tVar 9) (tLst (tCons (tC (.str "count")) (tCons (tC (.str "count")) (tCons (tC (.str "none")) (tCons (tC (.str "none")) (tCons (tC (.str "done")) tNil)))))))))
        (tRet (tC (.bl false)))
        tNext)
      (tSeq (tIfS (tTest (tOp (rNeD K) (tLc (iTup K (tTup (tCons (tC (.int 2)) (tCons (tC (.int 3)) tNil)))) (gName 12) tYes (tCall (sp_law_asked) [] E0 (tCons (tC (.int 3)) (tCons (tC (.int 2)) (tCons (tVar 12) tNil)))) [12]) (tLst (tCons (tC (.str "none")) (tCons (tC (.str "done")) tNil)))))
        (tRet (tC (.bl false)))
        tNext)
      (tSeq (tIfS (tTest (tOp (rNeD K) (tLc (iTup K (tTup (tCons (tC (.int 1)) (tCons (tC (.int 2)) (tCons (tC (.int 3)) (tCons (tC (.int 4)) (tCons (tC (.int 5)) tNil))))))) (gName 12) tYes (tCall (sp_law_asked) [] E0 (tCons (tC (.int 3)) (tCons (tC (.int 3)) (tCons (tVar 12) tNil)))) [12]) (tOp rCat (tLst (tCons (tC (.str "none")) tNil)) (tOp rRep (tLst (tCons (tC (.str "done")) tNil)) (tC (.int 4))))))
        (tRet (tC (.bl false)))
        tNext)
      (tRet (tAndV (tOp (rEqD K) (tLc (iTup K (tTup (tCons (tC (.int 3)) (tCons (tC (.int 4)) (tCons (tC (.int 8)) (tCons (tC (.int 9)) (tCons (tC (.int 10000)) tNil))))))) (gName 13) tYes (tCall (sp_law_asked) [] E0 (tCons (tC (.int 3)) (tCons (tC (.int 4)) (tCons (tVar 13) tNil)))) [13]) (tLst (tCons (tC (.str "none")) (tCons (tC (.str "done")) (tCons (tC (.str "done")) (tCons (tC (.str "none")) (tCons (tC (.str "beginning")) tNil))))))) (tCall (sp_law_row) [] E0 tNil))))))))))))))
def N_law : List Str := ["script", "draws", "highs", "lows", "which", "bad", "high", "low", "due", "told", "k", "most", "count", "far"]
theorem lows_at {i : Nat} (h : i < 20) : atI (loL.map V.int) (i : Int) = some (.int (loF i)) := by
  apply atI_nat
  rw [List.getElem?_map, List.getElem?_eq_getElem (show i < loL.length from h)]
  unfold loF
  rw [Int.toNat_natCast, List.getD, List.getElem?_eq_getElem (show i < loL.length from h)]
  rfl
theorem highs_at {i : Nat} (h : i < 20) : atI (hiL.map V.int) (i : Int) = some (.int (hiF i)) := by
  apply atI_nat
  rw [List.getElem?_map, List.getElem?_eq_getElem (show i < hiL.length from h)]
  unfold hiF
  rw [Int.toNat_natCast, List.getD, List.getElem?_eq_getElem (show i < hiL.length from h)]
  rfl
theorem hi_in : ∀ k ∈ rgI 0 20, outC k (.int (hiF k)) = none := by decide +kernel
theorem lo_in : ∀ k ∈ rgI 0 20, outC k (.int (loF k)) = none := by decide +kernel
theorem outC_bad {k : Int} {v : V} (h : intV v (loF k) (hiF k) = false) : outC k v = some 2 := by unfold outC; rw [h]; rfl
theorem outB_bad {k : Int} {v : V} (h : intV v (blo k) (bhi k) = false) : outB k v = some 0 := by unfold outB; rw [h]; rfl
theorem outB_good {k : Int} {v : V} (h : intV v (blo k) (bhi k) = true) : outB k v = dueB k := by unfold outB; rw [h]; rfl
theorem intV_lt {n lo hi : Int} (h : n < lo) : intV (.int n) lo hi = false := by
  show (decide (lo ≤ n) && decide (n ≤ hi)) = false
  rw [decide_eq_false (by omega)]
  rfl
theorem intV_gt {n lo hi : Int} (h : hi < n) : intV (.int n) lo hi = false := by
  show (decide (lo ≤ n) && decide (n ≤ hi)) = false
  rw [decide_eq_false (show ¬ n ≤ hi by omega), Bool.and_false]
def dueS (z : Int) : Str := if z ∈ ([0, 1, 2, 3, 8, 9, 10] : List Int) then "beginning" else if z = 7 then "done" else "count"
theorem dueS_eq : ∀ z ∈ rgI 0 11, dueS z = outS (dueB z) := by decide +kernel
def lwR (v : V) : Option Nat := match v with
  | .int m => if m = 301 then some 2 else if m = 63 then none else some 4
  | _ => some 2
def pxR (v : V) : Option Nat := match v with
  | .int m => if m = 3 then some 4 else if m = 9 then some 4 else if m = 10000 then some 1 else none
  | _ => none
theorem lw53 : (placesL 2 9 53).length < 2 := by decide +kernel
theorem lw62 : (placesL 2 9 62).length < 2 := by decide +kernel
theorem lw63 : 2 ≤ (placesL 2 9 63).length := by decide +kernel
theorem rowC20 : RowC (List.replicate 20 9999) := (rowB_iff _).mp (by decide +kernel)
theorem pure_law {K : PySem.W.Frag} (vs : List V) (H : Hp) (Q : VK) (E : XK) (h : sp_law K vs H Q E) : rd_law K { nx := fun _ H' => Q .non H', rt := Q } (start N_law vs) H := by
  match vs, h with
  | [a], h =>
    obtain ⟨s, ns, rfl, hS, hl, q⟩ := h
    unfold rd_law
    refine q_start rfl hS hl fun d nn H1 e1 hD1 _ _ => ?_
    show tSeq _ _ _ [some (.ref s), some (.ref d), none, none, none, none, none, none, none, none, none, none, none, none] H1
    refine q_asgL (xs := hiL.map V.int) (el_is (el_lst (vs := [.int 4, .int 4, .int 4, .int 3, .int 3, .int 3, .int 3, .int 3, .int 3, .int 60, .int 60, .int 60, .int 300, .int 300, .int 300, .int 300, .int 300, .int 600, .int 1000, .int 1000000000]) (by walk_at "ev") (by simp)) rfl) fun ph H2 hph e2 h2 => ?_
    show tSeq _ _ _ [some (.ref s), some (.ref d), some (.ref ph), none, none, none, none, none, none, none, none, none, none, none] H2
    refine q_asgL (xs := loL.map V.int) (el_is (el_catN (el_catN (el_rep1 (x := .int 1) (n := 12) (el_lst (vs := [.int 1]) (by walk_at "ev") (by simp)) ev_c (by decide) (by decide)) (el_rep1 (x := .int 0) (n := 5) (el_lst (vs := [.int 0]) (by walk_at "ev") (by simp)) ev_c (by decide) (by decide)) (by simp)) (el_lst (vs := [.int 1, .int 1, .int 0]) (by walk_at "ev") (by simp)) (by simp)) (by decide +kernel)) fun pl H3 hpl e3 h3 => ?_
    have h23 := e3 _ _ h2
    show tSeq _ _ _ [some (.ref s), some (.ref d), some (.ref ph), some (.ref pl), none, none, none, none, none, none, none, none, none, none] H3
    -- counts
    refine q_forR1 (n := 20) (by walk_at "ev") (by decide) (fun i σ' H' => (∃ y4 y5, σ' = [some (.ref s), some (.ref d), some (.ref ph), some (.ref pl), y4, y5, none, none, none, none, none, none, none, none]) ∧ Ex H3 H') (fun H4 e4 => ⟨⟨none, none, rfl⟩, e4⟩) (fun i σ' H' hi hP => ?_) (fun σ' H' hP => ?_)
    · obtain ⟨⟨y4, y5, rfl⟩, e4⟩ := hP
      have hi : i < 20 := by omega
      show tFor _ _ _ _ [some (.ref s), some (.ref d), some (.ref ph), some (.ref pl), some (.int (i : Int)), y5, none, none, none, none, none, none, none, none] H'
      have st : ∀ (H H' : Hp) (v : V), Ex H H' → (KdV H v ∧ intV v (loF i) (hiF i) = false) → (KdV H' v ∧ intV v (loF i) (hiF i) = false) := fun H H' v e h => ⟨h.1.ex e, h.2⟩
      refine s_forK (P := fun H v => KdV H v ∧ intV v (loF i) (hiF i) = false) (n := 5) st (ek_cons (ek_ev ev_c fun _ _ => ⟨.non, rfl⟩) (ek_cons (ek_ev (v := .int (loF i - 1)) (ev_op (ev_ixV (i := (i : Int)) (ev_var rfl) (e4 _ _ h3) (ev_var rfl) (lows_at hi)) ev_c rv_I0) fun _ _ => ⟨.int, intV_lt (by omega)⟩) (ek_cons (ek_ev (v := .int (hiF i + 1)) (ev_op (ev_ixV (i := (i : Int)) (ev_var rfl) (e4 _ _ h23) (ev_var rfl) (highs_at hi)) ev_c rv_I0) fun _ _ => ⟨.int, intV_gt (by omega)⟩) (ek_cons (ek_ev ev_c fun _ _ => ⟨.bl, rfl⟩) (ek_cons (ek_ev ev_c fun _ _ => ⟨.str, rfl⟩) ek_nil st) st) st) st) st) (by decide) (fun σ' H' => (∃ y5, σ' = [some (.ref s), some (.ref d), some (.ref ph), some (.ref pl), some (.int (i : Int)), y5, none, none, none, none, none, none, none, none]) ∧ Ex H3 H') (fun H5 e5 => ⟨⟨_, rfl⟩, e4.trans e5⟩) (fun v σ' H' N hv hP hN => ?_) (fun σ' H' hP => ?_)
      · obtain ⟨⟨y5, rfl⟩, e5⟩ := hP
        show tIfS _ _ _ _ [some (.ref s), some (.ref d), some (.ref ph), some (.ref pl), some (.int (i : Int)), some v, none, none, none, none, none, none, none, none] H'
        exact s_if (b := false) (et_is (et_test (ev_op (ev_asked (g := 1) (k := (i : Int)) (s := "count") ev_c (ev_var rfl) (ev_var rfl) (fun H6 e6 => Ask.cnt ⟨by omega, by omega⟩ (hv.1.ex e6)) (by rw [outC_bad hv.2]; rfl)) ev_c rv_neS)) (by decide +kernel)) (fun hb => by cases hb) (fun _ H6 e6 => hN _ _ e6 ⟨⟨_, rfl⟩, e5.trans e6⟩)
      · obtain ⟨⟨y5, rfl⟩, e5⟩ := hP
        exact ⟨⟨_, _, rfl⟩, e5⟩
    obtain ⟨⟨y4, y5, rfl⟩, e4⟩ := hP
    have h34 := e4 _ _ h3
    have h24 := e4 _ _ h23
    have nat_ : ∀ z : Int, 0 ≤ z → z < 20 → ∃ n : Nat, z = n ∧ n < 20 := fun z h0 h1 => ⟨z.toNat, by omega, by omega⟩
    have rep20 : ∀ σ H', EvL (tOp rRep (tLst (tCons (tC (.str "done")) tNil)) (tC (.int 20))) σ H' ((List.replicate 20 ("done" : Str)).map V.str) := fun σ H' => el_is (el_rep1 (x := .str "done") (n := 20) (el_lst (vs := [.str "done"]) (by walk_at "ev") (by simp)) ev_c (by decide) (by decide)) (by decide +kernel)
    refine q_if1 (b := false || false) (et_or (et_sameS (l := List.replicate 20 "done") (l' := List.replicate 20 "done") (el_is (el_lcR1y (n := 20) (fun _ => .str "done") (by walk_at "ev") (by decide) (fun _ => rfl) fun z H2 e z0 z1 => ?_) (by decide +kernel)) (rep20 _ _) rfl (by decide +kernel)) fun _ => et_sameS (l := List.replicate 20 "done") (l' := List.replicate 20 "done") (el_is (el_lcR1y (n := 20) (fun _ => .str "done") (by walk_at "ev") (by decide) (fun _ => rfl) fun z H2 e z0 z1 => ?_) (by decide +kernel)) (rep20 _ _) rfl (by decide +kernel)) (fun hb => by cases hb) (fun _ H5 e5 => ?_)
    · obtain ⟨n, rfl, hn⟩ := nat_ z z0 z1
      exact ev_asked (g := 1) (k := (n : Int)) (v := .int (hiF n)) ev_c (ev_var rfl) (ev_ixV (i := (n : Int)) (ev_var rfl) (e _ _ h24) (ev_var rfl) (highs_at hn)) (fun _ _ => Ask.cnt ⟨z0, z1⟩ .int) (by rw [hi_in n (mem_rgI.mpr ⟨z0, z1⟩)]; rfl)
    · obtain ⟨n, rfl, hn⟩ := nat_ z z0 z1
      exact ev_asked (g := 1) (k := (n : Int)) (v := .int (loF n)) ev_c (ev_var rfl) (ev_ixV (i := (n : Int)) (ev_var rfl) (e _ _ h34) (ev_var rfl) (lows_at hn)) (fun _ _ => Ask.cnt ⟨z0, z1⟩ .int) (by rw [lo_in n (mem_rgI.mpr ⟨z0, z1⟩)]; rfl)
    have hD5 := (((hD1.ex e2).ex e3).ex e4).ex e5
    -- bases
    refine q_forR1 (n := 11) (by walk_at "ev") (by decide) (fun i σ' H' => (∃ y4 y5 y6 y7 y8, σ' = [some (.ref s), some (.ref d), some (.ref ph), some (.ref pl), y4, y5, y6, y7, y8, none, none, none, none, none]) ∧ Dr d nn H') (fun H4 e4 => ⟨⟨_, _, _, _, _, rfl⟩, hD5.ex e4⟩) (fun i σ' H' hi hP => ?_) (fun σ' H' hP => ?_)
    · obtain ⟨⟨y4, y5, y6, y7, y8, rfl⟩, hD⟩ := hP
      show tSeq _ _ _ [some (.ref s), some (.ref d), some (.ref ph), some (.ref pl), some (.int (i : Int)), y5, y6, y7, y8, none, none, none, none, none] H'
      have hb12 : blo i ≤ bhi i ∧ 0 < blo i := by unfold blo bhi; split <;> omega
      refine q_asg (v := .int (bhi i)) (ev_if (b := decide ((i : Int) < 8)) (et_test (ev_op (ev_var rfl) ev_c rv_I0)) (fun hb => ev_is ev_c (by unfold bhi; rw [if_pos (of_decide_eq_true hb)])) (fun hb => ev_is ev_c (by unfold bhi; rw [if_neg (of_decide_eq_false hb)]))) fun H6 e6 => ?_
      show tSeq _ _ _ [some (.ref s), some (.ref d), some (.ref ph), some (.ref pl), some (.int (i : Int)), y5, some (.int (bhi i)), y7, y8, none, none, none, none, none] H6
      refine q_asg (v := .int (blo i)) (ev_if (b := decide ((i : Int) < 8)) (et_test (ev_op (ev_var rfl) ev_c rv_I0)) (fun hb => ev_is ev_c (by unfold blo; rw [if_pos (of_decide_eq_true hb)])) (fun hb => ev_is ev_c (by unfold blo; rw [if_neg (of_decide_eq_false hb)]))) fun H7 e7 => ?_
      show tSeq _ _ _ [some (.ref s), some (.ref d), some (.ref ph), some (.ref pl), some (.int (i : Int)), y5, some (.int (bhi i)), some (.int (blo i)), y8, none, none, none, none, none] H7
      have st : ∀ (H H' : Hp) (v : V), Ex H H' → (KdV H v ∧ intV v (blo i) (bhi i) = false) → (KdV H' v ∧ intV v (blo i) (bhi i) = false) := fun H H' v e h => ⟨h.1.ex e, h.2⟩
      refine q_forK (P := fun H v => KdV H v ∧ intV v (blo i) (bhi i) = false) (n := 6) st (ek_cons (ek_ev ev_c fun _ _ => ⟨.non, rfl⟩) (ek_cons (ek_ev (v := .int (blo i - 1)) (ev_op (ev_var rfl) ev_c rv_I0) fun _ _ => ⟨.int, intV_lt (by omega)⟩) (ek_cons (ek_ev (v := .int (bhi i + 1)) (ev_op (ev_var rfl) ev_c rv_I0) fun _ _ => ⟨.int, intV_gt (by omega)⟩) (ek_cons (ek_ev (v := .int (0 - 1)) (ev_op ev_c ev_c rv_I0) fun _ _ => ⟨.int, intV_lt (by omega)⟩) (ek_cons (ek_ev ev_c fun _ _ => ⟨.bl, rfl⟩) (ek_cons (ek_ev ev_c fun _ _ => ⟨.str, rfl⟩) ek_nil st) st) st) st) st) st) (by decide) (fun σ' H' => (∃ y5, σ' = [some (.ref s), some (.ref d), some (.ref ph), some (.ref pl), some (.int (i : Int)), y5, some (.int (bhi i)), some (.int (blo i)), y8, none, none, none, none, none]) ∧ Ex H7 H') (fun H5 e5 => ⟨⟨_, rfl⟩, e5⟩) (fun v σ' H' N hv hP hN => ?_) (fun σ' H8 hP => ?_)
      · obtain ⟨⟨y5, rfl⟩, e5⟩ := hP
        show tIfS _ _ _ _ [some (.ref s), some (.ref d), some (.ref ph), some (.ref pl), some (.int (i : Int)), some v, some (.int (bhi i)), some (.int (blo i)), y8, none, none, none, none, none] H'
        exact s_if (b := false) (et_is (et_test (ev_op (ev_asked (g := 2) (k := (i : Int)) (s := "number") ev_c (ev_var rfl) (ev_var rfl) (fun H6 e6 => Ask.bas ⟨by omega, by omega⟩ (hv.1.ex e6)) (by rw [outB_bad hv.2]; rfl)) ev_c rv_neS)) (by decide +kernel)) (fun hb => by cases hb) (fun _ H6 e6 => hN _ _ e6 ⟨⟨_, rfl⟩, e5.trans e6⟩)
      obtain ⟨⟨y5, rfl⟩, e8⟩ := hP
      refine q_asg (v := .str (dueS i)) (ev_if (b := decide ((i : Int) ∈ ([0, 1, 2, 3, 8, 9, 10] : List Int))) (et_test (ev_inT (ns := [0, 1, 2, 3, 8, 9, 10]) (ev_var rfl) (eu_tup (vs := [.int 0, .int 1, .int 2, .int 3, .int 8, .int 9, .int 10]) (by walk_at "ev") (by simp)))) (fun hb => ev_is ev_c (by unfold dueS; rw [if_pos (of_decide_eq_true hb)])) (fun hb => ev_if (b := decide ((i : Int) = 7)) (et_test (ev_op (ev_var rfl) ev_c rv_eqI)) (fun hb' => ev_is ev_c (by unfold dueS; rw [if_neg (of_decide_eq_false hb), if_pos (of_decide_eq_true hb')])) (fun hb' => ev_is ev_c (by unfold dueS; rw [if_neg (of_decide_eq_false hb), if_neg (of_decide_eq_false hb')])))) fun H9 e9 => ?_
      have hdue := dueS_eq i (mem_rgI.mpr ⟨by omega, by omega⟩)
      have hD9 := (((hD.ex e6).ex e7).ex e8).ex e9
      show tIfS _ _ _ _ [some (.ref s), some (.ref d), some (.ref ph), some (.ref pl), some (.int (i : Int)), y5, some (.int (bhi i)), some (.int (blo i)), some (.str (dueS i)), none, none, none, none, none] H9
      refine s_ifD hD9 (edt_test (P' := fun b => b = false) (ed_op (P1 := fun u => u = .str (outS (dueB i))) (P2 := fun u => u = .str (dueS i)) (P := fun u => u = .bl false) (ed_asked (g := 2) (k := (i : Int)) (r := dueB i) (R := fun v => v = .int (blo i) ∨ v = .int (bhi i)) (fun _ => ev_c) (fun _ => ev_var rfl) (ed_pick (P := fun xs => xs = [.int (blo i), .int (bhi i)]) rfl (edl_el fun H' _ => el_lst (by walk_at "ev") (by simp)) ?_) ?_) (ed_ev fun H' _ => ev_var rfl) ?_) ?_) fun H10 g10 => ⟨⟨_, _, _, _, _, rfl⟩, g10.dr⟩
      · rintro xs rfl
        exact ⟨by simp, by simp, fun x hx => by simpa using hx⟩
      · rintro v H' (rfl | rfl)
        · have := Ask.bas (H := H') (k := (i : Int)) (v := .int (blo i)) ⟨by omega, by omega⟩ .int
          rw [outB_good (intV_ok (Int.le_refl _) hb12.1)] at this
          exact this
        · have := Ask.bas (H := H') (k := (i : Int)) (v := .int (bhi i)) ⟨by omega, by omega⟩ .int
          rw [outB_good (intV_ok hb12.1 (Int.le_refl _))] at this
          exact this
      · rintro _ _ H' rfl rfl
        refine ⟨_, rfl, ?_⟩
        have := rv_neS (a := outS (dueB i)) (b := dueS i) (H := H')
        rw [decide_eq_true hdue.symm] at this
        exact this
      · rintro v rfl
        exact ⟨false, rfl, rfl⟩
    obtain ⟨⟨y4, y5, y6, y7, y8, rfl⟩, hD⟩ := hP
    -- no lists of beginnings
    have stL : ∀ (H H' : Hp) (v : V), Ex H H' → BadL H v → BadL H' v := fun H H' v e h => h.ex e
    refine q_forK (P := BadL) (n := 11) stL (ek_cons (ek_ev ev_c fun _ _ => .inl (.inl rfl)) (ek_cons (ek_ev ev_c fun _ _ => .inl (.inr (.inr (.inl ⟨_, rfl⟩)))) (ek_cons (ek_tup (vs := []) ea_nil (by simp) fun p H' h => .inl (.inr (.inr (.inr (.inr ⟨p, _, rfl, h⟩))))) (ek_cons (ek_lst (xs := []) (el_lst ea_nil (by simp)) fun p H' h => .inr ⟨p, _, rfl, h, (fun u hu => by cases hu), by simp, by decide⟩) (ek_cons (ek_tup (vs := [.int 1, .int 2]) (by walk_at "ev") (by simp) fun p H' h => .inl (.inr (.inr (.inr (.inr ⟨p, _, rfl, h⟩))))) (ek_cons (ek_lst (xs := [.int 0]) (el_lst (by walk_at "ev") (by simp)) fun p H' h => .inr ⟨p, _, rfl, h, kd1 .int, by simp, by decide⟩) (ek_cons (ek_lst (xs := [.int 10000]) (el_lst (by walk_at "ev") (by simp)) fun p H' h => .inr ⟨p, _, rfl, h, kd1 .int, by simp, by decide⟩) (ek_cons (ek_lst (xs := [.bl true]) (el_lst (by walk_at "ev") (by simp)) fun p H' h => .inr ⟨p, _, rfl, h, kd1 .bl, by simp, by decide⟩) (ek_cons (ek_lst (xs := [.str "1"]) (el_lst (by walk_at "ev") (by simp)) fun p H' h => .inr ⟨p, _, rfl, h, kd1 .str, by simp, by decide +kernel⟩) (ek_cons (ek_lst (xs := List.replicate 21 (.int 1)) (el_rep1 (x := .int 1) (n := 21) (el_lst (vs := [.int 1]) (by walk_at "ev") (by simp)) ev_c (by decide) (by decide)) fun p H' h => .inr ⟨p, _, rfl, h, fun u hu => (List.eq_of_mem_replicate hu) ▸ .int, by simp, by decide⟩) (ek_cons (ek_lst (xs := [.int 1, .non]) (el_lst (by walk_at "ev") (by simp)) fun p H' h => .inr ⟨p, _, rfl, h, kd2 .int .non, by simp, by decide⟩) ek_nil stL) stL) stL) stL) stL) stL) stL) stL) stL) stL) stL) (by decide) (fun σ' H' => (∃ y5, σ' = [some (.ref s), some (.ref d), some (.ref ph), some (.ref pl), y4, y5, y6, y7, y8, none, none, none, none, none])) (fun H6 e6 => ⟨_, rfl⟩) (fun v σ' H' N hv hP hN => ?_) (fun σ' H6 hP => ?_)
    · obtain ⟨y5, rfl⟩ := hP
      show tIfS _ _ _ _ [some (.ref s), some (.ref d), some (.ref ph), some (.ref pl), y4, some v, y6, y7, y8, none, none, none, none, none] H'
      exact s_if (b := false) (et_is (et_test (ev_op (ev_asked (g := 3) (k := 0) (s := "beginning") ev_c ev_c (ev_var rfl) (fun H6 e6 => Ask.rowB (hv.ex e6)) rfl) ev_c rv_neS)) (by decide +kernel)) (fun hb => by cases hb) (fun _ H6 e6 => hN _ _ e6 ⟨_, rfl⟩)
    obtain ⟨y5, rfl⟩ := hP
    refine q_asgL (xs := (["count", "count", "none", "none", "done"] : List Str).map V.str) (el_is (el_lcT (xs := [.non, .int 301, .int 53, .int 62, .int 63]) (fun v => .str (outS (lwR v))) (eu_tup (by walk_at "ev") (by simp)) (by simp) (fun _ => rfl) fun z H2 e hz => ?_) (by decide +kernel)) fun pt H7 hpt e7 h7 => ?_
    · simp only [List.mem_cons, List.not_mem_nil, or_false] at hz
      rcases hz with rfl | rfl | rfl | rfl | rfl
      · exact ev_asked (g := 3) (k := 1) ev_c ev_c (ev_var rfl) (fun _ _ => Ask.lwB .non rfl) rfl
      · exact ev_asked (g := 3) (k := 1) ev_c ev_c (ev_var rfl) (fun _ _ => Ask.lwB .int (by decide)) rfl
      · exact ev_asked (g := 3) (k := 1) ev_c ev_c (ev_var rfl) (fun _ _ => Ask.lwN (by decide) (by decide) lw53) rfl
      · exact ev_asked (g := 3) (k := 1) ev_c ev_c (ev_var rfl) (fun _ _ => Ask.lwN (by decide) (by decide) lw62) rfl
      · exact ev_asked (g := 3) (k := 1) ev_c ev_c (ev_var rfl) (fun _ _ => Ask.lwG (by decide) (by decide) lw63) rfl
    show tSeq _ _ _ [some (.ref s), some (.ref d), some (.ref ph), some (.ref pl), y4, y5, y6, y7, y8, some (.ref pt), none, none, none, none] H7
    have hsl : ∀ l : List Str, l.all PyData.strOk = true → SeqAt.shaped (.list (l.map PyData.str)) = true := fun l h => shaped_sl l h
    refine q_if1 (b := false || false) (et_or (et_is (et_test (ev_op (ev_askedL (g := 3) (k := 0) (s := "done") (xs := (List.replicate 20 9999).map V.int) ev_c ev_c (el_is (el_rep1 (x := .int 9999) (n := 20) (el_lst (vs := [.int 9999]) (by walk_at "ev") (by simp)) ev_c (by decide) (by decide)) (by decide +kernel)) (fun p H' h => Ask.rowG h rowC20) rfl) ev_c rv_neS)) (by decide +kernel)) fun _ => et_is (et_test (ev_neP (ep_var (v := .ref pt) rfl (.lst (sq_of h7) (dp_strs _))) (ep_lstS (ns := ["count", "count", "none", "none", "done"]) (el_lst (vs := [.str "count", .str "count", .str "none", .str "none", .str "done"]) (by walk_at "ev") (by simp))) (hsl _ (by decide +kernel)) (hsl _ (by decide +kernel)))) (by rw [eqv_sl]; rfl)) (fun hb => by cases hb) (fun _ H8 e8 => ?_)
    refine q_if1 (b := false) (et_sameS (l := ["none", "done"]) (l' := ["none", "done"]) (el_is (el_lcT (xs := [.int 2, .int 3]) (fun v => .str (if v = .int 2 then "none" else "done")) (eu_tup (by walk_at "ev") (by simp)) (by simp) (fun _ => rfl) fun z H2 e hz => ?_) (by decide +kernel)) (el_lst (vs := [.str "none", .str "done"]) (by walk_at "ev") (by simp)) rfl (by decide +kernel)) (fun hb => by cases hb) (fun _ H9 e9 => ?_)
    · simp only [List.mem_cons, List.not_mem_nil, or_false] at hz
      rcases hz with rfl | rfl
      · exact ev_asked (g := 3) (k := 2) ev_c ev_c (ev_var rfl) (fun _ _ => Ask.stN) rfl
      · exact ev_asked (g := 3) (k := 2) ev_c ev_c (ev_var rfl) (fun _ _ => Ask.stG) rfl
    refine q_if1 (b := false) (et_sameS (l := ["none", "done", "done", "done", "done"]) (l' := ["none", "done", "done", "done", "done"]) (el_is (el_lcT (xs := [.int 1, .int 2, .int 3, .int 4, .int 5]) (fun v => .str (if v = .int 1 then "none" else "done")) (eu_tup (by walk_at "ev") (by simp)) (by simp) (fun _ => rfl) fun z H2 e hz => ?_) (by decide +kernel)) (el_is (el_catN (el_lst (vs := [.str "none"]) (by walk_at "ev") (by simp)) (el_rep1 (x := .str "done") (n := 4) (el_lst (vs := [.str "done"]) (by walk_at "ev") (by simp)) ev_c (by decide) (by decide)) (by simp)) (by decide +kernel)) rfl (by decide +kernel)) (fun hb => by cases hb) (fun _ H10 e10 => ?_)
    · simp only [List.mem_cons, List.not_mem_nil, or_false] at hz
      rcases hz with rfl | rfl | rfl | rfl | rfl
      · exact ev_asked (g := 3) (k := 3) ev_c ev_c (ev_var rfl) (fun _ _ => Ask.rtN) rfl
      · exact ev_asked (g := 3) (k := 3) ev_c ev_c (ev_var rfl) (fun _ _ => Ask.rtG (by decide) (by decide)) rfl
      · exact ev_asked (g := 3) (k := 3) ev_c ev_c (ev_var rfl) (fun _ _ => Ask.rtG (by decide) (by decide)) rfl
      · exact ev_asked (g := 3) (k := 3) ev_c ev_c (ev_var rfl) (fun _ _ => Ask.rtG (by decide) (by decide)) rfl
      · exact ev_asked (g := 3) (k := 3) ev_c ev_c (ev_var rfl) (fun _ _ => Ask.rtG (by decide) (by decide)) rfl
    have fin : EvL (tLc (iTup K (tTup (tCons (tC (.int 3)) (tCons (tC (.int 4)) (tCons (tC (.int 8)) (tCons (tC (.int 9)) (tCons (tC (.int 10000)) tNil))))))) (gName 13) tYes (tCall (sp_law_asked) [] E0 (tCons (tC (.int 3)) (tCons (tC (.int 4)) (tCons (tVar 13) tNil)))) [13]) [some (.ref s), some (.ref d), some (.ref ph), some (.ref pl), y4, y5, y6, y7, y8, some (.ref pt), none, none, none, none] H10 ((["none", "done", "done", "none", "beginning"] : List Str).map V.str) := by
      refine el_is (el_lcT (xs := [.int 3, .int 4, .int 8, .int 9, .int 10000]) (fun v => .str (outS (pxR v))) (eu_tup (by walk_at "ev") (by simp)) (by simp) (fun _ => rfl) fun z H2 e hz => ?_) (by decide +kernel)
      simp only [List.mem_cons, List.not_mem_nil, or_false] at hz
      rcases hz with rfl | rfl | rfl | rfl | rfl
      · exact ev_asked (g := 3) (k := 4) ev_c ev_c (ev_var rfl) (fun _ _ => Ask.pxN ⟨by decide, by decide⟩ (by decide +kernel)) rfl
      · exact ev_asked (g := 3) (k := 4) ev_c ev_c (ev_var rfl) (fun _ _ => Ask.pxG ⟨by decide, by decide⟩ (by decide +kernel)) rfl
      · exact ev_asked (g := 3) (k := 4) ev_c ev_c (ev_var rfl) (fun _ _ => Ask.pxG ⟨by decide, by decide⟩ (by decide +kernel)) rfl
      · exact ev_asked (g := 3) (k := 4) ev_c ev_c (ev_var rfl) (fun _ _ => Ask.pxN ⟨by decide, by decide⟩ (by decide +kernel)) rfl
      · exact ev_asked (g := 3) (k := 4) ev_c ev_c (ev_var rfl) (fun _ _ => Ask.pxB .int (by decide)) rfl
    refine (ev_is (ev_eqP (K := K) (ep_lstS fin) (ep_lstS (ns := ["none", "done", "done", "none", "beginning"]) (el_lst (vs := [.str "none", .str "done", .str "done", .str "none", .str "beginning"]) (by walk_at "ev") (by simp))) (hsl _ (by decide +kernel)) (hsl _ (by decide +kernel))) (by rw [eqv_sl]) : Ev _ _ H10 (.bl true)) H10 (Ex.refl _) _ fun H11 e11 => ⟨true, rfl, ?_⟩
    show if true = true then _ else _
    rw [if_pos rfl]
    exact q
end FD

namespace FDx
open PySem PySem.Spec PyProof.Rows L2 Evl TL FD
def topS (i : Nat) : Stmt := PySem.Challenge.pw_firstdigits_k12_more_errors.main.body.getD i (.Pass ⟨0, 0, 0, 0⟩)
abbrev s_Row_number : Stmt := inClass (topS 63) 4
theorem sc_Row_number : FnScope N_Row_number ["self"] (defScope s_Row_number) :=
  ⟨rfl, rfl, rfl, by decide +kernel, rfl, by decide +kernel, by decide +kernel⟩
abbrev s_Row_undo : Stmt := inClass (topS 63) 7
theorem sc_Row_undo : FnScope N_Row_undo ["self"] (defScope s_Row_undo) :=
  ⟨rfl, rfl, rfl, by decide +kernel, rfl, by decide +kernel, by decide +kernel⟩
abbrev s_Row_len : Stmt := inClass (topS 63) 8
theorem sc_Row_len : FnScope N_Row_len ["self"] (defScope s_Row_len) :=
  ⟨rfl, rfl, rfl, by decide +kernel, rfl, by decide +kernel, by decide +kernel⟩
abbrev s_is_int : Stmt := topS 10
theorem sc_is_int : FnScope N_is_int ["value", "low", "high"] (defScope s_is_int) :=
  ⟨rfl, rfl, rfl, by decide +kernel, rfl, by decide +kernel, by decide +kernel⟩
abbrev s_ten_to : Stmt := topS 11
theorem sc_ten_to : FnScope N_ten_to ["exponent"] (defScope s_ten_to) :=
  ⟨rfl, rfl, rfl, by decide +kernel, rfl, by decide +kernel, by decide +kernel⟩
abbrev s_crosses : Stmt := topS 20
theorem sc_crosses : FnScope N_crosses ["low", "high", "first", "last", "scale"] (defScope s_crosses) :=
  ⟨rfl, rfl, rfl, by decide +kernel, rfl, by decide +kernel, by decide +kernel⟩
abbrev s_size_of : Stmt := topS 24
theorem sc_size_of : FnScope N_size_of ["number"] (defScope s_size_of) :=
  ⟨rfl, rfl, rfl, by decide +kernel, rfl, by decide +kernel, by decide +kernel⟩
abbrev s_first_of : Stmt := topS 25
theorem sc_first_of : FnScope N_first_of ["number", "many"] (defScope s_first_of) :=
  ⟨rfl, rfl, rfl, by decide +kernel, rfl, by decide +kernel, by decide +kernel⟩
abbrev s_root_from : Stmt := topS 36
theorem sc_root_from : FnScope N_root_from ["number"] (defScope s_root_from) :=
  ⟨rfl, rfl, rfl, by decide +kernel, rfl, by decide +kernel, by decide +kernel⟩
abbrev s_powers_of : Stmt := topS 39
theorem sc_powers_of : FnScope N_powers_of ["base", "most"] (defScope s_powers_of) :=
  ⟨rfl, rfl, rfl, by decide +kernel, rfl, by decide +kernel, by decide +kernel⟩
abbrev s_first_of_stretch : Stmt := topS 51
theorem sc_first_of_stretch : FnScope N_first_of_stretch ["number", "first", "last"] (defScope s_first_of_stretch) :=
  ⟨rfl, rfl, rfl, by decide +kernel, rfl, by decide +kernel, by decide +kernel⟩
abbrev s_product_bounds : Stmt := topS 56
theorem sc_product_bounds : FnScope N_product_bounds ["one", "other"] (defScope s_product_bounds) :=
  ⟨rfl, rfl, rfl, by decide +kernel, rfl, by decide +kernel, by decide +kernel⟩
abbrev s_parts_of : Stmt := topS 66
theorem sc_parts_of : FnScope N_parts_of ["value"] (defScope s_parts_of) :=
  ⟨rfl, rfl, rfl, by decide +kernel, rfl, by decide +kernel, by decide +kernel⟩
abbrev s_law_start : Stmt := topS 70
theorem sc_law_start : FnScope N_law_start ["script"] (defScope s_law_start) :=
  ⟨rfl, rfl, rfl, by decide +kernel, rfl, by decide +kernel, by decide +kernel⟩
abbrev s_law_draw : Stmt := topS 71
theorem sc_law_draw : FnScope N_law_draw ["draws", "limit"] (defScope s_law_draw) :=
  ⟨rfl, rfl, rfl, by decide +kernel, rfl, by decide +kernel, by decide +kernel⟩
abbrev s_law_error : Stmt := topS 73
theorem sc_law_error : FnScope N_law_error ["caught"] (defScope s_law_error) :=
  ⟨rfl, rfl, rfl, by decide +kernel, rfl, by decide +kernel, by decide +kernel⟩
abbrev s_law_ten : Stmt := topS 74
theorem sc_law_ten : FnScope N_law_ten ["exponent"] (defScope s_law_ten) :=
  ⟨rfl, rfl, rfl, by decide +kernel, rfl, by decide +kernel, by decide +kernel⟩
abbrev s_is_number : Stmt := topS 12
theorem sc_is_number : FnScope N_is_number ["value"] (defScope s_is_number) :=
  ⟨rfl, rfl, rfl, by decide +kernel, rfl, by decide +kernel, by decide +kernel⟩
abbrev s_is_beginning : Stmt := topS 13
theorem sc_is_beginning : FnScope N_is_beginning ["value"] (defScope s_is_beginning) :=
  ⟨rfl, rfl, rfl, by decide +kernel, rfl, by decide +kernel, by decide +kernel⟩
abbrev s_check_count : Stmt := topS 16
theorem sc_check_count : FnScope N_check_count ["value", "low", "high"] (defScope s_check_count) :=
  ⟨rfl, rfl, rfl, by decide +kernel, rfl, by decide +kernel, by decide +kernel⟩
abbrev s_check_base : Stmt := topS 17
theorem sc_check_base : FnScope N_check_base ["value"] (defScope s_check_base) :=
  ⟨rfl, rfl, rfl, by decide +kernel, rfl, by decide +kernel, by decide +kernel⟩
abbrev s_scales : Stmt := topS 19
theorem sc_scales : FnScope N_scales [] (defScope s_scales) :=
  ⟨rfl, rfl, rfl, by decide +kernel, rfl, by decide +kernel, by decide +kernel⟩
abbrev s_begins_of : Stmt := topS 26
theorem sc_begins_of : FnScope N_begins_of ["number", "beginning"] (defScope s_begins_of) :=
  ⟨rfl, rfl, rfl, by decide +kernel, rfl, by decide +kernel, by decide +kernel⟩
abbrev s_stretch_of : Stmt := topS 30
theorem sc_stretch_of : FnScope N_stretch_of ["beginning", "count"] (defScope s_stretch_of) :=
  ⟨rfl, rfl, rfl, by decide +kernel, rfl, by decide +kernel, by decide +kernel⟩
abbrev s_check_step : Stmt := topS 50
theorem sc_check_step : FnScope N_check_step ["value"] (defScope s_check_step) :=
  ⟨rfl, rfl, rfl, by decide +kernel, rfl, by decide +kernel, by decide +kernel⟩
abbrev s_text_of : Stmt := topS 67
theorem sc_text_of : FnScope N_text_of ["value"] (defScope s_text_of) :=
  ⟨rfl, rfl, rfl, by decide +kernel, rfl, by decide +kernel, by decide +kernel⟩
abbrev s_law_pick : Stmt := topS 72
theorem sc_law_pick : FnScope N_law_pick ["draws", "choices"] (defScope s_law_pick) :=
  ⟨rfl, rfl, rfl, by decide +kernel, rfl, by decide +kernel, by decide +kernel⟩
abbrev s_Row_grown : Stmt := inClass (topS 63) 1
theorem sc_Row_grown : FnScope N_Row_grown ["self", "number"] (defScope s_Row_grown) :=
  ⟨rfl, rfl, rfl, by decide +kernel, rfl, by decide +kernel, by decide +kernel⟩
abbrev s_Row_first_digits : Stmt := inClass (topS 63) 5
theorem sc_Row_first_digits : FnScope N_Row_first_digits ["self", "many"] (defScope s_Row_first_digits) :=
  ⟨rfl, rfl, rfl, by decide +kernel, rfl, by decide +kernel, by decide +kernel⟩
abbrev s_check_number : Stmt := topS 14
theorem sc_check_number : FnScope N_check_number ["value"] (defScope s_check_number) :=
  ⟨rfl, rfl, rfl, by decide +kernel, rfl, by decide +kernel, by decide +kernel⟩
abbrev s_check_beginning : Stmt := topS 15
theorem sc_check_beginning : FnScope N_check_beginning ["value"] (defScope s_check_beginning) :=
  ⟨rfl, rfl, rfl, by decide +kernel, rfl, by decide +kernel, by decide +kernel⟩
abbrev s_meets : Stmt := topS 21
theorem sc_meets : FnScope N_meets ["low", "high", "one"] (defScope s_meets) :=
  ⟨rfl, rfl, rfl, by decide +kernel, rfl, by decide +kernel, by decide +kernel⟩
abbrev s_all_meeting : Stmt := topS 22
theorem sc_all_meeting : FnScope N_all_meeting ["low", "high", "many"] (defScope s_all_meeting) :=
  ⟨rfl, rfl, rfl, by decide +kernel, rfl, by decide +kernel, by decide +kernel⟩
abbrev s_places_of : Stmt := topS 40
theorem sc_places_of : FnScope N_places_of ["base", "beginning", "most"] (defScope s_places_of) :=
  ⟨rfl, rfl, rfl, by decide +kernel, rfl, by decide +kernel, by decide +kernel⟩
abbrev s_digit_table : Stmt := topS 46
theorem sc_digit_table : FnScope N_digit_table ["base", "most"] (defScope s_digit_table) :=
  ⟨rfl, rfl, rfl, by decide +kernel, rfl, by decide +kernel, by decide +kernel⟩
abbrev s_never : Stmt := topS 47
theorem sc_never : FnScope N_never ["base", "many", "most"] (defScope s_never) :=
  ⟨rfl, rfl, rfl, by decide +kernel, rfl, by decide +kernel, by decide +kernel⟩
abbrev s_powers_with : Stmt := topS 48
theorem sc_powers_with : FnScope N_powers_with ["base", "count"] (defScope s_powers_with) :=
  ⟨rfl, rfl, rfl, by decide +kernel, rfl, by decide +kernel, by decide +kernel⟩
abbrev s_least_behind : Stmt := topS 59
theorem sc_least_behind : FnScope N_least_behind ["one", "other", "beginning", "more"] (defScope s_least_behind) :=
  ⟨rfl, rfl, rfl, by decide +kernel, rfl, by decide +kernel, by decide +kernel⟩
abbrev s_is_row : Stmt := topS 65
theorem sc_is_row : FnScope N_is_row ["value"] (defScope s_is_row) :=
  ⟨rfl, rfl, rfl, by decide +kernel, rfl, by decide +kernel, by decide +kernel⟩
abbrev s_Row_init : Stmt := inClass (topS 63) 0
theorem sc_Row_init : FnScope N_Row_init ["self", "number"] (defScope s_Row_init) :=
  ⟨rfl, rfl, rfl, by decide +kernel, rfl, by decide +kernel, by decide +kernel⟩
abbrev s_Row_multiply : Stmt := inClass (topS 63) 2
theorem sc_Row_multiply : FnScope N_Row_multiply ["self", "base"] (defScope s_Row_multiply) :=
  ⟨rfl, rfl, rfl, by decide +kernel, rfl, by decide +kernel, by decide +kernel⟩
abbrev s_Row_add : Stmt := inClass (topS 63) 3
theorem sc_Row_add : FnScope N_Row_add ["self", "number"] (defScope s_Row_add) :=
  ⟨rfl, rfl, rfl, by decide +kernel, rfl, by decide +kernel, by decide +kernel⟩
abbrev s_first_digits : Stmt := topS 27
theorem sc_first_digits : FnScope N_first_digits ["number", "many"] (defScope s_first_digits) :=
  ⟨rfl, rfl, rfl, by decide +kernel, rfl, by decide +kernel, by decide +kernel⟩
abbrev s_longer : Stmt := topS 28
theorem sc_longer : FnScope N_longer ["beginning", "many"] (defScope s_longer) :=
  ⟨rfl, rfl, rfl, by decide +kernel, rfl, by decide +kernel, by decide +kernel⟩
abbrev s_stretch : Stmt := topS 31
theorem sc_stretch : FnScope N_stretch ["beginning", "count"] (defScope s_stretch) :=
  ⟨rfl, rfl, rfl, by decide +kernel, rfl, by decide +kernel, by decide +kernel⟩
abbrev s_number_at : Stmt := topS 32
theorem sc_number_at : FnScope N_number_at ["beginning", "rank"] (defScope s_number_at) :=
  ⟨rfl, rfl, rfl, by decide +kernel, rfl, by decide +kernel, by decide +kernel⟩
abbrev s_squares : Stmt := topS 34
theorem sc_squares : FnScope N_squares ["beginning", "many"] (defScope s_squares) :=
  ⟨rfl, rfl, rfl, by decide +kernel, rfl, by decide +kernel, by decide +kernel⟩
abbrev s_roots : Stmt := topS 35
theorem sc_roots : FnScope N_roots ["beginning", "many"] (defScope s_roots) :=
  ⟨rfl, rfl, rfl, by decide +kernel, rfl, by decide +kernel, by decide +kernel⟩
abbrev s_roots_with : Stmt := topS 37
theorem sc_roots_with : FnScope N_roots_with ["beginning", "count"] (defScope s_roots_with) :=
  ⟨rfl, rfl, rfl, by decide +kernel, rfl, by decide +kernel, by decide +kernel⟩
abbrev s_check_all : Stmt := topS 41
theorem sc_check_all : FnScope N_check_all ["base", "beginning", "most"] (defScope s_check_all) :=
  ⟨rfl, rfl, rfl, by decide +kernel, rfl, by decide +kernel, by decide +kernel⟩
abbrev s_first_multiple : Stmt := topS 52
theorem sc_first_multiple : FnScope N_first_multiple ["number", "beginning"] (defScope s_first_multiple) :=
  ⟨rfl, rfl, rfl, by decide +kernel, rfl, by decide +kernel, by decide +kernel⟩
abbrev s_multiple_places : Stmt := topS 53
theorem sc_multiple_places : FnScope N_multiple_places ["number", "beginning", "most"] (defScope s_multiple_places) :=
  ⟨rfl, rfl, rfl, by decide +kernel, rfl, by decide +kernel, by decide +kernel⟩
abbrev s_count_multiples : Stmt := topS 54
theorem sc_count_multiples : FnScope N_count_multiples ["number", "beginning", "count"] (defScope s_count_multiples) :=
  ⟨rfl, rfl, rfl, by decide +kernel, rfl, by decide +kernel, by decide +kernel⟩
abbrev s_products : Stmt := topS 57
theorem sc_products : FnScope N_products ["one", "other", "many"] (defScope s_products) :=
  ⟨rfl, rfl, rfl, by decide +kernel, rfl, by decide +kernel, by decide +kernel⟩
abbrev s_product_example : Stmt := topS 58
theorem sc_product_example : FnScope N_product_example ["one", "other", "beginning"] (defScope s_product_example) :=
  ⟨rfl, rfl, rfl, by decide +kernel, rfl, by decide +kernel, by decide +kernel⟩
abbrev s_sums : Stmt := topS 60
theorem sc_sums : FnScope N_sums ["one", "other", "many"] (defScope s_sums) :=
  ⟨rfl, rfl, rfl, by decide +kernel, rfl, by decide +kernel, by decide +kernel⟩
abbrev s_quotients : Stmt := topS 61
theorem sc_quotients : FnScope N_quotients ["one", "other", "many"] (defScope s_quotients) :=
  ⟨rfl, rfl, rfl, by decide +kernel, rfl, by decide +kernel, by decide +kernel⟩
abbrev s_format_beginnings : Stmt := topS 68
theorem sc_format_beginnings : FnScope N_format_beginnings ["value"] (defScope s_format_beginnings) :=
  ⟨rfl, rfl, rfl, by decide +kernel, rfl, by decide +kernel, by decide +kernel⟩
abbrev s_power_places : Stmt := topS 42
theorem sc_power_places : FnScope N_power_places ["base", "beginning", "most"] (defScope s_power_places) :=
  ⟨rfl, rfl, rfl, by decide +kernel, rfl, by decide +kernel, by decide +kernel⟩
abbrev s_first_power : Stmt := topS 43
theorem sc_first_power : FnScope N_first_power ["base", "beginning", "most"] (defScope s_first_power) :=
  ⟨rfl, rfl, rfl, by decide +kernel, rfl, by decide +kernel, by decide +kernel⟩
abbrev s_waits : Stmt := topS 44
theorem sc_waits : FnScope N_waits ["base", "beginning", "most"] (defScope s_waits) :=
  ⟨rfl, rfl, rfl, by decide +kernel, rfl, by decide +kernel, by decide +kernel⟩
abbrev s_longest_wait : Stmt := topS 45
theorem sc_longest_wait : FnScope N_longest_wait ["base", "beginning", "most"] (defScope s_longest_wait) :=
  ⟨rfl, rfl, rfl, by decide +kernel, rfl, by decide +kernel, by decide +kernel⟩
abbrev s_law_powers : Stmt := topS 76
theorem sc_law_powers : FnScope N_law_powers ["which", "most"] (defScope s_law_powers) :=
  ⟨rfl, rfl, rfl, by decide +kernel, rfl, by decide +kernel, by decide +kernel⟩
abbrev s_law_based : Stmt := topS 77
theorem sc_law_based : FnScope N_law_based ["which", "base"] (defScope s_law_based) :=
  ⟨rfl, rfl, rfl, by decide +kernel, rfl, by decide +kernel, by decide +kernel⟩
abbrev s_law_row : Stmt := topS 79
theorem sc_law_row : FnScope N_law_row [] (defScope s_law_row) :=
  ⟨rfl, rfl, rfl, by decide +kernel, rfl, by decide +kernel, by decide +kernel⟩
abbrev s_law_counted : Stmt := topS 75
theorem sc_law_counted : FnScope N_law_counted ["which", "count"] (defScope s_law_counted) :=
  ⟨rfl, rfl, rfl, by decide +kernel, rfl, by decide +kernel, by decide +kernel⟩
abbrev s_law_asked : Stmt := topS 78
theorem sc_law_asked : FnScope N_law_asked ["group", "which", "one"] (defScope s_law_asked) :=
  ⟨rfl, rfl, rfl, by decide +kernel, rfl, by decide +kernel, by decide +kernel⟩
abbrev s_law : Stmt := topS 80
theorem sc_law : FnScope N_law ["script"] (defScope s_law) :=
  ⟨rfl, rfl, rfl, by decide +kernel, rfl, by decide +kernel, by decide +kernel⟩
section
variable {P : Program} {w : World} {K : PySem.W.Frag} {mg : Str → Option Value} {base : Heap}
theorem ok_Row_number (bt : Blt K mg) {c : Addr} (R : RowF K mg c) (F : FunM K c "number" "Row.number" s_Row_number) : OkM P w K mg base CX0 1 c "number" ["self"] (sp_Row_number c) :=
  OkM.of (k := 0) F sc_Row_number (sp1_len rfl) (fun _ _ _ _ _ _ us hl => match us, hl with | [_], _ => rfl) (rd_Row_number K) (fun vs H Q E h => pure_Row_number R vs H Q E h) (fun f cdv A outer s H E hr =>
    (pss_one (ps_ret (pe_ix ix_list (pe_fld (pv 0) rfl) (pe_un un_neg pe_int) (fun _ _ => rfl)))))

theorem okx_Row_undo (bt : Blt K mg) {x : ExA} (T : ExT K mg x) {c : Addr} (R : RowF K mg c) (F : FunM K c "undo" "Row.undo" s_Row_undo) : OkM P w K mg base (L2.CX P w) 1 c "undo" ["self"] (spx_Row_undo x c) :=
  OkM.ofX (k := 0) F sc_Row_undo (spe1_len rfl) (fun _ _ _ _ _ _ us hl => match us, hl with | [_], _ => rfl) (fun E => rdx_Row_undo x E K) (fun vs H Q E h => purex_Row_undo R vs H Q E h) (fun f cdv A outer s H E hr =>
    (pss_cons (ps_if (pt_cmpR (op_eqD hr.units) (pe_fld (pv 0) rfl) (pe_lst pa_nil) (nomark _))
        (pss_one (ps_raise rfl (takes_of rfl rfl rfl rfl) (pmk_own PySem.F.excBase_ValueError T.nf.x T.gnf T.nf.k (raises_own T.nf.b T.nf.t) (by rfl))))
        pss_nil)
      (pss_cons (ps_expr (pe_bm0 PySem.F.plainAttrs_list PySem.F.slot_list_pop PySem.F.type_list_pop mt_pop (pe_fld (pv 0) rfl)))
      (pss_cons (ps_expr (pe_bm0 PySem.F.plainAttrs_list PySem.F.slot_list_pop PySem.F.type_list_pop mt_pop (pe_fld (pv 0) rfl)))
      (pss_one (ps_ret (pe_ix ix_list (pe_fld (pv 0) rfl) (pe_un un_neg pe_int) (fun _ _ => rfl))))))))

theorem ok_Row_len (bt : Blt K mg) {c : Addr} (R : RowF K mg c) (F : FunM K c "__len__" "Row.__len__" s_Row_len) : OkM P w K mg base CX0 1 c "__len__" ["self"] (sp_Row_len c) :=
  OkM.of (k := 0) F sc_Row_len (sp1_len rfl) (fun _ _ _ _ _ _ us hl => match us, hl with | [_], _ => rfl) (rd_Row_len K) (fun vs H Q E h => pure_Row_len R vs H Q E h) (fun f cdv A outer s H E hr =>
    (pss_one (ps_ret (pe_callB call_len_seq (by rfl) bt.len (by decide +kernel) (pa_cons (pe_fld (pv 0) rfl) pa_nil)))))

theorem ok_is_int (bt : Blt K mg) (F : FunAt K mg "is_int" s_is_int) : Ok P w K mg base CX0 1 "is_int" ["value", "low", "high"] (sp_is_int) :=
  Ok.of (k := 0) F sc_is_int (sp3_len rfl) (fun _ _ _ _ _ _ us hl => match us, hl with | [_, _, _], _ => rfl) (rd_is_int K) (fun vs H Q E h => pure_is_int vs H Q E h) (fun f cdv A outer s H E hr =>
    (pss_one (ps_ret (pe_and (pe_callB call_isi (by rfl) bt.isinstance (by decide +kernel) (pa_cons (pv 0) (pa_cons (pe_bltn (by rfl) bt.int (by decide +kernel) rfl) pa_nil))) (pe_and (pe_not (pe_callB call_isi (by rfl) bt.isinstance (by decide +kernel) (pa_cons (pv 0) (pa_cons (pe_bltn (by rfl) bt.bool (by decide +kernel) rfl) pa_nil)))) (pe_one (pe_chain op_le op_le (pv 1) (pv 0) (pv 2))))))))

theorem okb_is_int (bt : Blt K mg) {x : ExA} (T : ExT K mg x) (F : FunAt K mg "is_int" s_is_int) : Ok P w K mg base (L2.CX P w) 1 "is_int" ["value", "low", "high"] (spb_is_int x) :=
  Ok.ofX (k := 0) F sc_is_int (spe3_len rfl) (fun _ _ _ _ _ _ us hl => match us, hl with | [_, _, _], _ => rfl) (fun E => rdb_is_int x E K) (fun vs H Q E h => pureb_is_int vs H Q E h) (fun f cdv A outer s H E hr =>
    (pss_one (ps_ret (pe_and (pe_callB call_isi (by rfl) bt.isinstance (by decide +kernel) (pa_cons (pv 0) (pa_cons (pe_bltn (by rfl) bt.int (by decide +kernel) rfl) pa_nil))) (pe_and (pe_not (pe_callB call_isi (by rfl) bt.isinstance (by decide +kernel) (pa_cons (pv 0) (pa_cons (pe_bltn (by rfl) bt.bool (by decide +kernel) rfl) pa_nil)))) (pe_one (pe_chain op_le op_le (pv 1) (pv 0) (pv 2))))))))

theorem ok_ten_to (bt : Blt K mg) (F : FunAt K mg "ten_to" s_ten_to) : Ok P w K mg base CX0 1 "ten_to" ["exponent"] (sp_ten_to) :=
  Ok.of (k := 0) F sc_ten_to (sp1_len rfl) (fun _ _ _ _ _ _ us hl => match us, hl with | [_], _ => rfl) (rd_ten_to K) (fun vs H Q E h => pure_ten_to vs H Q E h) (fun f cdv A outer s H E hr =>
    (pss_cons (ps_set (i := 1) sc_ten_to.nd rfl (.inl rfl) pe_int)
      (pss_cons (ps_for PassesOwn.never rfl (pi_range1 (by rfl) bt.range (pa_cons (pv 0) pa_nil)) (pg_name (i := 2) sc_ten_to.nd rfl (.inl rfl))
        (pss_one (ps_aug (i := 1) sc_ten_to.nd rfl (.inl rfl) pe_int iop_mulX)))
      (pss_one (ps_ret (pv 1))))))

theorem ok_crosses (bt : Blt K mg) (F : FunAt K mg "crosses" s_crosses) : Ok P w K mg base CX0 1 "crosses" ["low", "high", "first", "last", "scale"] (sp_crosses) :=
  Ok.of (k := 0) F sc_crosses (sp5_len rfl) (fun _ _ _ _ _ _ us hl => match us, hl with | [_, _, _, _, _], _ => rfl) (rd_crosses K) (fun vs H Q E h => pure_crosses vs H Q E h) (fun f cdv A outer s H E hr =>
    (pss_cons (ps_asg (pv 4) (pg_tup rfl (pgs_cons (pg_name (i := 5) sc_crosses.nd rfl (.inl rfl)) (pgs_cons (pg_name (i := 6) sc_crosses.nd rfl (.inl rfl)) pgs_nil))))
      (pss_one (ps_ret (pe_and (pe_cmpR op_lt (pe_op op_mulX (pe_op op_mulX (pv 2) (pv 5)) (pe_ix ix_tup (pv 1) pe_int (fun _ _ => rfl))) (pe_op op_mulX (pe_ix ix_tup (pv 1) pe_int (fun _ _ => rfl)) (pv 6)) (nomark _)) (pe_one (pe_cmpR op_lt (pe_op op_mulX (pe_ix ix_tup (pv 0) pe_int (fun _ _ => rfl)) (pv 6)) (pe_op op_mulX (pe_op op_mulX (pv 3) (pv 5)) (pe_ix ix_tup (pv 0) pe_int (fun _ _ => rfl))) (nomark _))))))))

theorem ok_size_of (bt : Blt K mg) (F : FunAt K mg "size_of" s_size_of) : Ok P w K mg base CX0 1 "size_of" ["number"] (sp_size_of) :=
  Ok.of (k := 0) F sc_size_of (sp1_len rfl) (fun _ _ _ _ _ _ us hl => match us, hl with | [_], _ => rfl) (rd_size_of K) (fun vs H Q E h => pure_size_of vs H Q E h) (fun f cdv A outer s H E hr =>
    (pss_one (ps_ret (pe_callB call_len_str (by rfl) bt.len (by decide +kernel) (pa_cons (pe_callTy (call_strB rfl bt.dig) (by rfl) bt.str (by decide +kernel) (pa_cons (pv 0) pa_nil)) pa_nil)))))

theorem ok_first_of (bt : Blt K mg) (F : FunAt K mg "first_of" s_first_of) : Ok P w K mg base CX0 1 "first_of" ["number", "many"] (sp_first_of) :=
  Ok.of (k := 0) F sc_first_of (sp2_len rfl) (fun _ _ _ _ _ _ us hl => match us, hl with | [_, _], _ => rfl) (rd_first_of K) (fun vs H Q E h => pure_first_of vs H Q E h) (fun f cdv A outer s H E hr =>
    (pss_one (ps_ret (pe_callTy call_int_str (by rfl) bt.int (by decide +kernel) (pa_cons (pe_slice sl_str (pe_callTy (call_strB rfl bt.dig) (by rfl) bt.str (by decide +kernel) (pa_cons (pv 0) pa_nil)) po_none (po_some (pv 1))) pa_nil)))))

theorem ok_root_from (bt : Blt K mg) (F : FunAt K mg "root_from" s_root_from) : Ok P w K mg base CX0 1 "root_from" ["number"] (sp_root_from) :=
  Ok.of (k := 0) F sc_root_from (sp1_len rfl) (fun _ _ _ _ _ _ us hl => match us, hl with | [_], _ => rfl) (rd_root_from K) (fun vs H Q E h => pure_root_from vs H Q E h) (fun f cdv A outer s H E hr =>
    (pss_cons (ps_par (by rfl) sc_root_from.nd (i := 1) (j := 2) rfl rfl (by decide) rfl rfl (pa_cons pe_int (pa_cons (pv 0) pa_nil)) (by rfl))
      (pss_cons (ps_while PassesOwn.never (pt_cmpR op_gt (pe_op op_sub (pv 2) (pv 1)) pe_int (nomark _))
        (pss_cons (ps_set (i := 3) sc_root_from.nd rfl (.inl rfl) (pe_op op_fdivW (pe_op op_add (pv 1) (pv 2)) pe_int))
      (pss_one (ps_if (pt_cmpR op_lt (pe_op op_mulX (pv 3) (pv 3)) (pv 0) (nomark _))
        (pss_one (ps_set (i := 1) sc_root_from.nd rfl (.inl rfl) (pv 3)))
        (pss_one (ps_set (i := 2) sc_root_from.nd rfl (.inl rfl) (pv 3)))))))
      (pss_one (ps_ret (pv 2))))))

theorem ok_powers_of (bt : Blt K mg) (F : FunAt K mg "powers_of" s_powers_of) : Ok P w K mg base CX0 1 "powers_of" ["base", "most"] (sp_powers_of) :=
  Ok.of (k := 0) F sc_powers_of (sp2_len rfl) (fun _ _ _ _ _ _ us hl => match us, hl with | [_, _], _ => rfl) (rd_powers_of K) (fun vs H Q E h => pure_powers_of vs H Q E h) (fun f cdv A outer s H E hr =>
    (pss_cons (ps_set (i := 2) sc_powers_of.nd rfl (.inl rfl) (pe_lst (pa_cons pe_int pa_nil)))
      (pss_cons (ps_for PassesOwn.never rfl (pi_range1 (by rfl) bt.range (pa_cons (pv 1) pa_nil)) (pg_name (i := 3) sc_powers_of.nd rfl (.inl rfl))
        (pss_one (ps_expr (pe_bm PySem.F.plainAttrs_list PySem.F.slot_list_append PySem.F.type_list_append mt_append (pv 2) (pa_cons (pe_op op_mulX (pe_ix ix_list (pv 2) (pe_un un_neg pe_int) (fun _ _ => rfl)) (pv 0)) pa_nil)))))
      (pss_one (ps_ret (pv 2))))))

theorem ok_first_of_stretch (bt : Blt K mg) (F : FunAt K mg "first_of_stretch" s_first_of_stretch) : Ok P w K mg base CX0 1 "first_of_stretch" ["number", "first", "last"] (sp_first_of_stretch) :=
  Ok.of (k := 0) F sc_first_of_stretch (sp3_len rfl) (fun _ _ _ _ _ _ us hl => match us, hl with | [_, _, _], _ => rfl) (rd_first_of_stretch K) (fun vs H Q E h => pure_first_of_stretch vs H Q E h) (fun f cdv A outer s H E hr =>
    (pss_cons (ps_set (i := 3) sc_first_of_stretch.nd rfl (.inl rfl) (pe_op op_mulX (pe_op op_fdivW (pe_op op_sub (pe_op op_add (pv 1) (pv 0)) pe_int) (pv 0)) (pv 0)))
      (pss_one (ps_ret (pe_ifExp (pt_cmpR op_le (pv 3) (pv 2) (nomark _)) (pv 3) pe_non)))))

theorem ok_product_bounds (bt : Blt K mg) (F : FunAt K mg "product_bounds" s_product_bounds) : Ok P w K mg base CX0 1 "product_bounds" ["one", "other"] (sp_product_bounds) :=
  Ok.of (k := 0) F sc_product_bounds (sp2_len rfl) (fun _ _ _ _ _ _ us hl => match us, hl with | [_, _], _ => rfl) (rd_product_bounds K) (fun vs H Q E h => pure_product_bounds vs H Q E h) (fun f cdv A outer s H E hr =>
    (pss_one (ps_ret (pe_tup (pa_cons (pe_tup (pa_cons (pe_op op_mulX (pv 0) (pv 1)) (pa_cons pe_int pa_nil))) (pa_cons (pe_tup (pa_cons (pe_op op_mulX (pe_op op_add (pv 0) pe_int) (pe_op op_add (pv 1) pe_int)) (pa_cons pe_int pa_nil))) pa_nil))))))

theorem ok_parts_of (bt : Blt K mg) (F : FunAt K mg "parts_of" s_parts_of) : Ok P w K mg base CX0 1 "parts_of" ["value"] (sp_parts_of) :=
  Ok.of (k := 0) F sc_parts_of (sp1_len rfl) (fun _ _ _ _ _ _ us hl => match us, hl with | [_], _ => rfl) (rd_parts_of K) (fun vs H Q E h => pure_parts_of vs H Q E h) (fun f cdv A outer s H E hr =>
    (pss_cons (ps_set (i := 1) sc_parts_of.nd rfl (.inl rfl) (pe_lst pa_nil))
      (pss_cons (ps_for PassesOwn.never rfl (pi_list (pv 0)) (pg_name (i := 2) sc_parts_of.nd rfl (.inl rfl))
        (pss_one (ps_if (PW.pt (pw_and (pt_cmpR (op_neD hr.units) (pv 1) (pe_lst pa_nil) (nomark _)) (pw_and1 (pt_cmpR op_eq (pe_op op_add (pe_ix ix_tup (pe_ix ix_list (pv 1) (pe_un un_neg pe_int) (fun _ _ => rfl)) pe_int (fun _ _ => rfl)) pe_int) (pv 2) (nomark _)))))
        (pss_one (ps_asg (pe_tup (pa_cons (pe_ix ix_tup (pe_ix ix_list (pv 1) (pe_un un_neg pe_int) (fun _ _ => rfl)) pe_int (fun _ _ => rfl)) (pa_cons (pv 2) pa_nil))) (pg_sub (pv 1) (pe_un un_neg pe_int) set_list)))
        (pss_one (ps_expr (pe_bm PySem.F.plainAttrs_list PySem.F.slot_list_append PySem.F.type_list_append mt_append (pv 1) (pa_cons (pe_tup (pa_cons (pv 2) (pa_cons (pv 2) pa_nil))) pa_nil)))))))
      (pss_one (ps_ret (pv 1))))))

theorem ok_law_start (bt : Blt K mg) (F : FunAt K mg "_law_start" s_law_start) : Ok P w K mg base CX0 1 "_law_start" ["script"] (sp_law_start K) :=
  Ok.of (k := 0) F sc_law_start (sp1_len rfl) (fun _ _ _ _ _ _ us hl => match us, hl with | [_], _ => rfl) (rd_law_start K) (fun vs H Q E h => pure_law_start vs H Q E h) (fun f cdv A outer s H E hr =>
    (pss_one (ps_ret (pe_lst (pa_cons (pe_ifExp (pt_cmpR (op_neD hr.units) (pv 0) (pe_lst pa_nil) (nomark _)) (pe_callTy call_list_of (by rfl) bt.list (by decide +kernel) (pa_cons (pv 0) pa_nil)) (pe_lst (pa_cons pe_int pa_nil))) (pa_cons pe_int pa_nil))))))

theorem ok_law_draw (bt : Blt K mg) (F : FunAt K mg "_law_draw" s_law_draw) : Ok P w K mg base CX0 1 "_law_draw" ["draws", "limit"] (sp_law_draw) :=
  Ok.of (k := 0) F sc_law_draw (sp2_len rfl) (fun _ _ _ _ _ _ us hl => match us, hl with | [_, _], _ => rfl) (rd_law_draw K) (fun vs H Q E h => pure_law_draw vs H Q E h) (fun f cdv A outer s H E hr =>
    (pss_cons (ps_set (i := 2) sc_law_draw.nd rfl (.inl rfl) (pe_ix ix_list (pv 0) pe_int (fun _ _ => rfl)))
      (pss_cons (ps_asg (pe_op op_add (pe_ix ix_list (pv 0) pe_int (fun _ _ => rfl)) pe_int) (pg_sub (pv 0) pe_int set_list))
      (pss_cons (ps_set (i := 3) sc_law_draw.nd rfl (.inl rfl) (pe_op op_mod (pe_ix ix_list (pv 0) pe_int (fun _ _ => rfl)) (pe_callB call_len_seq (by rfl) bt.len (by decide +kernel) (pa_cons (pv 2) pa_nil))))
      (pss_cons (ps_set (i := 4) sc_law_draw.nd rfl (.inl rfl) (pe_ix ix_list (pv 2) (pv 3) (fun _ _ => rfl)))
      (pss_cons (ps_if (pt_cmpR op_ge (pv 4) pe_int (nomark _))
        (pss_cons (ps_asg (pe_op op_fdivW (pv 4) (pv 1)) (pg_sub (pv 2) (pv 3) set_list))
      (pss_one (ps_ret (pe_op op_mod (pv 4) (pv 1)))))
        pss_nil)
      (pss_cons (ps_set (i := 5) sc_law_draw.nd rfl (.inl rfl) (pe_op op_mod (pe_op op_add (pv 4) (pe_op op_mulX pe_int (pe_ix ix_list (pv 0) pe_int (fun _ _ => rfl)))) pe_int))
      (pss_cons (ps_set (i := 5) sc_law_draw.nd rfl (.inl rfl) (pe_op op_mod (pe_op op_pow (pv 5) pe_int) pe_int))
      (pss_one (ps_ret (pe_op op_mod (pe_op op_fdivW (pe_op op_mod (pe_op op_add (pe_op op_mulX (pe_op op_fdivW (pv 5) pe_int) pe_int) (pv 5)) pe_int) pe_int) (pv 1))))))))))))

theorem ok_law_error (bt : Blt K mg) {x : ExA} (T : ExT K mg x) (F : FunAt K mg "_law_error" s_law_error) : Ok P w K mg base CX0 1 "_law_error" ["caught"] (sp_law_error x) :=
  Ok.of (k := 0) F sc_law_error (sp1_len rfl) (fun _ _ _ _ _ _ us hl => match us, hl with | [_], _ => rfl) (rd_law_error x K) (fun vs H Q E h => pure_law_error T vs H Q E h) (fun f cdv A outer s H E hr =>
    (pss_cons (ps_set (i := 1) sc_law_error.nd rfl (.inl rfl) (pe_lst (pa_cons (pe_callB call_isK (by rfl) bt.isinstance (by decide +kernel) (pa_cons (pv 0) (pa_cons (pe_glob rfl T.gbn rfl) pa_nil))) (pa_cons (pe_callB call_isK (by rfl) bt.isinstance (by decide +kernel) (pa_cons (pv 0) (pa_cons (pe_glob rfl T.gbb rfl) pa_nil))) (pa_cons (pe_callB call_isK (by rfl) bt.isinstance (by decide +kernel) (pa_cons (pv 0) (pa_cons (pe_glob rfl T.gbc rfl) pa_nil))) pa_nil)))))
      (pss_cons (ps_set (i := 1) sc_law_error.nd rfl (.inl rfl) (pe_op op_cat (pv 1) (pe_lst (pa_cons (pe_callB call_isK (by rfl) bt.isinstance (by decide +kernel) (pa_cons (pv 0) (pa_cons (pe_glob rfl T.gbt rfl) pa_nil))) (pa_cons (pe_callB call_isK (by rfl) bt.isinstance (by decide +kernel) (pa_cons (pv 0) (pa_cons (pe_glob rfl T.gnf rfl) pa_nil))) pa_nil)))))
      (pss_cons (ps_if (PW.pt (pw_or (pt_cmpR op_ne (pe_bm PySem.F.plainAttrs_list PySem.F.slot_list_count PySem.F.type_list_count mt_countV (pv 1) (pa_cons pe_bl pa_nil)) pe_int (nomark _)) (pw_or (pt_not (pt_val (pe_callB call_isK (by rfl) bt.isinstance (by decide +kernel) (pa_cons (pv 0) (pa_cons (pe_glob rfl T.gde rfl) pa_nil))))) (pw_or1 (pt_not (pt_val (pe_callB call_isK (by rfl) bt.isinstance (by decide +kernel) (pa_cons (pv 0) (pa_cons (pe_bltn (by rfl) T.gve (by decide +kernel) rfl) pa_nil)))))))))
        (pss_one (ps_ret pe_str))
        pss_nil)
      (pss_one (ps_ret (pe_ix ix_list (pe_lst (pa_cons pe_str (pa_cons pe_str (pa_cons pe_str (pa_cons pe_str (pa_cons pe_str pa_nil)))))) (pe_bm PySem.F.plainAttrs_list PySem.F.slot_list_index PySem.F.type_list_index mt_indexV (pv 1) (pa_cons pe_bl pa_nil)) (fun _ _ => rfl))))))))

theorem okq_law_error (bt : Blt K mg) {x : ExA} (T : ExT K mg x) (F : FunAt K mg "_law_error" s_law_error) : OkQ P w K mg base 1 "_law_error" ["caught"] (sp_law_error x) :=
  OkQ.of (k := 0) F sc_law_error (sp1_len rfl) (fun _ _ _ _ _ _ us hl => match us, hl with | [_], _ => rfl) (rd_law_error x K) (fun vs H Q E h => pure_law_error T vs H Q E h) (fun f cdv A outer s H E p =>
    (pss_cons (ps_set (i := 1) sc_law_error.nd rfl (.inl rfl) (pe_lst (pa_cons (pe_callB call_isK (by rfl) bt.isinstance (by decide +kernel) (pa_cons (pv 0) (pa_cons (pe_glob rfl T.gbn rfl) pa_nil))) (pa_cons (pe_callB call_isK (by rfl) bt.isinstance (by decide +kernel) (pa_cons (pv 0) (pa_cons (pe_glob rfl T.gbb rfl) pa_nil))) (pa_cons (pe_callB call_isK (by rfl) bt.isinstance (by decide +kernel) (pa_cons (pv 0) (pa_cons (pe_glob rfl T.gbc rfl) pa_nil))) pa_nil)))))
      (pss_cons (ps_set (i := 1) sc_law_error.nd rfl (.inl rfl) (pe_op op_cat (pv 1) (pe_lst (pa_cons (pe_callB call_isK (by rfl) bt.isinstance (by decide +kernel) (pa_cons (pv 0) (pa_cons (pe_glob rfl T.gbt rfl) pa_nil))) (pa_cons (pe_callB call_isK (by rfl) bt.isinstance (by decide +kernel) (pa_cons (pv 0) (pa_cons (pe_glob rfl T.gnf rfl) pa_nil))) pa_nil)))))
      (pss_cons (ps_if (PW.pt (pw_or (pt_cmpR op_ne (pe_bm PySem.F.plainAttrs_list PySem.F.slot_list_count PySem.F.type_list_count mt_countV (pv 1) (pa_cons pe_bl pa_nil)) pe_int (nomark _)) (pw_or (pt_not (pt_val (pe_callB call_isK (by rfl) bt.isinstance (by decide +kernel) (pa_cons (pv 0) (pa_cons (pe_glob rfl T.gde rfl) pa_nil))))) (pw_or1 (pt_not (pt_val (pe_callB call_isK (by rfl) bt.isinstance (by decide +kernel) (pa_cons (pv 0) (pa_cons (pe_bltn (by rfl) T.gve (by decide +kernel) rfl) pa_nil)))))))))
        (pss_one (ps_ret pe_str))
        pss_nil)
      (pss_one (ps_ret (pe_ix ix_list (pe_lst (pa_cons pe_str (pa_cons pe_str (pa_cons pe_str (pa_cons pe_str (pa_cons pe_str pa_nil)))))) (pe_bm PySem.F.plainAttrs_list PySem.F.slot_list_index PySem.F.type_list_index mt_indexV (pv 1) (pa_cons pe_bl pa_nil)) (fun _ _ => rfl))))))))

theorem ok_law_ten (bt : Blt K mg) (F : FunAt K mg "_law_ten" s_law_ten) : Ok P w K mg base CX0 1 "_law_ten" ["exponent"] (sp_law_ten) :=
  Ok.of (k := 0) F sc_law_ten (sp1_len rfl) (fun _ _ _ _ _ _ us hl => match us, hl with | [_], _ => rfl) (rd_law_ten K) (fun vs H Q E h => pure_law_ten vs H Q E h) (fun f cdv A outer s H E hr =>
    (pss_cons (ps_set (i := 1) sc_law_ten.nd rfl (.inl rfl) pe_int)
      (pss_cons (ps_for PassesOwn.never rfl (pi_range1 (by rfl) bt.range (pa_cons (pv 0) pa_nil)) (pg_name (i := 2) sc_law_ten.nd rfl (.inl rfl))
        (pss_one (ps_set (i := 1) sc_law_ten.nd rfl (.inl rfl) (pe_op op_mulX (pv 1) pe_int))))
      (pss_one (ps_ret (pv 1))))))

theorem ok_is_number (bt : Blt K mg) (F : FunAt K mg "is_number" s_is_number) {t_MOST_DIGITS : Tok} (g_MOST_DIGITS : mg "MOST_DIGITS" = some (.int 60 t_MOST_DIGITS)) (h_is_int : Ok P w K mg base CX0 1 "is_int" ["value", "low", "high"] (sp_is_int)) (h_ten_to : Ok P w K mg base CX0 1 "ten_to" ["exponent"] (sp_ten_to)) : Ok P w K mg base CX0 2 "is_number" ["value"] (sp_is_number) :=
  Ok.of (k := 1) F sc_is_number (sp1_len rfl) (fun _ _ _ _ _ _ us hl => match us, hl with | [_], _ => rfl) (rd_is_number K) (fun vs H Q E h => pure_is_number vs H Q E h) (fun f cdv A outer s H E hr =>
    (pss_one (ps_ret (pe_ok h_is_int (hr.mono (by decide)) (by rfl) pass0 (pa_cons (pv 0) (pa_cons pe_int (pa_cons (pe_op op_sub (pe_ok h_ten_to (hr.mono (by decide)) (by rfl) pass0 (pa_cons (pe_glob rfl g_MOST_DIGITS ⟨_, rfl⟩) pa_nil)) pe_int) pa_nil)))))))

theorem okb_is_number (bt : Blt K mg) {x : ExA} (T : ExT K mg x) (F : FunAt K mg "is_number" s_is_number) {t_MOST_DIGITS : Tok} (g_MOST_DIGITS : mg "MOST_DIGITS" = some (.int 60 t_MOST_DIGITS)) (hb_is_int : Ok P w K mg base (L2.CX P w) 1 "is_int" ["value", "low", "high"] (spb_is_int x)) (h_ten_to : Ok P w K mg base CX0 1 "ten_to" ["exponent"] (sp_ten_to)) : Ok P w K mg base (L2.CX P w) 2 "is_number" ["value"] (spb_is_number x) :=
  Ok.ofX (k := 1) F sc_is_number (spe1_len rfl) (fun _ _ _ _ _ _ us hl => match us, hl with | [_], _ => rfl) (fun E => rdb_is_number x E K) (fun vs H Q E h => pureb_is_number vs H Q E h) (fun f cdv A outer s H E hr =>
    (pss_one (ps_ret (pe_ok hb_is_int (hr.mono (by decide)) (by rfl) passX0 (pa_cons (pv 0) (pa_cons pe_int (pa_cons (pe_op op_sub (pe_ok h_ten_to (hr.mono (by decide)) (by rfl) pass0 (pa_cons (pe_glob rfl g_MOST_DIGITS ⟨_, rfl⟩) pa_nil)) pe_int) pa_nil)))))))

theorem okb_is_beginning (bt : Blt K mg) {x : ExA} (T : ExT K mg x) (F : FunAt K mg "is_beginning" s_is_beginning) (hb_is_int : Ok P w K mg base (L2.CX P w) 1 "is_int" ["value", "low", "high"] (spb_is_int x)) : Ok P w K mg base (L2.CX P w) 2 "is_beginning" ["value"] (spb_is_beginning x) :=
  Ok.ofX (k := 1) F sc_is_beginning (spe1_len rfl) (fun _ _ _ _ _ _ us hl => match us, hl with | [_], _ => rfl) (fun E => rdb_is_beginning x E K) (fun vs H Q E h => pureb_is_beginning vs H Q E h) (fun f cdv A outer s H E hr =>
    (pss_one (ps_ret (pe_ok hb_is_int (hr.mono (by decide)) (by rfl) passX0 (pa_cons (pv 0) (pa_cons pe_int (pa_cons pe_int pa_nil)))))))

theorem okb_check_count (bt : Blt K mg) {x : ExA} (T : ExT K mg x) (F : FunAt K mg "check_count" s_check_count) (hb_is_int : Ok P w K mg base (L2.CX P w) 1 "is_int" ["value", "low", "high"] (spb_is_int x)) : Ok P w K mg base (L2.CX P w) 2 "check_count" ["value", "low", "high"] (spb_check_count x) :=
  Ok.ofX (k := 1) F sc_check_count (spe3_len rfl) (fun _ _ _ _ _ _ us hl => match us, hl with | [_, _, _], _ => rfl) (fun E => rdb_check_count x E K) (fun vs H Q E h => pureb_check_count vs H Q E h) (fun f cdv A outer s H E hr =>
    (pss_one (ps_if (pt_not (pt_val (pe_ok hb_is_int (hr.mono (by decide)) (by rfl) passX0 (pa_cons (pv 0) (pa_cons (pv 1) (pa_cons (pv 2) pa_nil))))))
        (pss_one (ps_raise rfl (takes_of rfl rfl rfl rfl) (pmk_own PySem.F.excBase_ValueError T.bc.x T.gbc T.bc.k (raises_own T.bc.b T.bc.t) (by rfl))))
        pss_nil)))

theorem okb_check_base (bt : Blt K mg) {x : ExA} (T : ExT K mg x) (F : FunAt K mg "check_base" s_check_base) (hb_is_int : Ok P w K mg base (L2.CX P w) 1 "is_int" ["value", "low", "high"] (spb_is_int x)) : Ok P w K mg base (L2.CX P w) 2 "check_base" ["value"] (spb_check_base x) :=
  Ok.ofX (k := 1) F sc_check_base (spe1_len rfl) (fun _ _ _ _ _ _ us hl => match us, hl with | [_], _ => rfl) (fun E => rdb_check_base x E K) (fun vs H Q E h => pureb_check_base vs H Q E h) (fun f cdv A outer s H E hr =>
    (pss_one (ps_if (pt_not (pt_val (pe_ok hb_is_int (hr.mono (by decide)) (by rfl) passX0 (pa_cons (pv 0) (pa_cons pe_int (pa_cons pe_int pa_nil))))))
        (pss_one (ps_raise rfl (takes_of rfl rfl rfl rfl) (pmk_own PySem.F.excBase_ValueError T.bn.x T.gbn T.bn.k (raises_own T.bn.b T.bn.t) (by rfl))))
        pss_nil)))

theorem ok_scales (bt : Blt K mg) (F : FunAt K mg "scales" s_scales) (h_ten_to : Ok P w K mg base CX0 1 "ten_to" ["exponent"] (sp_ten_to)) : Ok P w K mg base CX0 2 "scales" [] (sp_scales) :=
  Ok.of (k := 1) F sc_scales (sp0_len rfl) (fun _ _ _ _ _ _ us hl => match us, hl with | [], _ => rfl) (rd_scales K) (fun vs H Q E h => pure_scales vs H Q E h) (fun f cdv A outer s H E hr =>
    (pss_cons (ps_setLc (i := 0) (own := [("shift", 1)]) (g := (gName 1)) (tt := tYes) rfl sc_scales.nd rfl rfl (sw_true rfl rfl rfl (by decide +kernel)) (pi_range3 (by rfl) bt.range (pa_cons pe_int (pa_cons pe_int (pa_cons (pe_un un_neg pe_int) pa_nil)))) (blkOk_by (N := N_scales) (sc := defScope s_scales) (by decide +kernel)) (fun _ _ _ _ _ => (pg_name (i := 1) sc_scales.nd rfl (.inl rfl))) (fun _ _ _ _ _ => pts_nil) (fun _ _ _ _ _ => (pe_tup (pa_cons pe_int (pa_cons (pe_ok h_ten_to (hr.mono (by decide)) (by rfl) pass0 (pa_cons (pv 1) pa_nil)) pa_nil)))))
      (pss_one (ps_ret (pe_op op_cat (pv 0) (pe_lc (own := [("shift", 1)]) (g := (gName 1)) (tt := tYes) rfl sc_scales.nd (pi_range1 (by rfl) bt.range (pa_cons pe_int pa_nil)) (blkOk_by (N := N_scales) (sc := defScope s_scales) (by decide +kernel)) (fun _ _ _ _ _ => (pg_name (i := 1) sc_scales.nd rfl (.inl rfl))) (fun _ _ _ _ _ => pts_nil) (fun _ _ _ _ _ => (pe_tup (pa_cons (pe_ok h_ten_to (hr.mono (by decide)) (by rfl) pass0 (pa_cons (pv 1) pa_nil)) (pa_cons pe_int pa_nil))))))))))

theorem ok_begins_of (bt : Blt K mg) (F : FunAt K mg "begins_of" s_begins_of) (h_size_of : Ok P w K mg base CX0 1 "size_of" ["number"] (sp_size_of)) : Ok P w K mg base CX0 2 "begins_of" ["number", "beginning"] (sp_begins_of) :=
  Ok.of (k := 1) F sc_begins_of (sp2_len rfl) (fun _ _ _ _ _ _ us hl => match us, hl with | [_, _], _ => rfl) (rd_begins_of K) (fun vs H Q E h => pure_begins_of vs H Q E h) (fun f cdv A outer s H E hr =>
    (pss_one (ps_ret (pe_cmpR op_eq (pe_slice sl_str (pe_callTy (call_strB rfl bt.dig) (by rfl) bt.str (by decide +kernel) (pa_cons (pv 0) pa_nil)) po_none (po_some (pe_ok h_size_of (hr.mono (by decide)) (by rfl) pass0 (pa_cons (pv 1) pa_nil)))) (pe_callTy (call_strB rfl bt.dig) (by rfl) bt.str (by decide +kernel) (pa_cons (pv 1) pa_nil)) (nomark _)))))

theorem ok_stretch_of (bt : Blt K mg) (F : FunAt K mg "stretch_of" s_stretch_of) (h_size_of : Ok P w K mg base CX0 1 "size_of" ["number"] (sp_size_of)) (h_ten_to : Ok P w K mg base CX0 1 "ten_to" ["exponent"] (sp_ten_to)) : Ok P w K mg base CX0 2 "stretch_of" ["beginning", "count"] (sp_stretch_of) :=
  Ok.of (k := 1) F sc_stretch_of (sp2_len rfl) (fun _ _ _ _ _ _ us hl => match us, hl with | [_, _], _ => rfl) (rd_stretch_of K) (fun vs H Q E h => pure_stretch_of vs H Q E h) (fun f cdv A outer s H E hr =>
    (pss_cons (ps_set (i := 2) sc_stretch_of.nd rfl (.inl rfl) (pe_ok h_ten_to (hr.mono (by decide)) (by rfl) pass0 (pa_cons (pe_op op_sub (pv 1) (pe_ok h_size_of (hr.mono (by decide)) (by rfl) pass0 (pa_cons (pv 0) pa_nil))) pa_nil)))
      (pss_one (ps_ret (pe_tup (pa_cons (pe_op op_mulX (pv 0) (pv 2)) (pa_cons (pe_op op_sub (pe_op op_mulX (pe_op op_add (pv 0) pe_int) (pv 2)) pe_int) pa_nil)))))))

theorem okb_check_step (bt : Blt K mg) {x : ExA} (T : ExT K mg x) (F : FunAt K mg "check_step" s_check_step) (hb_is_int : Ok P w K mg base (L2.CX P w) 1 "is_int" ["value", "low", "high"] (spb_is_int x)) : Ok P w K mg base (L2.CX P w) 2 "check_step" ["value"] (spb_check_step x) :=
  Ok.ofX (k := 1) F sc_check_step (spe1_len rfl) (fun _ _ _ _ _ _ us hl => match us, hl with | [_], _ => rfl) (fun E => rdb_check_step x E K) (fun vs H Q E h => pureb_check_step vs H Q E h) (fun f cdv A outer s H E hr =>
    (pss_one (ps_if (pt_not (pt_val (pe_ok hb_is_int (hr.mono (by decide)) (by rfl) passX0 (pa_cons (pv 0) (pa_cons pe_int (pa_cons pe_int pa_nil))))))
        (pss_one (ps_raise rfl (takes_of rfl rfl rfl rfl) (pmk_own PySem.F.excBase_ValueError T.bn.x T.gbn T.bn.k (raises_own T.bn.b T.bn.t) (by rfl))))
        pss_nil)))

theorem ok_text_of (bt : Blt K mg) (F : FunAt K mg "text_of" s_text_of) (h_parts_of : Ok P w K mg base CX0 1 "parts_of" ["value"] (sp_parts_of)) : Ok P w K mg base CX0 2 "text_of" ["value"] (sp_text_of) :=
  Ok.of (k := 1) F sc_text_of (sp1_len rfl) (fun _ _ _ _ _ _ us hl => match us, hl with | [_], _ => rfl) (rd_text_of K) (fun vs H Q E h => pure_text_of vs H Q E h) (fun f cdv A outer s H E hr =>
    (pss_one (ps_ret (pe_join pe_str (pe_lc (own := [("one", 1), ("other", 2)]) (g := (gTup K 2 (gCons (gName 1) (gCons (gName 2) gNil)))) (tt := tYes) rfl sc_text_of.nd (pi_list (pe_ok h_parts_of (hr.mono (by decide)) (by rfl) pass0 (pa_cons (pv 0) pa_nil))) (blkOk_by (N := N_text_of) (sc := defScope s_text_of) (by decide +kernel)) (fun _ _ _ _ _ => (pg_tup rfl (pgs_cons (pg_name (i := 1) sc_text_of.nd rfl (.inl rfl)) (pgs_cons (pg_name (i := 2) sc_text_of.nd rfl (.inl rfl)) pgs_nil)))) (fun _ _ _ _ _ => pts_nil) (fun _ _ _ _ _ => (pe_ifExp (pt_cmpR op_eq (pv 1) (pv 2) (nomark _)) (pe_callTy (call_strB rfl bt.dig) (by rfl) bt.str (by decide +kernel) (pa_cons (pv 1) pa_nil)) (pe_joined (.cons (pe_fmt (pv 1)) (.cons pe_str (.cons (pe_fmt (pv 2)) .nil)))))))))))

theorem ok_law_pick (bt : Blt K mg) (F : FunAt K mg "_law_pick" s_law_pick) (h_law_draw : Ok P w K mg base CX0 1 "_law_draw" ["draws", "limit"] (sp_law_draw)) : Ok P w K mg base CX0 2 "_law_pick" ["draws", "choices"] (sp_law_pick) :=
  Ok.of (k := 1) F sc_law_pick (sp2_len rfl) (fun _ _ _ _ _ _ us hl => match us, hl with | [_, _], _ => rfl) (rd_law_pick K) (fun vs H Q E h => pure_law_pick vs H Q E h) (fun f cdv A outer s H E hr =>
    (pss_one (ps_ret (pe_ix ix_list (pv 1) (pe_ok h_law_draw (hr.mono (by decide)) (by rfl) pass0 (pa_cons (pv 0) (pa_cons (pe_callB call_len_seq (by rfl) bt.len (by decide +kernel) (pa_cons (pv 1) pa_nil)) pa_nil))) (fun _ _ => rfl)))))

theorem okx_Row_grown (bt : Blt K mg) {x : ExA} (T : ExT K mg x) {c : Addr} (R : RowF K mg c) (F : FunM K c "grown" "Row.grown" s_Row_grown) (h_is_number : Ok P w K mg base CX0 2 "is_number" ["value"] (sp_is_number)) : OkM P w K mg base (L2.CX P w) 3 c "grown" ["self", "number"] (spx_Row_grown x c) :=
  OkM.ofX (k := 2) F sc_Row_grown (spe2_len rfl) (fun _ _ _ _ _ _ us hl => match us, hl with | [_, _], _ => rfl) (fun E => rdx_Row_grown x E K) (fun vs H Q E h => purex_Row_grown R vs H Q E h) (fun f cdv A outer s H E hr =>
    (pss_cons (ps_if (pt_not (pt_val (pe_ok h_is_number (hr.mono (by decide)) (by rfl) pass0 (pa_cons (pv 1) pa_nil))))
        (pss_one (ps_raise rfl (takes_of rfl rfl rfl rfl) (pmk_own PySem.F.excBase_ValueError T.bn.x T.gbn T.bn.k (raises_own T.bn.b T.bn.t) (by rfl))))
        pss_nil)
      (pss_cons (ps_expr (pe_bm PySem.F.plainAttrs_list PySem.F.slot_list_append PySem.F.type_list_append mt_append (pe_fld (pv 0) rfl) (pa_cons (pe_ix ix_list (pe_fld (pv 0) rfl) (pe_un un_neg pe_int) (fun _ _ => rfl)) pa_nil)))
      (pss_cons (ps_expr (pe_bm PySem.F.plainAttrs_list PySem.F.slot_list_append PySem.F.type_list_append mt_append (pe_fld (pv 0) rfl) (pa_cons (pv 1) pa_nil)))
      (pss_one (ps_ret (pv 1)))))))

theorem okb_Row_first_digits (bt : Blt K mg) {x : ExA} (T : ExT K mg x) {c : Addr} (R : RowF K mg c) (F : FunM K c "first_digits" "Row.first_digits" s_Row_first_digits) (hb_check_count : Ok P w K mg base (L2.CX P w) 2 "check_count" ["value", "low", "high"] (spb_check_count x)) (h_first_of : Ok P w K mg base CX0 1 "first_of" ["number", "many"] (sp_first_of)) : OkM P w K mg base (L2.CX P w) 3 c "first_digits" ["self", "many"] (spb_Row_first_digits x c) :=
  OkM.ofX (k := 2) F sc_Row_first_digits (spe2_len rfl) (fun _ _ _ _ _ _ us hl => match us, hl with | [_, _], _ => rfl) (fun E => rdb_Row_first_digits x E K) (fun vs H Q E h => pureb_Row_first_digits R vs H Q E h) (fun f cdv A outer s H E hr =>
    (pss_cons (ps_expr (pe_ok hb_check_count (hr.mono (by decide)) (by rfl) (passes_call (takes_of rfl rfl rfl rfl) (fun _ _ _ _ h => h)) (pa_cons (pv 1) (pa_cons pe_int (pa_cons pe_int pa_nil)))))
      (pss_one (ps_ret (pe_ok h_first_of (hr.mono (by decide)) (by rfl) pass0 (pa_cons (pe_ix ix_list (pe_fld (pv 0) rfl) (pe_un un_neg pe_int) (fun _ _ => rfl)) (pa_cons (pv 1) pa_nil)))))))

theorem okb_check_number (bt : Blt K mg) {x : ExA} (T : ExT K mg x) (F : FunAt K mg "check_number" s_check_number) (hb_is_number : Ok P w K mg base (L2.CX P w) 2 "is_number" ["value"] (spb_is_number x)) : Ok P w K mg base (L2.CX P w) 3 "check_number" ["value"] (spb_check_number x) :=
  Ok.ofX (k := 2) F sc_check_number (spe1_len rfl) (fun _ _ _ _ _ _ us hl => match us, hl with | [_], _ => rfl) (fun E => rdb_check_number x E K) (fun vs H Q E h => pureb_check_number vs H Q E h) (fun f cdv A outer s H E hr =>
    (pss_one (ps_if (pt_not (pt_val (pe_ok hb_is_number (hr.mono (by decide)) (by rfl) passX0 (pa_cons (pv 0) pa_nil))))
        (pss_one (ps_raise rfl (takes_of rfl rfl rfl rfl) (pmk_own PySem.F.excBase_ValueError T.bn.x T.gbn T.bn.k (raises_own T.bn.b T.bn.t) (by rfl))))
        pss_nil)))

theorem okb_check_beginning (bt : Blt K mg) {x : ExA} (T : ExT K mg x) (F : FunAt K mg "check_beginning" s_check_beginning) (hb_is_beginning : Ok P w K mg base (L2.CX P w) 2 "is_beginning" ["value"] (spb_is_beginning x)) : Ok P w K mg base (L2.CX P w) 3 "check_beginning" ["value"] (spb_check_beginning x) :=
  Ok.ofX (k := 2) F sc_check_beginning (spe1_len rfl) (fun _ _ _ _ _ _ us hl => match us, hl with | [_], _ => rfl) (fun E => rdb_check_beginning x E K) (fun vs H Q E h => pureb_check_beginning vs H Q E h) (fun f cdv A outer s H E hr =>
    (pss_one (ps_if (pt_not (pt_val (pe_ok hb_is_beginning (hr.mono (by decide)) (by rfl) passX0 (pa_cons (pv 0) pa_nil))))
        (pss_one (ps_raise rfl (takes_of rfl rfl rfl rfl) (pmk_own PySem.F.excBase_ValueError T.bb.x T.gbb T.bb.k (raises_own T.bb.b T.bb.t) (by rfl))))
        pss_nil)))

theorem ok_meets (bt : Blt K mg) (F : FunAt K mg "meets" s_meets) (h_crosses : Ok P w K mg base CX0 1 "crosses" ["low", "high", "first", "last", "scale"] (sp_crosses)) (h_scales : Ok P w K mg base CX0 2 "scales" [] (sp_scales)) : Ok P w K mg base CX0 3 "meets" ["low", "high", "one"] (sp_meets) :=
  Ok.of (k := 2) F sc_meets (sp3_len rfl) (fun _ _ _ _ _ _ us hl => match us, hl with | [_, _, _], _ => rfl) (rd_meets K) (fun vs H Q E h => pure_meets vs H Q E h) (fun f cdv A outer s H E hr =>
    (pss_one (ps_ret (pe_callB (cr_any rfl) (by rfl) bt.any (by decide +kernel) (pa_cons (pe_lc (own := [("scale", 3)]) (g := (gName 3)) (tt := tYes) rfl sc_meets.nd (pi_list (pe_ok0 h_scales (hr.mono (by decide)) (by rfl) pass0)) (blkOk_by (N := N_meets) (sc := defScope s_meets) (by decide +kernel)) (fun _ _ _ _ _ => (pg_name (i := 3) sc_meets.nd rfl (.inl rfl))) (fun _ _ _ _ _ => pts_nil) (fun _ _ _ _ _ => (pe_ok h_crosses (hr.mono (by decide)) (by rfl) pass0 (pa_cons (pv 0) (pa_cons (pv 1) (pa_cons (pv 2) (pa_cons (pe_op op_add (pv 2) pe_int) (pa_cons (pv 3) pa_nil)))))))) pa_nil)))))

theorem ok_all_meeting (bt : Blt K mg) (F : FunAt K mg "all_meeting" s_all_meeting) (h_crosses : Ok P w K mg base CX0 1 "crosses" ["low", "high", "first", "last", "scale"] (sp_crosses)) (h_scales : Ok P w K mg base CX0 2 "scales" [] (sp_scales)) (h_ten_to : Ok P w K mg base CX0 1 "ten_to" ["exponent"] (sp_ten_to)) : Ok P w K mg base CX0 3 "all_meeting" ["low", "high", "many"] (sp_all_meeting) :=
  Ok.of (k := 2) F sc_all_meeting (sp3_len rfl) (fun _ _ _ _ _ _ us hl => match us, hl with | [_, _, _], _ => rfl) (rd_all_meeting K) (fun vs H Q E h => pure_all_meeting vs H Q E h) (fun f cdv A outer s H E hr =>
    (pss_cons (ps_asg (pe_tup (pa_cons (pe_ok h_ten_to (hr.mono (by decide)) (by rfl) pass0 (pa_cons (pe_op op_sub (pv 2) pe_int) pa_nil)) (pa_cons (pe_ok h_ten_to (hr.mono (by decide)) (by rfl) pass0 (pa_cons (pv 2) pa_nil)) pa_nil))) (pg_tup rfl (pgs_cons (pg_name (i := 3) sc_all_meeting.nd rfl (.inr rfl)) (pgs_cons (pg_name (i := 4) sc_all_meeting.nd rfl (.inr rfl)) pgs_nil))))
      (pss_cons (ps_setLc (i := 5) (own := [("scale", 8)]) (g := (gName 8)) (tt := (tB (tCall (sp_crosses) [] E0 (tCons (tVar 0) (tCons (tVar 1) (tCons (tVar 3) (tCons (tVar 4) (tCons (tVar 8) tNil)))))))) rfl sc_all_meeting.nd rfl rfl (sw_true rfl rfl rfl (by decide +kernel)) (pi_list (pe_ok0 h_scales (hr.mono (by decide)) (by rfl) pass0)) (blkOk_by (N := N_all_meeting) (sc := defScope s_all_meeting) (by decide +kernel)) (fun _ _ _ _ _ => (pg_name (i := 8) sc_all_meeting.nd rfl (.inl rfl))) (fun _ _ _ _ _ => (pts_one (pt_val (pe_ok h_crosses (hr.mono (by decide)) (by rfl) pass0 (pa_cons (pv 0) (pa_cons (pv 1) (pa_cons (pv 3) (pa_cons (pv 4) (pa_cons (pv 8) pa_nil))))))))) (fun _ _ _ _ _ => (pv 8)))
      (pss_cons (ps_set (i := 6) sc_all_meeting.nd rfl (.inl rfl) (pe_lst pa_nil))
      (pss_cons (ps_for PassesOwn.never rfl (pi_range2 (by rfl) bt.range (pa_cons (pv 3) (pa_cons (pv 4) pa_nil))) (pg_name (i := 7) sc_all_meeting.nd rfl (.inr rfl))
        (pss_one (ps_if (pt_val (pe_callB (cr_any rfl) (by rfl) bt.any (by decide +kernel) (pa_cons (pe_lc (own := [("scale", 8)]) (g := (gName 8)) (tt := tYes) rfl sc_all_meeting.nd (pi_list (pv 5)) (blkOk_by (N := N_all_meeting) (sc := defScope s_all_meeting) (by decide +kernel)) (fun _ _ _ _ _ => (pg_name (i := 8) sc_all_meeting.nd rfl (.inl rfl))) (fun _ _ _ _ _ => pts_nil) (fun _ _ _ _ _ => (pe_ok h_crosses (hr.mono (by decide)) (by rfl) pass0 (pa_cons (pv 0) (pa_cons (pv 1) (pa_cons (pv 7) (pa_cons (pe_op op_add (pv 7) pe_int) (pa_cons (pv 8) pa_nil)))))))) pa_nil)))
        (pss_one (ps_expr (pe_bm PySem.F.plainAttrs_list PySem.F.slot_list_append PySem.F.type_list_append mt_append (pv 6) (pa_cons (pv 7) pa_nil))))
        pss_nil)))
      (pss_one (ps_ret (pv 6))))))))

theorem ok_places_of (bt : Blt K mg) (F : FunAt K mg "places_of" s_places_of) (h_begins_of : Ok P w K mg base CX0 2 "begins_of" ["number", "beginning"] (sp_begins_of)) (h_powers_of : Ok P w K mg base CX0 1 "powers_of" ["base", "most"] (sp_powers_of)) : Ok P w K mg base CX0 3 "places_of" ["base", "beginning", "most"] (sp_places_of) :=
  Ok.of (k := 2) F sc_places_of (sp3_len rfl) (fun _ _ _ _ _ _ us hl => match us, hl with | [_, _, _], _ => rfl) (rd_places_of K) (fun vs H Q E h => pure_places_of vs H Q E h) (fun f cdv A outer s H E hr =>
    (pss_one (ps_ret (pe_lc (own := [("place", 3), ("number", 4)]) (g := (gTup K 2 (gCons (gName 3) (gCons (gName 4) gNil)))) (tt := (tB (tCall (sp_begins_of) [] E0 (tCons (tVar 4) (tCons (tVar 1) tNil))))) rfl sc_places_of.nd (pi_enum (by rfl) bt.enumerate (pa_cons (pe_ok h_powers_of (hr.mono (by decide)) (by rfl) pass0 (pa_cons (pv 0) (pa_cons (pv 2) pa_nil))) pa_nil)) (blkOk_by (N := N_places_of) (sc := defScope s_places_of) (by decide +kernel)) (fun _ _ _ _ _ => (pg_tup rfl (pgs_cons (pg_name (i := 3) sc_places_of.nd rfl (.inl rfl)) (pgs_cons (pg_name (i := 4) sc_places_of.nd rfl (.inl rfl)) pgs_nil)))) (fun _ _ _ _ _ => (pts_one (pt_val (pe_ok h_begins_of (hr.mono (by decide)) (by rfl) pass0 (pa_cons (pv 4) (pa_cons (pv 1) pa_nil)))))) (fun _ _ _ _ _ => (pv 3))))))

theorem okb_digit_table (bt : Blt K mg) {x : ExA} (T : ExT K mg x) (F : FunAt K mg "digit_table" s_digit_table) {t_MOST_POWER : Tok} (g_MOST_POWER : mg "MOST_POWER" = some (.int 300 t_MOST_POWER)) (hb_check_base : Ok P w K mg base (L2.CX P w) 2 "check_base" ["value"] (spb_check_base x)) (hb_check_count : Ok P w K mg base (L2.CX P w) 2 "check_count" ["value", "low", "high"] (spb_check_count x)) (h_first_of : Ok P w K mg base CX0 1 "first_of" ["number", "many"] (sp_first_of)) (h_powers_of : Ok P w K mg base CX0 1 "powers_of" ["base", "most"] (sp_powers_of)) : Ok P w K mg base (L2.CX P w) 3 "digit_table" ["base", "most"] (spb_digit_table x) :=
  Ok.ofX (k := 2) F sc_digit_table (spe2_len rfl) (fun _ _ _ _ _ _ us hl => match us, hl with | [_, _], _ => rfl) (fun E => rdb_digit_table x E K) (fun vs H Q E h => pureb_digit_table vs H Q E h) (fun f cdv A outer s H E hr =>
    (pss_cons (ps_expr (pe_ok hb_check_base (hr.mono (by decide)) (by rfl) (passes_call (takes_of rfl rfl rfl rfl) (fun _ _ _ _ h => h)) (pa_cons (pv 0) pa_nil)))
      (pss_cons (ps_expr (pe_ok hb_check_count (hr.mono (by decide)) (by rfl) (passes_call (takes_of rfl rfl rfl rfl) (fun _ _ _ _ h => h)) (pa_cons (pv 1) (pa_cons pe_int (pa_cons (pe_glob rfl g_MOST_POWER ⟨_, rfl⟩) pa_nil)))))
      (pss_cons (ps_set (i := 2) sc_digit_table.nd rfl (.inl rfl) (pe_op op_rep (pe_lst (pa_cons pe_int pa_nil)) pe_int))
      (pss_cons (ps_for (passes_of rfl) rfl (pi_list (pe_ok h_powers_of (hr.mono (by decide)) (by rfl) pass0 (pa_cons (pv 0) (pa_cons (pv 1) pa_nil)))) (pg_name (i := 3) sc_digit_table.nd rfl (.inl rfl))
        (pss_one (ps_augS (pv 2) (pe_op op_sub (pe_ok h_first_of (hr.mono (by decide)) (by rfl) pass0 (pa_cons (pv 3) (pa_cons pe_int pa_nil))) pe_int) get_list pe_int iop_add set_list)))
      (pss_one (ps_ret (pv 2))))))))

theorem okb_never (bt : Blt K mg) {x : ExA} (T : ExT K mg x) (F : FunAt K mg "never" s_never) {t_MOST_POWER : Tok} (g_MOST_POWER : mg "MOST_POWER" = some (.int 300 t_MOST_POWER)) (hb_check_base : Ok P w K mg base (L2.CX P w) 2 "check_base" ["value"] (spb_check_base x)) (hb_check_count : Ok P w K mg base (L2.CX P w) 2 "check_count" ["value", "low", "high"] (spb_check_count x)) (h_first_of : Ok P w K mg base CX0 1 "first_of" ["number", "many"] (sp_first_of)) (h_powers_of : Ok P w K mg base CX0 1 "powers_of" ["base", "most"] (sp_powers_of)) (h_size_of : Ok P w K mg base CX0 1 "size_of" ["number"] (sp_size_of)) (h_ten_to : Ok P w K mg base CX0 1 "ten_to" ["exponent"] (sp_ten_to)) : Ok P w K mg base (L2.CX P w) 3 "never" ["base", "many", "most"] (spb_never x) :=
  Ok.ofX (k := 2) F sc_never (spe3_len rfl) (fun _ _ _ _ _ _ us hl => match us, hl with | [_, _, _], _ => rfl) (fun E => rdb_never x E K) (fun vs H Q E h => pureb_never vs H Q E h) (fun f cdv A outer s H E hr =>
    (pss_cons (ps_expr (pe_ok hb_check_base (hr.mono (by decide)) (by rfl) (passes_call (takes_of rfl rfl rfl rfl) (fun _ _ _ _ h => h)) (pa_cons (pv 0) pa_nil)))
      (pss_cons (ps_expr (pe_ok hb_check_count (hr.mono (by decide)) (by rfl) (passes_call (takes_of rfl rfl rfl rfl) (fun _ _ _ _ h => h)) (pa_cons (pv 1) (pa_cons pe_int (pa_cons pe_int pa_nil)))))
      (pss_cons (ps_expr (pe_ok hb_check_count (hr.mono (by decide)) (by rfl) (passes_call (takes_of rfl rfl rfl rfl) (fun _ _ _ _ h => h)) (pa_cons (pv 2) (pa_cons pe_int (pa_cons (pe_glob rfl g_MOST_POWER ⟨_, rfl⟩) pa_nil)))))
      (pss_cons (ps_set (i := 3) sc_never.nd rfl (.inr rfl) (pe_op op_rep (pe_lst (pa_cons pe_bl pa_nil)) (pe_ok h_ten_to (hr.mono (by decide)) (by rfl) pass0 (pa_cons (pv 1) pa_nil))))
      (pss_cons (ps_for (passes_of rfl) rfl (pi_list (pe_ok h_powers_of (hr.mono (by decide)) (by rfl) pass0 (pa_cons (pv 0) (pa_cons (pv 2) pa_nil)))) (pg_name (i := 4) sc_never.nd rfl (.inl rfl))
        (pss_one (ps_if (pt_cmpR op_ge (pe_ok h_size_of (hr.mono (by decide)) (by rfl) pass0 (pa_cons (pv 4) pa_nil)) (pv 1) (nomark _))
        (pss_one (ps_asg pe_bl (pg_sub (pv 3) (pe_ok h_first_of (hr.mono (by decide)) (by rfl) pass0 (pa_cons (pv 4) (pa_cons (pv 1) pa_nil))) set_list)))
        pss_nil)))
      (pss_one (ps_ret (pe_lc (own := [("one", 5)]) (g := (gName 5)) (tt := (tNot (tB (tOp (rIxL K) (tVar 3) (tVar 5))))) rfl sc_never.nd (pi_range2 (by rfl) bt.range (pa_cons (pe_ok h_ten_to (hr.mono (by decide)) (by rfl) pass0 (pa_cons (pe_op op_sub (pv 1) pe_int) pa_nil)) (pa_cons (pe_ok h_ten_to (hr.mono (by decide)) (by rfl) pass0 (pa_cons (pv 1) pa_nil)) pa_nil))) (blkOk_by (N := N_never) (sc := defScope s_never) (by decide +kernel)) (fun _ _ _ _ _ => (pg_name (i := 5) sc_never.nd rfl (.inl rfl))) (fun _ _ _ _ _ => (pts_one (pt_not (pt_val (pe_ix ix_list (pv 3) (pv 5) (fun _ _ => rfl)))))) (fun _ _ _ _ _ => (pv 5)))))))))))

theorem okb_powers_with (bt : Blt K mg) {x : ExA} (T : ExT K mg x) (F : FunAt K mg "powers_with" s_powers_with) {t_MOST_POWER : Tok} (g_MOST_POWER : mg "MOST_POWER" = some (.int 300 t_MOST_POWER)) (hb_check_base : Ok P w K mg base (L2.CX P w) 2 "check_base" ["value"] (spb_check_base x)) (hb_check_count : Ok P w K mg base (L2.CX P w) 2 "check_count" ["value", "low", "high"] (spb_check_count x)) (h_powers_of : Ok P w K mg base CX0 1 "powers_of" ["base", "most"] (sp_powers_of)) (h_size_of : Ok P w K mg base CX0 1 "size_of" ["number"] (sp_size_of)) : Ok P w K mg base (L2.CX P w) 3 "powers_with" ["base", "count"] (spb_powers_with x) :=
  Ok.ofX (k := 2) F sc_powers_with (spe2_len rfl) (fun _ _ _ _ _ _ us hl => match us, hl with | [_, _], _ => rfl) (fun E => rdb_powers_with x E K) (fun vs H Q E h => pureb_powers_with vs H Q E h) (fun f cdv A outer s H E hr =>
    (pss_cons (ps_expr (pe_ok hb_check_base (hr.mono (by decide)) (by rfl) (passes_call (takes_of rfl rfl rfl rfl) (fun _ _ _ _ h => h)) (pa_cons (pv 0) pa_nil)))
      (pss_cons (ps_expr (pe_ok hb_check_count (hr.mono (by decide)) (by rfl) (passes_call (takes_of rfl rfl rfl rfl) (fun _ _ _ _ h => h)) (pa_cons (pv 1) (pa_cons pe_int (pa_cons pe_int pa_nil)))))
      (pss_one (ps_ret (pe_lc (own := [("place", 2), ("number", 3)]) (g := (gTup K 2 (gCons (gName 2) (gCons (gName 3) gNil)))) (tt := (tTest (tOp rEq (tCall (sp_size_of) [] E0 (tCons (tVar 3) tNil)) (tVar 1)))) rfl sc_powers_with.nd (pi_enum (by rfl) bt.enumerate (pa_cons (pe_ok h_powers_of (hr.mono (by decide)) (by rfl) pass0 (pa_cons (pv 0) (pa_cons (pe_glob rfl g_MOST_POWER ⟨_, rfl⟩) pa_nil))) pa_nil)) (blkOk_by (N := N_powers_with) (sc := defScope s_powers_with) (by decide +kernel)) (fun _ _ _ _ _ => (pg_tup rfl (pgs_cons (pg_name (i := 2) sc_powers_with.nd rfl (.inl rfl)) (pgs_cons (pg_name (i := 3) sc_powers_with.nd rfl (.inl rfl)) pgs_nil)))) (fun _ _ _ _ _ => (pts_one (pt_cmpR op_eq (pe_ok h_size_of (hr.mono (by decide)) (by rfl) pass0 (pa_cons (pv 3) pa_nil)) (pv 1) (nomark _)))) (fun _ _ _ _ _ => (pv 2))))))))

theorem ok_least_behind (bt : Blt K mg) (F : FunAt K mg "least_behind" s_least_behind) (h_begins_of : Ok P w K mg base CX0 2 "begins_of" ["number", "beginning"] (sp_begins_of)) (h_size_of : Ok P w K mg base CX0 1 "size_of" ["number"] (sp_size_of)) (h_ten_to : Ok P w K mg base CX0 1 "ten_to" ["exponent"] (sp_ten_to)) : Ok P w K mg base CX0 3 "least_behind" ["one", "other", "beginning", "more"] (sp_least_behind) :=
  Ok.of (k := 2) F sc_least_behind (sp4_len rfl) (fun _ _ _ _ _ _ us hl => match us, hl with | [_, _, _, _], _ => rfl) (rd_least_behind K) (fun vs H Q E h => pure_least_behind vs H Q E h) (fun f cdv A outer s H E hr =>
    (pss_cons (ps_set (i := 4) sc_least_behind.nd rfl (.inl rfl) (pe_ok h_ten_to (hr.mono (by decide)) (by rfl) pass0 (pa_cons (pv 3) pa_nil)))
      (pss_cons (ps_set (i := 5) sc_least_behind.nd rfl (.inl rfl) (pe_op op_mulX (pe_op op_mulX (pe_op op_mulX (pv 0) (pv 1)) (pv 4)) (pv 4)))
      (pss_cons (ps_for PassesOwn.never rfl (pi_range2 (by rfl) bt.range (pa_cons (pe_ok h_size_of (hr.mono (by decide)) (by rfl) pass0 (pa_cons (pv 5) pa_nil)) (pa_cons (pe_op op_add (pe_ok h_size_of (hr.mono (by decide)) (by rfl) pass0 (pa_cons (pv 5) pa_nil)) pe_int) pa_nil))) (pg_name (i := 6) sc_least_behind.nd rfl (.inl rfl))
        (pss_one (ps_if (pt_cmpR op_ge (pv 6) (pe_ok h_size_of (hr.mono (by decide)) (by rfl) pass0 (pa_cons (pv 2) pa_nil)) (nomark _))
        (pss_cons (ps_set (i := 7) sc_least_behind.nd rfl (.inl rfl) (pe_op op_mulX (pv 2) (pe_ok h_ten_to (hr.mono (by decide)) (by rfl) pass0 (pa_cons (pe_op op_sub (pv 6) (pe_ok h_size_of (hr.mono (by decide)) (by rfl) pass0 (pa_cons (pv 2) pa_nil))) pa_nil))))
      (pss_cons (ps_par (by rfl) sc_least_behind.nd (i := 8) (j := 9) rfl rfl (by decide) rfl rfl (pa_cons (pe_un un_neg pe_int) (pa_cons (pv 4) pa_nil)) (by rfl))
      (pss_cons (ps_while PassesOwn.never (pt_cmpR op_gt (pe_op op_sub (pv 9) (pv 8)) pe_int (nomark _))
        (pss_cons (ps_set (i := 10) sc_least_behind.nd rfl (.inl rfl) (pe_op op_fdivW (pe_op op_add (pv 8) (pv 9)) pe_int))
      (pss_one (ps_if (pt_cmpR op_ge (pe_op op_mulX (pe_op op_add (pe_op op_mulX (pv 0) (pv 4)) (pv 10)) (pe_op op_add (pe_op op_mulX (pv 1) (pv 4)) (pv 10))) (pv 7) (nomark _))
        (pss_one (ps_set (i := 9) sc_least_behind.nd rfl (.inl rfl) (pv 10)))
        (pss_one (ps_set (i := 8) sc_least_behind.nd rfl (.inl rfl) (pv 10)))))))
      (pss_one (ps_if (PW.pt (pw_and (pt_cmpR op_lt (pv 9) (pv 4) (nomark _)) (pw_and1 (pt_val (pe_ok h_begins_of (hr.mono (by decide)) (by rfl) pass0 (pa_cons (pe_op op_mulX (pe_op op_add (pe_op op_mulX (pv 0) (pv 4)) (pv 9)) (pe_op op_add (pe_op op_mulX (pv 1) (pv 4)) (pv 9))) (pa_cons (pv 2) pa_nil)))))))
        (pss_one (ps_ret (pv 9)))
        pss_nil)))))
        pss_nil)))
      (pss_one (ps_ret pe_non))))))

theorem okb_is_row (bt : Blt K mg) {x : ExA} (T : ExT K mg x) (F : FunAt K mg "is_row" s_is_row) (hb_is_beginning : Ok P w K mg base (L2.CX P w) 2 "is_beginning" ["value"] (spb_is_beginning x)) : Ok P w K mg base (L2.CX P w) 3 "is_row" ["value"] (spb_is_row x) :=
  Ok.ofX (k := 2) F sc_is_row (spe1_len rfl) (fun _ _ _ _ _ _ us hl => match us, hl with | [_], _ => rfl) (fun E => rdb_is_row x E K) (fun vs H Q E h => pureb_is_row vs H Q E h) (fun f cdv A outer s H E hr =>
    (pss_one (ps_ret (pe_and (pe_callB call_isi (by rfl) bt.isinstance (by decide +kernel) (pa_cons (pv 0) (pa_cons (pe_bltn (by rfl) bt.list (by decide +kernel) rfl) pa_nil))) (pe_and (pe_chain op_le op_le pe_int (pe_callB call_len_seq (by rfl) bt.len (by decide +kernel) (pa_cons (pv 0) pa_nil)) pe_int) (pe_one (pe_callB (cr_all rfl) (by rfl) bt.all (by decide +kernel) (pa_cons (pe_lc (own := [("one", 1)]) (g := (gName 1)) (tt := tYes) rfl sc_is_row.nd (pi_list (pv 0)) (blkOk_by (N := N_is_row) (sc := defScope s_is_row) (by decide +kernel)) (fun _ _ _ _ _ => (pg_name (i := 1) sc_is_row.nd rfl (.inl rfl))) (fun _ _ _ _ _ => pts_nil) (fun _ _ _ _ _ => (pe_ok hb_is_beginning (hr.mono (by decide)) (by rfl) passX0 (pa_cons (pv 1) pa_nil)))) pa_nil))))))))

theorem okb_Row_init (bt : Blt K mg) {x : ExA} (T : ExT K mg x) {c : Addr} (R : RowF K mg c) (F : FunI K c "Row.__init__" s_Row_init) (hb_check_number : Ok P w K mg base (L2.CX P w) 3 "check_number" ["value"] (spb_check_number x)) : OkI P w K mg base (L2.CX P w) 4 c ["self", "number"] (spb_Row_init x c) :=
  OkI.ofX (k := 3) F sc_Row_init (spe2_len rfl) (fun _ _ _ _ _ _ us hl => match us, hl with | [_, _], _ => rfl) (fun E => rdb_Row_init x E K) (fun vs H Q E h => pureb_Row_init R vs H Q E h) (fun f cdv A outer s H E hr =>
    (pss_cons (ps_expr (pe_ok hb_check_number (hr.mono (by decide)) (by rfl) (passes_call (takes_of rfl rfl rfl rfl) (fun _ _ _ _ h => h)) (pa_cons (pv 1) pa_nil)))
      (pss_cons (ps_fld (pv 0) (pe_lst (pa_cons (pv 1) pa_nil)) rfl)
      (pss_one (ps_fld (pv 0) (pe_lst pa_nil) rfl)))))

theorem okb_Row_multiply (bt : Blt K mg) {x : ExA} (T : ExT K mg x) {c : Addr} (R : RowF K mg c) (F : FunM K c "multiply" "Row.multiply" s_Row_multiply) (hx_Row_grown : OkM P w K mg base (L2.CX P w) 3 c "grown" ["self", "number"] (spx_Row_grown x c)) (hb_check_base : Ok P w K mg base (L2.CX P w) 2 "check_base" ["value"] (spb_check_base x)) : OkM P w K mg base (L2.CX P w) 4 c "multiply" ["self", "base"] (spb_Row_multiply x c) :=
  OkM.ofX (k := 3) F sc_Row_multiply (spe2_len rfl) (fun _ _ _ _ _ _ us hl => match us, hl with | [_, _], _ => rfl) (fun E => rdb_Row_multiply x c E K) (fun vs H Q E h => pureb_Row_multiply R vs H Q E h) (fun f cdv A outer s H E hr =>
    (pss_cons (ps_expr (pe_ok hb_check_base (hr.mono (by decide)) (by rfl) (passes_call (takes_of rfl rfl rfl rfl) (fun _ _ _ _ h => h)) (pa_cons (pv 1) pa_nil)))
      (pss_one (ps_ret (pe_okM hx_Row_grown R.cl (pv 0) (hr.mono (by decide)) (passes_call (takes_of rfl rfl rfl rfl) (fun _ _ _ _ h => h)) (pa_cons (pe_op op_mulX (pe_ix ix_list (pe_fld (pv 0) rfl) (pe_un un_neg pe_int) (fun _ _ => rfl)) (pv 1)) pa_nil))))))

theorem okb_Row_add (bt : Blt K mg) {x : ExA} (T : ExT K mg x) {c : Addr} (R : RowF K mg c) (F : FunM K c "add" "Row.add" s_Row_add) (hx_Row_grown : OkM P w K mg base (L2.CX P w) 3 c "grown" ["self", "number"] (spx_Row_grown x c)) (hb_check_number : Ok P w K mg base (L2.CX P w) 3 "check_number" ["value"] (spb_check_number x)) : OkM P w K mg base (L2.CX P w) 4 c "add" ["self", "number"] (spb_Row_add x c) :=
  OkM.ofX (k := 3) F sc_Row_add (spe2_len rfl) (fun _ _ _ _ _ _ us hl => match us, hl with | [_, _], _ => rfl) (fun E => rdb_Row_add x c E K) (fun vs H Q E h => pureb_Row_add R vs H Q E h) (fun f cdv A outer s H E hr =>
    (pss_cons (ps_expr (pe_ok hb_check_number (hr.mono (by decide)) (by rfl) (passes_call (takes_of rfl rfl rfl rfl) (fun _ _ _ _ h => h)) (pa_cons (pv 1) pa_nil)))
      (pss_one (ps_ret (pe_okM hx_Row_grown R.cl (pv 0) (hr.mono (by decide)) (passes_call (takes_of rfl rfl rfl rfl) (fun _ _ _ _ h => h)) (pa_cons (pe_op op_add (pe_ix ix_list (pe_fld (pv 0) rfl) (pe_un un_neg pe_int) (fun _ _ => rfl)) (pv 1)) pa_nil))))))

theorem okb_first_digits (bt : Blt K mg) {x : ExA} (T : ExT K mg x) (F : FunAt K mg "first_digits" s_first_digits) (hb_check_count : Ok P w K mg base (L2.CX P w) 2 "check_count" ["value", "low", "high"] (spb_check_count x)) (hb_check_number : Ok P w K mg base (L2.CX P w) 3 "check_number" ["value"] (spb_check_number x)) (h_first_of : Ok P w K mg base CX0 1 "first_of" ["number", "many"] (sp_first_of)) : Ok P w K mg base (L2.CX P w) 4 "first_digits" ["number", "many"] (spb_first_digits x) :=
  Ok.ofX (k := 3) F sc_first_digits (spe2_len rfl) (fun _ _ _ _ _ _ us hl => match us, hl with | [_, _], _ => rfl) (fun E => rdb_first_digits x E K) (fun vs H Q E h => pureb_first_digits vs H Q E h) (fun f cdv A outer s H E hr =>
    (pss_cons (ps_expr (pe_ok hb_check_number (hr.mono (by decide)) (by rfl) (passes_call (takes_of rfl rfl rfl rfl) (fun _ _ _ _ h => h)) (pa_cons (pv 0) pa_nil)))
      (pss_cons (ps_expr (pe_ok hb_check_count (hr.mono (by decide)) (by rfl) (passes_call (takes_of rfl rfl rfl rfl) (fun _ _ _ _ h => h)) (pa_cons (pv 1) (pa_cons pe_int (pa_cons pe_int pa_nil)))))
      (pss_one (ps_ret (pe_ok h_first_of (hr.mono (by decide)) (by rfl) pass0 (pa_cons (pv 0) (pa_cons (pv 1) pa_nil))))))))

theorem okb_longer (bt : Blt K mg) {x : ExA} (T : ExT K mg x) (F : FunAt K mg "longer" s_longer) (hb_check_beginning : Ok P w K mg base (L2.CX P w) 3 "check_beginning" ["value"] (spb_check_beginning x)) (hb_check_count : Ok P w K mg base (L2.CX P w) 2 "check_count" ["value", "low", "high"] (spb_check_count x)) (h_size_of : Ok P w K mg base CX0 1 "size_of" ["number"] (sp_size_of)) (h_ten_to : Ok P w K mg base CX0 1 "ten_to" ["exponent"] (sp_ten_to)) : Ok P w K mg base (L2.CX P w) 4 "longer" ["beginning", "many"] (spb_longer x) :=
  Ok.ofX (k := 3) F sc_longer (spe2_len rfl) (fun _ _ _ _ _ _ us hl => match us, hl with | [_, _], _ => rfl) (fun E => rdb_longer x E K) (fun vs H Q E h => pureb_longer vs H Q E h) (fun f cdv A outer s H E hr =>
    (pss_cons (ps_expr (pe_ok hb_check_beginning (hr.mono (by decide)) (by rfl) (passes_call (takes_of rfl rfl rfl rfl) (fun _ _ _ _ h => h)) (pa_cons (pv 0) pa_nil)))
      (pss_cons (ps_expr (pe_ok hb_check_count (hr.mono (by decide)) (by rfl) (passes_call (takes_of rfl rfl rfl rfl) (fun _ _ _ _ h => h)) (pa_cons (pv 1) (pa_cons pe_int (pa_cons pe_int pa_nil)))))
      (pss_cons (ps_set (i := 2) sc_longer.nd rfl (.inl rfl) (pe_op op_sub (pv 1) (pe_ok h_size_of (hr.mono (by decide)) (by rfl) pass0 (pa_cons (pv 0) pa_nil))))
      (pss_cons (ps_if (pt_cmpR op_lt (pv 2) pe_int (nomark _))
        (pss_one (ps_ret (pe_lst pa_nil)))
        pss_nil)
      (pss_one (ps_ret (pe_listRg rfl (by rfl) bt.list (prg_2 (by rfl) bt.range (pe_op op_mulX (pv 0) (pe_ok h_ten_to (hr.mono (by decide)) (by rfl) pass0 (pa_cons (pv 2) pa_nil))) (pe_op op_mulX (pe_op op_add (pv 0) pe_int) (pe_ok h_ten_to (hr.mono (by decide)) (by rfl) pass0 (pa_cons (pv 2) pa_nil))))))))))))

theorem okb_stretch (bt : Blt K mg) {x : ExA} (T : ExT K mg x) (F : FunAt K mg "stretch" s_stretch) {t_MOST_DIGITS : Tok} (g_MOST_DIGITS : mg "MOST_DIGITS" = some (.int 60 t_MOST_DIGITS)) (hb_check_beginning : Ok P w K mg base (L2.CX P w) 3 "check_beginning" ["value"] (spb_check_beginning x)) (hb_check_count : Ok P w K mg base (L2.CX P w) 2 "check_count" ["value", "low", "high"] (spb_check_count x)) (h_size_of : Ok P w K mg base CX0 1 "size_of" ["number"] (sp_size_of)) (h_stretch_of : Ok P w K mg base CX0 2 "stretch_of" ["beginning", "count"] (sp_stretch_of)) : Ok P w K mg base (L2.CX P w) 4 "stretch" ["beginning", "count"] (spb_stretch x) :=
  Ok.ofX (k := 3) F sc_stretch (spe2_len rfl) (fun _ _ _ _ _ _ us hl => match us, hl with | [_, _], _ => rfl) (fun E => rdb_stretch x E K) (fun vs H Q E h => pureb_stretch vs H Q E h) (fun f cdv A outer s H E hr =>
    (pss_cons (ps_expr (pe_ok hb_check_beginning (hr.mono (by decide)) (by rfl) (passes_call (takes_of rfl rfl rfl rfl) (fun _ _ _ _ h => h)) (pa_cons (pv 0) pa_nil)))
      (pss_cons (ps_expr (pe_ok hb_check_count (hr.mono (by decide)) (by rfl) (passes_call (takes_of rfl rfl rfl rfl) (fun _ _ _ _ h => h)) (pa_cons (pv 1) (pa_cons pe_int (pa_cons (pe_glob rfl g_MOST_DIGITS ⟨_, rfl⟩) pa_nil)))))
      (pss_cons (ps_if (pt_cmpR op_lt (pv 1) (pe_ok h_size_of (hr.mono (by decide)) (by rfl) pass0 (pa_cons (pv 0) pa_nil)) (nomark _))
        (pss_one (ps_raise rfl (takes_of rfl rfl rfl rfl) (pmk_own PySem.F.excBase_ValueError T.nf.x T.gnf T.nf.k (raises_own T.nf.b T.nf.t) (by rfl))))
        pss_nil)
      (pss_one (ps_ret (pe_ok h_stretch_of (hr.mono (by decide)) (by rfl) pass0 (pa_cons (pv 0) (pa_cons (pv 1) pa_nil)))))))))

theorem okb_number_at (bt : Blt K mg) {x : ExA} (T : ExT K mg x) (F : FunAt K mg "number_at" s_number_at) (hb_check_beginning : Ok P w K mg base (L2.CX P w) 3 "check_beginning" ["value"] (spb_check_beginning x)) (hb_check_count : Ok P w K mg base (L2.CX P w) 2 "check_count" ["value", "low", "high"] (spb_check_count x)) (h_ten_to : Ok P w K mg base CX0 1 "ten_to" ["exponent"] (sp_ten_to)) : Ok P w K mg base (L2.CX P w) 4 "number_at" ["beginning", "rank"] (spb_number_at x) :=
  Ok.ofX (k := 3) F sc_number_at (spe2_len rfl) (fun _ _ _ _ _ _ us hl => match us, hl with | [_, _], _ => rfl) (fun E => rdb_number_at x E K) (fun vs H Q E h => pureb_number_at vs H Q E h) (fun f cdv A outer s H E hr =>
    (pss_cons (ps_expr (pe_ok hb_check_beginning (hr.mono (by decide)) (by rfl) (passes_call (takes_of rfl rfl rfl rfl) (fun _ _ _ _ h => h)) (pa_cons (pv 0) pa_nil)))
      (pss_cons (ps_expr (pe_ok hb_check_count (hr.mono (by decide)) (by rfl) (passes_call (takes_of rfl rfl rfl rfl) (fun _ _ _ _ h => h)) (pa_cons (pv 1) (pa_cons pe_int (pa_cons pe_int pa_nil)))))
      (pss_cons (ps_par (by rfl) sc_number_at.nd (i := 2) (j := 3) rfl rfl (by decide) rfl rfl (pa_cons (pv 1) (pa_cons pe_int pa_nil)) (by rfl))
      (pss_cons (ps_while (passes_of rfl) (pt_cmpR op_ge (pv 2) (pe_ok h_ten_to (hr.mono (by decide)) (by rfl) pass0 (pa_cons (pv 3) pa_nil)) (nomark _))
        (pss_cons (ps_aug (i := 2) sc_number_at.nd rfl (.inl rfl) (pe_ok h_ten_to (hr.mono (by decide)) (by rfl) pass0 (pa_cons (pv 3) pa_nil)) iop_sub)
      (pss_one (ps_aug (i := 3) sc_number_at.nd rfl (.inl rfl) pe_int iop_add))))
      (pss_one (ps_ret (pe_op op_add (pe_op op_mulX (pv 0) (pe_ok h_ten_to (hr.mono (by decide)) (by rfl) pass0 (pa_cons (pv 3) pa_nil))) (pv 2)))))))))

theorem okb_squares (bt : Blt K mg) {x : ExA} (T : ExT K mg x) (F : FunAt K mg "squares" s_squares) (h_all_meeting : Ok P w K mg base CX0 3 "all_meeting" ["low", "high", "many"] (sp_all_meeting)) (hb_check_beginning : Ok P w K mg base (L2.CX P w) 3 "check_beginning" ["value"] (spb_check_beginning x)) (hb_check_count : Ok P w K mg base (L2.CX P w) 2 "check_count" ["value", "low", "high"] (spb_check_count x)) : Ok P w K mg base (L2.CX P w) 4 "squares" ["beginning", "many"] (spb_squares x) :=
  Ok.ofX (k := 3) F sc_squares (spe2_len rfl) (fun _ _ _ _ _ _ us hl => match us, hl with | [_, _], _ => rfl) (fun E => rdb_squares x E K) (fun vs H Q E h => pureb_squares vs H Q E h) (fun f cdv A outer s H E hr =>
    (pss_cons (ps_expr (pe_ok hb_check_beginning (hr.mono (by decide)) (by rfl) (passes_call (takes_of rfl rfl rfl rfl) (fun _ _ _ _ h => h)) (pa_cons (pv 0) pa_nil)))
      (pss_cons (ps_expr (pe_ok hb_check_count (hr.mono (by decide)) (by rfl) (passes_call (takes_of rfl rfl rfl rfl) (fun _ _ _ _ h => h)) (pa_cons (pv 1) (pa_cons pe_int (pa_cons pe_int pa_nil)))))
      (pss_one (ps_ret (pe_ok h_all_meeting (hr.mono (by decide)) (by rfl) pass0 (pa_cons (pe_tup (pa_cons (pe_op op_mulX (pv 0) (pv 0)) (pa_cons pe_int pa_nil))) (pa_cons (pe_tup (pa_cons (pe_op op_mulX (pe_op op_add (pv 0) pe_int) (pe_op op_add (pv 0) pe_int)) (pa_cons pe_int pa_nil))) (pa_cons (pv 1) pa_nil)))))))))

theorem okb_roots (bt : Blt K mg) {x : ExA} (T : ExT K mg x) (F : FunAt K mg "roots" s_roots) (hb_check_beginning : Ok P w K mg base (L2.CX P w) 3 "check_beginning" ["value"] (spb_check_beginning x)) (hb_check_count : Ok P w K mg base (L2.CX P w) 2 "check_count" ["value", "low", "high"] (spb_check_count x)) (h_crosses : Ok P w K mg base CX0 1 "crosses" ["low", "high", "first", "last", "scale"] (sp_crosses)) (h_scales : Ok P w K mg base CX0 2 "scales" [] (sp_scales)) (h_ten_to : Ok P w K mg base CX0 1 "ten_to" ["exponent"] (sp_ten_to)) : Ok P w K mg base (L2.CX P w) 4 "roots" ["beginning", "many"] (spb_roots x) :=
  Ok.ofX (k := 3) F sc_roots (spe2_len rfl) (fun _ _ _ _ _ _ us hl => match us, hl with | [_, _], _ => rfl) (fun E => rdb_roots x E K) (fun vs H Q E h => pureb_roots vs H Q E h) (fun f cdv A outer s H E hr =>
    (pss_cons (ps_expr (pe_ok hb_check_beginning (hr.mono (by decide)) (by rfl) (passes_call (takes_of rfl rfl rfl rfl) (fun _ _ _ _ h => h)) (pa_cons (pv 0) pa_nil)))
      (pss_cons (ps_expr (pe_ok hb_check_count (hr.mono (by decide)) (by rfl) (passes_call (takes_of rfl rfl rfl rfl) (fun _ _ _ _ h => h)) (pa_cons (pv 1) (pa_cons pe_int (pa_cons pe_int pa_nil)))))
      (pss_cons (ps_par (by rfl) sc_roots.nd (i := 2) (j := 3) rfl rfl (by decide) rfl rfl (pa_cons (pe_lst pa_nil) (pa_cons (pe_ok0 h_scales (hr.mono (by decide)) (by rfl) pass0) pa_nil)) (by rfl))
      (pss_cons (ps_for (passes_of rfl) rfl (pi_range2 (by rfl) bt.range (pa_cons (pe_ok h_ten_to (hr.mono (by decide)) (by rfl) pass0 (pa_cons (pe_op op_sub (pv 1) pe_int) pa_nil)) (pa_cons (pe_ok h_ten_to (hr.mono (by decide)) (by rfl) pass0 (pa_cons (pv 1) pa_nil)) pa_nil))) (pg_name (i := 4) sc_roots.nd rfl (.inl rfl))
        (pss_cons (ps_asg (pe_tup (pa_cons (pe_tup (pa_cons (pe_op op_mulX (pv 4) (pv 4)) (pa_cons pe_int pa_nil))) (pa_cons (pe_tup (pa_cons (pe_op op_mulX (pe_op op_add (pv 4) pe_int) (pe_op op_add (pv 4) pe_int)) (pa_cons pe_int pa_nil))) pa_nil))) (pg_tup rfl (pgs_cons (pg_name (i := 5) sc_roots.nd rfl (.inr rfl)) (pgs_cons (pg_name (i := 6) sc_roots.nd rfl (.inr rfl)) pgs_nil))))
      (pss_one (ps_if (pt_val (pe_callB (cr_any rfl) (by rfl) bt.any (by decide +kernel) (pa_cons (pe_lc (own := [("scale", 7)]) (g := (gName 7)) (tt := tYes) rfl sc_roots.nd (pi_list (pv 3)) (blkOk_by (N := N_roots) (sc := defScope s_roots) (by decide +kernel)) (fun _ _ _ _ _ => (pg_name (i := 7) sc_roots.nd rfl (.inl rfl))) (fun _ _ _ _ _ => pts_nil) (fun _ _ _ _ _ => (pe_ok h_crosses (hr.mono (by decide)) (by rfl) pass0 (pa_cons (pv 5) (pa_cons (pv 6) (pa_cons (pv 0) (pa_cons (pe_op op_add (pv 0) pe_int) (pa_cons (pv 7) pa_nil)))))))) pa_nil)))
        (pss_one (ps_expr (pe_bm PySem.F.plainAttrs_list PySem.F.slot_list_append PySem.F.type_list_append mt_append (pv 2) (pa_cons (pv 4) pa_nil))))
        pss_nil))))
      (pss_one (ps_ret (pv 2))))))))

theorem okb_roots_with (bt : Blt K mg) {x : ExA} (T : ExT K mg x) (F : FunAt K mg "roots_with" s_roots_with) (hb_check_beginning : Ok P w K mg base (L2.CX P w) 3 "check_beginning" ["value"] (spb_check_beginning x)) (hb_check_count : Ok P w K mg base (L2.CX P w) 2 "check_count" ["value", "low", "high"] (spb_check_count x)) (h_root_from : Ok P w K mg base CX0 1 "root_from" ["number"] (sp_root_from)) (h_stretch_of : Ok P w K mg base CX0 2 "stretch_of" ["beginning", "count"] (sp_stretch_of)) : Ok P w K mg base (L2.CX P w) 4 "roots_with" ["beginning", "count"] (spb_roots_with x) :=
  Ok.ofX (k := 3) F sc_roots_with (spe2_len rfl) (fun _ _ _ _ _ _ us hl => match us, hl with | [_, _], _ => rfl) (fun E => rdb_roots_with x E K) (fun vs H Q E h => pureb_roots_with vs H Q E h) (fun f cdv A outer s H E hr =>
    (pss_cons (ps_expr (pe_ok hb_check_beginning (hr.mono (by decide)) (by rfl) (passes_call (takes_of rfl rfl rfl rfl) (fun _ _ _ _ h => h)) (pa_cons (pv 0) pa_nil)))
      (pss_cons (ps_expr (pe_ok hb_check_count (hr.mono (by decide)) (by rfl) (passes_call (takes_of rfl rfl rfl rfl) (fun _ _ _ _ h => h)) (pa_cons (pv 1) (pa_cons pe_int (pa_cons pe_int pa_nil)))))
      (pss_cons (ps_if (pt_cmpR op_lt (pv 1) (pe_callB call_len_str (by rfl) bt.len (by decide +kernel) (pa_cons (pe_callTy (call_strB rfl bt.dig) (by rfl) bt.str (by decide +kernel) (pa_cons (pv 0) pa_nil)) pa_nil)) (nomark _))
        (pss_one (ps_raise rfl (takes_of rfl rfl rfl rfl) (pmk_own PySem.F.excBase_ValueError T.nf.x T.gnf T.nf.k (raises_own T.nf.b T.nf.t) (by rfl))))
        pss_nil)
      (pss_cons (ps_asg (pe_ok h_stretch_of (hr.mono (by decide)) (by rfl) pass0 (pa_cons (pv 0) (pa_cons (pv 1) pa_nil))) (pg_tup rfl (pgs_cons (pg_name (i := 2) sc_roots_with.nd rfl (.inl rfl)) (pgs_cons (pg_name (i := 3) sc_roots_with.nd rfl (.inl rfl)) pgs_nil))))
      (pss_cons (ps_par (by rfl) sc_roots_with.nd (i := 4) (j := 5) rfl rfl (by decide) rfl rfl (pa_cons (pe_ok h_root_from (hr.mono (by decide)) (by rfl) pass0 (pa_cons (pv 2) pa_nil)) (pa_cons (pe_op op_sub (pe_ok h_root_from (hr.mono (by decide)) (by rfl) pass0 (pa_cons (pe_op op_add (pv 3) pe_int) pa_nil)) pe_int) pa_nil)) (by rfl))
      (pss_cons (ps_if (pt_cmpR op_gt (pv 4) (pv 5) (nomark _))
        (pss_one (ps_raise rfl (takes_of rfl rfl rfl rfl) (pmk_own PySem.F.excBase_ValueError T.nf.x T.gnf T.nf.k (raises_own T.nf.b T.nf.t) (by rfl))))
        pss_nil)
      (pss_one (ps_ret (pe_tup (pa_cons (pv 4) (pa_cons (pv 5) pa_nil))))))))))))

theorem okb_check_all (bt : Blt K mg) {x : ExA} (T : ExT K mg x) (F : FunAt K mg "check_all" s_check_all) {t_MOST_POWER : Tok} (g_MOST_POWER : mg "MOST_POWER" = some (.int 300 t_MOST_POWER)) (hb_check_base : Ok P w K mg base (L2.CX P w) 2 "check_base" ["value"] (spb_check_base x)) (hb_check_beginning : Ok P w K mg base (L2.CX P w) 3 "check_beginning" ["value"] (spb_check_beginning x)) (hb_check_count : Ok P w K mg base (L2.CX P w) 2 "check_count" ["value", "low", "high"] (spb_check_count x)) : Ok P w K mg base (L2.CX P w) 4 "check_all" ["base", "beginning", "most"] (spb_check_all x) :=
  Ok.ofX (k := 3) F sc_check_all (spe3_len rfl) (fun _ _ _ _ _ _ us hl => match us, hl with | [_, _, _], _ => rfl) (fun E => rdb_check_all x E K) (fun vs H Q E h => pureb_check_all vs H Q E h) (fun f cdv A outer s H E hr =>
    (pss_cons (ps_expr (pe_ok hb_check_base (hr.mono (by decide)) (by rfl) (passes_call (takes_of rfl rfl rfl rfl) (fun _ _ _ _ h => h)) (pa_cons (pv 0) pa_nil)))
      (pss_cons (ps_expr (pe_ok hb_check_beginning (hr.mono (by decide)) (by rfl) (passes_call (takes_of rfl rfl rfl rfl) (fun _ _ _ _ h => h)) (pa_cons (pv 1) pa_nil)))
      (pss_one (ps_expr (pe_ok hb_check_count (hr.mono (by decide)) (by rfl) (passes_call (takes_of rfl rfl rfl rfl) (fun _ _ _ _ h => h)) (pa_cons (pv 2) (pa_cons pe_int (pa_cons (pe_glob rfl g_MOST_POWER ⟨_, rfl⟩) pa_nil)))))))))

theorem okb_first_multiple (bt : Blt K mg) {x : ExA} (T : ExT K mg x) (F : FunAt K mg "first_multiple" s_first_multiple) (hb_check_beginning : Ok P w K mg base (L2.CX P w) 3 "check_beginning" ["value"] (spb_check_beginning x)) (hb_check_step : Ok P w K mg base (L2.CX P w) 2 "check_step" ["value"] (spb_check_step x)) (h_first_of_stretch : Ok P w K mg base CX0 1 "first_of_stretch" ["number", "first", "last"] (sp_first_of_stretch)) (h_size_of : Ok P w K mg base CX0 1 "size_of" ["number"] (sp_size_of)) (h_stretch_of : Ok P w K mg base CX0 2 "stretch_of" ["beginning", "count"] (sp_stretch_of)) : Ok P w K mg base (L2.CX P w) 4 "first_multiple" ["number", "beginning"] (spb_first_multiple x) :=
  Ok.ofX (k := 3) F sc_first_multiple (spe2_len rfl) (fun _ _ _ _ _ _ us hl => match us, hl with | [_, _], _ => rfl) (fun E => rdb_first_multiple x E K) (fun vs H Q E h => pureb_first_multiple vs H Q E h) (fun f cdv A outer s H E hr =>
    (pss_cons (ps_expr (pe_ok hb_check_step (hr.mono (by decide)) (by rfl) (passes_call (takes_of rfl rfl rfl rfl) (fun _ _ _ _ h => h)) (pa_cons (pv 0) pa_nil)))
      (pss_cons (ps_expr (pe_ok hb_check_beginning (hr.mono (by decide)) (by rfl) (passes_call (takes_of rfl rfl rfl rfl) (fun _ _ _ _ h => h)) (pa_cons (pv 1) pa_nil)))
      (pss_cons (ps_set (i := 2) sc_first_multiple.nd rfl (.inl rfl) (pe_ok h_size_of (hr.mono (by decide)) (by rfl) pass0 (pa_cons (pv 1) pa_nil)))
      (pss_cons (ps_asg (pe_ok h_stretch_of (hr.mono (by decide)) (by rfl) pass0 (pa_cons (pv 1) (pa_cons (pv 2) pa_nil))) (pg_tup rfl (pgs_cons (pg_name (i := 3) sc_first_multiple.nd rfl (.inl rfl)) (pgs_cons (pg_name (i := 4) sc_first_multiple.nd rfl (.inl rfl)) pgs_nil))))
      (pss_cons (ps_while (passes_of rfl) (pt_cmpR op_isN1 (pe_ok h_first_of_stretch (hr.mono (by decide)) (by rfl) pass0 (pa_cons (pv 0) (pa_cons (pv 3) (pa_cons (pv 4) pa_nil)))) pe_non (nomark _))
        (pss_cons (ps_aug (i := 2) sc_first_multiple.nd rfl (.inl rfl) pe_int iop_add)
      (pss_one (ps_asg (pe_ok h_stretch_of (hr.mono (by decide)) (by rfl) pass0 (pa_cons (pv 1) (pa_cons (pv 2) pa_nil))) (pg_tup rfl (pgs_cons (pg_name (i := 3) sc_first_multiple.nd rfl (.inl rfl)) (pgs_cons (pg_name (i := 4) sc_first_multiple.nd rfl (.inl rfl)) pgs_nil)))))))
      (pss_one (ps_ret (pe_ok h_first_of_stretch (hr.mono (by decide)) (by rfl) pass0 (pa_cons (pv 0) (pa_cons (pv 3) (pa_cons (pv 4) pa_nil))))))))))))

theorem okb_multiple_places (bt : Blt K mg) {x : ExA} (T : ExT K mg x) (F : FunAt K mg "multiple_places" s_multiple_places) (h_begins_of : Ok P w K mg base CX0 2 "begins_of" ["number", "beginning"] (sp_begins_of)) (hb_check_beginning : Ok P w K mg base (L2.CX P w) 3 "check_beginning" ["value"] (spb_check_beginning x)) (hb_check_count : Ok P w K mg base (L2.CX P w) 2 "check_count" ["value", "low", "high"] (spb_check_count x)) (hb_check_step : Ok P w K mg base (L2.CX P w) 2 "check_step" ["value"] (spb_check_step x)) : Ok P w K mg base (L2.CX P w) 4 "multiple_places" ["number", "beginning", "most"] (spb_multiple_places x) :=
  Ok.ofX (k := 3) F sc_multiple_places (spe3_len rfl) (fun _ _ _ _ _ _ us hl => match us, hl with | [_, _, _], _ => rfl) (fun E => rdb_multiple_places x E K) (fun vs H Q E h => pureb_multiple_places vs H Q E h) (fun f cdv A outer s H E hr =>
    (pss_cons (ps_expr (pe_ok hb_check_step (hr.mono (by decide)) (by rfl) (passes_call (takes_of rfl rfl rfl rfl) (fun _ _ _ _ h => h)) (pa_cons (pv 0) pa_nil)))
      (pss_cons (ps_expr (pe_ok hb_check_beginning (hr.mono (by decide)) (by rfl) (passes_call (takes_of rfl rfl rfl rfl) (fun _ _ _ _ h => h)) (pa_cons (pv 1) pa_nil)))
      (pss_cons (ps_expr (pe_ok hb_check_count (hr.mono (by decide)) (by rfl) (passes_call (takes_of rfl rfl rfl rfl) (fun _ _ _ _ h => h)) (pa_cons (pv 2) (pa_cons pe_int (pa_cons pe_int pa_nil)))))
      (pss_one (ps_ret (pe_lc (own := [("factor", 3)]) (g := (gName 3)) (tt := (tB (tCall (sp_begins_of) [] E0 (tCons (tOp rMulX (tVar 0) (tVar 3)) (tCons (tVar 1) tNil))))) rfl sc_multiple_places.nd (pi_range2 (by rfl) bt.range (pa_cons pe_int (pa_cons (pe_op op_add (pv 2) pe_int) pa_nil))) (blkOk_by (N := N_multiple_places) (sc := defScope s_multiple_places) (by decide +kernel)) (fun _ _ _ _ _ => (pg_name (i := 3) sc_multiple_places.nd rfl (.inl rfl))) (fun _ _ _ _ _ => (pts_one (pt_val (pe_ok h_begins_of (hr.mono (by decide)) (by rfl) pass0 (pa_cons (pe_op op_mulX (pv 0) (pv 3)) (pa_cons (pv 1) pa_nil)))))) (fun _ _ _ _ _ => (pv 3)))))))))

theorem okb_count_multiples (bt : Blt K mg) {x : ExA} (T : ExT K mg x) (F : FunAt K mg "count_multiples" s_count_multiples) (hb_check_beginning : Ok P w K mg base (L2.CX P w) 3 "check_beginning" ["value"] (spb_check_beginning x)) (hb_check_count : Ok P w K mg base (L2.CX P w) 2 "check_count" ["value", "low", "high"] (spb_check_count x)) (hb_check_step : Ok P w K mg base (L2.CX P w) 2 "check_step" ["value"] (spb_check_step x)) (h_size_of : Ok P w K mg base CX0 1 "size_of" ["number"] (sp_size_of)) (h_stretch_of : Ok P w K mg base CX0 2 "stretch_of" ["beginning", "count"] (sp_stretch_of)) : Ok P w K mg base (L2.CX P w) 4 "count_multiples" ["number", "beginning", "count"] (spb_count_multiples x) :=
  Ok.ofX (k := 3) F sc_count_multiples (spe3_len rfl) (fun _ _ _ _ _ _ us hl => match us, hl with | [_, _, _], _ => rfl) (fun E => rdb_count_multiples x E K) (fun vs H Q E h => pureb_count_multiples vs H Q E h) (fun f cdv A outer s H E hr =>
    (pss_cons (ps_expr (pe_ok hb_check_step (hr.mono (by decide)) (by rfl) (passes_call (takes_of rfl rfl rfl rfl) (fun _ _ _ _ h => h)) (pa_cons (pv 0) pa_nil)))
      (pss_cons (ps_expr (pe_ok hb_check_beginning (hr.mono (by decide)) (by rfl) (passes_call (takes_of rfl rfl rfl rfl) (fun _ _ _ _ h => h)) (pa_cons (pv 1) pa_nil)))
      (pss_cons (ps_expr (pe_ok hb_check_count (hr.mono (by decide)) (by rfl) (passes_call (takes_of rfl rfl rfl rfl) (fun _ _ _ _ h => h)) (pa_cons (pv 2) (pa_cons pe_int (pa_cons pe_int pa_nil)))))
      (pss_cons (ps_if (pt_cmpR op_lt (pv 2) (pe_ok h_size_of (hr.mono (by decide)) (by rfl) pass0 (pa_cons (pv 1) pa_nil)) (nomark _))
        (pss_one (ps_ret pe_int))
        pss_nil)
      (pss_cons (ps_asg (pe_ok h_stretch_of (hr.mono (by decide)) (by rfl) pass0 (pa_cons (pv 1) (pa_cons (pv 2) pa_nil))) (pg_tup rfl (pgs_cons (pg_name (i := 3) sc_count_multiples.nd rfl (.inl rfl)) (pgs_cons (pg_name (i := 4) sc_count_multiples.nd rfl (.inl rfl)) pgs_nil))))
      (pss_one (ps_ret (pe_op op_sub (pe_op op_fdivW (pv 4) (pv 0)) (pe_op op_fdivW (pe_op op_sub (pv 3) pe_int) (pv 0)))))))))))

theorem okb_products (bt : Blt K mg) {x : ExA} (T : ExT K mg x) (F : FunAt K mg "products" s_products) (h_all_meeting : Ok P w K mg base CX0 3 "all_meeting" ["low", "high", "many"] (sp_all_meeting)) (hb_check_beginning : Ok P w K mg base (L2.CX P w) 3 "check_beginning" ["value"] (spb_check_beginning x)) (hb_check_count : Ok P w K mg base (L2.CX P w) 2 "check_count" ["value", "low", "high"] (spb_check_count x)) (h_product_bounds : Ok P w K mg base CX0 1 "product_bounds" ["one", "other"] (sp_product_bounds)) : Ok P w K mg base (L2.CX P w) 4 "products" ["one", "other", "many"] (spb_products x) :=
  Ok.ofX (k := 3) F sc_products (spe3_len rfl) (fun _ _ _ _ _ _ us hl => match us, hl with | [_, _, _], _ => rfl) (fun E => rdb_products x E K) (fun vs H Q E h => pureb_products vs H Q E h) (fun f cdv A outer s H E hr =>
    (pss_cons (ps_expr (pe_ok hb_check_beginning (hr.mono (by decide)) (by rfl) (passes_call (takes_of rfl rfl rfl rfl) (fun _ _ _ _ h => h)) (pa_cons (pv 0) pa_nil)))
      (pss_cons (ps_expr (pe_ok hb_check_beginning (hr.mono (by decide)) (by rfl) (passes_call (takes_of rfl rfl rfl rfl) (fun _ _ _ _ h => h)) (pa_cons (pv 1) pa_nil)))
      (pss_cons (ps_expr (pe_ok hb_check_count (hr.mono (by decide)) (by rfl) (passes_call (takes_of rfl rfl rfl rfl) (fun _ _ _ _ h => h)) (pa_cons (pv 2) (pa_cons pe_int (pa_cons pe_int pa_nil)))))
      (pss_cons (ps_asg (pe_ok h_product_bounds (hr.mono (by decide)) (by rfl) pass0 (pa_cons (pv 0) (pa_cons (pv 1) pa_nil))) (pg_tup rfl (pgs_cons (pg_name (i := 3) sc_products.nd rfl (.inl rfl)) (pgs_cons (pg_name (i := 4) sc_products.nd rfl (.inl rfl)) pgs_nil))))
      (pss_one (ps_ret (pe_ok h_all_meeting (hr.mono (by decide)) (by rfl) pass0 (pa_cons (pv 3) (pa_cons (pv 4) (pa_cons (pv 2) pa_nil)))))))))))

theorem okb_product_example (bt : Blt K mg) {x : ExA} (T : ExT K mg x) (F : FunAt K mg "product_example" s_product_example) (hb_check_beginning : Ok P w K mg base (L2.CX P w) 3 "check_beginning" ["value"] (spb_check_beginning x)) (h_least_behind : Ok P w K mg base CX0 3 "least_behind" ["one", "other", "beginning", "more"] (sp_least_behind)) (h_meets : Ok P w K mg base CX0 3 "meets" ["low", "high", "one"] (sp_meets)) (h_product_bounds : Ok P w K mg base CX0 1 "product_bounds" ["one", "other"] (sp_product_bounds)) (h_ten_to : Ok P w K mg base CX0 1 "ten_to" ["exponent"] (sp_ten_to)) : Ok P w K mg base (L2.CX P w) 4 "product_example" ["one", "other", "beginning"] (spb_product_example x) :=
  Ok.ofX (k := 3) F sc_product_example (spe3_len rfl) (fun _ _ _ _ _ _ us hl => match us, hl with | [_, _, _], _ => rfl) (fun E => rdb_product_example x E K) (fun vs H Q E h => pureb_product_example vs H Q E h) (fun f cdv A outer s H E hr =>
    (pss_cons (ps_expr (pe_ok hb_check_beginning (hr.mono (by decide)) (by rfl) (passes_call (takes_of rfl rfl rfl rfl) (fun _ _ _ _ h => h)) (pa_cons (pv 0) pa_nil)))
      (pss_cons (ps_expr (pe_ok hb_check_beginning (hr.mono (by decide)) (by rfl) (passes_call (takes_of rfl rfl rfl rfl) (fun _ _ _ _ h => h)) (pa_cons (pv 1) pa_nil)))
      (pss_cons (ps_expr (pe_ok hb_check_beginning (hr.mono (by decide)) (by rfl) (passes_call (takes_of rfl rfl rfl rfl) (fun _ _ _ _ h => h)) (pa_cons (pv 2) pa_nil)))
      (pss_cons (ps_asg (pe_ok h_product_bounds (hr.mono (by decide)) (by rfl) pass0 (pa_cons (pv 0) (pa_cons (pv 1) pa_nil))) (pg_tup rfl (pgs_cons (pg_name (i := 3) sc_product_example.nd rfl (.inl rfl)) (pgs_cons (pg_name (i := 4) sc_product_example.nd rfl (.inl rfl)) pgs_nil))))
      (pss_cons (ps_if (pt_not (pt_val (pe_ok h_meets (hr.mono (by decide)) (by rfl) pass0 (pa_cons (pv 3) (pa_cons (pv 4) (pa_cons (pv 2) pa_nil))))))
        (pss_one (ps_raise rfl (takes_of rfl rfl rfl rfl) (pmk_own PySem.F.excBase_ValueError T.nf.x T.gnf T.nf.k (raises_own T.nf.b T.nf.t) (by rfl))))
        pss_nil)
      (pss_cons (ps_set (i := 5) sc_product_example.nd rfl (.inl rfl) pe_int)
      (pss_cons (ps_set (i := 6) sc_product_example.nd rfl (.inl rfl) (pe_ok h_least_behind (hr.mono (by decide)) (by rfl) pass0 (pa_cons (pv 0) (pa_cons (pv 1) (pa_cons (pv 2) (pa_cons (pv 5) pa_nil))))))
      (pss_cons (ps_while (passes_of rfl) (pt_cmpR op_isN1 (pv 6) pe_non (nomark _))
        (pss_cons (ps_aug (i := 5) sc_product_example.nd rfl (.inl rfl) pe_int iop_add)
      (pss_one (ps_set (i := 6) sc_product_example.nd rfl (.inl rfl) (pe_ok h_least_behind (hr.mono (by decide)) (by rfl) pass0 (pa_cons (pv 0) (pa_cons (pv 1) (pa_cons (pv 2) (pa_cons (pv 5) pa_nil)))))))))
      (pss_one (ps_ret (pe_tup (pa_cons (pe_op op_add (pe_op op_mulX (pv 0) (pe_ok h_ten_to (hr.mono (by decide)) (by rfl) pass0 (pa_cons (pv 5) pa_nil))) (pv 6)) (pa_cons (pe_op op_add (pe_op op_mulX (pv 1) (pe_ok h_ten_to (hr.mono (by decide)) (by rfl) pass0 (pa_cons (pv 5) pa_nil))) (pv 6)) pa_nil))))))))))))))

theorem okb_sums (bt : Blt K mg) {x : ExA} (T : ExT K mg x) (F : FunAt K mg "sums" s_sums) (h_all_meeting : Ok P w K mg base CX0 3 "all_meeting" ["low", "high", "many"] (sp_all_meeting)) (hb_check_beginning : Ok P w K mg base (L2.CX P w) 3 "check_beginning" ["value"] (spb_check_beginning x)) (hb_check_count : Ok P w K mg base (L2.CX P w) 2 "check_count" ["value", "low", "high"] (spb_check_count x)) (h_size_of : Ok P w K mg base CX0 1 "size_of" ["number"] (sp_size_of)) (h_ten_to : Ok P w K mg base CX0 1 "ten_to" ["exponent"] (sp_ten_to)) : Ok P w K mg base (L2.CX P w) 4 "sums" ["one", "other", "many"] (spb_sums x) :=
  Ok.ofX (k := 3) F sc_sums (spe3_len rfl) (fun _ _ _ _ _ _ us hl => match us, hl with | [_, _, _], _ => rfl) (fun E => rdb_sums x E K) (fun vs H Q E h => pureb_sums vs H Q E h) (fun f cdv A outer s H E hr =>
    (pss_cons (ps_expr (pe_ok hb_check_beginning (hr.mono (by decide)) (by rfl) (passes_call (takes_of rfl rfl rfl rfl) (fun _ _ _ _ h => h)) (pa_cons (pv 0) pa_nil)))
      (pss_cons (ps_expr (pe_ok hb_check_beginning (hr.mono (by decide)) (by rfl) (passes_call (takes_of rfl rfl rfl rfl) (fun _ _ _ _ h => h)) (pa_cons (pv 1) pa_nil)))
      (pss_cons (ps_expr (pe_ok hb_check_count (hr.mono (by decide)) (by rfl) (passes_call (takes_of rfl rfl rfl rfl) (fun _ _ _ _ h => h)) (pa_cons (pv 2) (pa_cons pe_int (pa_cons pe_int pa_nil)))))
      (pss_cons (ps_par (by rfl) sc_sums.nd (i := 3) (j := 4) rfl rfl (by decide) rfl rfl (pa_cons (pe_op op_mulX (pv 0) (pe_ok h_ten_to (hr.mono (by decide)) (by rfl) pass0 (pa_cons (pe_op op_sub pe_int (pe_ok h_size_of (hr.mono (by decide)) (by rfl) pass0 (pa_cons (pv 0) pa_nil))) pa_nil))) (pa_cons (pe_op op_mulX (pv 1) (pe_ok h_ten_to (hr.mono (by decide)) (by rfl) pass0 (pa_cons (pe_op op_sub pe_int (pe_ok h_size_of (hr.mono (by decide)) (by rfl) pass0 (pa_cons (pv 1) pa_nil))) pa_nil))) pa_nil)) (by rfl))
      (pss_cons (ps_par (by rfl) sc_sums.nd (i := 5) (j := 6) rfl rfl (by decide) rfl rfl (pa_cons (pe_ok h_ten_to (hr.mono (by decide)) (by rfl) pass0 (pa_cons (pe_op op_sub pe_int (pe_ok h_size_of (hr.mono (by decide)) (by rfl) pass0 (pa_cons (pv 0) pa_nil))) pa_nil)) (pa_cons (pe_ok h_ten_to (hr.mono (by decide)) (by rfl) pass0 (pa_cons (pe_op op_sub pe_int (pe_ok h_size_of (hr.mono (by decide)) (by rfl) pass0 (pa_cons (pv 1) pa_nil))) pa_nil)) pa_nil)) (by rfl))
      (pss_one (ps_ret (pe_ok h_all_meeting (hr.mono (by decide)) (by rfl) pass0 (pa_cons (pe_tup (pa_cons (pe_op op_add (pv 3) (pv 4)) (pa_cons pe_int pa_nil))) (pa_cons (pe_tup (pa_cons (pe_op op_add (pe_op op_add (pe_op op_add (pv 3) (pv 5)) (pv 4)) (pv 6)) (pa_cons pe_int pa_nil))) (pa_cons (pv 2) pa_nil))))))))))))

theorem okb_quotients (bt : Blt K mg) {x : ExA} (T : ExT K mg x) (F : FunAt K mg "quotients" s_quotients) (h_all_meeting : Ok P w K mg base CX0 3 "all_meeting" ["low", "high", "many"] (sp_all_meeting)) (hb_check_beginning : Ok P w K mg base (L2.CX P w) 3 "check_beginning" ["value"] (spb_check_beginning x)) (hb_check_count : Ok P w K mg base (L2.CX P w) 2 "check_count" ["value", "low", "high"] (spb_check_count x)) : Ok P w K mg base (L2.CX P w) 4 "quotients" ["one", "other", "many"] (spb_quotients x) :=
  Ok.ofX (k := 3) F sc_quotients (spe3_len rfl) (fun _ _ _ _ _ _ us hl => match us, hl with | [_, _, _], _ => rfl) (fun E => rdb_quotients x E K) (fun vs H Q E h => pureb_quotients vs H Q E h) (fun f cdv A outer s H E hr =>
    (pss_cons (ps_expr (pe_ok hb_check_beginning (hr.mono (by decide)) (by rfl) (passes_call (takes_of rfl rfl rfl rfl) (fun _ _ _ _ h => h)) (pa_cons (pv 0) pa_nil)))
      (pss_cons (ps_expr (pe_ok hb_check_beginning (hr.mono (by decide)) (by rfl) (passes_call (takes_of rfl rfl rfl rfl) (fun _ _ _ _ h => h)) (pa_cons (pv 1) pa_nil)))
      (pss_cons (ps_expr (pe_ok hb_check_count (hr.mono (by decide)) (by rfl) (passes_call (takes_of rfl rfl rfl rfl) (fun _ _ _ _ h => h)) (pa_cons (pv 2) (pa_cons pe_int (pa_cons pe_int pa_nil)))))
      (pss_one (ps_ret (pe_ok h_all_meeting (hr.mono (by decide)) (by rfl) pass0 (pa_cons (pe_tup (pa_cons (pv 0) (pa_cons (pe_op op_add (pv 1) pe_int) pa_nil))) (pa_cons (pe_tup (pa_cons (pe_op op_add (pv 0) pe_int) (pa_cons (pv 1) pa_nil))) (pa_cons (pv 2) pa_nil))))))))))

theorem okb_format_beginnings (bt : Blt K mg) {x : ExA} (T : ExT K mg x) (F : FunAt K mg "format_beginnings" s_format_beginnings) (hb_is_row : Ok P w K mg base (L2.CX P w) 3 "is_row" ["value"] (spb_is_row x)) (h_text_of : Ok P w K mg base CX0 2 "text_of" ["value"] (sp_text_of)) : Ok P w K mg base (L2.CX P w) 4 "format_beginnings" ["value"] (spb_format_beginnings x) :=
  Ok.ofX (k := 3) F sc_format_beginnings (spe1_len rfl) (fun _ _ _ _ _ _ us hl => match us, hl with | [_], _ => rfl) (fun E => rdb_format_beginnings x E K) (fun vs H Q E h => pureb_format_beginnings vs H Q E h) (fun f cdv A outer s H E hr =>
    (pss_cons (ps_if (pt_not (pt_val (pe_ok hb_is_row (hr.mono (by decide)) (by rfl) passX0 (pa_cons (pv 0) pa_nil))))
        (pss_one (ps_raise rfl (takes_of rfl rfl rfl rfl) (pmk_own PySem.F.excBase_ValueError T.bb.x T.gbb T.bb.k (raises_own T.bb.b T.bb.t) (by rfl))))
        pss_nil)
      (pss_one (ps_ret (pe_ok h_text_of (hr.mono (by decide)) (by rfl) pass0 (pa_cons (pv 0) pa_nil))))))

theorem okb_power_places (bt : Blt K mg) {x : ExA} (T : ExT K mg x) (F : FunAt K mg "power_places" s_power_places) (hb_check_all : Ok P w K mg base (L2.CX P w) 4 "check_all" ["base", "beginning", "most"] (spb_check_all x)) (h_places_of : Ok P w K mg base CX0 3 "places_of" ["base", "beginning", "most"] (sp_places_of)) : Ok P w K mg base (L2.CX P w) 5 "power_places" ["base", "beginning", "most"] (spb_power_places x) :=
  Ok.ofX (k := 4) F sc_power_places (spe3_len rfl) (fun _ _ _ _ _ _ us hl => match us, hl with | [_, _, _], _ => rfl) (fun E => rdb_power_places x E K) (fun vs H Q E h => pureb_power_places vs H Q E h) (fun f cdv A outer s H E hr =>
    (pss_cons (ps_expr (pe_ok hb_check_all (hr.mono (by decide)) (by rfl) (passes_call (takes_of rfl rfl rfl rfl) (fun _ _ _ _ h => h)) (pa_cons (pv 0) (pa_cons (pv 1) (pa_cons (pv 2) pa_nil)))))
      (pss_one (ps_ret (pe_ok h_places_of (hr.mono (by decide)) (by rfl) pass0 (pa_cons (pv 0) (pa_cons (pv 1) (pa_cons (pv 2) pa_nil))))))))

theorem okb_first_power (bt : Blt K mg) {x : ExA} (T : ExT K mg x) (F : FunAt K mg "first_power" s_first_power) (hb_check_all : Ok P w K mg base (L2.CX P w) 4 "check_all" ["base", "beginning", "most"] (spb_check_all x)) (h_places_of : Ok P w K mg base CX0 3 "places_of" ["base", "beginning", "most"] (sp_places_of)) : Ok P w K mg base (L2.CX P w) 5 "first_power" ["base", "beginning", "most"] (spb_first_power x) :=
  Ok.ofX (k := 4) F sc_first_power (spe3_len rfl) (fun _ _ _ _ _ _ us hl => match us, hl with | [_, _, _], _ => rfl) (fun E => rdb_first_power x E K) (fun vs H Q E h => pureb_first_power vs H Q E h) (fun f cdv A outer s H E hr =>
    (pss_cons (ps_expr (pe_ok hb_check_all (hr.mono (by decide)) (by rfl) (passes_call (takes_of rfl rfl rfl rfl) (fun _ _ _ _ h => h)) (pa_cons (pv 0) (pa_cons (pv 1) (pa_cons (pv 2) pa_nil)))))
      (pss_cons (ps_set (i := 3) sc_first_power.nd rfl (.inl rfl) (pe_ok h_places_of (hr.mono (by decide)) (by rfl) pass0 (pa_cons (pv 0) (pa_cons (pv 1) (pa_cons (pv 2) pa_nil)))))
      (pss_one (ps_ret (pe_ifExp (pt_cmpR (op_neD hr.units) (pv 3) (pe_lst pa_nil) (nomark _)) (pe_ix ix_list (pv 3) pe_int (fun _ _ => rfl)) pe_non))))))

theorem okb_waits (bt : Blt K mg) {x : ExA} (T : ExT K mg x) (F : FunAt K mg "waits" s_waits) (hb_check_all : Ok P w K mg base (L2.CX P w) 4 "check_all" ["base", "beginning", "most"] (spb_check_all x)) (h_places_of : Ok P w K mg base CX0 3 "places_of" ["base", "beginning", "most"] (sp_places_of)) : Ok P w K mg base (L2.CX P w) 5 "waits" ["base", "beginning", "most"] (spb_waits x) :=
  Ok.ofX (k := 4) F sc_waits (spe3_len rfl) (fun _ _ _ _ _ _ us hl => match us, hl with | [_, _, _], _ => rfl) (fun E => rdb_waits x E K) (fun vs H Q E h => pureb_waits vs H Q E h) (fun f cdv A outer s H E hr =>
    (pss_cons (ps_expr (pe_ok hb_check_all (hr.mono (by decide)) (by rfl) (passes_call (takes_of rfl rfl rfl rfl) (fun _ _ _ _ h => h)) (pa_cons (pv 0) (pa_cons (pv 1) (pa_cons (pv 2) pa_nil)))))
      (pss_cons (ps_set (i := 3) sc_waits.nd rfl (.inl rfl) (pe_ok h_places_of (hr.mono (by decide)) (by rfl) pass0 (pa_cons (pv 0) (pa_cons (pv 1) (pa_cons (pv 2) pa_nil)))))
      (pss_one (ps_ret (pe_lc (own := [("one", 4), ("other", 5)]) (g := (gTup K 2 (gCons (gName 4) (gCons (gName 5) gNil)))) (tt := tYes) rfl sc_waits.nd (pi_zip (by rfl) bt.zip (pa_cons (pv 3) (pa_cons (pe_slice sl_list (pv 3) (po_some pe_int) po_none) pa_nil))) (blkOk_by (N := N_waits) (sc := defScope s_waits) (by decide +kernel)) (fun _ _ _ _ _ => (pg_tup rfl (pgs_cons (pg_name (i := 4) sc_waits.nd rfl (.inl rfl)) (pgs_cons (pg_name (i := 5) sc_waits.nd rfl (.inl rfl)) pgs_nil)))) (fun _ _ _ _ _ => pts_nil) (fun _ _ _ _ _ => (pe_op op_sub (pv 5) (pv 4)))))))))

theorem okb_longest_wait (bt : Blt K mg) {x : ExA} (T : ExT K mg x) (F : FunAt K mg "longest_wait" s_longest_wait) (hb_check_all : Ok P w K mg base (L2.CX P w) 4 "check_all" ["base", "beginning", "most"] (spb_check_all x)) (h_places_of : Ok P w K mg base CX0 3 "places_of" ["base", "beginning", "most"] (sp_places_of)) : Ok P w K mg base (L2.CX P w) 5 "longest_wait" ["base", "beginning", "most"] (spb_longest_wait x) :=
  Ok.ofX (k := 4) F sc_longest_wait (spe3_len rfl) (fun _ _ _ _ _ _ us hl => match us, hl with | [_, _, _], _ => rfl) (fun E => rdb_longest_wait x E K) (fun vs H Q E h => pureb_longest_wait vs H Q E h) (fun f cdv A outer s H E hr =>
    (pss_cons (ps_expr (pe_ok hb_check_all (hr.mono (by decide)) (by rfl) (passes_call (takes_of rfl rfl rfl rfl) (fun _ _ _ _ h => h)) (pa_cons (pv 0) (pa_cons (pv 1) (pa_cons (pv 2) pa_nil)))))
      (pss_cons (ps_set (i := 3) sc_longest_wait.nd rfl (.inl rfl) (pe_ok h_places_of (hr.mono (by decide)) (by rfl) pass0 (pa_cons (pv 0) (pa_cons (pv 1) (pa_cons (pv 2) pa_nil)))))
      (pss_cons (ps_if (pt_cmpR op_lt (pe_callB call_len_seq (by rfl) bt.len (by decide +kernel) (pa_cons (pv 3) pa_nil)) pe_int (nomark _))
        (pss_one (ps_raise rfl (takes_of rfl rfl rfl rfl) (pmk_own PySem.F.excBase_ValueError T.nf.x T.gnf T.nf.k (raises_own T.nf.b T.nf.t) (by rfl))))
        pss_nil)
      (pss_cons (ps_setLc (i := 4) (own := [("one", 5), ("other", 6)]) (g := (gTup K 2 (gCons (gName 5) (gCons (gName 6) gNil)))) (tt := tYes) rfl sc_longest_wait.nd rfl rfl (sw_true rfl rfl rfl (by decide +kernel)) (pi_zip (by rfl) bt.zip (pa_cons (pv 3) (pa_cons (pe_slice sl_list (pv 3) (po_some pe_int) po_none) pa_nil))) (blkOk_by (N := N_longest_wait) (sc := defScope s_longest_wait) (by decide +kernel)) (fun _ _ _ _ _ => (pg_tup rfl (pgs_cons (pg_name (i := 5) sc_longest_wait.nd rfl (.inl rfl)) (pgs_cons (pg_name (i := 6) sc_longest_wait.nd rfl (.inl rfl)) pgs_nil)))) (fun _ _ _ _ _ => pts_nil) (fun _ _ _ _ _ => (pe_op op_sub (pv 6) (pv 5))))
      (pss_one (ps_ret (pe_tup (pa_cons (pe_ix ix_list (pv 3) (pe_bm PySem.F.plainAttrs_list PySem.F.slot_list_index PySem.F.type_list_index mt_indexV (pv 4) (pa_cons (pe_callB (cr_max rfl) (by rfl) bt.max (by decide +kernel) (pa_cons (pv 4) pa_nil)) pa_nil)) (fun _ _ => rfl)) (pa_cons (pe_callB (cr_max rfl) (by rfl) bt.max (by decide +kernel) (pa_cons (pv 4) pa_nil)) pa_nil))))))))))

theorem okx_law_powers (bt : Blt K mg) {x : ExA} (T : ExT K mg x) (F : FunAt K mg "_law_powers" s_law_powers) (hb_digit_table : Ok P w K mg base (L2.CX P w) 3 "digit_table" ["base", "most"] (spb_digit_table x)) (hb_first_power : Ok P w K mg base (L2.CX P w) 5 "first_power" ["base", "beginning", "most"] (spb_first_power x)) (hb_multiple_places : Ok P w K mg base (L2.CX P w) 4 "multiple_places" ["number", "beginning", "most"] (spb_multiple_places x)) (hb_never : Ok P w K mg base (L2.CX P w) 3 "never" ["base", "many", "most"] (spb_never x)) (hb_number_at : Ok P w K mg base (L2.CX P w) 4 "number_at" ["beginning", "rank"] (spb_number_at x)) (hb_power_places : Ok P w K mg base (L2.CX P w) 5 "power_places" ["base", "beginning", "most"] (spb_power_places x)) (hb_powers_with : Ok P w K mg base (L2.CX P w) 3 "powers_with" ["base", "count"] (spb_powers_with x)) (hb_waits : Ok P w K mg base (L2.CX P w) 5 "waits" ["base", "beginning", "most"] (spb_waits x)) : Ok P w K mg base (L2.CX P w) 6 "_law_powers" ["which", "most"] (spx_law_powers x) :=
  Ok.ofX (k := 5) F sc_law_powers (spe2_len rfl) (fun _ _ _ _ _ _ us hl => match us, hl with | [_, _], _ => rfl) (fun E => rdx_law_powers x E K) (fun vs H Q E h => purex_law_powers vs H Q E h) (fun f cdv A outer s H E hr =>
    (pss_cons (ps_if (pt_cmpR op_eq (pv 0) pe_int (nomark _))
        (pss_one (ps_ret (pe_ok hb_power_places (hr.mono (by decide)) (by rfl) (passes_call (takes_of rfl rfl rfl rfl) (fun _ _ _ _ h => h)) (pa_cons pe_int (pa_cons pe_int (pa_cons (pv 1) pa_nil))))))
        pss_nil)
      (pss_cons (ps_if (pt_cmpR op_eq (pv 0) pe_int (nomark _))
        (pss_one (ps_ret (pe_ok hb_first_power (hr.mono (by decide)) (by rfl) (passes_call (takes_of rfl rfl rfl rfl) (fun _ _ _ _ h => h)) (pa_cons pe_int (pa_cons pe_int (pa_cons (pv 1) pa_nil))))))
        pss_nil)
      (pss_cons (ps_if (pt_cmpR op_eq (pv 0) pe_int (nomark _))
        (pss_one (ps_ret (pe_ok hb_waits (hr.mono (by decide)) (by rfl) (passes_call (takes_of rfl rfl rfl rfl) (fun _ _ _ _ h => h)) (pa_cons pe_int (pa_cons pe_int (pa_cons (pv 1) pa_nil))))))
        pss_nil)
      (pss_cons (ps_if (pt_cmpR op_eq (pv 0) pe_int (nomark _))
        (pss_one (ps_ret (pe_ok hb_digit_table (hr.mono (by decide)) (by rfl) (passes_call (takes_of rfl rfl rfl rfl) (fun _ _ _ _ h => h)) (pa_cons pe_int (pa_cons (pv 1) pa_nil)))))
        pss_nil)
      (pss_cons (ps_if (pt_cmpR op_eq (pv 0) pe_int (nomark _))
        (pss_one (ps_ret (pe_ok hb_never (hr.mono (by decide)) (by rfl) (passes_call (takes_of rfl rfl rfl rfl) (fun _ _ _ _ h => h)) (pa_cons pe_int (pa_cons pe_int (pa_cons (pv 1) pa_nil))))))
        pss_nil)
      (pss_cons (ps_if (pt_cmpR op_eq (pv 0) pe_int (nomark _))
        (pss_one (ps_ret (pe_ok hb_powers_with (hr.mono (by decide)) (by rfl) (passes_call (takes_of rfl rfl rfl rfl) (fun _ _ _ _ h => h)) (pa_cons pe_int (pa_cons (pv 1) pa_nil)))))
        pss_nil)
      (pss_cons (ps_if (pt_cmpR op_eq (pv 0) pe_int (nomark _))
        (pss_one (ps_ret (pe_ok hb_multiple_places (hr.mono (by decide)) (by rfl) (passes_call (takes_of rfl rfl rfl rfl) (fun _ _ _ _ h => h)) (pa_cons pe_int (pa_cons pe_int (pa_cons (pv 1) pa_nil))))))
        pss_nil)
      (pss_one (ps_ret (pe_ok hb_number_at (hr.mono (by decide)) (by rfl) (passes_call (takes_of rfl rfl rfl rfl) (fun _ _ _ _ h => h)) (pa_cons pe_int (pa_cons (pv 1) pa_nil)))))))))))))

theorem okx_law_based (bt : Blt K mg) {x : ExA} (T : ExT K mg x) {c : Addr} (R : RowF K mg c) (F : FunAt K mg "_law_based" s_law_based) (hb_Row_init : OkI P w K mg base (L2.CX P w) 4 c ["self", "number"] (spb_Row_init x c)) (hb_Row_multiply : OkM P w K mg base (L2.CX P w) 4 c "multiply" ["self", "base"] (spb_Row_multiply x c)) (hb_count_multiples : Ok P w K mg base (L2.CX P w) 4 "count_multiples" ["number", "beginning", "count"] (spb_count_multiples x)) (hb_digit_table : Ok P w K mg base (L2.CX P w) 3 "digit_table" ["base", "most"] (spb_digit_table x)) (hb_first_multiple : Ok P w K mg base (L2.CX P w) 4 "first_multiple" ["number", "beginning"] (spb_first_multiple x)) (hb_first_power : Ok P w K mg base (L2.CX P w) 5 "first_power" ["base", "beginning", "most"] (spb_first_power x)) (hb_longest_wait : Ok P w K mg base (L2.CX P w) 5 "longest_wait" ["base", "beginning", "most"] (spb_longest_wait x)) (hb_multiple_places : Ok P w K mg base (L2.CX P w) 4 "multiple_places" ["number", "beginning", "most"] (spb_multiple_places x)) (hb_never : Ok P w K mg base (L2.CX P w) 3 "never" ["base", "many", "most"] (spb_never x)) (hb_power_places : Ok P w K mg base (L2.CX P w) 5 "power_places" ["base", "beginning", "most"] (spb_power_places x)) (hb_powers_with : Ok P w K mg base (L2.CX P w) 3 "powers_with" ["base", "count"] (spb_powers_with x)) (hb_waits : Ok P w K mg base (L2.CX P w) 5 "waits" ["base", "beginning", "most"] (spb_waits x)) : Ok P w K mg base (L2.CX P w) 6 "_law_based" ["which", "base"] (spx_law_based x) :=
  Ok.ofX (k := 5) F sc_law_based (spe2_len rfl) (fun _ _ _ _ _ _ us hl => match us, hl with | [_, _], _ => rfl) (fun E => rdx_law_based x c E K) (fun vs H Q E h => purex_law_based vs H Q E h) (fun f cdv A outer s H E hr =>
    (pss_cons (ps_if (pt_cmpR op_eq (pv 0) pe_int (nomark _))
        (pss_one (ps_ret (pe_ok hb_power_places (hr.mono (by decide)) (by rfl) (passes_call (takes_of rfl rfl rfl rfl) (fun _ _ _ _ h => h)) (pa_cons (pv 1) (pa_cons pe_non (pa_cons pe_non pa_nil))))))
        pss_nil)
      (pss_cons (ps_if (pt_cmpR op_eq (pv 0) pe_int (nomark _))
        (pss_one (ps_ret (pe_ok hb_first_power (hr.mono (by decide)) (by rfl) (passes_call (takes_of rfl rfl rfl rfl) (fun _ _ _ _ h => h)) (pa_cons (pv 1) (pa_cons pe_non (pa_cons pe_non pa_nil))))))
        pss_nil)
      (pss_cons (ps_if (pt_cmpR op_eq (pv 0) pe_int (nomark _))
        (pss_one (ps_ret (pe_ok hb_waits (hr.mono (by decide)) (by rfl) (passes_call (takes_of rfl rfl rfl rfl) (fun _ _ _ _ h => h)) (pa_cons (pv 1) (pa_cons pe_non (pa_cons pe_non pa_nil))))))
        pss_nil)
      (pss_cons (ps_if (pt_cmpR op_eq (pv 0) pe_int (nomark _))
        (pss_one (ps_ret (pe_ok hb_longest_wait (hr.mono (by decide)) (by rfl) (passes_call (takes_of rfl rfl rfl rfl) (fun _ _ _ _ h => h)) (pa_cons (pv 1) (pa_cons pe_non (pa_cons pe_non pa_nil))))))
        pss_nil)
      (pss_cons (ps_if (pt_cmpR op_eq (pv 0) pe_int (nomark _))
        (pss_one (ps_ret (pe_ok hb_digit_table (hr.mono (by decide)) (by rfl) (passes_call (takes_of rfl rfl rfl rfl) (fun _ _ _ _ h => h)) (pa_cons (pv 1) (pa_cons pe_non pa_nil)))))
        pss_nil)
      (pss_cons (ps_if (pt_cmpR op_eq (pv 0) pe_int (nomark _))
        (pss_one (ps_ret (pe_ok hb_never (hr.mono (by decide)) (by rfl) (passes_call (takes_of rfl rfl rfl rfl) (fun _ _ _ _ h => h)) (pa_cons (pv 1) (pa_cons pe_non (pa_cons pe_non pa_nil))))))
        pss_nil)
      (pss_cons (ps_if (pt_cmpR op_eq (pv 0) pe_int (nomark _))
        (pss_one (ps_ret (pe_ok hb_powers_with (hr.mono (by decide)) (by rfl) (passes_call (takes_of rfl rfl rfl rfl) (fun _ _ _ _ h => h)) (pa_cons (pv 1) (pa_cons pe_non pa_nil)))))
        pss_nil)
      (pss_cons (ps_if (pt_cmpR op_eq (pv 0) pe_int (nomark _))
        (pss_one (ps_ret (pe_okM hb_Row_multiply R.cl (pe_okMk hb_Row_init (hr.mono (by decide)) (by rfl) R.g (passes_call (takes_of rfl rfl rfl rfl) (fun _ _ _ _ h => h)) (pa_cons pe_int pa_nil)) (hr.mono (by decide)) (passes_call (takes_of rfl rfl rfl rfl) (fun _ _ _ _ h => h)) (pa_cons (pv 1) pa_nil))))
        pss_nil)
      (pss_cons (ps_if (pt_cmpR op_eq (pv 0) pe_int (nomark _))
        (pss_one (ps_ret (pe_ok hb_first_multiple (hr.mono (by decide)) (by rfl) (passes_call (takes_of rfl rfl rfl rfl) (fun _ _ _ _ h => h)) (pa_cons (pv 1) (pa_cons pe_non pa_nil)))))
        pss_nil)
      (pss_one (ps_ret (pe_ifExp (pt_cmpR op_eq (pv 0) pe_int (nomark _)) (pe_ok hb_multiple_places (hr.mono (by decide)) (by rfl) (passes_call (takes_of rfl rfl rfl rfl) (fun _ _ _ _ h => h)) (pa_cons (pv 1) (pa_cons pe_non (pa_cons pe_non pa_nil)))) (pe_ok hb_count_multiples (hr.mono (by decide)) (by rfl) (passes_call (takes_of rfl rfl rfl rfl) (fun _ _ _ _ h => h)) (pa_cons (pv 1) (pa_cons pe_non (pa_cons pe_non pa_nil)))))))))))))))))

theorem ok_law_row (bt : Blt K mg) {x : ExA} (T : ExT K mg x) {c : Addr} (R : RowF K mg c) (F : FunAt K mg "_law_row" s_law_row) (hb_Row_init : OkI P w K mg base (L2.CX P w) 4 c ["self", "number"] (spb_Row_init x c)) (h_Row_len : OkM P w K mg base CX0 1 c "__len__" ["self"] (sp_Row_len c)) (hb_Row_add : OkM P w K mg base (L2.CX P w) 4 c "add" ["self", "number"] (spb_Row_add x c)) (hb_Row_multiply : OkM P w K mg base (L2.CX P w) 4 c "multiply" ["self", "base"] (spb_Row_multiply x c)) (h_Row_number : OkM P w K mg base CX0 1 c "number" ["self"] (sp_Row_number c)) (hx_Row_undo : OkM P w K mg base (L2.CX P w) 1 c "undo" ["self"] (spx_Row_undo x c)) (hq_law_error : OkQ P w K mg base 1 "_law_error" ["caught"] (sp_law_error x)) (h_law_ten : Ok P w K mg base CX0 1 "_law_ten" ["exponent"] (sp_law_ten)) : Ok P w K mg base CX0 6 "_law_row" [] (sp_law_row) :=
  Ok.of (k := 5) F sc_law_row (sp0_len rfl) (fun _ _ _ _ _ _ us hl => match us, hl with | [], _ => rfl) (rd_law_row x c K) (fun vs H Q E h => pure_law_row T vs H Q E h) (fun f cdv A outer s H E hr =>
    (pss_cons (ps_set (i := 0) sc_law_row.nd rfl (.inl rfl) (pe_okMk hb_Row_init (hr.mono (by decide)) (by rfl) R.g passX0 (pa_cons (pe_op op_mulX (pe_ok h_law_ten (hr.mono (by decide)) (by rfl) pass0 (pa_cons pe_int pa_nil)) pe_int) pa_nil)))
      (pss_cons (ps_set (i := 1) sc_law_row.nd rfl (.inl rfl) (pe_lst pa_nil))
      (pss_cons (ps_set (i := 2) sc_law_row.nd rfl (.inl rfl) (pe_lst (pa_cons (pe_tup (pa_cons pe_int (pa_cons pe_int pa_nil))) (pa_cons (pe_tup (pa_cons pe_int (pa_cons pe_int pa_nil))) (pa_cons (pe_tup (pa_cons pe_int (pa_cons pe_bl pa_nil))) (pa_cons (pe_tup (pa_cons pe_int (pa_cons pe_non pa_nil))) (pa_cons (pe_tup (pa_cons pe_int (pa_cons pe_int pa_nil))) (pa_cons (pe_tup (pa_cons pe_int (pa_cons pe_int pa_nil))) (pa_cons (pe_tup (pa_cons pe_int (pa_cons pe_non pa_nil))) (pa_cons (pe_tup (pa_cons pe_int (pa_cons pe_int pa_nil))) pa_nil))))))))))
      (pss_cons (ps_for PassesOwn.never rfl (pi_list (pe_op op_cat (pe_lst (pa_cons (pe_tup (pa_cons pe_int (pa_cons (pe_ok h_law_ten (hr.mono (by decide)) (by rfl) pass0 (pa_cons pe_int pa_nil)) pa_nil))) (pa_cons (pe_tup (pa_cons pe_int (pa_cons (pe_op op_mulX (pe_ok h_law_ten (hr.mono (by decide)) (by rfl) pass0 (pa_cons pe_int pa_nil)) pe_int) pa_nil))) pa_nil))) (pv 2))) (pg_tup rfl (pgs_cons (pg_name (i := 3) sc_law_row.nd rfl (.inl rfl)) (pgs_cons (pg_name (i := 4) sc_law_row.nd rfl (.inl rfl)) pgs_nil)))
        (pss_cons (ps_tryK (i := 5) (tb := fun W => (tIfS (tTest (tOp rEq (tVar 3) (tC (.int 0))))
        (tDrop (tMethT c "multiply" (spb_Row_multiply x c) (WE W) (tVar 0) (tCons (tVar 4) tNil)))
        (tIfS (tTest (tOp rEq (tVar 3) (tC (.int 1))))
        (tDrop (tMethT c "add" (spb_Row_add x c) (WE W) (tVar 0) (tCons (tVar 4) tNil)))
        (tDrop (tMethT c "undo" (spx_Row_undo x c) (WE W) (tVar 0) tNil))))) (ts := (tDrop (tBM K "list" rAppend (tVar 1) (tCons (tCall (sp_law_error x) [] E0 (tCons (tVar 5) tNil)) tNil)))) rfl rfl sc_law_row.nd rfl rfl ⟨rfl, by decide, .inl T.gde⟩ (fun W pn xe tk po => (pss_one (ps_if (pt_cmpR op_eq (pv 3) pe_int (nomark _))
        (pss_one (ps_expr (pe_okMT hb_Row_multiply R.cl (pv 0) (hr.mono (by decide)) (fun σ => passAt tk σ) (pa_cons (pv 4) pa_nil))))
        (pss_one (ps_if (pt_cmpR op_eq (pv 3) pe_int (nomark _))
        (pss_one (ps_expr (pe_okMT hb_Row_add R.cl (pv 0) (hr.mono (by decide)) (fun σ => passAt tk σ) (pa_cons (pv 4) pa_nil))))
        (pss_one (ps_expr (pe_okMT0 hx_Row_undo R.cl (pv 0) (hr.mono (by decide)) (fun σ => passAt tk σ))))))))) (fun a pn => (pss_one (ps_expr (pe_bm PySem.F.plainAttrs_list PySem.F.slot_list_append PySem.F.type_list_append mt_append (pv 1) (pa_cons (pe_okQ hq_law_error (room_mark hr (by decide)) (by rfl) (pa_cons (pv 5) pa_nil)) pa_nil))))))
      (pss_one (ps_if (PW.pt (pw_or (pt_cmpR op_ne (pe_okM0 h_Row_number R.cl (pv 0) (hr.mono (by decide)) pass0) (pe_op op_mulX (pe_ok h_law_ten (hr.mono (by decide)) (by rfl) pass0 (pa_cons pe_int pa_nil)) pe_int) (nomark _)) (pw_or1 (pt_cmpR op_ne (pe_callB (call_lenO h_Row_len (hr.mono (by decide))) (by rfl) bt.len (by decide +kernel) (pa_cons (pv 0) pa_nil)) pe_int (nomark _)))))
        (pss_one (ps_ret pe_bl))
        pss_nil))))
      (pss_one (ps_ret (pe_and (pe_cmpR (op_eqD hr.units) (pv 1) (pe_op op_cat (pe_op op_rep (pe_lst (pa_cons pe_str pa_nil)) pe_int) (pe_lst (pa_cons pe_str pa_nil))) (nomark _)) (pe_and (pe_cmpR op_eq (pe_okM hb_Row_add R.cl (pv 0) (hr.mono (by decide)) passX0 (pa_cons (pe_op op_sub (pe_op op_mulX (pe_ok h_law_ten (hr.mono (by decide)) (by rfl) pass0 (pa_cons pe_int pa_nil)) pe_int) pe_int) pa_nil)) (pe_op op_sub (pe_ok h_law_ten (hr.mono (by decide)) (by rfl) pass0 (pa_cons pe_int pa_nil)) pe_int) (nomark _)) (pe_one (pe_cmpR op_eq (pe_callB (call_lenO h_Row_len (hr.mono (by decide))) (by rfl) bt.len (by decide +kernel) (pa_cons (pv 0) pa_nil)) pe_int (nomark _))))))))))))

theorem okx_law_counted (bt : Blt K mg) {x : ExA} (T : ExT K mg x) {c : Addr} (R : RowF K mg c) (F : FunAt K mg "_law_counted" s_law_counted) (hb_Row_init : OkI P w K mg base (L2.CX P w) 4 c ["self", "number"] (spb_Row_init x c)) (hb_Row_first_digits : OkM P w K mg base (L2.CX P w) 3 c "first_digits" ["self", "many"] (spb_Row_first_digits x c)) (hx_law_powers : Ok P w K mg base (L2.CX P w) 6 "_law_powers" ["which", "most"] (spx_law_powers x)) (hb_count_multiples : Ok P w K mg base (L2.CX P w) 4 "count_multiples" ["number", "beginning", "count"] (spb_count_multiples x)) (hb_first_digits : Ok P w K mg base (L2.CX P w) 4 "first_digits" ["number", "many"] (spb_first_digits x)) (hb_longer : Ok P w K mg base (L2.CX P w) 4 "longer" ["beginning", "many"] (spb_longer x)) (hb_never : Ok P w K mg base (L2.CX P w) 3 "never" ["base", "many", "most"] (spb_never x)) (hb_products : Ok P w K mg base (L2.CX P w) 4 "products" ["one", "other", "many"] (spb_products x)) (hb_quotients : Ok P w K mg base (L2.CX P w) 4 "quotients" ["one", "other", "many"] (spb_quotients x)) (hb_roots : Ok P w K mg base (L2.CX P w) 4 "roots" ["beginning", "many"] (spb_roots x)) (hb_roots_with : Ok P w K mg base (L2.CX P w) 4 "roots_with" ["beginning", "count"] (spb_roots_with x)) (hb_squares : Ok P w K mg base (L2.CX P w) 4 "squares" ["beginning", "many"] (spb_squares x)) (hb_stretch : Ok P w K mg base (L2.CX P w) 4 "stretch" ["beginning", "count"] (spb_stretch x)) (hb_sums : Ok P w K mg base (L2.CX P w) 4 "sums" ["one", "other", "many"] (spb_sums x)) : Ok P w K mg base (L2.CX P w) 7 "_law_counted" ["which", "count"] (spx_law_counted x) :=
  Ok.ofX (k := 6) F sc_law_counted (spe2_len rfl) (fun _ _ _ _ _ _ us hl => match us, hl with | [_, _], _ => rfl) (fun E => rdx_law_counted x c E K) (fun vs H Q E h => purex_law_counted vs H Q E h) (fun f cdv A outer s H E hr =>
    (pss_cons (ps_if (pt_cmpR op_eq (pv 0) pe_int (nomark _))
        (pss_one (ps_ret (pe_ok hb_first_digits (hr.mono (by decide)) (by rfl) (passes_call (takes_of rfl rfl rfl rfl) (fun _ _ _ _ h => h)) (pa_cons pe_int (pa_cons (pv 1) pa_nil)))))
        pss_nil)
      (pss_cons (ps_if (pt_cmpR op_eq (pv 0) pe_int (nomark _))
        (pss_one (ps_ret (pe_ok hb_longer (hr.mono (by decide)) (by rfl) (passes_call (takes_of rfl rfl rfl rfl) (fun _ _ _ _ h => h)) (pa_cons pe_int (pa_cons (pv 1) pa_nil)))))
        pss_nil)
      (pss_cons (ps_if (pt_cmpR op_eq (pv 0) pe_int (nomark _))
        (pss_one (ps_ret (pe_okM hb_Row_first_digits R.cl (pe_okMk hb_Row_init (hr.mono (by decide)) (by rfl) R.g (passes_call (takes_of rfl rfl rfl rfl) (fun _ _ _ _ h => h)) (pa_cons pe_int pa_nil)) (hr.mono (by decide)) (passes_call (takes_of rfl rfl rfl rfl) (fun _ _ _ _ h => h)) (pa_cons (pv 1) pa_nil))))
        pss_nil)
      (pss_cons (ps_if (pt_cmpR op_eq (pv 0) pe_int (nomark _))
        (pss_one (ps_ret (pe_ok hb_products (hr.mono (by decide)) (by rfl) (passes_call (takes_of rfl rfl rfl rfl) (fun _ _ _ _ h => h)) (pa_cons pe_int (pa_cons pe_int (pa_cons (pv 1) pa_nil))))))
        pss_nil)
      (pss_cons (ps_if (pt_cmpR op_eq (pv 0) pe_int (nomark _))
        (pss_one (ps_ret (pe_ok hb_quotients (hr.mono (by decide)) (by rfl) (passes_call (takes_of rfl rfl rfl rfl) (fun _ _ _ _ h => h)) (pa_cons pe_int (pa_cons pe_int (pa_cons (pv 1) pa_nil))))))
        pss_nil)
      (pss_cons (ps_if (pt_cmpR op_eq (pv 0) pe_int (nomark _))
        (pss_one (ps_ret (pe_ok hb_sums (hr.mono (by decide)) (by rfl) (passes_call (takes_of rfl rfl rfl rfl) (fun _ _ _ _ h => h)) (pa_cons pe_int (pa_cons pe_int (pa_cons (pv 1) pa_nil))))))
        pss_nil)
      (pss_cons (ps_if (pt_cmpR op_eq (pv 0) pe_int (nomark _))
        (pss_one (ps_ret (pe_ok hb_squares (hr.mono (by decide)) (by rfl) (passes_call (takes_of rfl rfl rfl rfl) (fun _ _ _ _ h => h)) (pa_cons pe_int (pa_cons (pv 1) pa_nil)))))
        pss_nil)
      (pss_cons (ps_if (pt_cmpR op_eq (pv 0) pe_int (nomark _))
        (pss_one (ps_ret (pe_ok hb_roots (hr.mono (by decide)) (by rfl) (passes_call (takes_of rfl rfl rfl rfl) (fun _ _ _ _ h => h)) (pa_cons pe_int (pa_cons (pv 1) pa_nil)))))
        pss_nil)
      (pss_cons (ps_if (pt_cmpR op_eq (pv 0) pe_int (nomark _))
        (pss_one (ps_ret (pe_ok hb_never (hr.mono (by decide)) (by rfl) (passes_call (takes_of rfl rfl rfl rfl) (fun _ _ _ _ h => h)) (pa_cons pe_int (pa_cons (pv 1) (pa_cons pe_int pa_nil))))))
        pss_nil)
      (pss_cons (ps_if (pt_cmpR op_eq (pv 0) pe_int (nomark _))
        (pss_one (ps_ret (pe_ok hb_stretch (hr.mono (by decide)) (by rfl) (passes_call (takes_of rfl rfl rfl rfl) (fun _ _ _ _ h => h)) (pa_cons pe_int (pa_cons (pv 1) pa_nil)))))
        pss_nil)
      (pss_cons (ps_if (pt_cmpR op_eq (pv 0) pe_int (nomark _))
        (pss_one (ps_ret (pe_ok hb_count_multiples (hr.mono (by decide)) (by rfl) (passes_call (takes_of rfl rfl rfl rfl) (fun _ _ _ _ h => h)) (pa_cons pe_int (pa_cons pe_int (pa_cons (pv 1) pa_nil))))))
        pss_nil)
      (pss_cons (ps_if (pt_cmpR op_eq (pv 0) pe_int (nomark _))
        (pss_one (ps_ret (pe_ok hb_roots_with (hr.mono (by decide)) (by rfl) (passes_call (takes_of rfl rfl rfl rfl) (fun _ _ _ _ h => h)) (pa_cons pe_int (pa_cons (pv 1) pa_nil)))))
        pss_nil)
      (pss_one (ps_ret (pe_ok hx_law_powers (hr.mono (by decide)) (by rfl) (passes_call (takes_of rfl rfl rfl rfl) (fun _ _ _ _ h => h)) (pa_cons (pv 0) (pa_cons (pv 1) pa_nil))))))))))))))))))

theorem ok_law_asked (bt : Blt K mg) {x : ExA} (T : ExT K mg x) (F : FunAt K mg "_law_asked" s_law_asked) (hx_law_based : Ok P w K mg base (L2.CX P w) 6 "_law_based" ["which", "base"] (spx_law_based x)) (hx_law_counted : Ok P w K mg base (L2.CX P w) 7 "_law_counted" ["which", "count"] (spx_law_counted x)) (h_law_error : Ok P w K mg base CX0 1 "_law_error" ["caught"] (sp_law_error x)) (hb_format_beginnings : Ok P w K mg base (L2.CX P w) 4 "format_beginnings" ["value"] (spb_format_beginnings x)) (hb_longest_wait : Ok P w K mg base (L2.CX P w) 5 "longest_wait" ["base", "beginning", "most"] (spb_longest_wait x)) (hb_product_example : Ok P w K mg base (L2.CX P w) 4 "product_example" ["one", "other", "beginning"] (spb_product_example x)) (hb_roots_with : Ok P w K mg base (L2.CX P w) 4 "roots_with" ["beginning", "count"] (spb_roots_with x)) (hb_stretch : Ok P w K mg base (L2.CX P w) 4 "stretch" ["beginning", "count"] (spb_stretch x)) : Ok P w K mg base CX0 8 "_law_asked" ["group", "which", "one"] (sp_law_asked) :=
  Ok.of (k := 7) F sc_law_asked (sp3_len rfl) (fun _ _ _ _ _ _ us hl => match us, hl with | [_, _, _], _ => rfl) (rd_law_asked x K) (fun vs H Q E h => pure_law_asked T vs H Q E h) (fun f cdv A outer s H E hr =>
    (pss_cons (ps_set (i := 3) sc_law_asked.nd rfl (.inl rfl) pe_non)
      (pss_cons (ps_tryK (i := 4) (tb := fun W => (tIfS (tTest (tOp rEq (tVar 0) (tC (.int 1))))
        (tDrop (tCallS (spx_law_counted x) (WE W) (tCons (tVar 1) (tCons (tVar 2) tNil))))
        (tIfS (tTest (tOp rEq (tVar 0) (tC (.int 2))))
        (tDrop (tCallS (spx_law_based x) (WE W) (tCons (tVar 1) (tCons (tVar 2) tNil))))
        (tIfS (tTest (tOp rEq (tVar 1) (tC (.int 0))))
        (tDrop (tCallS (spb_format_beginnings x) (WE W) (tCons (tVar 2) tNil)))
        (tIfS (tTest (tOp rEq (tVar 1) (tC (.int 1))))
        (tDrop (tCallS (spb_longest_wait x) (WE W) (tCons (tC (.int 2)) (tCons (tC (.int 9)) (tCons (tVar 2) tNil)))))
        (tIfS (tTest (tOp rEq (tVar 1) (tC (.int 2))))
        (tDrop (tCallS (spb_stretch x) (WE W) (tCons (tC (.int 123)) (tCons (tVar 2) tNil))))
        (tIfS (tTest (tOp rEq (tVar 1) (tC (.int 3))))
        (tDrop (tCallS (spb_roots_with x) (WE W) (tCons (tC (.int 2)) (tCons (tVar 2) tNil))))
        (tDrop (tCallS (spb_product_example x) (WE W) (tCons (tC (.int 2)) (tCons (tC (.int 2)) (tCons (tVar 2) tNil)))))))))))) (ts := (tAsg (tVar 4) (gName 3))) rfl rfl sc_law_asked.nd rfl rfl ⟨rfl, by decide, .inl T.gde⟩ (fun W pn xe tk po => (pss_one (ps_if (pt_cmpR op_eq (pv 0) pe_int (nomark _))
        (pss_one (ps_expr (pe_okS hx_law_counted (hr.mono (by decide)) (by rfl) (fun σ => passAt tk σ) (pa_cons (pv 1) (pa_cons (pv 2) pa_nil)))))
        (pss_one (ps_if (pt_cmpR op_eq (pv 0) pe_int (nomark _))
        (pss_one (ps_expr (pe_okS hx_law_based (hr.mono (by decide)) (by rfl) (fun σ => passAt tk σ) (pa_cons (pv 1) (pa_cons (pv 2) pa_nil)))))
        (pss_one (ps_if (pt_cmpR op_eq (pv 1) pe_int (nomark _))
        (pss_one (ps_expr (pe_okS hb_format_beginnings (hr.mono (by decide)) (by rfl) (fun σ => passAt tk σ) (pa_cons (pv 2) pa_nil))))
        (pss_one (ps_if (pt_cmpR op_eq (pv 1) pe_int (nomark _))
        (pss_one (ps_expr (pe_okS hb_longest_wait (hr.mono (by decide)) (by rfl) (fun σ => passAt tk σ) (pa_cons pe_int (pa_cons pe_int (pa_cons (pv 2) pa_nil))))))
        (pss_one (ps_if (pt_cmpR op_eq (pv 1) pe_int (nomark _))
        (pss_one (ps_expr (pe_okS hb_stretch (hr.mono (by decide)) (by rfl) (fun σ => passAt tk σ) (pa_cons pe_int (pa_cons (pv 2) pa_nil)))))
        (pss_one (ps_if (pt_cmpR op_eq (pv 1) pe_int (nomark _))
        (pss_one (ps_expr (pe_okS hb_roots_with (hr.mono (by decide)) (by rfl) (fun σ => passAt tk σ) (pa_cons pe_int (pa_cons (pv 2) pa_nil)))))
        (pss_one (ps_expr (pe_okS hb_product_example (hr.mono (by decide)) (by rfl) (fun σ => passAt tk σ) (pa_cons pe_int (pa_cons pe_int (pa_cons (pv 2) pa_nil))))))))))))))))))) (fun a pn => (pss_one (ps_set (i := 3) sc_law_asked.nd rfl (.inl rfl) (pv 4)))))
      (pss_one (ps_ret (pe_ifExp (pt_cmpR op_isN1 (pv 3) pe_non (nomark _)) pe_str (pe_ok h_law_error (hr.mono (by decide)) (by rfl) pass0 (pa_cons (pv 3) pa_nil))))))))

theorem ok_law (bt : Blt K mg) (F : FunAt K mg "law" s_law) (h_law_asked : Ok P w K mg base CX0 8 "_law_asked" ["group", "which", "one"] (sp_law_asked)) (h_law_pick : Ok P w K mg base CX0 2 "_law_pick" ["draws", "choices"] (sp_law_pick)) (h_law_row : Ok P w K mg base CX0 6 "_law_row" [] (sp_law_row)) (h_law_start : Ok P w K mg base CX0 1 "_law_start" ["script"] (sp_law_start K)) : Ok P w K mg base CX0 9 "law" ["script"] (sp_law K) :=
  Ok.of (k := 8) F sc_law (sp1_len rfl) (fun _ _ _ _ _ _ us hl => match us, hl with | [_], _ => rfl) (rd_law K) (fun vs H Q E h => pure_law vs H Q E h) (fun f cdv A outer s H E hr =>
    (pss_cons (ps_set (i := 1) sc_law.nd rfl (.inl rfl) (pe_ok h_law_start (hr.mono (by decide)) (by rfl) pass0 (pa_cons (pv 0) pa_nil)))
      (pss_cons (ps_set (i := 2) sc_law.nd rfl (.inr rfl) (pe_lst (pa_cons pe_int (pa_cons pe_int (pa_cons pe_int (pa_cons pe_int (pa_cons pe_int (pa_cons pe_int (pa_cons pe_int (pa_cons pe_int (pa_cons pe_int (pa_cons pe_int (pa_cons pe_int (pa_cons pe_int (pa_cons pe_int (pa_cons pe_int (pa_cons pe_int (pa_cons pe_int (pa_cons pe_int (pa_cons pe_int (pa_cons pe_int (pa_cons pe_int pa_nil))))))))))))))))))))))
      (pss_cons (ps_set (i := 3) sc_law.nd rfl (.inr rfl) (pe_op op_cat (pe_op op_cat (pe_op op_rep (pe_lst (pa_cons pe_int pa_nil)) pe_int) (pe_op op_rep (pe_lst (pa_cons pe_int pa_nil)) pe_int)) (pe_lst (pa_cons pe_int (pa_cons pe_int (pa_cons pe_int pa_nil))))))
      (pss_cons (ps_for PassesOwn.never rfl (pi_range1 (by rfl) bt.range (pa_cons pe_int pa_nil)) (pg_name (i := 4) sc_law.nd rfl (.inl rfl))
        (pss_one (ps_for PassesOwn.never rfl (pi_list (pe_lst (pa_cons pe_non (pa_cons (pe_op op_sub (pe_ix ix_list (pv 3) (pv 4) (fun _ _ => rfl)) pe_int) (pa_cons (pe_op op_add (pe_ix ix_list (pv 2) (pv 4) (fun _ _ => rfl)) pe_int) (pa_cons pe_bl (pa_cons pe_str pa_nil))))))) (pg_name (i := 5) sc_law.nd rfl (.inl rfl))
        (pss_one (ps_if (pt_cmpR op_ne (pe_ok h_law_asked (hr.mono (by decide)) (by rfl) pass0 (pa_cons pe_int (pa_cons (pv 4) (pa_cons (pv 5) pa_nil)))) pe_str (nomark _))
        (pss_one (ps_ret pe_bl))
        pss_nil)))))
      (pss_cons (ps_if (PW.pt (pw_or (pt_cmpR (op_neD hr.units) (pe_lc (own := [("k", 10)]) (g := (gName 10)) (tt := tYes) rfl sc_law.nd (pi_range1 (by rfl) bt.range (pa_cons pe_int pa_nil)) (blkOk_by (N := N_law) (sc := defScope s_law) (by decide +kernel)) (fun _ _ _ _ _ => (pg_name (i := 10) sc_law.nd rfl (.inl rfl))) (fun _ _ _ _ _ => pts_nil) (fun _ _ _ _ _ => (pe_ok h_law_asked (hr.mono (by decide)) (by rfl) pass0 (pa_cons pe_int (pa_cons (pv 10) (pa_cons (pe_ix ix_list (pv 2) (pv 10) (fun _ _ => rfl)) pa_nil)))))) (pe_op op_rep (pe_lst (pa_cons pe_str pa_nil)) pe_int) (nomark _)) (pw_or1 (pt_cmpR (op_neD hr.units) (pe_lc (own := [("k", 10)]) (g := (gName 10)) (tt := tYes) rfl sc_law.nd (pi_range1 (by rfl) bt.range (pa_cons pe_int pa_nil)) (blkOk_by (N := N_law) (sc := defScope s_law) (by decide +kernel)) (fun _ _ _ _ _ => (pg_name (i := 10) sc_law.nd rfl (.inl rfl))) (fun _ _ _ _ _ => pts_nil) (fun _ _ _ _ _ => (pe_ok h_law_asked (hr.mono (by decide)) (by rfl) pass0 (pa_cons pe_int (pa_cons (pv 10) (pa_cons (pe_ix ix_list (pv 3) (pv 10) (fun _ _ => rfl)) pa_nil)))))) (pe_op op_rep (pe_lst (pa_cons pe_str pa_nil)) pe_int) (nomark _)))))
        (pss_one (ps_ret pe_bl))
        pss_nil)
      (pss_cons (ps_for PassesOwn.never rfl (pi_range1 (by rfl) bt.range (pa_cons pe_int pa_nil)) (pg_name (i := 4) sc_law.nd rfl (.inl rfl))
        (pss_cons (ps_set (i := 6) sc_law.nd rfl (.inl rfl) (pe_ifExp (pt_cmpR op_lt (pv 4) pe_int (nomark _)) pe_int pe_int))
      (pss_cons (ps_set (i := 7) sc_law.nd rfl (.inl rfl) (pe_ifExp (pt_cmpR op_lt (pv 4) pe_int (nomark _)) pe_int pe_int))
      (pss_cons (ps_for PassesOwn.never rfl (pi_list (pe_lst (pa_cons pe_non (pa_cons (pe_op op_sub (pv 7) pe_int) (pa_cons (pe_op op_add (pv 6) pe_int) (pa_cons (pe_op op_sub pe_int pe_int) (pa_cons pe_bl (pa_cons pe_str pa_nil)))))))) (pg_name (i := 5) sc_law.nd rfl (.inl rfl))
        (pss_one (ps_if (pt_cmpR op_ne (pe_ok h_law_asked (hr.mono (by decide)) (by rfl) pass0 (pa_cons pe_int (pa_cons (pv 4) (pa_cons (pv 5) pa_nil)))) pe_str (nomark _))
        (pss_one (ps_ret pe_bl))
        pss_nil)))
      (pss_cons (ps_set (i := 8) sc_law.nd rfl (.inl rfl) (pe_ifExp (pt_cmpR op_in_seq (pv 4) (pe_tup (pa_cons pe_int (pa_cons pe_int (pa_cons pe_int (pa_cons pe_int (pa_cons pe_int (pa_cons pe_int (pa_cons pe_int pa_nil)))))))) (by rfl)) pe_str (pe_ifExp (pt_cmpR op_eq (pv 4) pe_int (nomark _)) pe_str pe_str)))
      (pss_one (ps_if (pt_cmpR op_ne (pe_ok h_law_asked (hr.mono (by decide)) (by rfl) pass0 (pa_cons pe_int (pa_cons (pv 4) (pa_cons (pe_ok h_law_pick (hr.mono (by decide)) (by rfl) pass0 (pa_cons (pv 1) (pa_cons (pe_lst (pa_cons (pv 7) (pa_cons (pv 6) pa_nil))) pa_nil))) pa_nil)))) (pv 8) (nomark _))
        (pss_one (ps_ret pe_bl))
        pss_nil)))))))
      (pss_cons (ps_for PassesOwn.never rfl (pi_list (pe_lst (pa_cons pe_non (pa_cons pe_int (pa_cons (pe_tup pa_nil) (pa_cons (pe_lst pa_nil) (pa_cons (pe_tup (pa_cons pe_int (pa_cons pe_int pa_nil))) (pa_cons (pe_lst (pa_cons pe_int pa_nil)) (pa_cons (pe_lst (pa_cons pe_int pa_nil)) (pa_cons (pe_lst (pa_cons pe_bl pa_nil)) (pa_cons (pe_lst (pa_cons pe_str pa_nil)) (pa_cons (pe_op op_rep (pe_lst (pa_cons pe_int pa_nil)) pe_int) (pa_cons (pe_lst (pa_cons pe_int (pa_cons pe_non pa_nil))) pa_nil))))))))))))) (pg_name (i := 5) sc_law.nd rfl (.inl rfl))
        (pss_one (ps_if (pt_cmpR op_ne (pe_ok h_law_asked (hr.mono (by decide)) (by rfl) pass0 (pa_cons pe_int (pa_cons pe_int (pa_cons (pv 5) pa_nil)))) pe_str (nomark _))
        (pss_one (ps_ret pe_bl))
        pss_nil)))
      (pss_cons (ps_setLc (i := 9) (own := [("most", 11)]) (g := (gName 11)) (tt := tYes) rfl sc_law.nd rfl rfl (sw_true rfl rfl rfl (by decide +kernel)) (pi_tup (pe_tup (pa_cons pe_non (pa_cons pe_int (pa_cons pe_int (pa_cons pe_int (pa_cons pe_int pa_nil))))))) (blkOk_by (N := N_law) (sc := defScope s_law) (by decide +kernel)) (fun _ _ _ _ _ => (pg_name (i := 11) sc_law.nd rfl (.inl rfl))) (fun _ _ _ _ _ => pts_nil) (fun _ _ _ _ _ => (pe_ok h_law_asked (hr.mono (by decide)) (by rfl) pass0 (pa_cons pe_int (pa_cons pe_int (pa_cons (pv 11) pa_nil))))))
      (pss_cons (ps_if (PW.pt (pw_or (pt_cmpR op_ne (pe_ok h_law_asked (hr.mono (by decide)) (by rfl) pass0 (pa_cons pe_int (pa_cons pe_int (pa_cons (pe_op op_rep (pe_lst (pa_cons pe_int pa_nil)) pe_int) pa_nil)))) pe_str (nomark _)) (pw_or1 (pt_cmpR (op_neD hr.units) (pv 9) (pe_lst (pa_cons pe_str (pa_cons pe_str (pa_cons pe_str (pa_cons pe_str (pa_cons pe_str pa_nil)))))) (nomark _)))))
        (pss_one (ps_ret pe_bl))
        pss_nil)
      (pss_cons (ps_if (pt_cmpR (op_neD hr.units) (pe_lc (own := [("count", 12)]) (g := (gName 12)) (tt := tYes) rfl sc_law.nd (pi_tup (pe_tup (pa_cons pe_int (pa_cons pe_int pa_nil)))) (blkOk_by (N := N_law) (sc := defScope s_law) (by decide +kernel)) (fun _ _ _ _ _ => (pg_name (i := 12) sc_law.nd rfl (.inl rfl))) (fun _ _ _ _ _ => pts_nil) (fun _ _ _ _ _ => (pe_ok h_law_asked (hr.mono (by decide)) (by rfl) pass0 (pa_cons pe_int (pa_cons pe_int (pa_cons (pv 12) pa_nil)))))) (pe_lst (pa_cons pe_str (pa_cons pe_str pa_nil))) (nomark _))
        (pss_one (ps_ret pe_bl))
        pss_nil)
      (pss_cons (ps_if (pt_cmpR (op_neD hr.units) (pe_lc (own := [("count", 12)]) (g := (gName 12)) (tt := tYes) rfl sc_law.nd (pi_tup (pe_tup (pa_cons pe_int (pa_cons pe_int (pa_cons pe_int (pa_cons pe_int (pa_cons pe_int pa_nil))))))) (blkOk_by (N := N_law) (sc := defScope s_law) (by decide +kernel)) (fun _ _ _ _ _ => (pg_name (i := 12) sc_law.nd rfl (.inl rfl))) (fun _ _ _ _ _ => pts_nil) (fun _ _ _ _ _ => (pe_ok h_law_asked (hr.mono (by decide)) (by rfl) pass0 (pa_cons pe_int (pa_cons pe_int (pa_cons (pv 12) pa_nil)))))) (pe_op op_cat (pe_lst (pa_cons pe_str pa_nil)) (pe_op op_rep (pe_lst (pa_cons pe_str pa_nil)) pe_int)) (nomark _))
        (pss_one (ps_ret pe_bl))
        pss_nil)
      (pss_one (ps_ret (pe_and (pe_cmpR (op_eqD hr.units) (pe_lc (own := [("far", 13)]) (g := (gName 13)) (tt := tYes) rfl sc_law.nd (pi_tup (pe_tup (pa_cons pe_int (pa_cons pe_int (pa_cons pe_int (pa_cons pe_int (pa_cons pe_int pa_nil))))))) (blkOk_by (N := N_law) (sc := defScope s_law) (by decide +kernel)) (fun _ _ _ _ _ => (pg_name (i := 13) sc_law.nd rfl (.inl rfl))) (fun _ _ _ _ _ => pts_nil) (fun _ _ _ _ _ => (pe_ok h_law_asked (hr.mono (by decide)) (by rfl) pass0 (pa_cons pe_int (pa_cons pe_int (pa_cons (pv 13) pa_nil)))))) (pe_lst (pa_cons pe_str (pa_cons pe_str (pa_cons pe_str (pa_cons pe_str (pa_cons pe_str pa_nil)))))) (nomark _)) (pe_one (pe_ok0 h_law_row (hr.mono (by decide)) (by rfl) pass0)))))))))))))))))

end
end FDx
open PySem PySem.W PyProof.Rows
set_option maxHeartbeats 0 in
theorem PySem.Challenge.cw_firstdigits_k12_more_errors_holds : PySem.Challenge.rw_firstdigits_k12_more_errors.Holds := by
  w_on; o_law; k_head; (case hw => w_witness2)
  k_fill
  refine L2.walk_ofK (l := PySem.Challenge.rw_firstdigits_k12_more_errors) (n := 63) (k := 9) (x := "script") (CX := L2.CX0) (sp := FD.sp_law) rfl (by decide) rfl ⟨rfl, by decide, by decide⟩ (fun w h Y => PySem.W.kIn_of Y) ?F (fun K H a ns hl _ hS => FD.law_in K hl hS) (fun _ _ _ _ h => h)
  case F =>
    intro w mg fa h KX G hmg
    have R := FD.rowF_of (mg := mg) KX G (by k_is) (by k_is) (by k_is) (by k_is) (by k_is) (by k_is) (by k_is)
    have F_Row_number := FD.funM_of (m := "number") (qn := "Row.number") (st := FDx.s_Row_number) R (by k_is) (by k_is) (by k_is) (by k_is) (by k_is)
    have F_Row_undo := FD.funM_of (m := "undo") (qn := "Row.undo") (st := FDx.s_Row_undo) R (by k_is) (by k_is) (by k_is) (by k_is) (by k_is)
    have F_Row_len := FD.funM_of (m := "__len__") (qn := "Row.__len__") (st := FDx.s_Row_len) R (by k_is) (by k_is) (by k_is) (by k_is) (by k_is)
    have F_is_int := FD.funAt_of (x := "is_int") (st := FDx.s_is_int) KX G (by k_is) (by k_is) (by k_is) (by k_is)
    have F_ten_to := FD.funAt_of (x := "ten_to") (st := FDx.s_ten_to) KX G (by k_is) (by k_is) (by k_is) (by k_is)
    have F_crosses := FD.funAt_of (x := "crosses") (st := FDx.s_crosses) KX G (by k_is) (by k_is) (by k_is) (by k_is)
    have F_size_of := FD.funAt_of (x := "size_of") (st := FDx.s_size_of) KX G (by k_is) (by k_is) (by k_is) (by k_is)
    have F_first_of := FD.funAt_of (x := "first_of") (st := FDx.s_first_of) KX G (by k_is) (by k_is) (by k_is) (by k_is)
    have F_root_from := FD.funAt_of (x := "root_from") (st := FDx.s_root_from) KX G (by k_is) (by k_is) (by k_is) (by k_is)
    have F_powers_of := FD.funAt_of (x := "powers_of") (st := FDx.s_powers_of) KX G (by k_is) (by k_is) (by k_is) (by k_is)
    have F_first_of_stretch := FD.funAt_of (x := "first_of_stretch") (st := FDx.s_first_of_stretch) KX G (by k_is) (by k_is) (by k_is) (by k_is)
    have F_product_bounds := FD.funAt_of (x := "product_bounds") (st := FDx.s_product_bounds) KX G (by k_is) (by k_is) (by k_is) (by k_is)
    have F_parts_of := FD.funAt_of (x := "parts_of") (st := FDx.s_parts_of) KX G (by k_is) (by k_is) (by k_is) (by k_is)
    have F_law_start := FD.funAt_of (x := "_law_start") (st := FDx.s_law_start) KX G (by k_is) (by k_is) (by k_is) (by k_is)
    have F_law_draw := FD.funAt_of (x := "_law_draw") (st := FDx.s_law_draw) KX G (by k_is) (by k_is) (by k_is) (by k_is)
    have F_law_error := FD.funAt_of (x := "_law_error") (st := FDx.s_law_error) KX G (by k_is) (by k_is) (by k_is) (by k_is)
    have F_law_ten := FD.funAt_of (x := "_law_ten") (st := FDx.s_law_ten) KX G (by k_is) (by k_is) (by k_is) (by k_is)
    have F_is_number := FD.funAt_of (x := "is_number") (st := FDx.s_is_number) KX G (by k_is) (by k_is) (by k_is) (by k_is)
    have F_is_beginning := FD.funAt_of (x := "is_beginning") (st := FDx.s_is_beginning) KX G (by k_is) (by k_is) (by k_is) (by k_is)
    have F_check_count := FD.funAt_of (x := "check_count") (st := FDx.s_check_count) KX G (by k_is) (by k_is) (by k_is) (by k_is)
    have F_check_base := FD.funAt_of (x := "check_base") (st := FDx.s_check_base) KX G (by k_is) (by k_is) (by k_is) (by k_is)
    have F_scales := FD.funAt_of (x := "scales") (st := FDx.s_scales) KX G (by k_is) (by k_is) (by k_is) (by k_is)
    have F_begins_of := FD.funAt_of (x := "begins_of") (st := FDx.s_begins_of) KX G (by k_is) (by k_is) (by k_is) (by k_is)
    have F_stretch_of := FD.funAt_of (x := "stretch_of") (st := FDx.s_stretch_of) KX G (by k_is) (by k_is) (by k_is) (by k_is)
    have F_check_step := FD.funAt_of (x := "check_step") (st := FDx.s_check_step) KX G (by k_is) (by k_is) (by k_is) (by k_is)
    have F_text_of := FD.funAt_of (x := "text_of") (st := FDx.s_text_of) KX G (by k_is) (by k_is) (by k_is) (by k_is)
    have F_law_pick := FD.funAt_of (x := "_law_pick") (st := FDx.s_law_pick) KX G (by k_is) (by k_is) (by k_is) (by k_is)
    have F_Row_grown := FD.funM_of (m := "grown") (qn := "Row.grown") (st := FDx.s_Row_grown) R (by k_is) (by k_is) (by k_is) (by k_is) (by k_is)
    have F_Row_first_digits := FD.funM_of (m := "first_digits") (qn := "Row.first_digits") (st := FDx.s_Row_first_digits) R (by k_is) (by k_is) (by k_is) (by k_is) (by k_is)
    have F_check_number := FD.funAt_of (x := "check_number") (st := FDx.s_check_number) KX G (by k_is) (by k_is) (by k_is) (by k_is)
    have F_check_beginning := FD.funAt_of (x := "check_beginning") (st := FDx.s_check_beginning) KX G (by k_is) (by k_is) (by k_is) (by k_is)
    have F_meets := FD.funAt_of (x := "meets") (st := FDx.s_meets) KX G (by k_is) (by k_is) (by k_is) (by k_is)
    have F_all_meeting := FD.funAt_of (x := "all_meeting") (st := FDx.s_all_meeting) KX G (by k_is) (by k_is) (by k_is) (by k_is)
    have F_places_of := FD.funAt_of (x := "places_of") (st := FDx.s_places_of) KX G (by k_is) (by k_is) (by k_is) (by k_is)
    have F_digit_table := FD.funAt_of (x := "digit_table") (st := FDx.s_digit_table) KX G (by k_is) (by k_is) (by k_is) (by k_is)
    have F_never := FD.funAt_of (x := "never") (st := FDx.s_never) KX G (by k_is) (by k_is) (by k_is) (by k_is)
    have F_powers_with := FD.funAt_of (x := "powers_with") (st := FDx.s_powers_with) KX G (by k_is) (by k_is) (by k_is) (by k_is)
    have F_least_behind := FD.funAt_of (x := "least_behind") (st := FDx.s_least_behind) KX G (by k_is) (by k_is) (by k_is) (by k_is)
    have F_is_row := FD.funAt_of (x := "is_row") (st := FDx.s_is_row) KX G (by k_is) (by k_is) (by k_is) (by k_is)
    have F_Row_init := FD.funI_of (qn := "Row.__init__") (st := FDx.s_Row_init) R (by k_is) (by k_is) (by k_is) (by k_is) (by k_is) (by k_is) (by k_is)
    have F_Row_multiply := FD.funM_of (m := "multiply") (qn := "Row.multiply") (st := FDx.s_Row_multiply) R (by k_is) (by k_is) (by k_is) (by k_is) (by k_is)
    have F_Row_add := FD.funM_of (m := "add") (qn := "Row.add") (st := FDx.s_Row_add) R (by k_is) (by k_is) (by k_is) (by k_is) (by k_is)
    have F_first_digits := FD.funAt_of (x := "first_digits") (st := FDx.s_first_digits) KX G (by k_is) (by k_is) (by k_is) (by k_is)
    have F_longer := FD.funAt_of (x := "longer") (st := FDx.s_longer) KX G (by k_is) (by k_is) (by k_is) (by k_is)
    have F_stretch := FD.funAt_of (x := "stretch") (st := FDx.s_stretch) KX G (by k_is) (by k_is) (by k_is) (by k_is)
    have F_number_at := FD.funAt_of (x := "number_at") (st := FDx.s_number_at) KX G (by k_is) (by k_is) (by k_is) (by k_is)
    have F_squares := FD.funAt_of (x := "squares") (st := FDx.s_squares) KX G (by k_is) (by k_is) (by k_is) (by k_is)
    have F_roots := FD.funAt_of (x := "roots") (st := FDx.s_roots) KX G (by k_is) (by k_is) (by k_is) (by k_is)
    have F_roots_with := FD.funAt_of (x := "roots_with") (st := FDx.s_roots_with) KX G (by k_is) (by k_is) (by k_is) (by k_is)
    have F_check_all := FD.funAt_of (x := "check_all") (st := FDx.s_check_all) KX G (by k_is) (by k_is) (by k_is) (by k_is)
    have F_first_multiple := FD.funAt_of (x := "first_multiple") (st := FDx.s_first_multiple) KX G (by k_is) (by k_is) (by k_is) (by k_is)
    have F_multiple_places := FD.funAt_of (x := "multiple_places") (st := FDx.s_multiple_places) KX G (by k_is) (by k_is) (by k_is) (by k_is)
    have F_count_multiples := FD.funAt_of (x := "count_multiples") (st := FDx.s_count_multiples) KX G (by k_is) (by k_is) (by k_is) (by k_is)
    have F_products := FD.funAt_of (x := "products") (st := FDx.s_products) KX G (by k_is) (by k_is) (by k_is) (by k_is)
    have F_product_example := FD.funAt_of (x := "product_example") (st := FDx.s_product_example) KX G (by k_is) (by k_is) (by k_is) (by k_is)
    have F_sums := FD.funAt_of (x := "sums") (st := FDx.s_sums) KX G (by k_is) (by k_is) (by k_is) (by k_is)
    have F_quotients := FD.funAt_of (x := "quotients") (st := FDx.s_quotients) KX G (by k_is) (by k_is) (by k_is) (by k_is)
    have F_format_beginnings := FD.funAt_of (x := "format_beginnings") (st := FDx.s_format_beginnings) KX G (by k_is) (by k_is) (by k_is) (by k_is)
    have F_power_places := FD.funAt_of (x := "power_places") (st := FDx.s_power_places) KX G (by k_is) (by k_is) (by k_is) (by k_is)
    have F_first_power := FD.funAt_of (x := "first_power") (st := FDx.s_first_power) KX G (by k_is) (by k_is) (by k_is) (by k_is)
    have F_waits := FD.funAt_of (x := "waits") (st := FDx.s_waits) KX G (by k_is) (by k_is) (by k_is) (by k_is)
    have F_longest_wait := FD.funAt_of (x := "longest_wait") (st := FDx.s_longest_wait) KX G (by k_is) (by k_is) (by k_is) (by k_is)
    have F_law_powers := FD.funAt_of (x := "_law_powers") (st := FDx.s_law_powers) KX G (by k_is) (by k_is) (by k_is) (by k_is)
    have F_law_based := FD.funAt_of (x := "_law_based") (st := FDx.s_law_based) KX G (by k_is) (by k_is) (by k_is) (by k_is)
    have F_law_row := FD.funAt_of (x := "_law_row") (st := FDx.s_law_row) KX G (by k_is) (by k_is) (by k_is) (by k_is)
    have F_law_counted := FD.funAt_of (x := "_law_counted") (st := FDx.s_law_counted) KX G (by k_is) (by k_is) (by k_is) (by k_is)
    have F_law_asked := FD.funAt_of (x := "_law_asked") (st := FDx.s_law_asked) KX G (by k_is) (by k_is) (by k_is) (by k_is)
    have F_law := FD.funAt_of (x := "law") (st := FDx.s_law) KX G (by k_is) (by k_is) (by k_is) (by k_is)
    have g_MOST_DIGITS := PySem.W.mg_of (n := "MOST_DIGITS") KX G (by k_is)
    have g_MOST_POWER := PySem.W.mg_of (n := "MOST_POWER") KX G (by k_is)
    have bt : FD.Blt _ mg := ⟨PySem.W.mg_none_of KX G (by k_is), PySem.W.mg_none_of KX G (by k_is), PySem.W.mg_none_of KX G (by k_is), PySem.W.mg_none_of KX G (by k_is), PySem.W.mg_none_of KX G (by k_is), PySem.W.mg_none_of KX G (by k_is), PySem.W.mg_none_of KX G (by k_is), PySem.W.mg_none_of KX G (by k_is), PySem.W.mg_none_of KX G (by k_is), PySem.W.mg_none_of KX G (by k_is), PySem.W.mg_none_of KX G (by k_is), PySem.W.mg_none_of KX G (by k_is), PySem.W.mg_none_of KX G (by k_is), PySem.W.mg_none_of KX G (by k_is), PySem.W.mg_none_of KX G (by k_is), PySem.W.mg_none_of KX G (by k_is), PySem.W.mg_none_of KX G (by k_is), FD.dig_of KX (by k_is)⟩
    have T := FD.exT_of (mg := mg) KX G (by k_is) (by k_is) (by k_is) (by k_is) (by k_is) (by k_is) (PySem.W.mg_none_of KX G (by k_is)) ⟨by k_exc, by k_is, by k_is, by k_is, by k_is, by k_is, by k_is, ⟨by k_is, by k_is, by k_is, by k_is, by k_is, by k_is, by k_is, by k_is⟩⟩ ⟨by k_exc, by k_is, by k_is, by k_is, by k_is, by k_is, by k_is, ⟨by k_is, by k_is, by k_is, by k_is, by k_is, by k_is, by k_is, by k_is⟩⟩ ⟨by k_exc, by k_is, by k_is, by k_is, by k_is, by k_is, by k_is, ⟨by k_is, by k_is, by k_is, by k_is, by k_is, by k_is, by k_is, by k_is⟩⟩ ⟨by k_exc, by k_is, by k_is, by k_is, by k_is, by k_is, by k_is, ⟨by k_is, by k_is, by k_is, by k_is, by k_is, by k_is, by k_is, by k_is⟩⟩ ⟨by k_exc, by k_is, by k_is, by k_is, by k_is, by k_is, by k_is, ⟨by k_is, by k_is, by k_is, by k_is, by k_is, by k_is, by k_is, by k_is⟩⟩ (by k_is) (by k_is) (by k_is) (by first | rfl | k_is) (by first | rfl | k_is) (by first | rfl | k_is) (by first | rfl | k_is) (by first | rfl | k_is) (by first | rfl | k_is) (by first | rfl | k_is) (by first | rfl | k_is) (by first | rfl | k_is) (by first | rfl | k_is) (by first | rfl | k_is) (by first | rfl | k_is) (by first | rfl | k_is) (by first | rfl | k_is) (by first | rfl | k_is) (by first | rfl | k_is) (by first | rfl | k_is) (by first | rfl | k_is) (by first | rfl | k_is) (by first | rfl | k_is) (by first | rfl | k_is) (by first | rfl | k_is) (by first | rfl | k_is) (by first | rfl | k_is) (by first | rfl | k_is)
    refine FD.law_out F_law hmg (by intro _ _ _ _ _ _ us hl; match us, hl with | [_], _ => rfl) fun base => ?_
    have h_Row_number := FDx.ok_Row_number (P := (PySem.Challenge.rw_firstdigits_k12_more_errors).prog) (w := w) (base := base) bt R F_Row_number
    have hx_Row_undo := FDx.okx_Row_undo (P := (PySem.Challenge.rw_firstdigits_k12_more_errors).prog) (w := w) (base := base) bt T R F_Row_undo
    have h_Row_len := FDx.ok_Row_len (P := (PySem.Challenge.rw_firstdigits_k12_more_errors).prog) (w := w) (base := base) bt R F_Row_len
    have h_is_int := FDx.ok_is_int (P := (PySem.Challenge.rw_firstdigits_k12_more_errors).prog) (w := w) (base := base) bt F_is_int
    have hb_is_int := FDx.okb_is_int (P := (PySem.Challenge.rw_firstdigits_k12_more_errors).prog) (w := w) (base := base) bt T F_is_int
    have h_ten_to := FDx.ok_ten_to (P := (PySem.Challenge.rw_firstdigits_k12_more_errors).prog) (w := w) (base := base) bt F_ten_to
    have h_crosses := FDx.ok_crosses (P := (PySem.Challenge.rw_firstdigits_k12_more_errors).prog) (w := w) (base := base) bt F_crosses
    have h_size_of := FDx.ok_size_of (P := (PySem.Challenge.rw_firstdigits_k12_more_errors).prog) (w := w) (base := base) bt F_size_of
    have h_first_of := FDx.ok_first_of (P := (PySem.Challenge.rw_firstdigits_k12_more_errors).prog) (w := w) (base := base) bt F_first_of
    have h_root_from := FDx.ok_root_from (P := (PySem.Challenge.rw_firstdigits_k12_more_errors).prog) (w := w) (base := base) bt F_root_from
    have h_powers_of := FDx.ok_powers_of (P := (PySem.Challenge.rw_firstdigits_k12_more_errors).prog) (w := w) (base := base) bt F_powers_of
    have h_first_of_stretch := FDx.ok_first_of_stretch (P := (PySem.Challenge.rw_firstdigits_k12_more_errors).prog) (w := w) (base := base) bt F_first_of_stretch
    have h_product_bounds := FDx.ok_product_bounds (P := (PySem.Challenge.rw_firstdigits_k12_more_errors).prog) (w := w) (base := base) bt F_product_bounds
    have h_parts_of := FDx.ok_parts_of (P := (PySem.Challenge.rw_firstdigits_k12_more_errors).prog) (w := w) (base := base) bt F_parts_of
    have h_law_start := FDx.ok_law_start (P := (PySem.Challenge.rw_firstdigits_k12_more_errors).prog) (w := w) (base := base) bt F_law_start
    have h_law_draw := FDx.ok_law_draw (P := (PySem.Challenge.rw_firstdigits_k12_more_errors).prog) (w := w) (base := base) bt F_law_draw
    have h_law_error := FDx.ok_law_error (P := (PySem.Challenge.rw_firstdigits_k12_more_errors).prog) (w := w) (base := base) bt T F_law_error
    have hq_law_error := FDx.okq_law_error (P := (PySem.Challenge.rw_firstdigits_k12_more_errors).prog) (w := w) (base := base) bt T F_law_error
    have h_law_ten := FDx.ok_law_ten (P := (PySem.Challenge.rw_firstdigits_k12_more_errors).prog) (w := w) (base := base) bt F_law_ten
    have h_is_number := FDx.ok_is_number (P := (PySem.Challenge.rw_firstdigits_k12_more_errors).prog) (w := w) (base := base) bt F_is_number g_MOST_DIGITS h_is_int h_ten_to
    have hb_is_number := FDx.okb_is_number (P := (PySem.Challenge.rw_firstdigits_k12_more_errors).prog) (w := w) (base := base) bt T F_is_number g_MOST_DIGITS hb_is_int h_ten_to
    have hb_is_beginning := FDx.okb_is_beginning (P := (PySem.Challenge.rw_firstdigits_k12_more_errors).prog) (w := w) (base := base) bt T F_is_beginning hb_is_int
    have hb_check_count := FDx.okb_check_count (P := (PySem.Challenge.rw_firstdigits_k12_more_errors).prog) (w := w) (base := base) bt T F_check_count hb_is_int
    have hb_check_base := FDx.okb_check_base (P := (PySem.Challenge.rw_firstdigits_k12_more_errors).prog) (w := w) (base := base) bt T F_check_base hb_is_int
    have h_scales := FDx.ok_scales (P := (PySem.Challenge.rw_firstdigits_k12_more_errors).prog) (w := w) (base := base) bt F_scales h_ten_to
    have h_begins_of := FDx.ok_begins_of (P := (PySem.Challenge.rw_firstdigits_k12_more_errors).prog) (w := w) (base := base) bt F_begins_of h_size_of
    have h_stretch_of := FDx.ok_stretch_of (P := (PySem.Challenge.rw_firstdigits_k12_more_errors).prog) (w := w) (base := base) bt F_stretch_of h_size_of h_ten_to
    have hb_check_step := FDx.okb_check_step (P := (PySem.Challenge.rw_firstdigits_k12_more_errors).prog) (w := w) (base := base) bt T F_check_step hb_is_int
    have h_text_of := FDx.ok_text_of (P := (PySem.Challenge.rw_firstdigits_k12_more_errors).prog) (w := w) (base := base) bt F_text_of h_parts_of
    have h_law_pick := FDx.ok_law_pick (P := (PySem.Challenge.rw_firstdigits_k12_more_errors).prog) (w := w) (base := base) bt F_law_pick h_law_draw
    have hx_Row_grown := FDx.okx_Row_grown (P := (PySem.Challenge.rw_firstdigits_k12_more_errors).prog) (w := w) (base := base) bt T R F_Row_grown h_is_number
    have hb_Row_first_digits := FDx.okb_Row_first_digits (P := (PySem.Challenge.rw_firstdigits_k12_more_errors).prog) (w := w) (base := base) bt T R F_Row_first_digits hb_check_count h_first_of
    have hb_check_number := FDx.okb_check_number (P := (PySem.Challenge.rw_firstdigits_k12_more_errors).prog) (w := w) (base := base) bt T F_check_number hb_is_number
    have hb_check_beginning := FDx.okb_check_beginning (P := (PySem.Challenge.rw_firstdigits_k12_more_errors).prog) (w := w) (base := base) bt T F_check_beginning hb_is_beginning
    have h_meets := FDx.ok_meets (P := (PySem.Challenge.rw_firstdigits_k12_more_errors).prog) (w := w) (base := base) bt F_meets h_crosses h_scales
    have h_all_meeting := FDx.ok_all_meeting (P := (PySem.Challenge.rw_firstdigits_k12_more_errors).prog) (w := w) (base := base) bt F_all_meeting h_crosses h_scales h_ten_to
    have h_places_of := FDx.ok_places_of (P := (PySem.Challenge.rw_firstdigits_k12_more_errors).prog) (w := w) (base := base) bt F_places_of h_begins_of h_powers_of
    have hb_digit_table := FDx.okb_digit_table (P := (PySem.Challenge.rw_firstdigits_k12_more_errors).prog) (w := w) (base := base) bt T F_digit_table g_MOST_POWER hb_check_base hb_check_count h_first_of h_powers_of
    have hb_never := FDx.okb_never (P := (PySem.Challenge.rw_firstdigits_k12_more_errors).prog) (w := w) (base := base) bt T F_never g_MOST_POWER hb_check_base hb_check_count h_first_of h_powers_of h_size_of h_ten_to
    have hb_powers_with := FDx.okb_powers_with (P := (PySem.Challenge.rw_firstdigits_k12_more_errors).prog) (w := w) (base := base) bt T F_powers_with g_MOST_POWER hb_check_base hb_check_count h_powers_of h_size_of
    have h_least_behind := FDx.ok_least_behind (P := (PySem.Challenge.rw_firstdigits_k12_more_errors).prog) (w := w) (base := base) bt F_least_behind h_begins_of h_size_of h_ten_to
    have hb_is_row := FDx.okb_is_row (P := (PySem.Challenge.rw_firstdigits_k12_more_errors).prog) (w := w) (base := base) bt T F_is_row hb_is_beginning
    have hb_Row_init := FDx.okb_Row_init (P := (PySem.Challenge.rw_firstdigits_k12_more_errors).prog) (w := w) (base := base) bt T R F_Row_init hb_check_number
    have hb_Row_multiply := FDx.okb_Row_multiply (P := (PySem.Challenge.rw_firstdigits_k12_more_errors).prog) (w := w) (base := base) bt T R F_Row_multiply hx_Row_grown hb_check_base
    have hb_Row_add := FDx.okb_Row_add (P := (PySem.Challenge.rw_firstdigits_k12_more_errors).prog) (w := w) (base := base) bt T R F_Row_add hx_Row_grown hb_check_number
    have hb_first_digits := FDx.okb_first_digits (P := (PySem.Challenge.rw_firstdigits_k12_more_errors).prog) (w := w) (base := base) bt T F_first_digits hb_check_count hb_check_number h_first_of
    have hb_longer := FDx.okb_longer (P := (PySem.Challenge.rw_firstdigits_k12_more_errors).prog) (w := w) (base := base) bt T F_longer hb_check_beginning hb_check_count h_size_of h_ten_to
    have hb_stretch := FDx.okb_stretch (P := (PySem.Challenge.rw_firstdigits_k12_more_errors).prog) (w := w) (base := base) bt T F_stretch g_MOST_DIGITS hb_check_beginning hb_check_count h_size_of h_stretch_of
    have hb_number_at := FDx.okb_number_at (P := (PySem.Challenge.rw_firstdigits_k12_more_errors).prog) (w := w) (base := base) bt T F_number_at hb_check_beginning hb_check_count h_ten_to
    have hb_squares := FDx.okb_squares (P := (PySem.Challenge.rw_firstdigits_k12_more_errors).prog) (w := w) (base := base) bt T F_squares h_all_meeting hb_check_beginning hb_check_count
    have hb_roots := FDx.okb_roots (P := (PySem.Challenge.rw_firstdigits_k12_more_errors).prog) (w := w) (base := base) bt T F_roots hb_check_beginning hb_check_count h_crosses h_scales h_ten_to
    have hb_roots_with := FDx.okb_roots_with (P := (PySem.Challenge.rw_firstdigits_k12_more_errors).prog) (w := w) (base := base) bt T F_roots_with hb_check_beginning hb_check_count h_root_from h_stretch_of
    have hb_check_all := FDx.okb_check_all (P := (PySem.Challenge.rw_firstdigits_k12_more_errors).prog) (w := w) (base := base) bt T F_check_all g_MOST_POWER hb_check_base hb_check_beginning hb_check_count
    have hb_first_multiple := FDx.okb_first_multiple (P := (PySem.Challenge.rw_firstdigits_k12_more_errors).prog) (w := w) (base := base) bt T F_first_multiple hb_check_beginning hb_check_step h_first_of_stretch h_size_of h_stretch_of
    have hb_multiple_places := FDx.okb_multiple_places (P := (PySem.Challenge.rw_firstdigits_k12_more_errors).prog) (w := w) (base := base) bt T F_multiple_places h_begins_of hb_check_beginning hb_check_count hb_check_step
    have hb_count_multiples := FDx.okb_count_multiples (P := (PySem.Challenge.rw_firstdigits_k12_more_errors).prog) (w := w) (base := base) bt T F_count_multiples hb_check_beginning hb_check_count hb_check_step h_size_of h_stretch_of
    have hb_products := FDx.okb_products (P := (PySem.Challenge.rw_firstdigits_k12_more_errors).prog) (w := w) (base := base) bt T F_products h_all_meeting hb_check_beginning hb_check_count h_product_bounds
    have hb_product_example := FDx.okb_product_example (P := (PySem.Challenge.rw_firstdigits_k12_more_errors).prog) (w := w) (base := base) bt T F_product_example hb_check_beginning h_least_behind h_meets h_product_bounds h_ten_to
    have hb_sums := FDx.okb_sums (P := (PySem.Challenge.rw_firstdigits_k12_more_errors).prog) (w := w) (base := base) bt T F_sums h_all_meeting hb_check_beginning hb_check_count h_size_of h_ten_to
    have hb_quotients := FDx.okb_quotients (P := (PySem.Challenge.rw_firstdigits_k12_more_errors).prog) (w := w) (base := base) bt T F_quotients h_all_meeting hb_check_beginning hb_check_count
    have hb_format_beginnings := FDx.okb_format_beginnings (P := (PySem.Challenge.rw_firstdigits_k12_more_errors).prog) (w := w) (base := base) bt T F_format_beginnings hb_is_row h_text_of
    have hb_power_places := FDx.okb_power_places (P := (PySem.Challenge.rw_firstdigits_k12_more_errors).prog) (w := w) (base := base) bt T F_power_places hb_check_all h_places_of
    have hb_first_power := FDx.okb_first_power (P := (PySem.Challenge.rw_firstdigits_k12_more_errors).prog) (w := w) (base := base) bt T F_first_power hb_check_all h_places_of
    have hb_waits := FDx.okb_waits (P := (PySem.Challenge.rw_firstdigits_k12_more_errors).prog) (w := w) (base := base) bt T F_waits hb_check_all h_places_of
    have hb_longest_wait := FDx.okb_longest_wait (P := (PySem.Challenge.rw_firstdigits_k12_more_errors).prog) (w := w) (base := base) bt T F_longest_wait hb_check_all h_places_of
    have hx_law_powers := FDx.okx_law_powers (P := (PySem.Challenge.rw_firstdigits_k12_more_errors).prog) (w := w) (base := base) bt T F_law_powers hb_digit_table hb_first_power hb_multiple_places hb_never hb_number_at hb_power_places hb_powers_with hb_waits
    have hx_law_based := FDx.okx_law_based (P := (PySem.Challenge.rw_firstdigits_k12_more_errors).prog) (w := w) (base := base) bt T R F_law_based hb_Row_init hb_Row_multiply hb_count_multiples hb_digit_table hb_first_multiple hb_first_power hb_longest_wait hb_multiple_places hb_never hb_power_places hb_powers_with hb_waits
    have h_law_row := FDx.ok_law_row (P := (PySem.Challenge.rw_firstdigits_k12_more_errors).prog) (w := w) (base := base) bt T R F_law_row hb_Row_init h_Row_len hb_Row_add hb_Row_multiply h_Row_number hx_Row_undo hq_law_error h_law_ten
    have hx_law_counted := FDx.okx_law_counted (P := (PySem.Challenge.rw_firstdigits_k12_more_errors).prog) (w := w) (base := base) bt T R F_law_counted hb_Row_init hb_Row_first_digits hx_law_powers hb_count_multiples hb_first_digits hb_longer hb_never hb_products hb_quotients hb_roots hb_roots_with hb_squares hb_stretch hb_sums
    have h_law_asked := FDx.ok_law_asked (P := (PySem.Challenge.rw_firstdigits_k12_more_errors).prog) (w := w) (base := base) bt T F_law_asked hx_law_based hx_law_counted h_law_error hb_format_beginnings hb_longest_wait hb_product_example hb_roots_with hb_stretch
    have h_law := FDx.ok_law (P := (PySem.Challenge.rw_firstdigits_k12_more_errors).prog) (w := w) (base := base) bt F_law h_law_asked h_law_pick h_law_row h_law_start
    exact h_law

