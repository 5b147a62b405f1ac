import PyProof.Rows.All
import Wide.All
import OpenK.AllK
import Wide.FinOn
import KE.KStateDown
import HandS.ForMost
import HandS.ForExc
import HandS.More
import HandS.Wide
import HandS.IsInst
import HandS.ExcIs
import HandS.FStr
import HandS.Defaults
import HandS.TupAny
import HandS.TupLe
import HandS.Deep
import HandS.Flow
import HandS.Walk
import HandS.Head0
import HandS.Head1
import HandS.Head2
import HandS.HeadEnd
import HandS.HeadHook1
import HandS.HeadHook2
import HandS.HeadNt
import HandS.ExcField
import KE.KExcSuper
import HandS.SlotsOwn
import KE.KOpsOwn
import HandS.Star
import HandS.DictComp
import HandS.Conv
import HandS.HeadHook3
import HandS.WrittenGet
import HandS.Style
import KE.KExcIs
import KE.KEqDict
import HandS.Zip
import KE.KDictCopyH
import HandS.HotCalls
import HandS.SuiteRaise
import KE.KDictZip
import KE.KDictItemsList
import HandS.ListItems
import HandS.DictTup
import KE.GoesEnum
import HandS.TupSets
import HandS.TupAny
import HandS.SortInts
import Wide.All
import OpenK.AllK
import Wide.FinOn
import KE.KDictKeyed
import KE.KDictWalk
import KE.KDictList
import HandS.TupMul
import PySem.Challenge.RW_endlessasks_k10_whole_tables_as_sets
set_option Elab.async false
set_option linter.all false
set_option maxRecDepth 100000
namespace EL
/-- the greatest common divisor, as the loop leaves it -/
def cd (a b : Int) : Int := ((Nat.gcd a.natAbs b.natAbs : Nat) : Int)
def nrm (t b : Int) : Int × Int := if b < 0 then ((-t) / cd (-t) (-b), (-b) / cd (-t) (-b)) else (t / cd t b, b / cd t b)
theorem cd_pos {a b : Int} (h : b ≠ 0) : 0 < cd a b := by
  unfold cd
  have := Nat.gcd_pos_of_pos_right a.natAbs (n := b.natAbs) (by omega)
  omega
theorem cd_dvd_l (a b : Int) : cd a b ∣ a := by
  unfold cd
  exact Int.ofNat_dvd_left.mpr (Nat.gcd_dvd_left _ _)
theorem cd_dvd_r (a b : Int) : cd a b ∣ b := by
  unfold cd
  exact Int.ofNat_dvd_left.mpr (Nat.gcd_dvd_right _ _)
theorem cd_neg_l (a b : Int) : cd (-a) b = cd a b := by unfold cd; rw [Int.natAbs_neg]
theorem cd_neg_r (a b : Int) : cd a (-b) = cd a b := by unfold cd; rw [Int.natAbs_neg]
/-- a value in lowest terms -/
def Low (a b : Int) : Prop := 0 < b ∧ cd a b = 1
theorem cd_div {a b : Int} (hb : b ≠ 0) : cd (a / cd a b) (b / cd a b) = 1 := by
  have hp := cd_pos (a := a) hb
  have e : ∀ x : Int, cd a b ∣ x → (x / cd a b).natAbs = x.natAbs / Nat.gcd a.natAbs b.natAbs := fun x hx => by
    rw [Int.natAbs_ediv_of_dvd hx]
    rfl
  show ((Nat.gcd (a / cd a b).natAbs (b / cd a b).natAbs : Nat) : Int) = 1
  rw [e a (cd_dvd_l a b), e b (cd_dvd_r a b), Nat.gcd_div (Nat.gcd_dvd_left _ _) (Nat.gcd_dvd_right _ _), Nat.div_self (Nat.gcd_pos_of_pos_right _ (by omega))]
  rfl
theorem nrm_low {t b : Int} (hb : b ≠ 0) : Low (nrm t b).1 (nrm t b).2 := by
  unfold nrm
  by_cases h : b < 0
  · rw [if_pos h]
    have hp := cd_pos (a := -t) (b := -b) (by omega)
    refine ⟨?_, cd_div (by omega)⟩
    exact Int.ediv_pos_of_pos_of_dvd (by omega) (Int.le_of_lt hp) (cd_dvd_r _ _)
  · rw [if_neg h]
    have hp := cd_pos (a := t) (b := b) hb
    refine ⟨?_, cd_div hb⟩
    exact Int.ediv_pos_of_pos_of_dvd (by omega) (Int.le_of_lt hp) (cd_dvd_r _ _)
theorem nrm_eq {t b : Int} (hb : b ≠ 0) : (nrm t b).1 * b = t * (nrm t b).2 := by
  unfold nrm
  by_cases h : b < 0
  · rw [if_pos h]
    have hp := cd_pos (a := -t) (b := -b) (by omega)
    obtain ⟨u, hu⟩ := cd_dvd_l (-t) (-b)
    obtain ⟨v, hv⟩ := cd_dvd_r (-t) (-b)
    generalize cd (-t) (-b) = g at *
    have e1 : -t / g = u := by rw [hu, Int.mul_ediv_cancel_left _ (by omega)]
    have e2 : -b / g = v := by rw [hv, Int.mul_ediv_cancel_left _ (by omega)]
    show -t / g * b = t * (-b / g)
    rw [e1, e2]
    have ht : t = -(g * u) := by omega
    have hb' : b = -(g * v) := by omega
    rw [ht, hb', Int.mul_neg, Int.neg_mul, Int.mul_left_comm, Int.mul_comm g u, Int.mul_assoc, Int.mul_left_comm u g v]
  · rw [if_neg h]
    have hp := cd_pos (a := t) (b := b) hb
    obtain ⟨u, hu⟩ := cd_dvd_l t b
    obtain ⟨v, hv⟩ := cd_dvd_r t b
    generalize cd t b = g at *
    have e1 : t / g = u := by rw [hu, Int.mul_ediv_cancel_left _ (by omega)]
    have e2 : b / g = v := by rw [hv, Int.mul_ediv_cancel_left _ (by omega)]
    show t / g * b = t * (b / g)
    rw [e1, e2, hu, hv, Int.mul_left_comm, Int.mul_assoc]
/-- two values in lowest terms that stand for one fraction are one -/
theorem low_unique {a b c d : Int} (h1 : Low a b) (h2 : Low c d) (h : a * d = c * b) : a = c ∧ b = d := by
  obtain ⟨hb, g1⟩ := h1
  obtain ⟨hd, g2⟩ := h2
  have c1 : Nat.gcd a.natAbs b.natAbs = 1 := by unfold cd at g1; omega
  have c2 : Nat.gcd c.natAbs d.natAbs = 1 := by unfold cd at g2; omega
  have hn : a.natAbs * d.natAbs = c.natAbs * b.natAbs := by rw [← Int.natAbs_mul, ← Int.natAbs_mul, h]
  have d1 : b.natAbs ∣ d.natAbs := by
    have : b.natAbs ∣ a.natAbs * d.natAbs := by rw [hn]; exact Nat.dvd_mul_left _ _
    exact (Nat.Coprime.symm (show Nat.Coprime a.natAbs b.natAbs from c1)).dvd_of_dvd_mul_left this
  have d2 : d.natAbs ∣ b.natAbs := by
    have : d.natAbs ∣ c.natAbs * b.natAbs := by rw [← hn]; exact Nat.dvd_mul_left _ _
    exact (Nat.Coprime.symm (show Nat.Coprime c.natAbs d.natAbs from c2)).dvd_of_dvd_mul_left this
  have e : b = d := by
    have := Nat.dvd_antisymm d1 d2
    omega
  subst e
  exact ⟨Int.eq_of_mul_eq_mul_right (by omega) h, rfl⟩
theorem nrm_scale {t b f : Int} (hb : b ≠ 0) (hf : f ≠ 0) : nrm (t * f) (b * f) = nrm t b := by
  have hbf : b * f ≠ 0 := Int.mul_ne_zero hb hf
  have l1 := nrm_low (t := t * f) hbf
  have l2 := nrm_low (t := t) hb
  have e1 := nrm_eq (t := t * f) hbf
  have e2 := nrm_eq (t := t) hb
  have u := low_unique l1 l2 (by
    generalize (nrm (t * f) (b * f)).1 = p at *
    generalize (nrm (t * f) (b * f)).2 = q at *
    generalize (nrm t b).1 = r at *
    generalize (nrm t b).2 = s at *
    -- p * (b f) = (t f) q ; r b = t s ; want p s = r q
    have hbf2 : p * b = t * q := by
      refine Int.eq_of_mul_eq_mul_right hf ?_
      rw [Int.mul_assoc, e1, Int.mul_assoc, Int.mul_comm f q, Int.mul_assoc]
    refine Int.eq_of_mul_eq_mul_right hb ?_
    calc p * s * b = (p * b) * s := by rw [Int.mul_assoc, Int.mul_comm s b, Int.mul_assoc]
      _ = (t * q) * s := by rw [hbf2]
      _ = (t * s) * q := by rw [Int.mul_assoc, Int.mul_comm q s, Int.mul_assoc]
      _ = r * b * q := by rw [e2]
      _ = r * q * b := by rw [Int.mul_assoc, Int.mul_comm b q, Int.mul_assoc])
  exact Prod.ext u.1 u.2
theorem nrm_one (t : Int) : nrm t 1 = (t, 1) := by
  have e : cd t 1 = 1 := by unfold cd; simp
  unfold nrm
  rw [if_neg (by omega), e]
  simp
end EL
namespace EL
open PySem PySem.Spec PyProof.Rows L2 He
/-! ### a def by its name -/
structure Dn (P : Program) (w : World) (K : PySem.W.Frag) (mg : Str → Option Value) (base : Heap) (CX : CXT) (k : Nat) (x : Str) (sp : Sp) : Prop where
  g : mg x = some (.ref (ga K x))
  kp : PySem.W.keepIn K (.ref (ga K x)) = true
  r : FnR P w K mg base CX k (ga K x) sp
section
variable {X : Cx} {CX : CXT} {k : Nat} {f : Addr} {sp : Sp} {E : L2.St → XK} {x : Str} {p pos : Pos} {e : Expr} {es : List Expr} {t : TA}
theorem run_fnRS {pins : List (Addr × Obj)} {σ : L2.St} {H : Hp} {s : Shared} {Q : VK} {us : List Value} {vs : List V} (F : FnR X.prog X.w X.K X.mg X.base CX k f sp) (hr : Room k X.A) (hx : PassesAt CX X σ (E σ))
    (I : Inv X pins σ H s) (r : Vals vs us) (h : sp vs H Q (E σ)) : wpAny (model X.prog X.w) X.A (call (.ref f) us) (EP X pins σ Q) X.xe s := by
  refine wpAny_call (codeAny_mono (F X.A X.stack s H us vs Q (E σ) hr I.env0 r h) fun r s' hq => ?_)
  cases r with
  | error e => exact hx pins H s e s' I hq
  | ok fl =>
    cases fl with
    | ret u => exact I.after hq
    | next => exact False.elim hq
    | brk => exact False.elim hq
    | cont => exact False.elim hq
theorem pe_fn (F : FnR X.prog X.w X.K X.mg X.base CX k f sp) (hr : Room k X.A) (hg : Gl X x) (hm : X.mg x = some (.ref f)) (hk : PySem.W.keepIn X.K (.ref f) = true) (hx : ∀ σ, PassesAt CX X σ (E σ))
    (ha : PA X (e :: es) t) (hdb : (x == ("__debug__" : Str)) = false := by decide) (he : starEach (e :: es) X.env = (false, eval e X.env) :: starEach es X.env := by rfl) (hpl : (backTo pos (starEach es X.env)).any (·.1) = false := by rfl) :
    PE X (.Call (.Name x p) (e :: es) [] pos) (tCallS sp E t) := by
  refine ⟨fun pins s σ H Q I h => ?_⟩
  refine wpAny_Call_Name_kw (ld_glob I hg hm ?_ hdb)
  refine PySem.W.callWith_K (h₀ := X.base) I.ok.mod.kin hk (thn (ha.run pos pins s σ H _ I h) fun us s1 ⟨vs, H1, I1, r, q⟩ => ⟨I1.kIn, ?_⟩) he hpl
  exact run_fnRS F hr (hx σ) I1 r q
/-- a call of a def that lets nothing out -/
theorem cl (D : Dn X.prog X.w X.K X.mg X.base CX0 k x sp) (hr : Room k X.A) (ha : PA X (e :: es) t) (hg : Gl X x := by rfl)
    (hdb : (x == ("__debug__" : Str)) = false := by decide) (he : starEach (e :: es) X.env = (false, eval e X.env) :: starEach es X.env := by rfl) (hpl : (backTo pos (starEach es X.env)).any (·.1) = false := by rfl) :
    PE X (.Call (.Name x p) (e :: es) [] pos) (tCallS sp (fun _ => E0) t) := pe_fn D.r hr hg D.g D.kp (fun _ _ _ _ _ _ _ h => h.elim) ha hdb he hpl
/-- a call of a def that may raise, where it raises nothing -/
theorem cl0 (D : Dn X.prog X.w X.K X.mg X.base (L2.CX X.prog X.w) k x sp) (hr : Room k X.A) (ha : PA X (e :: es) t) (hg : Gl X x := by rfl)
    (hdb : (x == ("__debug__" : Str)) = false := by decide) (he : starEach (e :: es) X.env = (false, eval e X.env) :: starEach es X.env := by rfl) (hpl : (backTo pos (starEach es X.env)).any (·.1) = false := by rfl) :
    PE X (.Call (.Name x p) (e :: es) [] pos) (tCallS sp (fun _ => E0) t) := pe_fn D.r hr hg D.g D.kp (fun σ pins H s e s' I h => passL pins σ H s e s' I h) ha hdb he hpl
/-- a call of a def that may raise -/
theorem clx {W : WX} (tk : Takes X W) (D : Dn X.prog X.w X.K X.mg X.base (L2.CX X.prog X.w) k x sp) (hr : Room k X.A) (ha : PA X (e :: es) t) (hg : Gl X x := by rfl)
    (hdb : (x == ("__debug__" : Str)) = false := by decide) (he : starEach (e :: es) X.env = (false, eval e X.env) :: starEach es X.env := by rfl) (hpl : (backTo pos (starEach es X.env)).any (·.1) = false := by rfl) :
    PE X (.Call (.Name x p) (e :: es) [] pos) (tCallS sp (WE W) t) := pe_fn D.r hr hg D.g D.kp (fun σ => passAt tk σ) ha hdb he hpl
/-- a module's name that holds a plain value -/
theorem pe_gv {v : V} {pos : Pos} (h : ∃ u, X.mg x = some u ∧ RelV v u) (hg : Gl X x := by rfl) (hd : (x == ("__debug__" : Str)) = false := by decide) : PE X (.Name x pos) (tC v) := by
  obtain ⟨u, h1, h2⟩ := h
  exact pe_glob hg h1 h2 hd
end
/-! ### own errors without an __init__ -/
structure XC (K : PySem.W.Frag) (mg : Str → Option Value) (x : Str) : Prop where
  g : mg x = some (.ref (ga K x))
  q : PySem.W.excIn K (ga K x) veBase "ValueError.__new__" = true
  k : PySem.W.keepIn K (.ref (ga K x)) = true
  b : PySem.W.subIn K (.ref (ga K x)) (.type "BaseException") = some true
  t : PySem.W.typeIn K (.ref (ga K x)) = some (.type "type")
/-- raise C('..') -/
theorem rs {X : Cx} {W : WX} {c m : Str} {j : Nat} {p p2 pos pos2 : Pos} (hc : X.calm = true) (tk : Takes X W) (x : XC X.K X.mg c) (hg : Gl X c) (hdb : (c == ("__debug__" : Str)) = false := by decide) :
    PS X (.Raise (some (.Call (.Name c p) [.Constant (.str m) j p2] [] pos)) none pos2) (fun _ σ H => W (.ref (ga X.K c)) none σ H) :=
  ps_raise hc tk (pmk_own PySem.F.excBase_ValueError x.q x.g x.k (raises_own x.b x.t) hg hdb)
/-! ### heaps -/
theorem same_upd {H : Hp} {p : Addr} {o : HO} (h : H p = none) : Same H (upd H p o) := fun b x e => by
  rw [upd_ne (ne_of_none e h)]
  exact e
theorem Same.seqT {K : PySem.W.Frag} {H H' : Hp} {a : Addr} {xs : List V} (e : Same H H') (h : SqT K H a xs) : SqT K H' a xs := by
  rcases h with (h | ⟨o, h⟩) | h
  · exact .inl (.inl (e _ _ h))
  · exact .inl (.inr ⟨o, e _ _ h⟩)
  · exact .inr h
/-- a new object: the heap behind is a letter -/
theorem newO {H : Hp} {o : HO} {Q : Addr → Hp → Prop} (h : ∀ p H', H p = none → Same H H' → H' p = some o → Q p H') : ∀ p, H p = none → Q p (upd H p o) := fun p hp => h p _ hp (same_upd hp) upd_same
theorem newV {H : Hp} {o : HO} {Q : V → Hp → Prop} (h : ∀ p H', H p = none → Same H H' → H' p = some o → Q (.ref p) H') : ∀ p, H p = none → Q (.ref p) (upd H p o) := fun p hp => h p _ hp (same_upd hp) upd_same
theorem ie {b : Bool} {A B : Prop} (h1 : b = true → A) (h2 : b = false → B) : if b = true then A else B := by
  cases b with
  | true => rw [if_pos rfl]; exact h1 rfl
  | false => rw [if_neg Bool.false_ne_true]; exact h2 rfl
theorem if_pos_of {b : Bool} {A B : Prop} (h : b = true) (a : A) : if b = true then A else B := by rw [if_pos h]; exact a
theorem if_neg_of {b : Bool} {A B : Prop} (h : b = false) (a : B) : if b = true then A else B := by rw [h, if_neg Bool.false_ne_true]; exact a
theorem small40 {n : Nat} (h : n ≤ 100000) : n ≤ sizeLine := Nat.le_trans h (by decide)
end EL
namespace EL
open PySem PySem.Spec PyProof.Rows L2 He
/-! ### the head: facts, defs and one more Bool -/
theorem xc_of {K : PySem.W.Frag} {mg : Str → Option Value} {x : Str} (g : mg x = some (.ref (ga K x))) (h : PySem.W.excIn K (ga K x) veBase "ValueError.__new__" = true ∧ PySem.W.keepIn K (.ref (ga K x)) = true ∧ PySem.W.subIn K (.ref (ga K x)) (.type "BaseException") = some true ∧
    PySem.W.typeIn K (.ref (ga K x)) = some (.type "type")) : XC K mg x := ⟨g, h.1, h.2.1, h.2.2.1, h.2.2.2⟩
theorem gv_int {mg : Str → Option Value} {x : Str} {i : Int} (h : ∃ t, mg x = some (.int i t)) : ∃ u, mg x = some u ∧ RelV (.int i) u := by
  obtain ⟨t, e⟩ := h
  exact ⟨_, e, t, rfl⟩
theorem gv_str {mg : Str → Option Value} {x z : Str} (h : ∃ t, mg x = some (.str z t)) : ∃ u, mg x = some u ∧ RelV (.str z) u := by
  obtain ⟨t, e⟩ := h
  exact ⟨_, e, t, rfl⟩
abbrev AlM : Type := AlD × Bool
def obsM (fa : List Fa) (fn : List DefD) (ex : PySem.W.Frag → Bool) (K : PySem.W.Frag) : AlM := (obsD fa fn K, ex K)
def obsMG (n : Nat) (fa : List Fa) (fn : List DefD) (ex : PySem.W.Frag → Bool) (g : Addr → Option Obj) : AlM := obsM fa fn ex (frG g (asD g n))
def valM (fn : List DefD) : AlM := (valD fn, true)
def hookM (n : Nat) (fa : List Fa) (fn : List DefD) (ex : PySem.W.Frag → Bool) : PySem.W.Hook where
  α := AlM
  obs := fun s => obsMG n fa fn ex s.heap.get?
  val := fun _ => valM fn
  says := fun _ h => ∃ K : PySem.W.Frag, K.In h ∧ SaysD fa fn K ∧ ex K = true
  of := fun _ _ e => ⟨_, frG_in, congrArg (fun z : AlM => z.1) e, congrArg (fun z : AlM => z.2) e⟩
  keeps := fun _ _ _ ⟨K, hK, c⟩ k => ⟨K, PySem.W.Frag.In.keeps hK k, c⟩
theorem obsMG_eq {n : Nat} {fa : List Fa} {fn : List DefD} {ex : PySem.W.Frag → Bool} {g : Addr → Option Obj} {s : Shared} (h : ∀ a, g a = s.heap.get? a) : obsMG n fa fn ex g = (hookM n fa fn ex).obs s := by
  have e : g = s.heap.get? := funext h
  rw [e] <;> rfl
end EL
namespace EL
open PySem PySem.Spec PyProof.Rows L2 He
/-! ### from a def's body to its Dn -/
section
variable {P : Program} {w : World} {K : PySem.W.Frag} {mg : Str → Option Value} {base : Heap} {CX : CXT} {k : Nat} {x : Str} {sp : Sp} {params : Arguments} {body : List Stmt} {scope : Scope} {dvs : List V} {fd : FuncData} {ps N : List Str}
theorem dnN (g : mg x = some (.ref (ga K x))) (F : FunD K x x params body scope [] [] (ga K x) fd)
    (hb : ∀ (kV doc pm : Value) (an : Option Addr) (cdv ct : Value) (us : List Value), us.length = ps.length → bindArgs (PySem.W.fnOf x x params body scope .none kV doc pm an cdv ct) ⟨us, []⟩ = pure (ps.zip us))
    (S : FnScope N ps scope) (len : ∀ vs H Q E, sp vs H Q E → vs.length = ps.length)
    (hbody : ∀ (cdv : Value) (A : Around) (outer : List Env) (s : Shared) (H : Hp) (vs : List V) (Q : VK) (E : XK), Room k (A.deeper (envOfC x scope s.heap.objs.size (ga K x) cdv)) → sp vs H Q E →
      ∃ t, PSs (cxOf CX P w K mg base N x scope (ga K x) cdv A outer s H E) body t ∧ t { nx := fun _ H' => Q .non H', rt := Q } (start N vs) H) : Dn P w K mg base CX (k + 1) x sp :=
  ⟨g, F.kp, ((F.ok S len hbody).raw (F.bindsN hb) .nil).imp fun vs H Q E h => by rw [List.append_nil]; exact h⟩
theorem Dn.mono {j : Nat} (D : Dn P w K mg base CX j x sp) (h : j ≤ k) : Dn P w K mg base CX k x sp := ⟨D.g, D.kp, D.r.mono h⟩
end
/-! ### data -/
inductive Kd where
  | non | bl | int | str | lst | tup | dct
  deriving DecidableEq
def kdN : Kd → String
  | .non => "NoneType"
  | .bl => "bool"
  | .int => "int"
  | .str => "str"
  | .lst => "list"
  | .tup => "tuple"
  | .dct => "dict"
def kd : PyData → Kd
  | .none => .non
  | .bool _ => .bl
  | .int _ => .int
  | .str _ => .str
  | .list _ => .lst
  | .tuple _ => .tup
  | .dict _ => .dct
def tyn (d : PyData) : String := kdN (kd d)
theorem SqL.ty {K : PySem.W.Frag} {H : Hp} {a : Addr} {xs : List V} (h : SqL K H a xs) : TyX K H (.ref a) (.type "list") := by
  rcases h with (h | ⟨o, h⟩) | ⟨o, its, n, h1, h2, _⟩
  · exact .base (.lst h)
  · exact .base (.frz h)
  · exact .kList h1 h2
theorem SqT.ty {K : PySem.W.Frag} {H : Hp} {a : Addr} {xs : List V} (h : SqT K H a xs) : TyX K H (.ref a) (.type "tuple") := by
  rcases h with (h | ⟨o, h⟩) | ⟨o, its, n, h1, h2, _⟩
  · exact .base (.tup h)
  · exact .fTuple h
  · exact .kTuple h1 h2
theorem Dp.ty {K : PySem.W.Frag} {H : Hp} {v : V} {d : PyData} (h : Dp K H v d) : TyX K H v (.type (tyn d)) := by
  cases h with
  | non => exact .base .non
  | bl b => exact .base (.bl b)
  | int i => exact .base (.int i)
  | str x => exact .base (.str x)
  | lst h _ => exact SqL.ty h
  | tup h _ => exact SqT.ty h
mutual
theorem Dp.same {K : PySem.W.Frag} {H H' : Hp} (s : Same H H') : ∀ {d : PyData} {v : V}, Dp K H v d → Dp K H' v d
  | _, _, .non => .non
  | _, _, .bl b => .bl b
  | _, _, .int i => .int i
  | _, _, .str x => .str x
  | _, _, .lst h a => .lst (s.seq h) (DpAll.same s a)
  | _, _, .tup h a => .tup (Same.seqT s h) (DpAll.same s a)
theorem DpAll.same {K : PySem.W.Frag} {H H' : Hp} (s : Same H H') : ∀ {ds : List PyData} {vs : List V}, DpAll K H vs ds → DpAll K H' vs ds
  | _, _, .nil => .nil
  | _, _, .cons a b => .cons (Dp.same s a) (DpAll.same s b)
end
theorem DpAll.length {K : PySem.W.Frag} {H : Hp} : ∀ {ds : List PyData} {vs : List V}, DpAll K H vs ds → vs.length = ds.length
  | _, _, .nil => rfl
  | _, _, .cons _ b => congrArg Nat.succ (DpAll.length b)
/-- isinstance's answers of data -/
def kIs (T k : Kd) : Bool := decide (k = T) || (decide (T = .int) && decide (k = .bl))
def isTy (T : Kd) (d : PyData) : Bool := kIs T (kd d)
theorem kit_k : ∀ T k : Kd, kitB (kdN k) (kdN T) = some (kIs T k) := by
  intro T k
  cases T <;> cases k <;> decide +kernel
theorem kit_d (K : PySem.W.Frag) (T : Kd) (d : PyData) : PySem.W.kitOne K (.type (tyn d)) (.type (kdN T)) = some (isTy T d) := kit_ty (kit_k T (kd d))
/-- a thing: data, or some object that is none of the five -/
inductive Th where
  | d (d : PyData)
  | o
def ThOk (K : PySem.W.Frag) (H : Hp) (v : V) : Th → Prop
  | .d d => Dp K H v d
  | .o => ∃ t, TyX K H v t ∧ ∀ T : Kd, PySem.W.kitOne K t (.type (kdN T)) = some false
def Th.is (T : Kd) : Th → Bool
  | Th.d x => isTy T x
  | Th.o => false
/-- its type and isinstance's answers -/
theorem ThOk.ty {K : PySem.W.Frag} {H : Hp} {v : V} {th : Th} (h : ThOk K H v th) : ∃ t, TyX K H v t ∧ ∀ T : Kd, PySem.W.kitOne K t (.type (kdN T)) = some (th.is T) := by
  cases th with
  | d d => exact ⟨_, Dp.ty h, fun T => kit_d K T d⟩
  | o => exact h
def isWholeT (th : Th) : Bool := th.is .int && !th.is .bl
def isWholeD : PyData → Bool
  | .int _ => true
  | _ => false
theorem isWholeT_d (d : PyData) : isWholeT (.d d) = isWholeD d := by cases d <;> rfl
def isValD : PyData → Bool
  | .tuple [.int a, .int b] => !decide (b < 1) && decide (cd a b = 1)
  | _ => false
def isValT : Th → Bool
  | Th.d x => isValD x
  | Th.o => false
end EL
namespace EL
open PySem PySem.Spec PyProof.Rows L2 He TL
/-! ### keywords alone -/
section
variable {K : PySem.W.Frag} {x qual : Str} {params : Arguments} {body : List Stmt} {scope : Scope} {dvs : List V} {kws : List (Str × V)} {f : Addr} {fd : FuncData} {ps : List Str}
theorem kbinds1 (F : FunD K x qual params body scope dvs kws f fd) (n : Nat) (ks : List Str) (g : {α : Type} → List α → List α → List α → List α) (hd : dvs ≠ [])
    (hrel : ∀ {vs ds zs : List V} {us its ws : List Value}, Vals vs us → Vals ds its → Vals zs ws → Vals (g vs ds zs) (g us its ws))
    (h : ∀ (T : Addr) (kV doc pm : Value) (an : Option Addr) (cdv ct : Value) (us its ws : List Value), us.length = n → its.length = dvs.length → ws.length = ks.length →
      ∃ k, bindArgs (PySem.W.fnOf x qual params body scope (.ref T) kV doc pm an cdv ct) ⟨us, ks.zip ws⟩ = seqItems? (.ref T) >>= k ∧ k (some its.toArray) = pure (ps.zip (g us its ws))) :
    ∃ its : List Value, KBn K fd ps n ks (fun us ws => g us its ws) (fun vs zs => g vs dvs zs) := by
  obtain ⟨oc, od, dV, kV, doc, pm, an, cdv, ct, osl, rfl, lk, hcd, hD, hK⟩ := F.ex
  rcases hD with ⟨e, _⟩ | ⟨_, T, o, its, m, rfl, lT, oT, rT⟩
  · exact absurd e hd
  · refine ⟨its, ⟨fun s us ws X h1 h2 => ?_, fun r rz => hrel r rT rz⟩⟩
    obtain ⟨k, e1, e2⟩ := h T kV doc pm an cdv ct us its ws h1 rT.length.symm h2
    refine BindsTo.of_looks fun M => ?_
    rw [e1]
    exact looks_items X lT oT (.of_pure e2)
end
section
variable {X : Cx} {CX : CXT} {k : Nat} {f : Addr} {fd : FuncData} {ps ks : List Str} {sp : Sp} {E : XK} {x : Str} {p pos : Pos} {kws : List Keyword} {tk : TA} {g : List Value → List Value → List Value} {gV : List V → List V → List V}
/-- f(k = v, ..) -/
theorem pe_callN0 (F : FnOk X.prog X.w X.K X.mg X.base CX k f fd ps sp) (hr : Room k X.A) (hg : Gl X x) (hm : X.mg x = some (.ref f)) (hk : PySem.W.keepIn X.K (.ref f) = true) (hb : KBn X.K fd ps 0 ks g gV) (hx : Passes CX X E)
    (hkw : PK X kws tk) (hall : (backToKw pos (keywordEach kws X.env)).all (·.1.isSome) = true := by rfl) (hks : (backToKw pos (keywordEach kws X.env)).filterMap (·.1) = ks := by rfl)
    (hdb : (x == ("__debug__" : Str)) = false := by decide) (hpl : ((backTo pos (starEach [] X.env)).any (·.1) || (backToKw pos (keywordEach kws X.env)).any (·.1.isNone)) = false := by rfl) :
    PE X (.Call (.Name x p) [] kws pos) (tCallN 0 ks.length sp gV E tNil tk) := by
  refine ⟨fun pins s σ H Q I h => ?_⟩
  refine wpAny_Call_Name_kw (ld_glob I hg hm ?_ hdb)
  refine PySem.W.callWith_KW0 (h₀ := X.base) I.ok.mod.kin hk hall ?_ hpl
  refine thn (hkw.run pos pins s σ H _ I h) fun ws s2 ⟨zs, H2, I2, rz, l1, l2, q2⟩ => ⟨I2.kIn, ?_⟩
  rw [hks]
  exact run_fnN (us := []) (vs := []) F hr hb hx I2 .nil rz rfl l2 q2
end
/-! ### texts of numbers -/
theorem str_nil (x : Str) : Str.empty ++ x = x := ext_tl (by rw [tl_append]; rfl)
theorem natDigits_len {n k : Nat} (hk : 0 < k) (h : n < 10 ^ k) : (numL n).length ≤ k := numL_len hk h
/-- the signs of an int -/
def intL (a : Int) : List Nat := if a < 0 then 45 :: numL a.natAbs else numL a.natAbs
theorem tl_int (a : Int) : tl (Str.ofString (toString a)) = intL a := by
  cases a with
  | ofNat n => exact tl_num n
  | negSucc n =>
    unfold intL
    rw [if_pos (by omega), tl_ofString]
    show ("-" ++ Nat.repr (n + 1)).toList.map Char.toNat = 45 :: numL (n + 1)
    rw [String.toList_append, List.map_append, Nat.toList_repr]
    rfl
theorem numL_len1000 {n : Nat} (h : n < 2 ^ 1000) : (numL n).length ≤ 1000 := numL_len (by decide) (Nat.lt_of_lt_of_le h (Nat.pow_le_pow_left (by decide) _))
theorem len_int {a : Int} (h : a.natAbs < 2 ^ 1000) : (Str.ofString (toString a)).length ≤ 1001 := by
  rw [len_tl, tl_int]
  have := numL_len1000 h
  unfold intL
  split
  · rw [List.length_cons]
    omega
  · omega
/-- what a text of digits is worth -/
def isDig (c : Nat) : Bool := decide (48 ≤ c) && decide (c ≤ 57)
def rdD (cs : List Nat) : Option Nat := if (1 ≤ cs.length ∧ cs.length ≤ 40) ∧ cs.all isDig = true ∧ ¬ (1 < cs.length ∧ cs.head? = some 48) then some (NumText.digitsVal cs) else none
def optV : Option Nat → V
  | none => .non
  | some n => .int n
/-- a text as value reads it -/
def rdP (cs : List Nat) : List Nat × Option (List Nat) := match par [47] [] cs with
  | none => (cs, none)
  | some (a, b) => (a, some b)
def rdB : Option (List Nat) → Option Nat
  | none => some 1
  | some u => match rdD u with
    | some b => if 2 ≤ b then some b else none
    | none => none
def rdF (below : Bool) : Option Nat → Option Nat → Option (Int × Int)
  | some b, some t => if (below && decide (t = 0)) || decide (Nat.gcd t b ≠ 1) then none else some (if below then -(t : Int) else (t : Int), (b : Int))
  | _, _ => none
def rdV (cs : List Nat) : Option (Int × Int) :=
  rdF (decide (cs.take 1 = [45])) (rdB (rdP (if decide (cs.take 1 = [45]) = true then cs.drop 1 else cs)).2) (rdD (rdP (if decide (cs.take 1 = [45]) = true then cs.drop 1 else cs)).1)
theorem par_split {s : Nat} : ∀ (cs acc a b : List Nat), par [s] acc cs = some (a, b) → acc ++ cs = a ++ s :: b
  | [], acc, a, b, h => by simp [par] at h
  | c :: r, acc, a, b, h => by
    by_cases e : c = s
    · subst e
      rw [par_hit (by simp [pre])] at h
      injection h with h
      injection h with h1 h2
      rw [← h1, ← h2]
      rfl
    · rw [par_miss (pre_of_head [] r e)] at h
      have := par_split r (acc ++ [c]) a b h
      rw [← this]
      simp
end EL
namespace EL
open PySem PySem.Spec PyProof.Rows L2 He TL
theorem tl_cut_to (z : Str) (k : Nat) : tl (cutS z none (some (k : Int))) = (tl z).take k := by
  show ((tl z).drop (HT.sIx z.length 0 none)).take (HT.sIx z.length z.length (some (k : Int)) - HT.sIx z.length 0 none) = (tl z).take k
  rw [HT.sIx_none, HT.sIx_nat, List.drop_zero, Nat.sub_zero, len_tl]
  by_cases h : k ≤ (tl z).length
  · rw [Nat.min_eq_left h]
  · rw [Nat.min_eq_right (by omega), List.take_length, List.take_of_length_le (by omega)]
theorem tl_cut_from (z : Str) (k : Nat) : tl (cutS z (some (k : Int)) none) = (tl z).drop k := by
  show ((tl z).drop (HT.sIx z.length 0 (some (k : Int)))).take (HT.sIx z.length z.length none - HT.sIx z.length 0 (some (k : Int))) = (tl z).drop k
  rw [HT.sIx_none, HT.sIx_nat, len_tl]
  by_cases h : k ≤ (tl z).length
  · rw [Nat.min_eq_left h, List.take_of_length_le (by rw [List.length_drop]; omega)]
  · rw [Nat.min_eq_right (by omega), List.drop_length, List.drop_of_length_le (by omega), List.take_nil]
theorem tl_digits : tl ("0123456789" : Str) = [48, 49, 50, 51, 52, 53, 54, 55, 56, 57] := by decide +kernel
theorem mem_digits (c : Nat) : decide (c ∈ tl ("0123456789" : Str)) = isDig c := by
  rw [tl_digits]
  unfold isDig
  rw [← Bool.decide_and]
  refine decide_eq_decide.mpr ?_
  simp only [List.mem_cons, List.not_mem_nil, or_false]
  omega
theorem str_one {c : Nat} {y : Str} {d : Nat} (hy : tl y = [d]) : decide (V.str ⟨#[c]⟩ = V.str y) = decide (c = d) := by
  refine decide_eq_decide.mpr ⟨fun e => ?_, fun e => ?_⟩
  · have e1 : (⟨#[c]⟩ : Str) = y := by injection e
    rw [← e1] at hy
    have h2 : [c] = [d] := hy
    injection h2
  · have e1 : (⟨#[c]⟩ : Str) = y := ext_tl (by rw [hy, e])
    rw [e1]
theorem allDigits_of {cs : List Nat} (h : cs.all isDig = true) : NumText.AllDigits cs := fun c hc => by
  have := List.all_eq_true.mp h c hc
  unfold isDig at this
  rw [Bool.and_eq_true, decide_eq_true_eq, decide_eq_true_eq] at this
  exact this
theorem str_eq_tl {x y : Str} : decide (V.str x = V.str y) = decide (tl x = tl y) := decide_eq_decide.mpr ⟨fun e => by injection e with e; rw [e], fun e => by rw [ext_tl e]⟩
/-- a statement, then the rest, with a word between them -/
def tMid (t u : TS) : TS := fun D σ H => ∃ Mid : L2.St → Hp → Prop, t { D with nx := Mid } σ H ∧ ∀ σ' H', Mid σ' H' → u D σ' H'
theorem pss_mid {X : Cx} {st : Stmt} {rest : List Stmt} {t u : TS} (h1 : PS X st t) (h2 : PSs X rest u) : PSs X (st :: rest) (tMid t u) := by
  refine ⟨fun pins s σ H D I h => ?_⟩
  obtain ⟨Mid, hm, hu⟩ := h
  refine wpAny_execs_cons (thn (h1.run pins s σ H { D with nx := Mid } I hm) fun f s1 q => ?_)
  cases f with
  | next =>
    obtain ⟨σ', H', I', q⟩ := q
    exact h2.run pins s1 σ' H' D I' (hu σ' H' q)
  | ret v => exact q
  | brk => exact q
  | cont => exact q
end EL
namespace EL
open PySem PySem.Spec PyProof.Rows L2 He TL
/-! ### more facts of K, as Bools -/
theorem exG {l : List Bool} {b : Bool} (m : l.all id = true) (i : Nat) (h : l[i]? = some b) : b = true := List.all_eq_true.mp m b (List.mem_of_getElem? h)
def excCB (K : PySem.W.Frag) (D : Addr) : Bool := eqO (PySem.W.findIn K (.ref D) "__getattribute__") (some (some (.builtin "BaseException.__getattribute__"))) && (eqO (PySem.W.findIn K (.ref D) "__getattr__") (some none) &&
  (decide (PySem.W.subIn K (.ref D) (.type "BaseException") = some true) && (PySem.W.hasDictIn K D && (eqO (PySem.W.findIn K (.ref D) "__class__") (some (some (.builtin "object.__class__"))) &&
  (eqO (PySem.W.specialIn K (.builtin "object.__class__") "__get__") (some (some (.builtin "getset_descriptor.__get__"))) && (decide (PySem.W.takesIn K (.builtin "object.__class__") = some true) && decide (PySem.W.mroIn K D (.type "object") = some true)))))))
theorem excCB_ok {K : PySem.W.Frag} {D : Addr} (h : excCB K D = true) : ExcC K D := by
  obtain ⟨h1, h⟩ := ba h
  obtain ⟨h2, h⟩ := ba h
  obtain ⟨h3, h⟩ := ba h
  obtain ⟨h4, h⟩ := ba h
  obtain ⟨h5, h⟩ := ba h
  obtain ⟨h6, h⟩ := ba h
  obtain ⟨h7, h8⟩ := ba h
  exact ⟨eqO_ok h1, eqO_ok h2, of_decide_eq_true h3, h4, eqO_ok h5, eqO_ok h6, of_decide_eq_true h7, of_decide_eq_true h8⟩
/-- isinstance(e, c), e the exception of the class at D that the suite holds -/
theorem call_isX {X : Cx} {a : Addr} {oe : Obj} {pn : List (Addr × Obj)} {cls : Value} {d : Option Addr} (D : Addr) (C : ExcC X.K D) (hz : Zc cls d oe) (hf : ∃ vs, oe.data = .fields vs) :
    CallR (X.suite a ((a, oe) :: pn)) (.builtin "isinstance") (fun xs H Q => cls = .ref D ∧ d = none ∧ rIsE X.K D a xs H Q) := by
  intro pins s σ H xs us Q I r h
  obtain ⟨rfl, rfl, h⟩ := h
  exact call_isE C hz hf pins s σ H xs us Q I r h
/-! ### the law's source of draws -/
/-- the list [cells, place, digits, state] -/
def Src (H : Hp) (p l : Addr) : Prop := ∃ (ns : List Int) (i : Nat) (c r : Int), H p = some (.lst [.ref l, .int i, .int c, .int r]) ∧ H l = some (.lst (ns.map V.int)) ∧ 0 ≤ c ∧ 0 ≤ r ∧ r < 2147483647
/-- all but p is as it was -/
def But (p : Addr) (H H' : Hp) : Prop := ∀ b o, H b = some o → b ≠ p → H' b = some o
theorem But.refl (p : Addr) (H : Hp) : But p H H := fun _ _ h _ => h
theorem But.trans {p : Addr} {H H1 H2 : Hp} (a : But p H H1) (b : But p H1 H2) : But p H H2 := fun c o h n => b c o (a c o h n) n
theorem But.of {p : Addr} {H H' : Hp} (s : Same H H') : But p H H' := fun b o h _ => s b o h
theorem but_upd {p : Addr} {H : Hp} {o : HO} : But p H (upd H p o) := fun b x h n => by rw [upd_ne n]; exact h
theorem Src.same {H H' : Hp} {p l : Addr} (s : Same H H') (h : Src H p l) : Src H' p l := by
  obtain ⟨ns, i, c, r, h1, h2, h3⟩ := h
  exact ⟨ns, i, c, r, s _ _ h1, s _ _ h2, h3⟩
theorem Src.lst {H : Hp} {p l : Addr} (h : Src H p l) : ∃ xs, H p = some (.lst xs) := by
  obtain ⟨ns, i, c, r, h1, _⟩ := h
  exact ⟨_, h1⟩
theorem Src.lst2 {H : Hp} {p l : Addr} (h : Src H p l) : ∃ xs, H l = some (.lst xs) := by
  obtain ⟨ns, i, c, r, h1, h2, _⟩ := h
  exact ⟨_, h2⟩
theorem Src.ne {H : Hp} {p l : Addr} (h : Src H p l) : l ≠ p := fun e => by
  obtain ⟨ns, i, c, r, h1, h2, _⟩ := h
  subst e
  rw [h1] at h2
  injection h2 with h2
  injection h2 with h2
  cases ns with
  | nil => cases h2
  | cons x r => injection h2 with h2; cases h2
/-- another thing changes -/
theorem Src.but {H H' : Hp} {p l x : Addr} (s : But x H H') (h : Src H p l) (h1 : p ≠ x) (h2 : l ≠ x) : Src H' p l := by
  obtain ⟨ns, i, c, r, k1, k2, h3⟩ := h
  exact ⟨ns, i, c, r, s _ _ k1 h1, s _ _ k2 h2, h3⟩
theorem But.seqT {K : PySem.W.Frag} {p a : Addr} {H H' : Hp} {xs : List V} (s : But p H H') (hp : ∃ ys, H p = some (.lst ys)) (h : SqT K H a xs) : SqT K H' a xs := by
  obtain ⟨ys, hp⟩ := hp
  rcases h with (h | ⟨o, h⟩) | h
  · exact .inl (.inl (s _ _ h (ne_of h hp (by intro z; cases z))))
  · exact .inl (.inr ⟨o, s _ _ h (ne_of h hp (by intro z; cases z))⟩)
  · exact .inr h
end EL
namespace EL
open PySem PySem.Spec PyProof.Rows L2 He TL
/-! ### a written value is read back -/
def txtV (a b : Int) : Str := if b = 1 then (toString a : String) else ((toString a : String) : Str) ++ "/" ++ ((toString b : String) : Str)
theorem numL_head {n : Nat} (h : 1 ≤ n) : (numL n).head? ≠ some 48 := by
  induction n using Nat.strongRecOn with
  | _ n ih =>
    by_cases h10 : n < 10
    · rw [numL_lt h10]
      intro e
      have e2 : 48 + n = 48 := Option.some.inj e
      omega
    · rw [numL_step (by omega)]
      have hh := ih (n / 10) (by omega) (by omega)
      cases hc : numL (n / 10) with
      | nil => exact absurd hc (numL_ne _)
      | cons x r =>
        rw [hc] at hh
        exact hh
theorem rdD_num {n : Nat} (h : n < 10 ^ 40) : rdD (numL n) = some n := by
  unfold rdD
  have hl : (numL n).length ≤ 40 := numL_len (by decide) h
  have h1 : 1 ≤ (numL n).length := by
    cases hc : numL n with
    | nil => exact absurd hc (numL_ne _)
    | cons x r => simp
  rw [if_pos, numL_val]
  refine ⟨⟨h1, hl⟩, ?_, ?_⟩
  · refine List.all_eq_true.mpr fun c hc => ?_
    have := numL_digits n c hc
    unfold isDig
    rw [Bool.and_eq_true, decide_eq_true_eq, decide_eq_true_eq]
    exact this
  · rintro ⟨h2, h3⟩
    by_cases h0 : n < 10
    · rw [numL_lt h0] at h2
      exact absurd h2 (Nat.lt_irrefl 1)
    · exact numL_head (by omega) h3
theorem tl_txtV (a b : Int) : tl (txtV a b) = if b = 1 then intL a else intL a ++ 47 :: intL b := by
  unfold txtV
  by_cases h : b = 1
  · rw [if_pos h, if_pos h]
    exact tl_int a
  · rw [if_neg h, if_neg h, tl_append, tl_append, tl_int, tl_int, show tl ("/" : Str) = [47] by decide +kernel, List.append_assoc]
    rfl
theorem numL_first (n : Nat) : (numL n).take 1 ≠ [45] := fun e => by
  have : (45 : Nat) ∈ (numL n).take 1 := by rw [e]; simp
  exact numL_free (n := n) (s := 45) (.inl (by decide)) (List.mem_of_mem_take this)
theorem numL_app_first (n : Nat) (r : List Nat) : (numL n ++ r).take 1 ≠ [45] := fun e => by
  cases hc : numL n with
  | nil => exact absurd hc (numL_ne _)
  | cons x q =>
    rw [hc] at e
    have := numL_first n
    rw [hc] at this
    exact this e
theorem rdP_num (n : Nat) : rdP (numL n) = (numL n, none) := by
  unfold rdP
  rw [par_none1 (numL_free (.inl (by decide)))]
theorem rdP_two (n m : Nat) : rdP (numL n ++ 47 :: numL m) = (numL n, some (numL m)) := by
  unfold rdP
  rw [show numL n ++ 47 :: numL m = numL n ++ ([47] ++ numL m) from rfl, par_part1 (numL_free (.inl (by decide)))]
  rfl
theorem rdV_txt {a b : Int} (h : Low a b) (ha : a.natAbs < 10 ^ 40) (hb : b.natAbs < 10 ^ 40) : rdV (tl (txtV a b)) = some (a, b) := by
  obtain ⟨hb0, hg⟩ := h
  have hg' : Nat.gcd a.natAbs b.natAbs = 1 := by unfold cd at hg; omega
  have hbL : intL b = numL b.natAbs := by
    unfold intL
    rw [if_neg (by omega)]
  -- the body behind the sign, by its parts
  have body : ∀ cs : List Nat, cs = (if b = 1 then numL a.natAbs else numL a.natAbs ++ 47 :: numL b.natAbs) → rdB (rdP cs).2 = some b.natAbs ∧ rdD (rdP cs).1 = some a.natAbs := by
    intro cs hcs
    by_cases h1 : b = 1
    · rw [if_pos h1] at hcs
      rw [hcs, rdP_num]
      refine ⟨?_, rdD_num ha⟩
      rw [h1]
      rfl
    · rw [if_neg h1] at hcs
      rw [hcs, rdP_two]
      refine ⟨?_, rdD_num ha⟩
      simp only [rdB, rdD_num hb]
      exact if_pos (by omega)
  rw [tl_txtV]
  unfold rdV
  by_cases hn : a < 0
  · have e : (if b = 1 then intL a else intL a ++ 47 :: intL b) = 45 :: (if b = 1 then numL a.natAbs else numL a.natAbs ++ 47 :: numL b.natAbs) := by
      unfold intL
      rw [if_pos hn, if_neg (show ¬ b < 0 by omega)]
      split <;> rfl
    rw [e]
    obtain ⟨e1, e2⟩ := body _ rfl
    rw [show decide ((45 :: (if b = 1 then numL a.natAbs else numL a.natAbs ++ 47 :: numL b.natAbs)).take 1 = [45]) = true from rfl, if_pos rfl, List.drop_one, List.tail_cons, e1, e2]
    show (if (true && decide (a.natAbs = 0) || decide (Nat.gcd a.natAbs b.natAbs ≠ 1)) = true then none else some (-(a.natAbs : Int), (b.natAbs : Int))) = _
    rw [if_neg]
    · rw [show -(a.natAbs : Int) = a by omega, show (b.natAbs : Int) = b by omega]
    · rw [decide_eq_false (show ¬ a.natAbs = 0 by omega), Bool.and_false, Bool.false_or]
      exact fun z => of_decide_eq_true z hg'
  · have e : (if b = 1 then intL a else intL a ++ 47 :: intL b) = (if b = 1 then numL a.natAbs else numL a.natAbs ++ 47 :: numL b.natAbs) := by
      unfold intL
      rw [if_neg hn, if_neg (show ¬ b < 0 by omega)]
    rw [e]
    have hf : (if b = 1 then numL a.natAbs else numL a.natAbs ++ 47 :: numL b.natAbs).take 1 ≠ [45] := by
      split
      · exact numL_first _
      · exact numL_app_first _ _
    obtain ⟨e1, e2⟩ := body _ rfl
    rw [decide_eq_false hf, if_neg Bool.false_ne_true, e1, e2]
    show (if (false && decide (a.natAbs = 0) || decide (Nat.gcd a.natAbs b.natAbs ≠ 1)) = true then none else some ((a.natAbs : Int), (b.natAbs : Int))) = _
    rw [if_neg]
    · rw [show (a.natAbs : Int) = a by omega, show (b.natAbs : Int) = b by omega]
    · rw [Bool.false_and, Bool.false_or]
      exact fun z => of_decide_eq_true z hg'
theorem nrm_abs (t b : Int) : (nrm t b).1.natAbs ≤ t.natAbs ∧ (nrm t b).2.natAbs ≤ b.natAbs := by
  have k : ∀ x g : Int, g ∣ x → (x / g).natAbs ≤ x.natAbs := fun x g h => by
    rw [Int.natAbs_ediv_of_dvd h]
    exact Nat.div_le_self _ _
  unfold nrm
  split
  · have h1 := k (-t) _ (cd_dvd_l (-t) (-b))
    have h2 := k (-b) _ (cd_dvd_r (-t) (-b))
    rw [Int.natAbs_neg] at h1 h2
    exact ⟨h1, h2⟩
  · exact ⟨k t _ (cd_dvd_l t b), k b _ (cd_dvd_r t b)⟩
theorem nrm_neg {t b : Int} (h : b < 0) : nrm (-t) (-b) = nrm t b := by
  unfold nrm
  rw [if_pos h, if_neg (by omega)]
end EL
namespace EL
open PySem PySem.Spec PyProof.Rows L2 He TL
/-! ### texts of values, the other way about -/
theorem digitsVal_snoc' (cs : List Nat) (d : Nat) : NumText.digitsVal (cs ++ [d]) = NumText.digitsVal cs * 10 + (d - 48) := by
  unfold NumText.digitsVal
  rw [List.foldl_append]
  rfl
theorem snoc_of {cs : List Nat} (h : cs ≠ []) : ∃ i d, cs = i ++ [d] := ⟨cs.dropLast, cs.getLast h, (List.dropLast_concat_getLast h).symm⟩
theorem numL_back : ∀ (k : Nat) (cs : List Nat), cs.length = k → cs ≠ [] → cs.all isDig = true → ¬ (1 < cs.length ∧ cs.head? = some 48) → numL (NumText.digitsVal cs) = cs ∧ (cs.head? ≠ some 48 → 1 ≤ NumText.digitsVal cs)
  | 0, cs, hk, hne, _, _ => absurd (List.length_eq_zero_iff.mp hk) hne
  | k + 1, cs, hk, hne, ha, hz => by
    obtain ⟨i, d, rfl⟩ := snoc_of hne
    rw [List.all_append, Bool.and_eq_true] at ha
    have hd : 48 ≤ d ∧ d ≤ 57 := by
      have := ha.2
      simp only [List.all_cons, List.all_nil, Bool.and_true, isDig, Bool.and_eq_true, decide_eq_true_eq] at this
      exact this
    rw [digitsVal_snoc']
    cases hi : i with
    | nil =>
      have e : NumText.digitsVal [] = 0 := rfl
      rw [e, Nat.zero_mul, Nat.zero_add, numL_lt (by omega)]
      refine ⟨?_, fun hh => ?_⟩
      · show [48 + (d - 48)] = [d]
        rw [show 48 + (d - 48) = d by omega]
      · have : d ≠ 48 := fun z => hh (by rw [z]; rfl)
        omega
    | cons x r =>
      have hl : i.length = k := by
        rw [List.length_append, List.length_singleton] at hk
        omega
      have hh : (i ++ [d]).head? = i.head? := by rw [hi]; rfl
      have h48 : i.head? ≠ some 48 := fun z => hz ⟨by rw [List.length_append, hi]; simp, by rw [hh]; exact z⟩
      obtain ⟨e1, e2⟩ := numL_back k i hl (by rw [hi]; simp) ha.1 (fun z => h48 z.2)
      have e3 := e2 h48
      rw [← hi]
      refine ⟨?_, fun _ => by omega⟩
      rw [numL_step (by omega), show (NumText.digitsVal i * 10 + (d - 48)) / 10 = NumText.digitsVal i by omega, show (NumText.digitsVal i * 10 + (d - 48)) % 10 = d - 48 by omega, e1, show 48 + (d - 48) = d by omega]
theorem rdD_inv {cs : List Nat} {n : Nat} (h : rdD cs = some n) : cs = numL n ∧ n < 10 ^ 40 := by
  unfold rdD at h
  split at h
  · rename_i c
    injection h with h
    have hne : cs ≠ [] := fun e => by rw [e] at c; exact absurd c.1.1 (by decide)
    have e := (numL_back cs.length cs rfl hne c.2.1 c.2.2).1
    rw [h] at e
    refine ⟨e.symm, ?_⟩
    have hl : (numL n).length ≤ 40 := by rw [e]; exact c.1.2
    exact Nat.lt_of_not_le fun hge => by
      have : ∀ (k m : Nat), 10 ^ k ≤ m → k + 1 ≤ (numL m).length := by
        intro k
        induction k with
        | zero =>
          intro m _
          cases hm : numL m with
          | nil => exact absurd hm (numL_ne _)
          | cons x r => simp
        | succ k ih =>
          intro m hm
          have h10 : 10 ≤ m := Nat.le_trans (by rw [Nat.pow_succ]; have : 0 < 10 ^ k := Nat.pow_pos (by decide); omega) hm
          rw [numL_step h10, List.length_append]
          have := ih (m / 10) ((Nat.le_div_iff_mul_le (by decide)).mpr (by rw [Nat.pow_succ] at hm; exact hm))
          simp only [List.length_singleton]
          omega
      have := this 40 n hge
      omega
  · cases h
theorem spl_par {s : Nat} : ∀ (cs acc : List Nat), spl [s] 0 acc cs = (match par [s] acc cs with | none => [acc ++ cs] | some (a, b) => a :: spl [s] 0 [] b)
  | [], acc => by
    rw [spl_nil]
    simp [par]
  | c :: r, acc => by
    by_cases e : c = s
    · subst e
      rw [spl_hit (by simp [pre]), par_hit (by simp [pre])]
      rfl
    · rw [spl_miss (pre_of_head [] r e), par_miss (pre_of_head [] r e), spl_par r (acc ++ [c])]
      cases par [s] (acc ++ [c]) r with
      | none => simp
      | some ab => rfl
theorem par_some {s : Nat} : ∀ (cs acc : List Nat), s ∈ cs → ∃ a b, par [s] acc cs = some (a, b)
  | [], _, h => by cases h
  | c :: r, acc, h => by
    by_cases e : c = s
    · subst e
      exact ⟨acc, r, by rw [par_hit (by simp [pre])]; rfl⟩
    · rw [par_miss (pre_of_head [] r e)]
      exact par_some r _ (by
        rcases List.mem_cons.mp h with z | z
        · exact absurd z.symm e
        · exact z)
theorem rdD_free {cs : List Nat} (h : 47 ∈ cs) : rdD cs = none := by
  unfold rdD
  refine if_neg fun c => ?_
  have := List.all_eq_true.mp c.2.1 47 h
  exact absurd this (by decide)
/-- what read_value takes, text_of writes -/
theorem rdV_inv {cs : List Nat} {a b : Int} (h : rdV cs = some (a, b)) : tl (txtV a b) = cs ∧ Low a b ∧ a.natAbs < 10 ^ 40 ∧ b.natAbs < 10 ^ 40 := by
  unfold rdV at h
  generalize hbd : (if decide (cs.take 1 = [45]) = true then cs.drop 1 else cs) = bd at h
  cases hB : rdB (rdP bd).2 with
  | none =>
    rw [hB] at h
    cases h
  | some n =>
    cases hD : rdD (rdP bd).1 with
    | none =>
      rw [hB, hD] at h
      cases h
    | some m =>
      rw [hB, hD] at h
      generalize hbl : decide (cs.take 1 = [45]) = below at *
      have h' : (if (below && decide (m = 0) || decide (Nat.gcd m n ≠ 1)) = true then none else some (if below then -(m : Int) else (m : Int), (n : Int))) = some (a, b) := h
      split at h'
      · cases h'
      · rename_i c
        injection h' with h'
        injection h' with ea eb
        have hg : Nat.gcd m n = 1 := by
          cases hd : decide (Nat.gcd m n ≠ 1) with
          | true => rw [hd, Bool.or_true] at c; exact absurd rfl c
          | false => exact Decidable.not_not.mp (of_decide_eq_false hd)
        have hbz : below = true → m ≠ 0 := fun hb z => by
          rw [hb, z] at c
          exact c rfl
        obtain ⟨e1, m40⟩ := rdD_inv hD
        -- the body
        have body : bd = (if n = 1 then numL m else numL m ++ 47 :: numL n) ∧ 1 ≤ n ∧ n < 10 ^ 40 := by
          unfold rdP at hB e1
          cases hp : par [47] [] bd with
          | none =>
            rw [hp] at hB e1
            have en : 1 = n := Option.some.inj hB
            rw [if_pos en.symm]
            exact ⟨e1, by omega, by rw [← en]; decide⟩
          | some xy =>
            obtain ⟨x, y⟩ := xy
            rw [hp] at hB e1
            have hB' : (match rdD y with | some b => if 2 ≤ b then some b else none | none => none) = some n := hB
            cases hy : rdD y with
            | none =>
              rw [hy] at hB'
              cases hB'
            | some k =>
              rw [hy] at hB'
              have hB2 : (if 2 ≤ k then some k else none) = some n := hB'
              split at hB2
              · injection hB2 with hk
                subst hk
                obtain ⟨e2, k40⟩ := rdD_inv hy
                rw [if_neg (by omega)]
                have e3 : x = numL m := e1
                refine ⟨?_, by omega, k40⟩
                rw [← e3, ← e2]
                exact (par_split _ _ _ _ hp)
              · cases hB2
        obtain ⟨hbody, hn1, n40⟩ := body
        have hcs : cs = if below = true then 45 :: bd else bd := by
          cases below with
          | true =>
            have ht := of_decide_eq_true hbl
            rw [if_pos rfl] at hbd ⊢
            rw [← hbd, ← List.singleton_append, ← ht, List.take_append_drop]
          | false =>
            rw [if_neg Bool.false_ne_true] at hbd ⊢
            exact hbd
        have ebn : b.natAbs = n := by omega
        have eam : a.natAbs = m := by
          rw [← ea]
          split <;> omega
        refine ⟨?_, ⟨by omega, ?_⟩, by omega, by omega⟩
        · rw [tl_txtV, hcs, hbody]
          have hb1 : (b = 1) ↔ (n = 1) := by omega
          have hib : intL b = numL n := by
            unfold intL
            rw [if_neg (by omega), ebn]
          have hia : intL a = if below = true then 45 :: numL m else numL m := by
            unfold intL
            rw [eam]
            cases hbe : below with
            | true =>
              rw [hbe] at ea hbz
              have hm := hbz rfl
              rw [if_pos rfl] at ea ⊢
              rw [if_pos (by omega)]
            | false =>
              rw [hbe] at ea
              rw [if_neg Bool.false_ne_true] at ea ⊢
              rw [if_neg (by omega)]
          rw [hia, hib]
          by_cases h1 : n = 1
          · rw [if_pos h1, if_pos (hb1.mpr h1)]
          · rw [if_neg h1, if_neg (fun z => h1 (hb1.mp z))]
            cases below <;> rfl
        · unfold cd
          rw [eam, ebn, hg]
          rfl
theorem call_str_bool {X : Cx} : CallR X (.type "str") (fun xs H Q => ∃ b : Bool, xs = [.bl b] ∧ Q (.str (if b then "True" else "False")) H) := by
  intro pins s σ H xs us Q I r h
  obtain ⟨b, rfl, q⟩ := h
  obtain ⟨u, rfl, ru⟩ := vals1 r
  cases ru
  exact PySem.P.str_of_bool ⟨.str _, H, I.tok _, ⟨_, rfl⟩, q⟩
end EL
namespace EL
open PySem PySem.Spec PyProof.Rows L2 He TL ClX
/-! ### the head with defs at any address -/
def fnWA (K : PySem.W.Frag) (a : Addr) : FnW := match K.lookup a with
  | some ⟨_, _, .func fd, _⟩ => some (fd.name, fd.qualname, fd.params, fd.body, fd.scope, fd.globals, fd.closure, fd.builtins)
  | _ => none
structure DefE where
  ad : PySem.W.Frag → Addr
  name : Str
  qual : Str
  params : Arguments
  body : List Stmt
  scope : Scope
  dfl : List Dv := []
  kwd : List (Str × Dv) := []
def DefE.kws (K : PySem.W.Frag) (d : DefE) : List (Str × V) := d.kwd.map fun q => (q.1, q.2.v K)
def DefE.val (d : DefE) : FnW := some (d.name, d.qual, d.params, .stmts d.body, d.scope, mainGlobals, [], builtinsNs)
def DefE.dvs (K : PySem.W.Frag) (d : DefE) : List V := d.dfl.map (Dv.v K)
def DefE.ok (K : PySem.W.Frag) (d : DefE) : Bool := PySem.W.keepIn K (.ref (d.ad K)) && (match K.lookup (d.ad K) with
  | some ⟨_, _, .func fd, _⟩ => PySem.W.codeIn K fd.code d.qual && (dflB K fd.defaults (d.dvs K) && kwdB K fd.kwdefaults (d.kws K))
  | _ => false)
theorem DefE.funD {K : PySem.W.Frag} {d : DefE} (e : fnWA K (d.ad K) = d.val) (c : d.ok K = true) : ∃ fd, FunD K d.name d.qual d.params d.body d.scope (d.dvs K) (d.kws K) (d.ad K) fd := by
  obtain ⟨kp, c2⟩ := ba c
  unfold fnWA at e
  cases q : K.lookup (d.ad K) with
  | none =>
    rw [q] at c2
    cases c2
  | some o =>
    obtain ⟨oc, od, dt, osl⟩ := o
    rw [q] at c2 e
    cases dt with
    | func fd =>
      obtain ⟨n1, n2, n3, n4, n5, n6, n7, n8, n9, n10, n11, n12, n13, n14, n15⟩ := fd
      have e2 : (some (n1, n2, n3, n4, n5, n6, n7, n15) : FnW) = some (d.name, d.qual, d.params, .stmts d.body, d.scope, mainGlobals, [], builtinsNs) := e
      simp only [Option.some.injEq, Prod.mk.injEq] at e2
      obtain ⟨h1, h2, h3, h4, h5, h6, h7, h8⟩ := e2
      subst h1 h2 h3 h4 h5 h6 h7 h8
      have c3 : (PySem.W.codeIn K n13 d.qual && (dflB K n8 (d.dvs K) && kwdB K n9 (d.kws K))) = true := c2
      obtain ⟨k1, k2⟩ := ba c3
      obtain ⟨k3, k4⟩ := ba k2
      exact ⟨_, ⟨oc, od, n8, n9, n10, n11, n12, n13, n14, osl, rfl, q, k1, dflB_ok k3, kwdB_ok k4⟩, kp⟩
    | _ => cases c2
def obsE (fa : List Fa) (fn : List DefE) (ex : PySem.W.Frag → Bool) (K : PySem.W.Frag) : AlM := (((fa.all fun f => f.ok K) && fn.all fun d => d.ok K, fn.map fun d => fnWA K (d.ad K)), ex K)
def obsEG (n : Nat) (fa : List Fa) (fn : List DefE) (ex : PySem.W.Frag → Bool) (g : Addr → Option Obj) : AlM := obsE fa fn ex (frG g (He5.asA g n))
def valE (fn : List DefE) : AlM := ((true, fn.map DefE.val), true)
def SaysE (fa : List Fa) (fn : List DefE) (ex : PySem.W.Frag → Bool) (K : PySem.W.Frag) : Prop := obsE fa fn ex K = valE fn
def hookE (n : Nat) (fa : List Fa) (fn : List DefE) (ex : PySem.W.Frag → Bool) : PySem.W.Hook where
  α := AlM
  obs := fun s => obsEG n fa fn ex s.heap.get?
  val := fun _ => valE fn
  says := fun _ h => ∃ K : PySem.W.Frag, K.In h ∧ SaysE fa fn ex K
  of := fun _ _ e => ⟨_, frG_in, e⟩
  keeps := fun _ _ _ ⟨K, hK, c⟩ k => ⟨K, PySem.W.Frag.In.keeps hK k, c⟩
theorem obsEG_eq {n : Nat} {fa : List Fa} {fn : List DefE} {ex : PySem.W.Frag → Bool} {g : Addr → Option Obj} {s : Shared} (h : ∀ a, g a = s.heap.get? a) : obsEG n fa fn ex g = (hookE n fa fn ex).obs s := by
  have e : g = s.heap.get? := funext h
  rw [e] <;> rfl
section
variable {fa : List Fa} {fn : List DefE} {ex : PySem.W.Frag → Bool} {K : PySem.W.Frag}
theorem SaysE.fact (c : SaysE fa fn ex K) (i : Nat) {f : Fa} (h : fa[i]? = some f := by rfl) : f.ok K = true := by
  have c1 := (ba (show ((fa.all fun f => f.ok K) && fn.all fun d => d.ok K) = true from congrArg (fun z : AlM => z.1.1) c)).1
  exact List.all_eq_true.mp c1 f (List.mem_of_getElem? h)
theorem SaysE.ex_ (c : SaysE fa fn ex K) : ex K = true := congrArg (fun z : AlM => z.2) c
theorem SaysE.def_ (c : SaysE fa fn ex K) (i : Nat) {d : DefE} (h : fn[i]? = some d := by rfl) : ∃ fd, FunD K d.name d.qual d.params d.body d.scope (d.dvs K) (d.kws K) (d.ad K) fd := by
  have c2 := (ba (show ((fa.all fun f => f.ok K) && fn.all fun d => d.ok K) = true from congrArg (fun z : AlM => z.1.1) c)).2
  have e : fn.map (fun d => fnWA K (d.ad K)) = fn.map DefE.val := congrArg (fun z : AlM => z.1.2) c
  have e2 : (fn.map fun d => fnWA K (d.ad K))[i]? = (fn.map DefE.val)[i]? := by rw [e]
  rw [List.getElem?_map, List.getElem?_map, h] at e2
  exact DefE.funD (Option.some.inj e2) (List.all_eq_true.mp c2 d (List.mem_of_getElem? h))
end
/-! ### own classes -/
def kdL : List Kd := [.non, .bl, .int, .str, .lst, .tup, .dct]
theorem kdL_all (T : Kd) : T ∈ kdL := by cases T <;> decide
/-- what of the text an own class has -/
structure OC (K : PySem.W.Frag) (C : Addr) : Prop where
  cl : Cls K C
  ca : PySem.W.findIn K (.ref C) "__class__" = some (some (.builtin "object.__class__"))
  hn : PySem.W.specialIn K (.builtin "object.__class__") "__get__" = some (some (.builtin "getset_descriptor.__get__"))
  tk : PySem.W.takesIn K (.builtin "object.__class__") = some true
  ob : PySem.W.mroIn K C (.type "object") = some true
  to : ∀ T : Kd, PySem.W.kitOne K (.ref C) (.type (kdN T)) = some false
  of : ∀ T : Kd, PySem.W.kitOne K (.type (kdN T)) (.ref C) = some false
  self : PySem.W.kitOne K (.ref C) (.ref C) = some true
def ocB (K : PySem.W.Frag) (C : Addr) : Bool := (PySem.W.plainGet K C Str.empty && (PySem.W.hasDictIn K C && (PySem.W.plainOver K C && eqO (PySem.W.findIn K (.ref C) "__setattr__") (some (some (.builtin "object.__setattr__")))))) &&
  (eqO (PySem.W.findIn K (.ref C) "__class__") (some (some (.builtin "object.__class__"))) && (eqO (PySem.W.specialIn K (.builtin "object.__class__") "__get__") (some (some (.builtin "getset_descriptor.__get__"))) &&
  (decide (PySem.W.takesIn K (.builtin "object.__class__") = some true) && (decide (PySem.W.mroIn K C (.type "object") = some true) && ((kdL.all fun T => decide (PySem.W.kitOne K (.ref C) (.type (kdN T)) = some false)) &&
  ((kdL.all fun T => decide (PySem.W.kitOne K (.type (kdN T)) (.ref C) = some false)) && decide (PySem.W.kitOne K (.ref C) (.ref C) = some true)))))))
theorem ocB_ok {K : PySem.W.Frag} {C : Addr} (h : ocB K C = true) : OC K C := by
  obtain ⟨h1, h⟩ := ba h
  obtain ⟨a1, h1⟩ := ba h1
  obtain ⟨a2, h1⟩ := ba h1
  obtain ⟨a3, a4⟩ := ba h1
  obtain ⟨h2, h⟩ := ba h
  obtain ⟨h3, h⟩ := ba h
  obtain ⟨h4, h⟩ := ba h
  obtain ⟨h5, h⟩ := ba h
  obtain ⟨h6, h⟩ := ba h
  obtain ⟨h7, h8⟩ := ba h
  exact ⟨⟨a1, a2, a3, eqO_ok a4⟩, eqO_ok h2, eqO_ok h3, of_decide_eq_true h4, of_decide_eq_true h5, fun T => of_decide_eq_true (List.all_eq_true.mp h6 T (kdL_all T)), fun T => of_decide_eq_true (List.all_eq_true.mp h7 T (kdL_all T)), of_decide_eq_true h8⟩
theorem OC.ty {K : PySem.W.Frag} {C : Addr} (c : OC K C) {H : Hp} {a dx : Addr} {fs : List (Str × V)} (h : H a = some (.ins C dx fs)) : TyX K H (.ref a) (.ref C) := .base (.ins h c.cl c.ca c.hn c.tk c.ob)
/-- an instance as a thing -/
theorem OC.th {K : PySem.W.Frag} {C : Addr} (c : OC K C) {H : Hp} {a dx : Addr} {fs : List (Str × V)} (h : H a = some (.ins C dx fs)) : ThOk K H (.ref a) .o := ⟨.ref C, c.ty h, c.to⟩
theorem OC.isD {K : PySem.W.Frag} {C : Addr} (c : OC K C) (d : PyData) : PySem.W.kitOne K (.type (tyn d)) (.ref C) = some false := c.of (kd d)
/-! ### calls of methods, of static methods; making -/
def tMethE (C : Addr) (m : Str) (sp : Sp) (E : L2.St → XK) (ta : TE) (t : TA) : TE := fun σ H Q => ta σ H fun x H1 => ∃ a dx fs, x = .ref a ∧ H1 a = some (.ins C dx fs) ∧ fs.lookup m = none ∧ t σ H1 fun vs H2 => sp (x :: vs) H2 Q (E σ)
def tMakeE (C : Addr) (sp : Sp) (E : L2.St → XK) (t : TA) : TE := fun σ H Q => t σ H fun vs H1 => ∀ x dx, H1 x = Option.none → H1 dx = Option.none → dx ≠ x →
  sp (V.ref x :: vs) (upd (upd H1 dx (.own x)) x (.ins C dx [])) (fun v H2 => v = .non ∧ Q (.ref x) H2) (E σ)
def tSm (C : Addr) (sp : Sp) (E : L2.St → XK) (ta : TE) (t : TA) : TE := fun σ H Q => ta σ H fun x H1 => x = .ref C ∧ t σ H1 fun vs H2 => sp vs H2 Q (E σ)
structure Sm (K : PySem.W.Frag) (C : Addr) (m : Str) (f : Addr) : Prop where
  rd : CRead K C (.type "type")
  at_ : ∃ p, PySem.W.findCls K (.ref C) (.type "type") m = some (.get (.builtin "staticmethod.__get__") (.ref p) .none (.ref C)) ∧ ∃ rest, PySem.W.recIn K p "staticmethod" = some (.ref f :: rest)
  kp : PySem.W.keepIn K (.ref f) = true
def smB (K : PySem.W.Frag) (C : Addr) (m : Str) : Bool := PySem.W.readsIn K C (.type "type") && (eqO (PySem.W.specialIn K (.ref C) "__getattribute__") (some (some (.builtin "type.__getattribute__"))) &&
  (He5.wrapB K C "staticmethod" "staticmethod.__get__" m && PySem.W.keepIn K (.ref (He5.wf K C "staticmethod" m))))
theorem smB_ok {K : PySem.W.Frag} {C : Addr} {m : Str} (h : smB K C m = true) : Sm K C m (He5.wf K C "staticmethod" m) := by
  obtain ⟨h1, h⟩ := ba h
  obtain ⟨h2, h⟩ := ba h
  obtain ⟨h3, h4⟩ := ba h
  obtain ⟨k1, k2⟩ := He5.wrapB_ok h3
  exact ⟨⟨h1, eqO_ok h2⟩, ⟨_, k1, k2⟩, h4⟩
section
variable {X : Cx} {CX : CXT} {k : Nat} {C f : Addr} {m x : Str} {sp : Sp} {E : L2.St → XK} {o e : Expr} {es : List Expr} {ta : TE} {t : TA} {p apos pos : Pos} {pl : Sem Bool}
theorem pe_methE (he : PE X o ta) (c : Cls X.K C) (hm : Meth X.K C m f) (F : FnR X.prog X.w X.K X.mg X.base CX k f sp) (hr : Room k X.A) (hx : ∀ σ, PassesAt CX X σ (E σ)) (ha : PA X (e :: es) t)
    (hst : starEach (e :: es) X.env = (false, eval e X.env) :: starEach es X.env := by rfl) (hpl : (backTo pos (starEach es X.env)).any (·.1) = false := by rfl)
    (ht : eval (.Call (.Attribute o m apos) (e :: es) [] pos) X.env = (do
      let ov ← eval o X.env
      standAt apos.atName
      let (f, first) ← holding [ov] (getMethod ov m pl)
      callWith pos f first (backTo pos (starEach (e :: es) X.env)) (backToKw pos (keywordEach [] X.env))) := by rfl) :
    PE X (.Call (.Attribute o m apos) (e :: es) [] pos) (tMethE C m sp E ta t) := by
  refine ⟨fun pins s σ H Q I h => ?_⟩
  refine PySem.W.methodCall_KW (pl := pl) (thn (he.run pins s σ H _ I h) fun u s1 ⟨x, H1, I1, rx, a, dx, fs, ex, ea, l, q⟩ => ?_) ht
  subst ex
  obtain rfl : u = Value.ref a := rx
  refine getmeth_ok I1 ea c hm l ?_
  refine PySem.W.callWith_K (first := [.ref a]) (h₀ := X.base) I.ok.mod.kin hm.kp (thn (ha.run pos pins s1 σ H1 _ I1 q) fun us s2 ⟨vs, H2, I2, r, q2⟩ => ⟨I2.kIn, ?_⟩) hst hpl
  exact run_fnRS (us := .ref a :: us) (vs := .ref a :: vs) F hr (hx σ) I2 (.cons rfl r) q2
theorem pe_methE0 (he : PE X o ta) (c : Cls X.K C) (hm : Meth X.K C m f) (F : FnR X.prog X.w X.K X.mg X.base CX k f sp) (hr : Room k X.A) (hx : ∀ σ, PassesAt CX X σ (E σ))
    (ht : eval (.Call (.Attribute o m apos) [] [] pos) X.env = (do
      let ov ← eval o X.env
      standAt apos.atName
      let (f, first) ← holding [ov] (getMethod ov m pl)
      callWith pos f first (backTo pos (starEach [] X.env)) (backToKw pos (keywordEach [] X.env))) := by rfl) :
    PE X (.Call (.Attribute o m apos) [] [] pos) (tMethE C m sp E ta tNil) := by
  refine ⟨fun pins s σ H Q I h => ?_⟩
  refine PySem.W.methodCall_KW (pl := pl) (thn (he.run pins s σ H _ I h) fun u s1 ⟨x, H1, I1, rx, a, dx, fs, ex, ea, l, q⟩ => ?_) ht
  subst ex
  obtain rfl : u = Value.ref a := rx
  refine getmeth_ok I1 ea c hm l ?_
  exact PySem.W.callWith_K0 (first := [.ref a]) I1.kIn hm.kp (run_fnRS (us := [.ref a]) (vs := [.ref a]) F hr (hx σ) I1 (.cons rfl .nil) q)
theorem pe_smE (he : PE X o ta) (c : Sm X.K C m f) (F : FnR X.prog X.w X.K X.mg X.base CX k f sp) (hr : Room k X.A) (hx : ∀ σ, PassesAt CX X σ (E σ)) (ha : PA X (e :: es) t)
    (hst : starEach (e :: es) X.env = (false, eval e X.env) :: starEach es X.env := by rfl) (hpl : (backTo pos (starEach es X.env)).any (·.1) = false := by rfl)
    (ht : eval (.Call (.Attribute o m apos) (e :: es) [] pos) X.env = (do
      let ov ← eval o X.env
      standAt apos.atName
      let (f, first) ← holding [ov] (getMethod ov m pl)
      callWith pos f first (backTo pos (starEach (e :: es) X.env)) (backToKw pos (keywordEach [] X.env))) := by rfl) :
    PE X (.Call (.Attribute o m apos) (e :: es) [] pos) (tSm C sp E ta t) := by
  refine ⟨fun pins s σ H Q I h => ?_⟩
  refine PySem.W.methodCall_KW (pl := pl) (thn (he.run pins s σ H _ I h) fun u s1 ⟨x, H1, I1, rx, ex, q⟩ => ?_) ht
  subst ex
  obtain rfl : u = Value.ref C := rx
  obtain ⟨pa, h1, rest, h2⟩ := c.at_
  refine PySem.W.method_cls I1.kIn c.rd.ga (PySem.W.cls_bind I1.kIn c.rd.rd h1 ?_)
  refine wpAny_call (PySem.W.sm_get (s := { s1 with toks := s1.toks + 1 }) I1.kIn h2 (PySem.W.handed_on rfl ?_))
  have I2 := I1.tok (s1.toks + 1)
  refine PySem.W.callWith_K (first := []) (h₀ := X.base) I.ok.mod.kin c.kp (thn (ha.run pos pins _ σ H1 _ I2 q) fun us s2 ⟨vs, H2, I3, r, q2⟩ => ⟨I3.kIn, ?_⟩) hst hpl
  exact run_fnRS (us := us) (vs := vs) F hr (hx σ) I3 r q2
theorem run_makeE {pins : List (Addr × Obj)} {σ : L2.St} {H : Hp} {s : Shared} {Q : VK} {us : List Value} {vs : List V} (M : Mk X.K C f) (F : FnR X.prog X.w X.K X.mg X.base CX k f sp) (hr : Room (k + 1) X.A) (hx : PassesAt CX X σ (E σ)) (I : Inv X pins σ H s) (r : Vals vs us)
    (h : ∀ x dx, H x = Option.none → H dx = Option.none → dx ≠ x → sp (V.ref x :: vs) (upd (upd H dx (.own x)) x (.ins C dx [])) (fun v H2 => v = .non ∧ Q (.ref x) H2) (E σ)) :
    wpAny (model X.prog X.w) X.A (call (.ref C) us) (EP X pins σ Q) X.xe s := by
  have hq := h (s.heap.objs.size + 1) s.heap.objs.size (I.hok.fresh (Nat.le_succ _)) (I.hok.fresh (Nat.le_refl _)) (Nat.ne_of_lt (Nat.lt_succ_self _))
  have I2 := Inv.made (C := C) I
  have r2 : Vals (V.ref (s.heap.objs.size + 1) :: vs) (Value.ref (s.heap.objs.size + 1) :: us) := .cons rfl r
  refine wpAny_call (make_map (f := f) I.kIn M.makes M.init (beq_iff_eq.mp M.fn) (codeAny_mono (F _ X.stack _ _ (Value.ref (s.heap.objs.size + 1) :: us) _ _ (E σ) (hr.make C us []) (I2.env0.make C us []) r2 hq) fun r s' hq' => ?_))
  cases r with
  | error e => exact hx pins _ _ e s' I2 hq'
  | ok fl =>
    cases fl with
    | ret u =>
      obtain ⟨v, H', I3, rv, ev, q3⟩ := I2.after hq'
      subst ev
      exact ⟨rv, ⟨V.ref (s.heap.objs.size + 1), H', I3, rfl, q3⟩⟩
    | next => exact False.elim hq'
    | brk => exact False.elim hq'
    | cont => exact False.elim hq'
theorem pe_makeE (M : Mk X.K C f) (F : FnR X.prog X.w X.K X.mg X.base CX k f sp) (hr : Room (k + 1) X.A) (hm : X.mg x = some (.ref C)) (hx : ∀ σ, PassesAt CX X σ (E σ)) (ha : PA X (e :: es) t) (hg : Gl X x := by rfl) (hdb : (x == ("__debug__" : Str)) = false := by decide)
    (he : starEach (e :: es) X.env = (false, eval e X.env) :: starEach es X.env := by rfl) (hpl : (backTo pos (starEach es X.env)).any (·.1) = false := by rfl) : PE X (.Call (.Name x p) (e :: es) [] pos) (tMakeE C sp E t) := by
  refine ⟨fun pins s σ H Q I h => ?_⟩
  refine wpAny_Call_Name_kw (ld_glob I hg hm ?_ hdb)
  refine PySem.W.callWith_K (h₀ := X.base) I.ok.mod.kin M.kp (thn (ha.run pos pins s σ H _ I h) fun us s1 ⟨vs, H1, I1, r, q⟩ => ⟨I1.kIn, ?_⟩) he hpl
  exact run_makeE M F hr (hx σ) I1 r q
end
/-- nothing is let out -/
theorem px0 {X : Cx} : ∀ σ, PassesAt CX0 X σ ((fun _ => E0) σ) := fun _ _ _ _ _ _ _ h => h.elim
theorem pxq {X : Cx} : ∀ σ, PassesAt (L2.CX X.prog X.w) X σ ((fun _ => E0) σ) := fun σ pins H s e s' I h => passL pins σ H s e s' I h
theorem pxx {X : Cx} {W : WX} (tk : Takes X W) : ∀ σ, PassesAt (L2.CX X.prog X.w) X σ (WE W σ) := fun σ => passAt tk σ
/-! from a def's body to its promise, wherever it stands -/
section
variable {P : Program} {w : World} {K : PySem.W.Frag} {mg : Str → Option Value} {base : Heap} {CX : CXT} {k : Nat} {x qual : Str} {sp : Sp} {params : Arguments} {body : List Stmt} {scope : Scope} {f : Addr} {fd : FuncData} {ps N : List Str}
theorem fnN (F : FunD K x qual params body scope [] [] f fd)
    (hb : ∀ (kV doc pm : Value) (an : Option Addr) (cdv ct : Value) (us : List Value), us.length = ps.length → bindArgs (PySem.W.fnOf x qual params body scope .none kV doc pm an cdv ct) ⟨us, []⟩ = pure (ps.zip us))
    (S : FnScope N ps scope) (len : ∀ vs H Q E, sp vs H Q E → vs.length = ps.length)
    (hbody : ∀ (cdv : Value) (A : Around) (outer : List Env) (s : Shared) (H : Hp) (vs : List V) (Q : VK) (E : XK), Room k (A.deeper (envOfC qual scope s.heap.objs.size f cdv)) → sp vs H Q E →
      ∃ t, PSs (cxOf CX P w K mg base N qual scope f cdv A outer s H E) body t ∧ t { nx := fun _ H' => Q .non H', rt := Q } (start N vs) H) : FnR P w K mg base CX (k + 1) f sp :=
  ((F.ok S len hbody).raw (F.bindsN hb) .nil).imp fun vs H Q E h => by rw [List.append_nil]; exact h
end
end EL
namespace EX
open PySem PySem.W PySem.Calls PyProof.Rows PySem.HandSPX
/-! ### an own error with a field: super().__init__('..'); self.f = f -/
def xiB (fl : Str) (me : Expr) (p0 p1 p2 p4 p5 q1 q2 q3 q4 : Pos) : List Stmt :=
  [.Expr (.Call (.Attribute (.Call (.Name "super" p0) [] [] p1) "__init__" p2) [me] [] p4) p5, .Assign [.Attribute (.Name "self" q1) fl q2] (.Name fl q3) q4]
/-- the message: a text, or (fs) f'..{fl}' -/
def MsgOk (fl : Str) (me : Expr) : Bool → Prop
  | false => ∃ (msg : Str) (j : Nat) (p : Pos), me = .Constant (.str msg) j p
  | true => ∃ (msg : Str) (j : Nat) (p p1 p2 p3 : Pos), me = .JoinedStr [.Constant (.str msg) j p, .FormattedValue (.Name fl p1) (-1) none p2] p3 ∧ msg.length ≤ 1000
def XvOk (v : Value) : Bool → Prop
  | false => True
  | true => ∃ z t, v = .str z t ∧ z.length ≤ 1000
/-- its head and its scope -/
structure XSc (params : Arguments) (scope : Scope) (fl : Str) : Prop where
  bind : ∀ (name q : Str) (body : List Stmt) (doc pm : Value) (an : Option Addr) (cdv ct : Value) (cc : Addr) (u v : Value), bindArgs (ksFn name q params body scope .none .none doc pm an cdv ct cc) ⟨[u, v], []⟩ = pure [(("self" : Str), u), (fl, v)]
  head : ∃ ar : Arg, (params.posonlyargs ++ params.args).head? = some ar ∧ ar.arg = "self"
  ks : scope.names.lookup ("super" : Str) = some .globalImplicit
  kc : scope.names.lookup ("__class__" : Str) = some .free
  kself : scope.names.lookup ("self" : Str) = some .local
  kf : scope.names.lookup fl = some .local
  kind : scope.kind = .function
  ncell : ∀ x ∈ scope.names, x.2 ≠ .cell
  co : scope.isCoroutine = false
  gen : scope.isGenerator = false
  ne : fl ≠ "self"
  dbg : (fl == ("__debug__" : Str)) = false
/-- what the written part says of the class at C and of its __init__ at fI -/
structure XTxt (K : Frag) (C fI cc cda : Addr) (fl file : Str) (fs : Bool) : Prop where
  cls : ∃ nm q N bs bm sn sub ab col dd k0 k1 k2 k3 k5, K.lookup C = some (excClassObj nm q C N bs bm true sn sub ab col dd k0 k1 k2 k3 k5 "ValueError.__new__") ∧ refsVE bm = true
  sa : findIn K (.ref C) "__setattr__" = some (some (.builtin "object.__setattr__"))
  noN : findIn K (.ref C) fl = some none
  iC : findIn K (.ref C) "__init__" = some (some (.ref fI))
  tC : typeIn K (.ref fI) = some (.type "function")
  ve : subIn K (.ref C) (.type "ValueError") = some true
  self : mroIn K C (.ref C) = some true
  sup : ks_superIn K C C "__init__" = some (some (.builtin "ValueError.__init__"))
  tp : nsIn K cStatics "thirdparty.any" = some none
  cell : ∃ cl cld csl, K.lookup cc = some ⟨cl, cld, .cell (some (.ref C)), csl⟩
  code : ∃ ccl cdd vs ccs tf, K.lookup cda = some ⟨ccl, cdd, .fields vs, ccs⟩ ∧ vs[2]? = some (.str file tf)
  fn : ∃ (oc : Value) (od : Option Addr) (doc pm : Value) (an : Option Addr) (ct : Value) (osl : Array (Option Value)) (q : Str) (params : Arguments) (scope : Scope) (me : Expr) (p0 p1 p2 p4 p5 q1 q2 q3 q4 : Pos),
    K.lookup fI = some ⟨oc, od, .func (ksFn "__init__" q params (xiB fl me p0 p1 p2 p4 p5 q1 q2 q3 q4) scope .none .none doc pm an (.ref cda) ct cc), osl⟩ ∧ codeIn K (.ref cda) q = true ∧ XSc params scope fl ∧ (p2.endLine == p4.line) = true ∧ MsgOk fl me fs
/-- what __init__ leaves of a fresh exception at x -/
structure InitEnd (h h' : Heap) (x C dx t1 : Addr) (fl : Str) (v : Value) : Prop where
  keep : ∀ b o, b ≠ x → h.get? b = some o → h'.get? b = some o
  obj : h'.get? x = some { cls := .ref C, dict := some dx, data := .fields #[.ref t1, .none, .none, .none, .bool false, .none] }
  dbig : h.objs.size ≤ dx
  dne : dx ≠ x
  ns : h'.Ns1 dx (fun y => if y = fl then some v else none)
structure OwnMade (h h' : Heap) (e C d : Addr) (fl : Str) (v : Value) : Prop where
  keep : ∀ b o, h.get? b = some o → h'.get? b = some o
  new : h.objs.size ≤ e
  obj : ∃ oe vs, h'.get? e = some oe ∧ oe.cls = .ref C ∧ oe.dict = some d ∧ oe.data = .fields vs ∧ vs[1]? = some .none
  dbig : h.objs.size ≤ d
  dne : d ≠ e
  ns : h'.Ns1 d (fun y => if y = fl then some v else none)
theorem meth_eq {o e : Expr} {name : Str} {p2 p4 : Pos} {env : Env} (hl : (p2.endLine == p4.line) = true) : eval (.Call (.Attribute o name p2) [e] [] p4) env = (do
      let ov ← attributeBase o name env (eval o env)
      standAt p2.atName
      let (f, first) ← holding [ov] (calleeOf (methodCallForm 1 (backTo p4 (starEach [e] env)) []) o env ov name)
      callWith p4 f first (backTo p4 (starEach [e] env)) []) := by
  show (attributeBase o name env (eval o env) >>= fun ov => standAt p2.atName >>= fun _ => methodCall o name p2 p4 env ov 1 (backTo p4 (starEach [e] env)) []) = _
  have x : ∀ ov, methodCall o name p2 p4 env ov 1 (backTo p4 (starEach [e] env)) [] = (holding [ov] (calleeOf (methodCallForm 1 (backTo p4 (starEach [e] env)) []) o env ov name) >>= fun z => callWith p4 z.1 z.2 (backTo p4 (starEach [e] env)) []) := fun ov => by
    unfold methodCall methodCallPos
    simp only [hl, Bool.or_true, if_true, pure_bind]
  simp only [x]
theorem meth_msg {o me : Expr} {name fl : Str} {fs : Bool} {p2 p4 : Pos} {env : Env} (hm : MsgOk fl me fs) (hl : (p2.endLine == p4.line) = true) : starEach [me] env = [(false, eval me env)] ∧ eval (.Call (.Attribute o name p2) [me] [] p4) env = (do
      let ov ← attributeBase o name env (eval o env)
      standAt p2.atName
      let (f, first) ← holding [ov] (getMethod ov name (do return (← importBound o env).getD true))
      callWith p4 f first (backTo p4 (starEach [me] env)) []) := by
  cases fs with
  | false =>
    obtain ⟨msg, j, p, rfl⟩ := hm
    exact ⟨rfl, meth_eq hl⟩
  | true =>
    obtain ⟨msg, j, p, p1, pp, p3, rfl, _⟩ := hm
    exact ⟨rfl, meth_eq hl⟩
section
variable {prog : Program} {w : World} {A : Around} {E : Value → Shared → Prop} {R : Result → Shared → Prop} {s : Shared} {K : Frag} {C fI cc cda : Addr} {fl file : Str} {mg mb : Str → Option Value}
/-- the wrapper of ValueError.__init__ called -/
theorem call_mw {h : Heap} {g : Array GenState} {d : Drawn} {t : Nat} {os : OsState} {u e t0 : Addr} {rest : List Value} {Q : Value → Shared → Prop}
    (hC : ∃ nm q N bs bm sn sub ab col dd k0 k1 k2 k3 k5, h.get? C = some (excClassObj nm q C N bs bm true sn sub ab col dd k0 k1 k2 k3 k5 "ValueError.__new__")) (he : h.get? e = some (excO C t0)) (hu : h.get? u = some (kxs_mw "ValueError.__init__" e)) (hrest : rest.length ≤ sizeLine)
    (hq : ∀ h' t1, (∀ b o, b ≠ e → h.get? b = some o → h'.get? b = some o) → h'.get? e = some (excO C t1) → Q .none ⟨h', g, d, t, os⟩) :
    wpAny (model prog w) A (call (.ref u) rest) Q E ⟨h, g, d, t, os⟩ := by
  obtain ⟨nm, q, N, bs, bm, sn, sub, ab, col, dd, k0, k1, k2, k3, k5, hC⟩ := hC
  refine wpAny_call (codeAny_of_tree ?_)
  show wpAny _ A.in1 (callAny (.ref u) ⟨rest, []⟩) _ _ _
  simp only [callAny]
  refine wpAny_bind (wpAny_load hu ?_)
  simp only [kxs_mw, show (Value.type "method-wrapper" == Value.type "method" || Value.type "method-wrapper" == Value.type "builtin_function_or_method" || Value.type "method-wrapper" == Value.type "method-wrapper") = true by decide, if_true]
  refine KFB.if_so (by decide) ?_
  refine wpAny_bind (check_bound_init F.excBase_ValueError.toExcCallFacts hC he rfl ?_)
  refine wpAny_bind (wpAny_pure (wpAny_pure ?_))
  refine ⟨plainId_quiet F.excBase_ValueError.init.plain _, codeAny_builtin F.excBase_ValueError.initEntry ?_⟩
  exact exc_init_tree (cls := .ref C) (t0 := t0) (dv := none) (c2 := .none) (c3 := .none) (b4 := .bool false) he hrest fun h' k e' _ => hq h' _ k e'
theorem msg_run {h : Heap} {g : Array GenState} {d : Drawn} {t : Nat} {os : OsState} {env : Env} {fs : Bool} {me : Expr} {v : Value} {m : Str → Option Value} {Q : Value → Shared → Prop} (hm : MsgOk fl me fs) (hv : XvOk v fs) (hk : env.scope.kind = .function) (hf : env.scope.names.lookup fl = some .local)
    (hdb : (fl == ("__debug__" : Str)) = false) (hn : h.Ns env.locals m) (hmv : m fl = some v) (hq : ∀ z tz t', Q (.str z tz) ⟨h, g, d, t', os⟩) : wpAny (model prog w) A (eval me env) Q E ⟨h, g, d, t, os⟩ := by
  cases fs with
  | false =>
    obtain ⟨msg, j, p, rfl⟩ := hm
    exact wpAny_Constant_str (hq _ _ _)
  | true =>
    obtain ⟨msg, j, p, p1, p2, p3, rfl, hl⟩ := hm
    obtain ⟨z, tz, rfl, hz⟩ := hv
    refine wpAny_JoinedStr ?_
    have e0 : evalEach [.Constant (.str msg) j p, .FormattedValue (.Name fl p1) (-1) none p2] env = [eval (.Constant (.str msg) j p) env, eval (.FormattedValue (.Name fl p1) (-1) none p2) env] := by first | rfl | simp [evalEach]
    rw [e0]
    have l1 : (Str.empty ++ msg).length ≤ 1000 := by rw [EL.str_nil]; exact hl
    have l2 : ((Str.empty ++ msg) ++ z).length ≤ sizeLine := by
      rw [EL.str_nil, TL.len_tl, TL.tl_append, List.length_append, ← TL.len_tl, ← TL.len_tl]
      exact Nat.le_trans (Nat.add_le_add hl hz) (by decide)
    refine wpAny_Constant_str ⟨msg, _, rfl, Nat.le_trans l1 (by decide), ?_⟩
    refine wpAny_FormattedValue_plain ?_
    refine wpAny_Name (wpAny_loadName_local hk hf hn hmv ?_) hdb
    exact wpAny_formatField_str ⟨z, _, rfl, l2, l2, hq _ _ _⟩ ⟨z, _, rfl, l2, l2, hq _ _ _⟩ (Nat.le_trans hz (by decide))
theorem kept_but {h h' : Heap} {x : Addr} (X : K.In h) (hx : K.lookup x = none) (k : ∀ b o, b ≠ x → h.get? b = some o → h'.get? b = some o) : K.In h' := fun a o e =>
  k a o (fun z => by rw [z, hx] at e; cases e) (X a o e)
theorem xf_init {fs : Bool} (T : XTxt K C fI cc cda fl file fs) {x t0 : Addr} {v : Value} (hv : XvOk v fs) (X : K.In s.heap) (hlim : s.heap.NoLimit) (hx : s.heap.get? x = some (excO C t0)) (hnx : K.lookup x = none) (hroom : A.depth < recursionLimit)
    (G : s.heap.Ns mainGlobals mg) (hsu : mg "super" = none) (Bn : s.heap.Ns builtinsNs mb) (hb : mb "super" = some (.type "super")) (hfile : ((prog.main.file : Str) == file) = true) (htop : (prog.main.scope.names.lookup ("super" : Str)).isSome = false)
    (hq : ∀ h' tk dx t1, InitEnd s.heap h' x C dx t1 fl v → R (.ok (.ret .none)) { s with heap := h', toks := tk }) :
    codeAny (model prog w) A (.call (.ref fI) ⟨[.ref x, v], []⟩) R s := by
  obtain ⟨oc, od, doc, pm, an, ct, osl, q, params, scope, me, p0, p1, p2, p4, p5, q1, q2, q3, q4, ho, hcd, S, hl, hm⟩ := T.fn
  obtain ⟨nm, cq, N, bs, bm, sn, sub, ab, col, dd, k0, k1, k2, k3, k5, hC, hbm⟩ := T.cls
  obtain ⟨cl, cld, csl, hcell⟩ := T.cell
  obtain ⟨ccl, cdd, vs, ccs, tf, hcode, hvs⟩ := T.code
  obtain ⟨ar, har, hara⟩ := S.head
  have hcl : clsIn K C = some { name := nm, bases := bs, mro := .ref C :: bm, ns := N, qualname := cq, hasDict := true, slotNames := sn, subclasses := sub, abstract := ab, collection := col, hasDel := false } := by unfold clsIn; rw [hC] <;> rfl
  refine ks_codeAny_call_defAt (fd := ksFn "__init__" q params (xiB fl me p0 p1 p2 p4 p5 q1 q2 q3 q4) scope .none .none doc pm an (.ref cda) ct cc) (binds := [(("self" : Str), .ref x), (fl, v)]) hroom (X _ _ ho) rfl hlim (codeRec_of X hcd) rfl (BindsTo.of_eq (S.bind ..)) S.ncell ?_ (fun h₁ hn k => ?_) S.co S.gen S.kind
  · intro y hy
    rcases List.mem_cons.mp hy with rfl | hy
    · exact S.kself
    · rcases List.mem_cons.mp hy with rfl | hy
      · exact S.kf
      · cases hy
  have vself : ([(("self" : Str), Value.ref x), (fl, v)] : List (Str × Value)).reverse.lookup ("self" : Str) = some (.ref x) := by
    show List.lookup ("self" : Str) [(fl, v), (("self" : Str), Value.ref x)] = _
    have e : (("self" : Str) == fl) = false := by simpa using Ne.symm S.ne
    simp [List.lookup, e]
  have vfl : ([(("self" : Str), Value.ref x), (fl, v)] : List (Str × Value)).reverse.lookup fl = some v := by
    show List.lookup fl [(fl, v), (("self" : Str), Value.ref x)] = _
    simp [List.lookup]
  obtain ⟨hh, g, d, t, os⟩ := s
  dsimp only at hn k X hlim hx G Bn
  have X₁ : K.In h₁ := X.keeps k
  have hx₁ := k _ _ hx
  show _root_.PySem.wpAt _ _ (.func _ (ksEnv q scope hh.objs.size fI (.ref cda) cc)) (execs (xiB fl me p0 p1 p2 p4 p5 q1 q2 q3 q4) (ksEnv q scope hh.objs.size fI (.ref cda) cc)) _ _ _
  refine ks_wpAt_execs_cons (ks_wpAt_Expr_any (ks_wpAt_MethodCall ?_ (meth_msg hm hl).2) (by unfold interactive; simp [S.kind]))
  refine ks_wpAt_super_base (env := ksEnv q scope hh.objs.size fI (.ref cda) cc) S.ks S.kc (by decide) rfl (X₁ _ _ ho) rfl har rfl (X₁ _ _ hcode) rfl hvs hfile htop ?_
  refine ks_loadName_global S.kind S.ks (loadGlobal_builtin (env := ksEnv q scope hh.objs.size fI (.ref cda) cc) (G.keeps k) hsu (Bn.keeps k) hb ⟨rfl, ?_⟩)
  refine wpAny_loadName_free S.kind S.kc rfl ⟨_, X₁ _ _ hcell, rfl⟩ ?_
  rw [hara]
  refine wpAny_loadName_local S.kind S.kself hn vself ?_
  refine ks_wpAny_isType_cls (X₁ _ _ hC) rfl ⟨rfl, ?_⟩
  refine ks_wpAny_call_super (X₁ _ _ hC) rfl hx₁ rfl (fun c e => by cases e) (looks_mroIn X₁ T.self) (fun h₂ e₂ k₂ => ?_)
  have X₂ : K.In h₂ := X₁.keeps k₂
  have hx₂ := k₂ _ _ hx₁
  have I₂ : InstAt h₂ x (excO C t0) C none := ⟨hx₂, rfl, rfl, trivial⟩
  have hI : Looks (model prog w) h₂ (isInstance (.ref x) (.type "ValueError")) true := I₂.type.andThen (looks_subIn X₂ T.ve)
  have hsp := T.sup
  unfold ks_superIn at hsp
  rw [hcl] at hsp
  refine kxs_getMethod kxs_ValueError e₂ (looks_opaque X₂ T.tp) (l₀ := .ref C :: bm) (fun A Q E s k q => wpAny_bind ((looks_clsIn X₂ hcl) A _ E s k (wpAny_pure q))) rfl X₂ hsp hI (ks_ne X₂ I₂ hcl) (by decide) ?_
  have hu₃ : (h₂.push (kxs_mw "ValueError.__init__" x)).get? h₂.objs.size = some (kxs_mw "ValueError.__init__" x) := Heap.get?_push_at rfl rfl
  have k₃ : ∀ b o, h₂.get? b = some o → (h₂.push (kxs_mw "ValueError.__init__" x)).get? b = some o := fun b o e => Heap.get?_push_of_some _ e
  have k₃n : h₁.Ns hh.objs.size (fun x_1 => ([(("self" : Str), Value.ref x), (fl, v)] : List (Str × Value)).reverse.lookup x_1) → (h₂.push (kxs_mw "ValueError.__init__" x)).Ns hh.objs.size (fun x_1 => ([(("self" : Str), Value.ref x), (fl, v)] : List (Str × Value)).reverse.lookup x_1) := fun q => q.keeps fun b o e => k₃ _ _ (k₂ _ _ e)
  dsimp only
  rw [(meth_msg (o := .Name "self" p0) (name := "x") (env := ksEnv q scope hh.objs.size fI (.ref cda) cc) hm hl).1]
  refine kxs_callWith (i := "ValueError.__init__") (x := x) rfl ?_
  refine evalArgs_plain (spliced_cons (msg_run hm hv S.kind S.kf S.dbg (k₃n hn) vfl fun z tz t' => spliced_nil ⟨hu₃, ?_⟩))
  have hxL : hh.objs.size ≠ x := Nat.ne_of_gt (Heap.lt_size hx)
  refine call_mw (C := C) (e := x) (t0 := t0) ⟨nm, cq, N, bs, bm, sn, sub, ab, col, dd, k0, k1, k2, k3, k5, k₃ _ _ (X₂ _ _ hC)⟩ (k₃ _ _ hx₂) hu₃ (by show 1 ≤ sizeLine; decide) fun h₄ t1 k₄ hx₄ => ?_
  have X₄ : K.In h₄ := kept_but (X₂.keeps k₃) hnx k₄
  have k04 : ∀ b o, b ≠ x → hh.get? b = some o → h₄.get? b = some o := fun b o hbx e => k₄ b o hbx (k₃ b o (k₂ b o (k b o e)))
  obtain ⟨oL, es, ep, hL, rr⟩ := hn
  have hn₄ : h₄.Ns hh.objs.size (fun x_1 => ([(("self" : Str), Value.ref x), (fl, v)] : List (Str × Value)).reverse.lookup x_1) := ⟨oL, es, ep, k₄ _ _ hxL (k₃ _ _ (k₂ _ _ hL)), rr⟩
  have z1 : hh.objs.size < h₄.objs.size := hn₄.lt
  refine ks_wpAt_execs_cons (wpAt_of_wpAny (plainObj_wpAny_Assign_Attribute ?_))
  refine wpAny_Name (wpAny_loadName_local S.kind S.kf hn₄ vfl ?_) S.dbg
  refine wpAny_Name (wpAny_loadName_local S.kind S.kself hn₄ vself ?_) (by decide)
  refine set_plain X₄ (ox := excO C t1) (od := none) ⟨hx₄, rfl, rfl, trivial⟩ T.sa ?_
  refine exc_osa X₄ hx₄ hcl (show refsVE (.ref C :: bm) = true from hbm) rfl T.noN (fun h₅ tk₅ dx k₅ dn dne hx₅ hn₅ => ?_)
  refine wpAt_of_wpAny (wpAny_execs_nil ?_)
  exact hq h₅ tk₅ dx t1 ⟨fun b o hbx e => k₅ b o hbx (k04 b o hbx e), hx₅, Nat.le_of_lt (Nat.lt_of_lt_of_le z1 dn), dne, hn₅⟩
theorem xf_made {fs : Bool} (T : XTxt K C fI cc cda fl file fs) {v : Value} (hv : XvOk v fs) (X : K.In s.heap) (hlim : s.heap.NoLimit) (hroom : A.depth + 1 < recursionLimit)
    (G : s.heap.Ns mainGlobals mg) (hsu : mg "super" = none) (Bn : s.heap.Ns builtinsNs mb) (hb : mb "super" = some (.type "super")) (hfile : ((prog.main.file : Str) == file) = true) (htop : (prog.main.scope.names.lookup ("super" : Str)).isSome = false)
    (hq : ∀ h' tk e d, OwnMade s.heap h' e C d fl v → R (.ok (.ret (.ref e))) { s with heap := h', toks := tk }) :
    codeAny (model prog w) A (.call (.ref C) ⟨[v], []⟩) R s := by
  obtain ⟨nm, q, N, bs, bm, sn, sub, ab, col, dd, k0, k1, k2, k3, k5, hC, hbm⟩ := T.cls
  obtain ⟨hp, g, dr, tk, os⟩ := s
  have k : ∀ b o, hp.get? b = some o → ((hp.push (kdv_tup [v])).push (excO C hp.objs.size)).get? b = some o := fun b o e => Heap.get?_push_of_some _ (Heap.get?_push_of_some _ e)
  have hget : ((hp.push (kdv_tup [v])).push (excO C hp.objs.size)).get? (hp.objs.size + 1) = some (excO C hp.objs.size) := by heap_get
  have hnx : K.lookup (hp.objs.size + 1) = none := by
    cases e : K.lookup (hp.objs.size + 1) with
    | none => rfl
    | some o =>
      have z : hp.get? (hp.objs.size + 1) = some o := X _ _ e
      exact absurd (Nat.lt_of_succ_lt (Heap.lt_size z)) (Nat.lt_irrefl _)
  refine call_own F.excBase_ValueError (fun X => refsVE_contains X bm hbm) (X _ _ hC) (looks_findIn X T.iC) (fun self => bind_fn X self T.tC) (by show 1 ≤ sizeLine; decide) ?_
  refine xf_init (s := ⟨(hp.push (kdv_tup [v])).push (excO C hp.objs.size), g, dr, tk, os⟩) T hv (X.keeps k) (hlim.keeps k) hget hnx ?_ (G.keeps k) hsu (Bn.keeps k) hb hfile htop fun h' tk' dx t1 ⟨k', hx, dn, dne, hns⟩ => ?_
  · show A.depth + 1 < recursionLimit
    exact hroom
  · have old : ∀ b o, hp.get? b = some o → h'.get? b = some o := fun b o e => k' b o (Nat.ne_of_lt (Nat.lt_succ_of_lt (Heap.lt_size e))) (k b o e)
    have z : hp.objs.size + 1 + 1 ≤ dx := by
      first
        | (simpa only [Heap.size_push] using dn)
        | exact dn
        | (have q := dn; rw [Heap.size_push, Heap.size_push] at q; exact q)
    exact ⟨rfl, hq h' tk' (hp.objs.size + 1) dx ⟨old, Nat.le_succ _, ⟨_, _, hx, rfl, rfl, rfl, rfl⟩, Nat.le_trans (Nat.le_trans (Nat.le_succ _) (Nat.le_succ _)) z, dne, hns⟩⟩
end
end EX
namespace EL
open PySem PySem.Spec PyProof.Rows L2 He TL
/-- the program's file, no own super -/
structure PF (P : Program) (file : Str) : Prop where
  file : ((P.main.file : Str) == file) = true
  top : (P.main.scope.names.lookup ("super" : Str)).isSome = false
/-- an own error with the field fl -/
structure XT0 (K : PySem.W.Frag) (mg : Str → Option Value) (x fl file : Str) (fs : Bool) : Prop where
  t : ∃ cc cda, EX.XTxt K (ga K x) (ma K (ga K x) "__init__") cc cda fl file fs
  g : mg x = some (.ref (ga K x))
  su : mg "super" = none
  kp : PySem.W.keepIn K (.ref (ga K x)) = true
  ex : PySem.W.subIn K (.ref (ga K x)) (.type "BaseException") = some true
  ty : PySem.W.typeIn K (.ref (ga K x)) = some (.type "type")
abbrev XT (K : PySem.W.Frag) (mg : Str → Option Value) (x fl file : Str) : Prop := XT0 K mg x fl file false
abbrev XTf (K : PySem.W.Frag) (mg : Str → Option Value) (x fl file : Str) : Prop := XT0 K mg x fl file true
theorem relO_one {fl : Str} {v : V} {v' : Value} (r : RelV v v') (f : Str) : RelO (List.lookup f [(fl, v)]) (if f = fl then some v' else none) := by
  by_cases hw : f = fl
  · subst hw
    rw [if_pos rfl]
    have q : List.lookup f [(f, v)] = some v := by simp [List.lookup]
    rw [q]
    exact r
  · rw [if_neg hw]
    have qw : (f == fl) = false := by simpa using hw
    have q2 : List.lookup f [(fl, v)] = none := by simp [List.lookup, qw]
    rw [q2]
    trivial
section
variable {X : Cx} {x fl file : Str}
def tMkX (C : Addr) (fl : Str) (ta : TA) : L2.St → Hp → XK → Prop := fun σ H Q => ta σ H fun vs H1 => ∃ v, vs = [v] ∧ ∀ d, H1 d = none → Q (.ref C) (some d) (upd H1 d (.xd [(fl, v)]))
/-- the same, the field a text (that the message shows) -/
def tMkF (C : Addr) (fl : Str) (ta : TA) : L2.St → Hp → XK → Prop := fun σ H Q => ta σ H fun vs H1 => ∃ z : Str, vs = [.str z] ∧ z.length ≤ 1000 ∧ ∀ d, H1 d = none → Q (.ref C) (some d) (upd H1 d (.xd [(fl, .str z)]))
def xvOk (v : V) : Bool → Prop
  | false => True
  | true => ∃ z : Str, v = .str z ∧ z.length ≤ 1000
theorem xvOk.to {v : V} {u : Value} {fs : Bool} (h : xvOk v fs) (r : RelV v u) : EX.XvOk u fs := by
  cases fs with
  | false => trivial
  | true =>
    obtain ⟨z, rfl, hz⟩ := h
    obtain ⟨t, rfl⟩ := r
    exact ⟨z, t, rfl, hz⟩
theorem pmk_xf0 {fs : Bool} {a : Expr} {ta : TA} {p pos : Pos} {k : Nat} {R : List V → Hp → XK → Prop} (hR : ∀ vs H1 Q, R vs H1 Q → ∃ v, vs = [v] ∧ xvOk v fs ∧ ∀ d, H1 d = none → Q (.ref (ga X.K x)) (some d) (upd H1 d (.xd [(fl, v)]))) (hP : PF X.prog file) (T : XT0 X.K X.mg x fl file fs) (hr : Room k X.A) (ha : PA X [a] ta) (hg : Gl X x := by rfl) (hdb : (x == ("__debug__" : Str)) = false := by decide)
    (he : starEach (a :: []) X.env = (false, eval a X.env) :: starEach [] X.env := by rfl) (hpl : (backTo pos (starEach [] X.env)).any (·.1) = false := by rfl) :
    PMk X (.Call (.Name x p) [a] [] pos) (fun σ H Q => ta σ H fun vs H1 => R vs H1 Q) := by
  intro pins s σ H Q I h
  refine wpAny_Call_Name_kw (ld_glob I hg T.g ?_ hdb)
  refine PySem.W.callWith_K (h₀ := X.base) I.ok.mod.kin T.kp (thn (ha.run pos pins s σ H _ I h) fun us s1 hh => ?_) he hpl
  obtain ⟨vs, H1, I1, r1, q0⟩ := hh
  obtain ⟨v, ev, xo, q1⟩ := hR _ _ _ q0
  subst ev
  refine ⟨I1.kIn, ?_⟩
  cases r1 with
  | cons rv rn =>
    rename_i v' us'
    cases rn
    show wpAny _ _ (call (.ref (ga X.K x)) [v']) _ _ _
    have hlim := I1.nolimit
    obtain ⟨cc, cda, TT⟩ := T.t
    obtain ⟨mb, hmb, hmb2⟩ := I1.mod.blt
    have G1 : s1.heap.Ns mainGlobals X.mg := I1.mod.glob.keeps I1.bk
    have B1 : s1.heap.Ns builtinsNs mb := hmb.keeps I1.bk
    have hsu : mb "super" = some (.type "super") := (hmb2 _ (by decide +kernel)).trans (by decide +kernel)
    obtain ⟨hp, g, dr, tk, os⟩ := s1
    refine wpAny_call (EX.xf_made TT (xo.to rv) I1.kIn hlim (by have := hr.dp; omega) G1 T.su B1 hsu hP.file hP.top fun h' tk' e d M => ?_)
    show MkP X pins σ Q (.ref e) ⟨h', g, dr, tk', os⟩
    obtain ⟨oe, fv, hoe, hc, hd, hdat, h1⟩ := M.obj
    have hns := M.ns
    obtain ⟨G', g1, g2⟩ := restrict h' fun b => decide (b ≠ e)
    have gk : ∀ b, b ≠ e → G'.get? b = h'.get? b := fun b hb => g1 b (decide_eq_true hb)
    have ge : G'.get? e = none := g2 e (by simp)
    have old : ∀ b o, hp.get? b = some o → G'.get? b = some o := fun b o q => (gk b (Nat.ne_of_lt (Nat.lt_of_lt_of_le (Heap.lt_size q) M.new))).trans (M.keep b o q)
    have ob : ObjOk X.prog X.w (upd H1 d (.xd [(fl, v)])) G' d (.xd [(fl, v)]) :=
      ⟨_, hns.at (fun o q => (gk d M.dne).trans q), fun f => relO_one rv f⟩
    have J : Inv X pins σ (upd H1 d (.xd [(fl, v)])) ⟨G', g, dr, tk', os⟩ := I1.laid (t' := tk') old M.dbig ob
    refine ⟨e, oe, fv, ⟨G', g, dr, tk', os⟩, _, .ref (ga X.K x), some d, rfl, J, fun b o q => ?_, ge, hoe, ⟨hc, hd⟩, hdat, h1, ?_, rfl, I1.bare, raises_own T.ex T.ty, q1 d (I1.hok.fresh M.dbig)⟩
    · by_cases hb : b = e
      · have q' : G'.get? b = some o := q
        rw [hb, ge] at q'; cases q'
      · exact (gk b hb).symm.trans q
    · rw [upd_ne (Ne.symm M.dne)]
      exact I1.hok.fresh M.new
theorem pmk_xf {a : Expr} {ta : TA} {p pos : Pos} {k : Nat} (hP : PF X.prog file) (T : XT X.K X.mg x fl file) (hr : Room k X.A) (ha : PA X [a] ta) (hg : Gl X x := by rfl) (hdb : (x == ("__debug__" : Str)) = false := by decide)
    (he : starEach (a :: []) X.env = (false, eval a X.env) :: starEach [] X.env := by rfl) (hpl : (backTo pos (starEach [] X.env)).any (·.1) = false := by rfl) :
    PMk X (.Call (.Name x p) [a] [] pos) (tMkX (ga X.K x) fl ta) :=
  pmk_xf0 (fs := false) (R := fun vs H1 Q => ∃ v, vs = [v] ∧ ∀ d, H1 d = none → Q (.ref (ga X.K x)) (some d) (upd H1 d (.xd [(fl, v)]))) (fun vs H1 Q ⟨v, e, q⟩ => ⟨v, e, trivial, q⟩) hP T hr ha hg hdb he hpl
theorem pmk_xff {a : Expr} {ta : TA} {p pos : Pos} {k : Nat} (hP : PF X.prog file) (T : XTf X.K X.mg x fl file) (hr : Room k X.A) (ha : PA X [a] ta) (hg : Gl X x := by rfl) (hdb : (x == ("__debug__" : Str)) = false := by decide)
    (he : starEach (a :: []) X.env = (false, eval a X.env) :: starEach [] X.env := by rfl) (hpl : (backTo pos (starEach [] X.env)).any (·.1) = false := by rfl) :
    PMk X (.Call (.Name x p) [a] [] pos) (tMkF (ga X.K x) fl ta) :=
  pmk_xf0 (fs := true) (R := fun vs H1 Q => ∃ z : Str, vs = [.str z] ∧ z.length ≤ 1000 ∧ ∀ d, H1 d = none → Q (.ref (ga X.K x)) (some d) (upd H1 d (.xd [(fl, .str z)]))) (fun vs H1 Q ⟨z, e, hz, q⟩ => ⟨_, e, ⟨z, rfl, hz⟩, q⟩) hP T hr ha hg hdb he hpl
/-- raise C(e), C an own error whose message shows its field -/
theorem rsxf {a : Expr} {ta : TA} {W : WX} {p pos pos2 : Pos} {k : Nat} (hc : X.calm = true) (tk : Takes X W) (hP : PF X.prog file) (T : XTf X.K X.mg x fl file) (hr : Room k X.A) (ha : PA X [a] ta) (hg : Gl X x := by rfl) (hdb : (x == ("__debug__" : Str)) = false := by decide)
    (he : starEach (a :: []) X.env = (false, eval a X.env) :: starEach [] X.env := by rfl) (hpl : (backTo pos (starEach [] X.env)).any (·.1) = false := by rfl) :
    PS X (.Raise (some (.Call (.Name x p) [a] [] pos)) none pos2) (fun _ σ H => tMkF (ga X.K x) fl ta σ H fun cls d H' => W cls d σ H') := ps_raise hc tk (pmk_xff hP T hr ha hg hdb he hpl)
/-- raise C(e), C an own error with a field -/
theorem rsx {a : Expr} {ta : TA} {W : WX} {p pos pos2 : Pos} {k : Nat} (hc : X.calm = true) (tk : Takes X W) (hP : PF X.prog file) (T : XT X.K X.mg x fl file) (hr : Room k X.A) (ha : PA X [a] ta) (hg : Gl X x := by rfl) (hdb : (x == ("__debug__" : Str)) = false := by decide)
    (he : starEach (a :: []) X.env = (false, eval a X.env) :: starEach [] X.env := by rfl) (hpl : (backTo pos (starEach [] X.env)).any (·.1) = false := by rfl) :
    PS X (.Raise (some (.Call (.Name x p) [a] [] pos)) none pos2) (fun _ σ H => tMkX (ga X.K x) fl ta σ H fun cls d H' => W cls d σ H') := ps_raise hc tk (pmk_xf hP T hr ha hg hdb he hpl)
end
end EL
namespace EL
open PySem PySem.W PySem.Spec PyProof.Rows He
/-! ### the facts of such an error, from the head -/
def xclB (K : Frag) (C : Addr) : Bool := match K.lookup C with
  | some ⟨.type "type", _, .cls cd, sl⟩ => (match cd.mro, sl.toList with
    | .ref C' :: bm, [_, _, _, _, some (.builtin n), _] => C' == C && n == "ValueError.__new__" && !cd.hasDel && cd.hasDict && HandSPX.refsVE bm
    | _, _ => false)
  | _ => false
theorem xclB_ok {K : Frag} {C : Addr} (q : xclB K C = true) : ∃ nm q N bs bm sn sub ab col dd k0 k1 k2 k3 k5, K.lookup C = some (excClassObj nm q C N bs bm true sn sub ab col dd k0 k1 k2 k3 k5 "ValueError.__new__") ∧ HandSPX.refsVE bm = true := by
  unfold xclB at q
  split at q
  · rename_i dd cd sl ho
    split at q
    · rename_i C' bm k0 k1 k2 k3 n k5 hm hs
      simp only [Bool.and_eq_true, beq_iff_eq, Bool.not_eq_true'] at q
      obtain ⟨⟨⟨⟨rfl, rfl⟩, hdel⟩, hdi⟩, ht⟩ := q
      obtain ⟨nm, bs, mro, ns, qn, hd, sn, sub, ab, col, del⟩ := cd
      dsimp only at hm hdel hdi
      subst hm hdel hdi
      have hsl : sl = #[k0, k1, k2, k3, some (.builtin "ValueError.__new__"), k5] := by
        obtain ⟨l⟩ := sl
        simp only at hs
        rw [hs]
      subst hsl
      exact ⟨nm, qn, ns, bs, bm, sn, sub, ab, col, dd, k0, k1, k2, k3, k5, ho, ht⟩
    · cases q
  · cases q
/-- closure, code, defaults of its __init__ -/
def xfnB (K : Frag) (C f : Addr) (q file : Str) : Bool := match K.lookup f with
  | some ⟨_, _, .func fd, _⟩ => (match fd.closure, fd.code, fd.defaults, fd.kwdefaults with
    | [(_, cc)], .ref cda, .none, .none => (match K.lookup cc with
      | some ⟨_, _, .cell (some (.ref D)), _⟩ => decide (D = C)
      | _ => false) && ((match K.lookup cda with
      | some ⟨_, _, .fields vs, _⟩ => (match (vs[2]? : Option Value) with
        | some (Value.str fi _) => decide (fi = file)
        | _ => false)
      | _ => false) && codeIn K (.ref cda) q)
    | _, _, _, _ => false)
  | _ => false
def xtB (K : Frag) (x fl file : Str) : Bool := xclB K (ga K x) && (eqO (findIn K (.ref (ga K x)) "__setattr__") (some (some (.builtin "object.__setattr__"))) && (eqO (findIn K (.ref (ga K x)) fl) (some none) &&
  (eqO (findIn K (.ref (ga K x)) "__init__") (some (some (.ref (ma K (ga K x) "__init__")))) && (decide (typeIn K (.ref (ma K (ga K x) "__init__")) = some (.type "function")) && (decide (subIn K (.ref (ga K x)) (.type "ValueError") = some true) &&
  (decide (mroIn K (ga K x) (.ref (ga K x)) = some true) && (eqO (ks_superIn K (ga K x) (ga K x) "__init__") (some (some (.builtin "ValueError.__init__"))) && (eqO (nsIn K cStatics "thirdparty.any") (some none) &&
  (keepIn K (.ref (ga K x)) && (decide (subIn K (.ref (ga K x)) (.type "BaseException") = some true) && (decide (typeIn K (.ref (ga K x)) = some (.type "type")) && (L2.xfB K (ga K x) && xfnB K (ga K x) (ma K (ga K x) "__init__") (x ++ ".__init__") file))))))))))))
/-- what of a def with a closure is looked at (the cells' places not) -/
def fnWX (K : Frag) (a : Addr) : FnW := match K.lookup a with
  | some ⟨_, _, .func fd, _⟩ => some (fd.name, fd.qualname, fd.params, fd.body, fd.scope, fd.globals, fd.closure.map fun z => (z.1, 0), fd.builtins)
  | _ => none
structure DefX where
  cls : Str
  fl : Str
  st : Stmt
  fs : Bool
def DefX.val (d : DefX) : FnW := some ("__init__", d.cls ++ ".__init__", L2.defArgs d.st, .stmts (L2.defBody d.st), L2.defScope d.st, mainGlobals, [("__class__", 0)], builtinsNs)
def DefX.ad (K : Frag) (d : DefX) : Addr := ma K (ga K d.cls) "__init__"
/-- its text, as it was written -/
structure XW (d : DefX) : Prop where
  sc : EX.XSc (L2.defArgs d.st) (L2.defScope d.st) d.fl
  body : ∃ (me : Expr) (p0 p1 p2 p4 p5 q1 q2 q3 q4 : Pos), L2.defBody d.st = EX.xiB d.fl me p0 p1 p2 p4 p5 q1 q2 q3 q4 ∧ (p2.endLine == p4.line) = true ∧ EX.MsgOk d.fl me d.fs
theorem xt_of {K : Frag} {mg : Str → Option Value} {file : Str} {d : DefX} (W : XW d) (e : fnWX K (d.ad K) = d.val) (g : mg d.cls = some (.ref (ga K d.cls))) (su : mg "super" = none) (h : xtB K d.cls d.fl file = true) : XT0 K mg d.cls d.fl file d.fs ∧ L2.XfC K (ga K d.cls) ∧ findIn K (.ref (ga K d.cls)) d.fl = some none := by
  obtain ⟨h1, h⟩ := ba h
  obtain ⟨h2, h⟩ := ba h
  obtain ⟨h3, h⟩ := ba h
  obtain ⟨h4, h⟩ := ba h
  obtain ⟨h5, h⟩ := ba h
  obtain ⟨h6, h⟩ := ba h
  obtain ⟨h7, h⟩ := ba h
  obtain ⟨h8, h⟩ := ba h
  obtain ⟨h9, h⟩ := ba h
  obtain ⟨h10, h⟩ := ba h
  obtain ⟨h11, h⟩ := ba h
  obtain ⟨h12, h⟩ := ba h
  obtain ⟨h13, h14⟩ := ba h
  refine ⟨⟨?_, g, su, h10, of_decide_eq_true h11, of_decide_eq_true h12⟩, L2.xfB_ok h13, eqO_ok h3⟩
  unfold xfnB at h14
  unfold fnWX at e
  unfold DefX.ad at e
  split at h14
  · rename_i oc od fd osl lk
    rw [lk] at e
    obtain ⟨n1, n2, n3, n4, n5, n6, n7, n8, n9, n10, n11, n12, n13, n14, n15⟩ := fd
    have e2 : (some (n1, n2, n3, n4, n5, n6, n7.map (fun z => (z.1, (0 : Addr))), n15) : FnW) = (some (("__init__" : Str), d.cls ++ ".__init__", L2.defArgs d.st, FuncBody.stmts (L2.defBody d.st), L2.defScope d.st, mainGlobals, [(("__class__" : Str), (0 : Addr))], builtinsNs) : FnW) := e
    simp only [Option.some.injEq, Prod.mk.injEq] at e2
    obtain ⟨z1, z2, z3, z4, z5, z6, z7, z8⟩ := e2
    dsimp only at h14
    split at h14
    · rename_i nm cc cda
      obtain ⟨k1, k⟩ := ba h14
      obtain ⟨k2, k3⟩ := ba k
      subst z1 z2 z3 z4 z5 z6 z8
      have hnm : nm = "__class__" := by
        simp only [List.map_cons, List.map_nil, List.cons.injEq, Prod.mk.injEq] at z7
        exact z7.1.1
      subst hnm
      refine ⟨cc, cda, xclB_ok h1, eqO_ok h2, eqO_ok h3, eqO_ok h4, of_decide_eq_true h5, of_decide_eq_true h6, of_decide_eq_true h7, eqO_ok h8, eqO_ok h9, ?_, ?_, ?_⟩
      · split at k1
        · rename_i cl cld D csl lc
          rw [of_decide_eq_true k1] at lc
          exact ⟨_, _, _, lc⟩
        · cases k1
      · split at k2
        · rename_i ccl cdd vs ccs lc
          split at k2
          · rename_i fi tf hv
            rw [of_decide_eq_true k2] at hv
            exact ⟨_, _, _, _, _, lc, hv⟩
          · cases k2
        · cases k2
      · obtain ⟨me, p0, p1, p2, p4, p5, q1, q2, q3, q4, hb, hl, hm⟩ := W.body
        rw [hb] at lk
        exact ⟨oc, od, _, _, _, _, osl, _, _, _, me, p0, p1, p2, p4, p5, q1, q2, q3, q4, lk, k3, W.sc, hl, hm⟩
    · cases h14
  · cases h14
end EL
namespace EL
open PySem PySem.Spec PyProof.Rows L2 He TL
/-! ### the head with such errors -/
abbrev AlX : Type := AlM × List FnW
def obsX (fa : List Fa) (fn : List DefE) (xn : List DefX) (ex : PySem.W.Frag → Bool) (K : PySem.W.Frag) : AlX := (obsE fa fn ex K, xn.map fun d => fnWX K (d.ad K))
def obsXG (n : Nat) (fa : List Fa) (fn : List DefE) (xn : List DefX) (ex : PySem.W.Frag → Bool) (g : Addr → Option Obj) : AlX := obsX fa fn xn ex (frG g (He5.asA g n))
def valX (fn : List DefE) (xn : List DefX) : AlX := (valE fn, xn.map DefX.val)
def SaysX (fa : List Fa) (fn : List DefE) (xn : List DefX) (ex : PySem.W.Frag → Bool) (K : PySem.W.Frag) : Prop := obsX fa fn xn ex K = valX fn xn
def hookX (n : Nat) (fa : List Fa) (fn : List DefE) (xn : List DefX) (ex : PySem.W.Frag → Bool) : PySem.W.Hook where
  α := AlX
  obs := fun s => obsXG n fa fn xn ex s.heap.get?
  val := fun _ => valX fn xn
  says := fun _ h => ∃ K : PySem.W.Frag, K.In h ∧ SaysX fa fn xn ex K
  of := fun _ _ e => ⟨_, frG_in, e⟩
  keeps := fun _ _ _ ⟨K, hK, c⟩ k => ⟨K, PySem.W.Frag.In.keeps hK k, c⟩
theorem obsXG_eq {n : Nat} {fa : List Fa} {fn : List DefE} {xn : List DefX} {ex : PySem.W.Frag → Bool} {g : Addr → Option Obj} {s : Shared} (h : ∀ a, g a = s.heap.get? a) : obsXG n fa fn xn ex g = (hookX n fa fn xn ex).obs s := by
  have e : g = s.heap.get? := funext h
  rw [e] <;> rfl
section
variable {fa : List Fa} {fn : List DefE} {xn : List DefX} {ex : PySem.W.Frag → Bool} {K : PySem.W.Frag}
theorem SaysX.e (c : SaysX fa fn xn ex K) : SaysE fa fn ex K := congrArg (fun z : AlX => z.1) c
theorem SaysX.xd (c : SaysX fa fn xn ex K) (i : Nat) {d : DefX} (h : xn[i]? = some d := by rfl) : fnWX K (d.ad K) = d.val := by
  have e : xn.map (fun d => fnWX K (d.ad K)) = xn.map DefX.val := congrArg (fun z : AlX => z.2) c
  have e2 : (xn.map fun d => fnWX K (d.ad K))[i]? = (xn.map DefX.val)[i]? := by rw [e]
  rw [List.getElem?_map, List.getElem?_map, h] at e2
  exact Option.some.inj e2
end
end EL
namespace EL
open PySem PySem.Spec PyProof.Rows L2 He TL
/-! ### own dunders of instances with a dict -/
section
variable {X : Cx} {CX : CXT} {k : Nat} {C g : Addr} {sp : Sp} {E : XK}
theorem ins_at {pins : List (Addr × Obj)} {σ : L2.St} {H : Hp} {s : Shared} {a dx : Addr} {fs : List (Str × V)} (I : Inv X pins σ H s) (h : H a = some (.ins C dx fs)) : ∃ ox od, PySem.W.InstAt s.heap a ox C od ∧ ox.data = .plain := by
  obtain ⟨mA, O, _⟩ := ins_get I.hok h
  obtain ⟨od, J, _⟩ := O.look
  exact ⟨_, _, J, rfl⟩
/-- len(x) of an instance -/
def rLenO (C : Addr) (sp : Sp) (E : XK) : List V → Hp → VK → Prop := fun xs H Q => ∃ a dx fs, xs = [V.ref a] ∧ H a = some (.ins C dx fs) ∧ sp [.ref a] H (fun z H' => ∃ n : Int, z = .int n ∧ (0 ≤ n ∧ n < 2 ^ 63) ∧ Q z H') E
theorem call_lenO (hm : Meth X.K C "__len__" g) (F : FnR X.prog X.w X.K X.mg X.base CX k g sp) (hr : Room (k + 1) X.A) (hx : Passes CX X E) : CallR X (.builtin "len") (rLenO C sp E) := by
  intro pins s σ H xs us Q I r h
  obtain ⟨a, dx, fs, rfl, ha, q⟩ := h
  obtain ⟨u, rfl, ru⟩ := r.one
  cases (show u = Value.ref a from ru)
  obtain ⟨ox, od, J, _⟩ := ins_at I ha
  obtain ⟨m, hF⟩ := I.fr
  refine PySem.W.len_K hF I.ok.mod.kin J hm.at_ hm.fn (wpAny_mono (wpAny_call (SlX.run_at (us := [.ref a]) (ws := [.ref a]) F (Room.in1 hr) I.env0.in1 hx I (.cons rfl .nil) q)) (fun w s' z => ?_) fun _ _ x => x)
  obtain ⟨z', H', I', rz, n, en, hn, qz⟩ := z
  subst en
  obtain ⟨t, e⟩ := (show ∃ t, w = Value.int n t from rz)
  cases e
  exact ⟨hn, .int n, H', I'.tok _, ⟨_, rfl⟩, qz⟩
/-- x op y, x an instance of the class at C whose def for op is at g; y a thing whose type has no say first -/
def rCmpO (K : PySem.W.Frag) (C : Addr) (sp : Sp) (E : XK) : R2 := fun x y H Q => ∃ a dx fs t, x = .ref a ∧ H a = some (.ins C dx fs) ∧ TyX K H y t ∧ PySem.W.notFirst K C t = true ∧ sp [x, y] H Q E
theorem op_cmpO {op : CmpOp} (hop : ∀ a b, compareOp op a b = richCompare op a b) (hs : PySem.W.findIn X.K (.ref C) (cmpInfo op).2.1 = some (some (.ref g))) (hf : PySem.W.isFn X.K (.ref g) = true) (F : FnR X.prog X.w X.K X.mg X.base CX k g sp)
    (hr : Room k X.A) (hx : Passes CX X E) : OpR X (compareOp op) (rCmpO X.K C sp E) := by
  intro pins s σ H x y v u Q I rx ry h
  obtain ⟨a, dx, fs, t, rfl, ha, ty, hn, q⟩ := h
  cases (show v = Value.ref a from rx)
  obtain ⟨ox, od, J, _⟩ := ins_at I ha
  obtain ⟨P, Z, p, _⟩ := kit_of I ry ty
  obtain ⟨m, hF⟩ := I.fr
  rw [hop]
  refine PySem.W.cmp_K (op := op) (tb := t) hr.units0 hF I.ok.mod.kin J (Z.ty _ _ I.kIn p) hn hs hf ?_
  refine wpAny_mono (run_fnR (us := [.ref a, u]) (vs := [.ref a, y]) F hr hx I (.cons rfl (.cons ry .nil)) q |> wpAny_call) (fun w s' z => ?_) fun _ _ x => x
  obtain ⟨z', H', I', rz, qz⟩ := z
  exact SlX.cmpback rz ⟨z', H', I', rz, qz⟩
/-- y in x, x an instance with an own __contains__ that answers a bool -/
def rInO (C : Addr) (sp : Sp) (E : XK) (neg : Bool) : R2 := fun y x H Q => ∃ a dx fs, x = .ref a ∧ H a = some (.ins C dx fs) ∧ sp [x, y] H (fun z H' => ∃ b : Bool, z = .bl b ∧ Q (.bl (if neg then !b else b)) H') E
theorem op_inO (hm : Meth X.K C "__contains__" g) (F : FnR X.prog X.w X.K X.mg X.base CX k g sp) (hr : Room k X.A) (hx : Passes CX X E) : OpR X (compareOp .In) (rInO C sp E false) := by
  intro pins s σ H y x u v Q I ry rx h
  obtain ⟨a, dx, fs, rfl, ha, q⟩ := h
  cases (show v = Value.ref a from rx)
  obtain ⟨ox, od, J, _⟩ := ins_at I ha
  obtain ⟨m, hF⟩ := I.fr
  refine PySem.W.in_K hF I.ok.mod.kin J hm.at_ hm.fn (wpAny_mono (wpAny_call (run_fnR (us := [.ref a, u]) (vs := [.ref a, y]) F hr hx I (.cons rfl (.cons ry .nil)) q)) (fun w s' z => ?_) fun _ _ x => x)
  obtain ⟨z', H', I', rz, b, eb, qz⟩ := z
  subst eb
  cases (show w = Value.bool b from rz)
  exact wpAny_truthy_bool ⟨.bl b, H', I', rfl, qz⟩
theorem op_notInO (hm : Meth X.K C "__contains__" g) (F : FnR X.prog X.w X.K X.mg X.base CX k g sp) (hr : Room k X.A) (hx : Passes CX X E) : OpR X (compareOp .NotIn) (rInO C sp E true) := by
  intro pins s σ H y x u v Q I ry rx h
  obtain ⟨a, dx, fs, rfl, ha, q⟩ := h
  cases (show v = Value.ref a from rx)
  obtain ⟨ox, od, J, _⟩ := ins_at I ha
  obtain ⟨m, hF⟩ := I.fr
  refine PySem.W.notIn_K hF I.ok.mod.kin J hm.at_ hm.fn (wpAny_mono (wpAny_call (run_fnR (us := [.ref a, u]) (vs := [.ref a, y]) F hr hx I (.cons rfl (.cons ry .nil)) q)) (fun w s' z => ?_) fun _ _ x => x)
  obtain ⟨z', H', I', rz, b, eb, qz⟩ := z
  subst eb
  cases (show w = Value.bool b from rz)
  exact wpAny_truthy_bool ⟨.bl (!b), H', I', rfl, qz⟩
/-- ~x -/
theorem un_invO (hm : Meth X.K C "__invert__" g) (F : FnR X.prog X.w X.K X.mg X.base CX k g sp) (hr : Room k X.A) (hx : Passes CX X E) : UnR X (unaryOp .Invert) (fun x H Q => ∃ a dx fs, x = .ref a ∧ H a = some (.ins C dx fs) ∧ sp [x] H Q E) := by
  intro pins s σ H x v Q I rx h
  obtain ⟨a, dx, fs, rfl, ha, q⟩ := h
  cases (show v = Value.ref a from rx)
  obtain ⟨ox, od, J, _⟩ := ins_at I ha
  obtain ⟨m, hF⟩ := I.fr
  exact PySem.W.ksp_inv hF I.ok.mod.kin J hm.at_ hm.fn (wpAny_call (run_fnR (us := [.ref a]) (vs := [.ref a]) F hr hx I (.cons rfl .nil) q))
/-- x op y, two instances of the class at C -/
def rBinO (C : Addr) (sp : Sp) (E : XK) : R2 := fun x y H Q => ∃ a dx fs b dy gs, x = .ref a ∧ y = .ref b ∧ H a = some (.ins C dx fs) ∧ H b = some (.ins C dy gs) ∧ sp [x, y] H Q E
theorem op_binO {op : Operator} (hc : PySem.W.selfFirst X.K C = true) (hs : PySem.W.findIn X.K (.ref C) (PySem.dunder op.info.2) = some (some (.ref g))) (hf : PySem.W.isFn X.K (.ref g) = true) (F : FnR X.prog X.w X.K X.mg X.base CX k g sp)
    (hr : Room k X.A) (hx : Passes CX X E) : OpR X (binaryOp op) (rBinO C sp E) := by
  intro pins s σ H x y v u Q I rx ry h
  obtain ⟨a, dx, fs, b, dy, gs, rfl, rfl, ha, hb, q⟩ := h
  cases (show v = Value.ref a from rx)
  cases (show u = Value.ref b from ry)
  obtain ⟨ox, od, J, _⟩ := ins_at I ha
  obtain ⟨ox', od', J', _⟩ := ins_at I hb
  obtain ⟨m, hF⟩ := I.fr
  refine PySem.W.binop_K hF I.ok.mod.kin J J'.type hc hs hf ?_
  refine wpAny_mono (wpAny_call (run_fnR (us := [.ref a, .ref b]) (vs := [.ref a, .ref b]) F hr hx I (.cons rfl (.cons rfl .nil)) q)) (fun w s' z => ?_) fun _ _ x => x
  obtain ⟨z', H', I', rz, qz⟩ := z
  exact SlX.cmpback rz ⟨z', H', I', rz, qz⟩
end
end EL
namespace EL
open PySem PySem.Spec PyProof.Rows L2 He TL
/-! ### several except clauses, each with a name (slot i) or without -/
/-- a clause: its class, the slot of its name, its suite's reading -/
abbrev Cl1 : Type := Value × Option Nat × (Addr → Value → Option Addr → TS)
def wMix (K : PySem.W.Frag) (Wout : WX) (D : Ends) : List Cl1 → WX
  | [] => Wout
  | (c, none, ts) :: r => fun cls d σ H => ∃ b, PySem.W.exmOne K cls c = some b ∧ (b = true → ∀ a, H a = none → ts a cls d D σ H) ∧ (b = false → wMix K Wout D r cls d σ H)
  | (c, some i, ts) :: r => fun cls d σ H => ∃ b, PySem.W.exmOne K cls c = some b ∧
      (b = true → ∀ a, H a = none → ts a cls d { nx := fun σ' H' => D.nx (σ'.set i none) H', rt := D.rt, bk := fun σ' H' => D.bk (σ'.set i none) H', ct := fun σ' H' => D.ct (σ'.set i none) H' } (σ.set i (some (.ref a))) H) ∧
      (b = false → wMix K Wout D r cls d σ H)
inductive HdsMix (X : Cx) : List ExceptHandler → List Cl1 → Prop
  | nil : HdsMix X [] []
  | one {x : Str} {c : Value} {ts : Addr → Value → Option Addr → TS} {b₀ : Stmt} {suite : List Stmt} {np pos' : Pos} {hds : List ExceptHandler} {l : List Cl1} (hc : Names X x c)
      (hsu : ∀ (a : Addr) (oe : Obj) (cls : Value) (d : Option Addr) (pn : List (Addr × Obj)), Zc cls d oe → (∃ vs, oe.data = .fields vs) → PSs (X.suite a ((a, oe) :: pn)) (b₀ :: suite) (ts a cls d)) (r : HdsMix X hds l) :
      HdsMix X (.ExceptHandler (some (.Name x np)) none (b₀ :: suite) pos' :: hds) ((c, none, ts) :: l)
  | as_ {x n : Str} {i : Nat} {c : Value} {ts : Addr → Value → Option Addr → TS} {b₀ : Stmt} {suite : List Stmt} {np pos' : Pos} {hds : List ExceptHandler} {l : List Cl1} (hi : X.N[i]? = some n) (hln : X.env.kindOf n = some .local) (hc : Names X x c)
      (hsu : ∀ (a : Addr) (oe : Obj) (cls : Value) (d : Option Addr) (pn : List (Addr × Obj)), Zc cls d oe → (∃ vs, oe.data = .fields vs) → PSs (X.suite a ((a, oe) :: pn)) (b₀ :: suite) (ts a cls d)) (r : HdsMix X hds l) :
      HdsMix X (.ExceptHandler (some (.Name x np)) (some n) (b₀ :: suite) pos' :: hds) ((c, some i, ts) :: l)
section
variable {X : Cx} {body : List Stmt} {h₀ : ExceptHandler} {hds : List ExceptHandler} {l : List Cl1} {pos : Pos} {tb : WX → TS} {Wout : WX}
theorem ps_try_mix (hs : X.stack = X.env :: X.outer) (hf : X.env.frame = some X.env.locals) (hN : X.N.Nodup) (tk : Takes X Wout)
    (hb : ∀ (W : WX) (pn : List (Addr × Obj)) (xe : Value → Shared → Prop), Takes (X.tr pn xe) W → PassesOwn (model X.prog X.w) X.A X.env xe → PSs (X.tr pn xe) body (tb W))
    (hh : HdsMix X (h₀ :: hds) l) : PS X (.Try body (h₀ :: hds) [] [] pos) (fun D σ H => tb (wMix X.K Wout D l) D σ H) := by
  refine ⟨fun pins s σ H D I h => ?_⟩
  have ok := I.ok
  have hfr : X.A.frames = some (X.env :: X.outer) := by rw [ok.frames, hs]
  refine wpAny_Try_except ?_
  refine wpAny_mono ((hb (wMix X.K Wout D l) (X.pn ++ pins) (fun e s₁ => wpAny (model X.prog X.w) X.A (noteFrame e X.env) (fun _ s₂ => wpAny (model X.prog X.w) X.A (setFlight e none) (fun _ s₃ =>
    wpAny (model X.prog X.w) X.A (handleBy e X.env (h₀ :: hds)) (SP X pins D) X.xe s₃) X.xe s₂) X.xe s₁) (fun u s' xx => ?_) PassesOwn.looking).run [] s σ H D (I.toTry _) h) (fun f s1 hsp => ?_) (fun e s1 he => he)
  · -- the catch
    obtain ⟨a, B, sI, pins', σ', H', cls, d, rfl, J', nb, up, sky, na, os, ag, w⟩ := xx
    have J : Inv X pins σ' H' sI := J'.ofTry ok
    have sky' : Sky B (X.env :: X.outer) a (Zc cls d) X.env.locals s'.heap := by rw [← hs]; exact sky
    show wpAny (model X.prog X.w) X.A (noteFrame (.ref a) X.env) _ _ _
    refine Sky.land Zc.steady hfr hf sky' fun h3 fl3 up3 => ?_
    have J3 : Inv X pins σ' H' { s' with heap := h3 } := J.landed nb fl3.1 (up.trans up3) os ag
    obtain ⟨oe3, vs3, he3, hz3, hd3⟩ := fl3.there
    have notFr : ∀ {h : Heap} {o : Obj} {vs : Array Value}, h.FunFrames B (X.env :: X.outer) → h.get? a = some o → o.data = .fields vs → a ∉ frs (X.env :: X.outer) := fun {h o vs} ff e dd hm => by
      obtain ⟨_, o', e', hnf⟩ := ff.mem hm
      rw [e] at e'; cases e'
      exact hnf _ dd
    have nfr := notFr fl3.2.2.1 he3 hd3
    have nL : a ≠ X.env.locals := fun z => nfr (List.mem_filterMap.mpr ⟨X.env, List.mem_cons_self, by rw [hf, z]⟩)
    have nF : a ∉ X.fs := fun hm => by
      obtain ⟨e, he, q⟩ := List.mem_filterMap.mp hm
      exact nfr (List.mem_filterMap.mpr ⟨e, List.mem_cons_of_mem _ he, q⟩)
    have S3 := J3.suite he3 hd3 na nL nF
    have test : ∀ {x : Str} {c : Value} {np : Pos} {Q : Value → Shared → Prop} {E : Value → Shared → Prop}, Names X x c → Q c { s' with heap := h3 } → wpAny (model X.prog X.w) (X.A.mark (some (.ref a))) (eval (.Name x np) X.env) Q E { s' with heap := h3 } := fun {x c np Q E} hc q => by
      obtain ⟨hg, hdbg, hm | ⟨hm, hv, hnn⟩⟩ := hc
      · exact ld_glob (X := X.suite a ((a, oe3) :: (X.pn ++ pins))) S3 hg hm q hdbg
      · exact ld_blt (X := X.suite a ((a, oe3) :: (X.pn ++ pins))) S3 hg hm hv q hnn hdbg
    have LT : PySem.W.Looks (model X.prog X.w) h3 (typeOf (.ref a)) cls := fun A Q E s k q => wpAny_typeOf_ref (k _ _ he3) (by rw [hz3.1]; exact q)
    have go : ∀ {hds' : List ExceptHandler} {l' : List Cl1}, HdsMix X hds' l' → wMix X.K Wout D l' cls d σ' H' →
        wpAny (model X.prog X.w) X.A (handleBy (.ref a) X.env hds') (SP X pins D) X.xe { s' with heap := h3 } := by
      intro hds' l' hk
      induction hk with
      | nil =>
        intro w
        refine wpAny_handleBy_nil ?_
        obtain ⟨k1, k2, k3, oe, vs, T, oT, ts', he, hz, hd, h1, hr⟩ := id fl3
        unfold PySem.passOn
        refine wpAny_bind (wpAny_field he hd h1 ?_)
        rw [if_neg (show ¬ ((Value.ref T == Value.none) = true) from by simp)]
        have fin : wpAny (model X.prog X.w) X.A (setFlight (.ref a) X.env.frame) (fun _ s4 => wpAny (model X.prog X.w) X.A (throw (.ref a) : Sem Flow) (SP X pins D) X.xe s4) X.xe { s' with heap := h3 } := by
          rw [hf]
          refine HandSPX.setFlight_upZ fl3 fun h4 hh4 up4 => wpAny_throw (tk _ _ ?_)
          exact ⟨a, B, sI, pins, σ', H', cls, d, rfl, J, nb, (up.trans up3).trans up4, .inr (.inr (by rw [hs]; exact hh4)), na, os, ag, w⟩
        first
          | exact wpAny_bind (wpAny_pure (wpAny_bind fin))
          | exact wpAny_bind fin
      | @one x c ts b₀ suite np pos' hds2 l2 hc hsu r ih =>
        intro w
        obtain ⟨b, hb1, hyes, hno⟩ := w
        refine wpAny_handleBy_cons (codeAny_handlers_test ?_) (by intro q; cases q)
        have LM := PySem.W.exm_one (M := model X.prog X.w) (J3.kIn) LT hb1
        refine test hc (LM.here ?_)
        cases b with
        | true =>
          refine codeAny_handlers_suite ?_
          refine HandSPX.lands_againZ fl3 fun h4 fl4 up4 => ?_
          have J4 : Inv X pins σ' H' { s' with heap := h4 } := J.landed nb fl4.1 ((up.trans up3).trans up4) os ag
          obtain ⟨oe4, vs4, he4, hz4, hd4⟩ := fl4.there
          have S4 := J4.suite he4 hd4 na nL nF
          refine wpAny_mono ((hsu a oe4 cls d (X.pn ++ pins) hz4 ⟨_, hd4⟩).run [] _ _ H' _ S4 (hyes rfl a na)) (fun f s6 hsp => ?_) (fun _ _ z => False.elim z)
          cases f with
          | next =>
            obtain ⟨σ6, H6, S6, q6⟩ := hsp
            exact ⟨_, _, S6.unsuite ok, q6⟩
          | brk =>
            obtain ⟨σ6, H6, S6, q6⟩ := hsp
            exact ⟨_, _, S6.unsuite ok, q6⟩
          | cont =>
            obtain ⟨σ6, H6, S6, q6⟩ := hsp
            exact ⟨_, _, S6.unsuite ok, q6⟩
          | ret u =>
            obtain ⟨v6, σ6, H6, S6, r6, q6⟩ := hsp
            exact ⟨_, _, _, S6.unsuite ok, r6, q6⟩
        | false =>
          show wpAny _ X.A (handleBy (.ref a) X.env hds2) _ _ _
          exact ih (hno rfl)
      | @as_ x n i c ts b₀ suite np pos' hds2 l2 hi hln hc hsu r ih =>
        intro w
        obtain ⟨b, hb1, hyes, hno⟩ := w
        have hloc : Loc X.env.scope n := .inl hln
        refine wpAny_handleBy_cons (codeAny_handlers_test ?_) (by intro q; cases q)
        have LM := PySem.W.exm_one (M := model X.prog X.w) (J3.kIn) LT hb1
        refine test hc (LM.here ?_)
        cases b with
        | true =>
          refine codeAny_handlers_suite_as ?_
          refine HandSPX.lands_againZ fl3 fun h4 fl4 up4 => ?_
          have J4 : Inv X pins σ' H' { s' with heap := h4 } := J.landed nb fl4.1 ((up.trans up3).trans up4) os ag
          obtain ⟨oe4, vs4, he4, hz4, hd4⟩ := fl4.there
          have S4 := J4.suite he4 hd4 na nL nF
          refine store_ok (X := X.suite a ((a, oe4) :: (X.pn ++ pins))) (v := .ref a) S4 hN hi hloc rfl (fun s5 S5 => ?_) (.inr hln)
          refine wpAny_mono ((hsu a oe4 cls d (X.pn ++ pins) hz4 ⟨_, hd4⟩).run [] s5 _ H' _ S5 (hyes rfl a na)) (fun f s6 hsp => ?_) (fun _ _ z => False.elim z)
          have end_ : ∀ {σ6 : L2.St} {H6 : Hp} {Q : Shared → Prop}, Inv (X.suite a ((a, oe4) :: (X.pn ++ pins))) [] σ6 H6 s6 → (∀ s7, Inv X pins (σ6.set i none) H6 s7 → Q s7) →
              wpAny (model X.prog X.w) X.A (do bindName X.env n .none; unbindBehindTheSuite X.env n pos') (fun _ s7 => Q s7) X.xe s6 := fun {σ6 H6 Q} S6 hq => gone_ok (S6.unsuite ok) hN hi hln hq
          cases f with
          | next =>
            obtain ⟨σ6, H6, S6, q6⟩ := hsp
            exact end_ S6 fun s7 J7 => ⟨_, _, J7, q6⟩
          | brk =>
            obtain ⟨σ6, H6, S6, q6⟩ := hsp
            exact end_ S6 fun s7 J7 => ⟨_, _, J7, q6⟩
          | cont =>
            obtain ⟨σ6, H6, S6, q6⟩ := hsp
            exact end_ S6 fun s7 J7 => ⟨_, _, J7, q6⟩
          | ret u =>
            obtain ⟨v6, σ6, H6, S6, r6, q6⟩ := hsp
            exact end_ S6 fun s7 J7 => ⟨_, _, _, J7, r6, q6⟩
        | false =>
          show wpAny _ X.A (handleBy (.ref a) X.env hds2) _ _ _
          exact ih (hno rfl)
    exact go hh w
  · cases f with
    | next =>
      obtain ⟨σ', H', J', q⟩ := hsp
      exact wpAny_execs_nil ⟨σ', H', J'.ofTry ok, q⟩
    | brk =>
      obtain ⟨σ', H', J', q⟩ := hsp
      exact ⟨σ', H', J'.ofTry ok, q⟩
    | cont =>
      obtain ⟨σ', H', J', q⟩ := hsp
      exact ⟨σ', H', J'.ofTry ok, q⟩
    | ret u =>
      obtain ⟨v, σ', H', J', r, q⟩ := hsp
      exact ⟨v, σ', H', J'.ofTry ok, r, q⟩
end
end EL
namespace EL
open PySem PySem.Spec PyProof.Rows L2 He TL
/-! ### dict comprehensions whose keys are ints, texts or tuples of them -/
/-- the empty dict, either way -/
inductive NilD : HO → Prop where
  | k : NilD (.dK [])
  | t : NilD (.dT [])
theorem NilD.ok {P : Program} {w : World} {H : Hp} {o : HO} (n : NilD o) (h : Heap) (hb : sysModules < h.objs.size) : ObjOk P w H (h.push { cls := .type "dict", data := .dict #[] }) h.objs.size o := by
  cases n with
  | k => exact dk_empty h hb
  | t => exact dt_empty h hb
theorem put_by {X : Cx} {pins : List (Addr × Obj)} {σ : L2.St} {H H' : Hp} {s : Shared} {E : Value → Shared → Prop} {D : Addr} {y v : V} {u r : Value} {Q : Unit → Shared → Prop} (hu : X.A.units < cLine) (I : Inv X pins σ H s) (g : DPut H D y v H')
    (ry : RelV y u) (rv : RelV v r) (h : ∀ s', Inv X pins σ H' s' → Q () s') : wpAny (model X.prog X.w) X.A (dictSet D u r) Q E s := by
  rcases g with ⟨kvs, k, e, ey, l, eH⟩ | ⟨kvs, k, b, e, ey, eb, l, eH⟩
  · subst ey
    subst eH
    exact d_dictSet I e l ry rv h
  · subst ey
    subst eH
    obtain rfl : u = Value.ref b := ry
    obtain ⟨z, hd, xs, rel, dd⟩ := dt_of I.hok e
    refine wpAny_dictSet_heap (hsz := by rw [← Paired.length rel]; exact z) (show (tupleKind (mixKind X.prog X.w)).room X.A from hu) (key_of I.hok eb) dd fun h' dd' hs => h _ ?_
    obtain ⟨q, es, ep, hq, c2, c3, c4, _, c5⟩ := dd'
    have lz : (putK kvs k v).length ≤ sizeLine := by have := length_putK kvs k v; omega
    exact d_write I (by rw [e]; trivial) hs ⟨q, hq⟩ ⟨lz, hd, _, (rel.put k eb rv).keeps fun c ys ec => (upd_ne (ne_of ec e (fun z => nomatch z))).trans ec, q, es, ep, hq, c2, c3, c4, c5⟩
section
variable {X : Cx}
abbrev DcStep (g : TG) (tt : TT) (tk tv : TE) (vs : List Nat) (σ : L2.St) (D : Addr) (Nx : Hp → Prop) (x : V) (H : Hp) : Prop := g x (wipe σ vs) H fun σ2 H2 => wipe σ2 vs = wipe σ vs ∧ tt σ2 H2 fun b H3 =>
  if b = true then tk σ2 H3 fun y H4 => tv σ2 H4 fun z H5 => ∃ H6, DPut H5 D y z H6 ∧ Nx H6 else Nx H3
def tDcG (o0 : HO) (wi : TI) (g : TG) (tt : TT) (tk tv : TE) (vs : List Nat) : TE := fun σ H Q => wi σ H fun J H1 => ∀ D, H1 D = none → ∃ W : Nat → Nat → Hp → Prop, (∃ m, W 0 m (upd H1 D o0)) ∧ ∀ i m H, W i m H →
  (J.stop i H ∧ Q (.ref D) H) ∨ (J.go i H ∧ ∃ Nx : Hp → Prop, (∀ H', Nx H' → ∃ m', m' < m ∧ W (i + 1) m' H') ∧ ∀ x H', J.yld i H x H' → DcStep g tt tk tv vs σ D Nx x H')
theorem pe_dcG {o0 : HO} {kx vx tg iter : Expr} {ifs : List Expr} {scope : Scope} {own : List (Str × Nat)} {pos : Pos} {wi : TI} {g : TG} {tt : TT} {tk tv : TE} (n0 : NilD o0) (hu : X.A.units < cLine) (hc : X.calm = true) (hN : X.N.Nodup) (hi : PI X tg iter wi) (ok : BlkOk X.N X.env.scope scope own)
    (hg : ∀ (s : Shared) (H : Hp) (C : Addr) (cl : List (Str × Addr)) (fp : List Addr), PG (X.blk s H scope (compEnvC scope cl C X.env) fp) tg g) (ht : ∀ (s : Shared) (H : Hp) (C : Addr) (cl : List (Str × Addr)) (fp : List Addr), PTs (X.blk s H scope (compEnvC scope cl C X.env) fp) ifs tt)
    (hk : ∀ (s : Shared) (H : Hp) (C : Addr) (cl : List (Str × Addr)) (fp : List Addr), PE (X.blk s H scope (compEnvC scope cl C X.env) fp) kx tk)
    (hv : ∀ (s : Shared) (H : Hp) (C : Addr) (cl : List (Str × Addr)) (fp : List Addr), PE (X.blk s H scope (compEnvC scope cl C X.env) fp) vx tv) (hs : ∀ x, foldedSetIterable iter X.env x = pure x := by intro _; rfl) :
    PE X (.DictComp kx vx [⟨tg, iter, ifs, 0⟩] scope pos) (tDcG o0 wi g tt tk tv (own.map (·.2))) := by
  refine ⟨fun pins s σ H Q I h => ?_⟩
  rw [arm_eval_DictComp]
  have cl : ∀ y ∈ scope.names, y.2 = .free → ∃ c, X.env.cells.lookup y.1 = some c := fun y hy e => (ok.free y hy e).elim (fun k => I.ok.has _ (.inl k)) (fun k => I.ok.has _ (.inr k))
  refine wpAny_comprehension_free (use := none) rfl hs (closure_ok cl) ok.kind (fun y hy e => by rw [ok.uniq y hy, e]) (thn (hi.run pins s σ H _ I h) fun xv s1 hx => thn hx fun itv s2 h2 => ?_)
  obtain ⟨it, fp, tn, J, H2, e, I2, T, st2, f2, q⟩ := h2
  subst e
  refine wpAny_newObj_type (newEnv_comp ?_)
  generalize hD : s2.heap.objs.size = D
  obtain ⟨W, ⟨m0, w0⟩, turn⟩ := q D (I2.hok.fresh (Nat.le_of_eq hD))
  -- the new dict
  have h3 : ∃ s3 : Shared, ({ s2 with heap := s2.heap.push { cls := .type "dict", data := .dict #[] } } : Shared) = s3 := ⟨_, rfl⟩
  obtain ⟨s3, hs3⟩ := h3
  have hh3 : s3.heap = s2.heap.push { cls := .type "dict", data := .dict #[] } := by rw [← hs3]
  have h4 : ∃ H3, upd H2 D o0 = H3 := ⟨_, rfl⟩
  obtain ⟨H3, hH3⟩ := h4
  have I3 : Inv X pins σ H3 s3 := by
    rw [← hs3, ← hH3]
    refine I2.laid (t' := s2.toks) (fun b o e => Heap.get?_push_of_some _ e) (Nat.le_of_eq hD) ?_
    rw [← hD]
    exact n0.ok s2.heap I2.big
  rw [hH3] at w0
  have lt2 : ∀ b ∈ fp, b < s2.heap.objs.size := fun b hb => let ⟨o, e, _⟩ := T.obj _ _ st2 b hb; Heap.lt_size e
  have f3 : ∀ b ∈ fp, FpOk X pins H3 b ∧ b < s3.heap.objs.size := fun b hb => by
    refine ⟨⟨?_, (f2 b hb).2⟩, by rw [hh3, Heap.size_push]; exact Nat.lt_succ_of_lt (lt2 b hb)⟩
    rw [← hH3, upd_ne (by rw [← hD]; exact Nat.ne_of_lt (lt2 b hb))]
    exact (f2 b hb).1
  have I4 := block_start I3 ok hN f3
  rw [hs3]
  show codeAny _ _ (.compStart (.DictComp kx vx [⟨tg, iter, ifs, 0⟩] scope pos) 0 (.ref it) (.ref D) (compEnvC scope (cellsFrom (s3.heap.objs.size + 1) scope.names (cloFrom X.env.cells scope.names [])) s3.heap.objs.size X.env)) (compPost (model X.prog X.w) X.A X.xe none _ (.ref D) s3.heap.objs.size) { s3 with heap := pushCells (s3.heap.push { cls := .type "dict", data := .dict #[] }) scope.names }
  have pg := hg s3 H3 s3.heap.objs.size (cellsFrom (s3.heap.objs.size + 1) scope.names (cloFrom X.env.cells scope.names [])) fp
  have pt := ht s3 H3 s3.heap.objs.size (cellsFrom (s3.heap.objs.size + 1) scope.names (cloFrom X.env.cells scope.names [])) fp
  have pk := hk s3 H3 s3.heap.objs.size (cellsFrom (s3.heap.objs.size + 1) scope.names (cloFrom X.env.cells scope.names [])) fp
  have pv := hv s3 H3 s3.heap.objs.size (cellsFrom (s3.heap.objs.size + 1) scope.names (cloFrom X.env.cells scope.names [])) fp
  generalize hce : compEnvC scope (cellsFrom (s3.heap.objs.size + 1) scope.names (cloFrom X.env.cells scope.names [])) s3.heap.objs.size X.env = ce at I4 pg pt pk pv ⊢
  have cL : ce.locals = s3.heap.objs.size := by rw [← hce]; rfl
  have st4 : tn 0 (pushCells (s3.heap.push { cls := .type "dict", data := .dict #[] }) scope.names) := T.keep _ _ _ st2 fun b _ o e => pushCells_keeps _ _ _ _ (Heap.get?_push_of_some _ (by rw [hh3]; exact Heap.get?_push_of_some _ e))
  generalize hs4 : ({ s3 with heap := pushCells (s3.heap.push { cls := .type "dict", data := .dict #[] }) scope.names } : Shared) = s4 at I4 ⊢
  have st4' : tn 0 s4.heap := by rw [← hs4]; exact st4
  have stat : ∀ {σ' : L2.St} {H' : Hp} {s' : Shared}, Inv (X.blk s3 H3 scope ce fp) [] σ' H' s' → (∀ b ∈ fp, H' b = none) → ∀ b ∈ fp, FpOk (X.blk s3 H3 scope ce fp) [] H' b := fun I' hn b hb =>
    ⟨hn b hb, (I'.ok.exf b hb).1, I'.ok.exfs b hb, .inl hb, fun x c e => (I'.ok.exf b hb).2 x c e, fun p hp => by cases hp⟩
  have loop : codeAny (model X.prog X.w) X.A (.compLoop (.DictComp kx vx [⟨tg, iter, ifs, 0⟩] scope pos) 0 (.ref it) (.ref D) ce) (compPost (model X.prog X.w) X.A X.xe none (EP X pins σ Q) (.ref D) s3.heap.objs.size) s4 := by
    refine compLoop_anyD (fun n s' => ∃ i H', Inv (X.blk s3 H3 scope ce fp) [] (wipe σ (own.map (·.2))) H' s' ∧ tn i s'.heap ∧ (∀ b ∈ fp, H' b = none) ∧ W i n H') ?_ m0 ⟨0, H3, I4, st4', fun b hb => (f3 b hb).1.1, w0⟩
    rintro n s5 ⟨i, H5, I5, st5, n5, w5⟩
    rcases turn i n H5 w5 with ⟨stop, qq⟩ | ⟨go, Nx, hNx, step⟩
    · refine thnF (T.done (X.blk s3 H3 scope ce fp) rfl rfl rfl hc i [] s5 _ H5 (fun _ _ => False) I5 (stat I5 n5) st5 stop) fun r s6 ⟨hr, I6⟩ => ?_
      subst hr
      have I7 : Inv X pins σ H5 s6 := I3.call' (ch := fp) I6.os I6.base I6.hok I6.bare fun b hb => ⟨(f3 b hb).1.2.2.2.1, (f3 b hb).1.2.1, (f3 b hb).1.2.2.2.2.1, (f3 b hb).1.2.2.2.2.2⟩
      have nC : H5 s3.heap.objs.size = none := by rw [← cL]; exact I6.free
      obtain ⟨m, hn, _⟩ := I6.loc
      obtain ⟨a0, a1, a2, a3, a4, a5⟩ := I3.fpOk (Nat.le_refl _) nC
      refine ⟨m, by rw [← cL]; exact hn, fun h'' sb => ?_⟩
      exact ⟨.ref D, H5, I7.turned (t' := s6.toks) (fun b o hb e => (sb.2 b hb).trans e) a0 a1 a3 a4 a5, rfl, qq⟩
    · refine thnF (T.item (X.blk s3 H3 scope ce fp) rfl rfl rfl hc i [] s5 _ H5 (fun _ _ => False) I5 (stat I5 n5) st5 go) fun r s6 ⟨u, hr, h6⟩ => ?_
      subst hr
      refine thnF h6 fun _ s7 ⟨x, H7, I7, r7, y7, st7, n7⟩ => ?_
      refine thnF (pg.run _ s7 _ H7 x u _ (I7.pinned (stat I7 n7) (T.obj _ _ st7)) r7 (step x H7 y7)) fun _ s8 ⟨σ8, H8, I8, hw8, q8⟩ => ?_
      refine thnF (pt.run _ s8 σ8 H8 _ I8 q8) fun b s9 ⟨H9, I9, q9⟩ => ?_
      have fin : ∀ {s' : Shared} {H' : Hp}, Inv (X.blk s3 H3 scope ce fp) ([] ++ pinsAt fp s7.heap) σ8 H' s' → Nx H' → ∃ m, m < n ∧ ∃ i H', Inv (X.blk s3 H3 scope ce fp) [] (wipe σ (own.map (·.2))) H' s' ∧ tn i s'.heap ∧ (∀ b ∈ fp, H' b = none) ∧ W i m H' := fun {s' H'} I' nx => by
        obtain ⟨m', hm, w'⟩ := hNx H' nx
        have pin' : ∀ b ∈ fp, ∀ o, s7.heap.get? b = some o → s'.heap.get? b = some o ∧ H' b = none := fun b hb o e =>
          let z := I'.pin (b, o) (List.mem_append_right _ (List.mem_append_right _ (mem_pinsAt hb e)))
          ⟨z.1, z.2.1⟩
        refine ⟨m', hm, i + 1, H', (I'.unpinned (pins := [])).weak (by rw [← hw8, wipe_length]) (fun j v e => (wipe_some (by rw [hw8]; exact e)).1), T.keep _ _ _ st7 fun b hb o e => (pin' b hb o e).1, fun b hb => ?_, w'⟩
        obtain ⟨o, e, _⟩ := T.obj _ _ st7 b hb
        exact (pin' b hb o e).2
      cases b with
      | false => exact fin I9 q9
      | true =>
        refine thnF (pk.run _ s9 σ8 H9 _ I9 q9) fun z s10 ⟨yk, H10, I10, r10, q10⟩ => ?_
        refine thnF (pv.run _ s10 σ8 H10 _ I10 q10) fun z2 s11 ⟨yv, H11, I11, r11, H12, dp, nx⟩ => ?_
        exact put_by (X := X.blk s3 H3 scope ce fp) hu I11 dp r10 r11 fun s12 I12 => fin I12 nx
  exact codeAny_compStart_dict loop (T.self X.A 0 _ _ _ st4' loop)
/-- the turns of such a comprehension -/
theorem dcG_it {J : It} {n : Nat} {G : Hp → Prop} {Y : Nat → Hp → V → Hp → Prop} (w : L2.Walk J n G Y) {o0 : HO} {g : TG} {tt : TT} {tk tv : TE} {vs : List Nat} {σ : L2.St} {H1 : Hp} {D : Addr} {Qd : Hp → Prop} (Pv : Nat → Hp → Prop) (h0 : Pv 0 (upd H1 D o0)) (hG : ∀ i H, i ≤ n → Pv i H → G H)
    (hs : ∀ i x H H', i < n → Pv i H → Y i H x H' → DcStep g tt tk tv vs σ D (Pv (i + 1)) x H') (hd : ∀ H, Pv n H → Qd H) :
    ∃ W : Nat → Nat → Hp → Prop, (∃ m, W 0 m (upd H1 D o0)) ∧ ∀ i m H, W i m H → (J.stop i H ∧ Qd H) ∨ (J.go i H ∧ ∃ Nx : Hp → Prop, (∀ H', Nx H' → ∃ m', m' < m ∧ W (i + 1) m' H') ∧ ∀ x H', J.yld i H x H' → DcStep g tt tk tv vs σ D Nx x H') := by
  refine ⟨fun i m H => m + i = n ∧ Pv i H, ⟨n, rfl, h0⟩, fun i m H ⟨hm, p⟩ => ?_⟩
  have q := hG i H (by omega) p
  cases m with
  | zero =>
    have e : i = n := by omega
    subst e
    exact .inl ⟨w.stops H q, hd H p⟩
  | succ m => exact .inr ⟨w.goes i H (by omega) q, Pv (i + 1), fun H' p' => ⟨m, Nat.lt_succ_self m, by omega, p'⟩, fun x H' y => hs i x H H' (by omega) p (w.yields i H x H' (by omega) q y)⟩
end
end EL
namespace EL
open PySem PySem.Spec PyProof.Rows L2 He TL
/-! ### what may change: the objects in S; tuples never -/
def Rig : HO → Bool
  | .tup _ => true
  | .frz _ _ => true
  | _ => false
structure Md (S : List Addr) (H H' : Hp) : Prop where
  out : ∀ b o, H b = some o → b ∉ S → H' b = some o
  rig : ∀ b o, H b = some o → Rig o = true → H' b = some o
section
variable {S S' : List Addr} {H H1 H2 : Hp} {K : PySem.W.Frag} {a p : Addr} {o o' : HO}
theorem Md.refl (S : List Addr) (H : Hp) : Md S H H := ⟨fun _ _ h _ => h, fun _ _ h _ => h⟩
theorem Md.of (s : Same H H1) : Md S H H1 := ⟨fun b o h _ => s b o h, fun b o h _ => s b o h⟩
theorem Md.trans (x : Md S H H1) (y : Md S H1 H2) : Md S H H2 := ⟨fun b o h n => y.out b o (x.out b o h n) n, fun b o h r => y.rig b o (x.rig b o h r) r⟩
theorem Md.mono (x : Md S H H1) (h : ∀ b ∈ S, b ∈ S') : Md S' H H1 := ⟨fun b o e n => x.out b o e fun z => n (h b z), x.rig⟩
theorem Md.upd (e : H a = some o) (r : Rig o = false) (m : a ∈ S) : Md S H (upd H a o') :=
  ⟨fun b u h n => (upd_ne (fun z : b = a => n (by rw [z]; exact m))).trans h, fun b u h ru => (upd_ne (fun z : b = a => by rw [z, e] at h; cases h; rw [r] at ru; cases ru)).trans h⟩
/-- what is new is not seen from before -/
theorem Md.new (x : Md (p :: S) H1 H2) (s : Same H H1) (n : H p = none) : Md S H H2 :=
  ⟨fun b u h m => x.out b u (s b u h) (fun z => (List.mem_cons.mp z).elim (fun z => ne_of_none h n z) m), fun b u h r => x.rig b u (s b u h) r⟩
theorem Md.newM (x : Md (p :: S) H1 H2) (s : Md S H H1) (n : H p = none) : Md S H H2 :=
  ⟨fun b u h m => x.out b u (s.out b u h m) (fun z => (List.mem_cons.mp z).elim (fun z => ne_of_none h n z) m), fun b u h r => x.rig b u (s.rig b u h r) r⟩
theorem Md.same (x : Md [] H H1) : Same H H1 := fun b o h => x.out b o h (by simp)
theorem But.md (b : But p H H1) (e : H p = some o) (r : Rig o = false) : Md [p] H H1 :=
  ⟨fun c u h n => b c u h (fun z => n (by rw [z]; simp)), fun c u h ru => b c u h (fun z => by rw [z, e] at h; cases h; rw [r] at ru; cases ru)⟩
theorem Md.but (x : Md [p] H H1) : But p H H1 := fun b o h n => x.out b o h (by simp [n])
theorem Md.sqT (x : Md S H H1) {xs : List V} (h : SqT K H a xs) : SqT K H1 a xs := by
  rcases h with (h | ⟨o, h⟩) | h
  · exact .inl (.inl (x.rig _ _ h rfl))
  · exact .inl (.inr ⟨o, x.rig _ _ h rfl⟩)
  · exact .inr h
end
mutual
def noL : PyData → Bool
  | .list _ => false
  | .dict _ => false
  | .tuple xs => noLs xs
  | .none => true
  | .bool _ => true
  | .int _ => true
  | .str _ => true
def noLs : List PyData → Bool
  | [] => true
  | x :: r => noL x && noLs r
end
mutual
theorem Md.dp {S : List Addr} {K : PySem.W.Frag} {H H' : Hp} (s : Md S H H') : ∀ {d : PyData} {v : V}, noL d = true → Dp K H v d → Dp K H' v d
  | _, _, _, .non => .non
  | _, _, _, .bl b => .bl b
  | _, _, _, .int i => .int i
  | _, _, _, .str x => .str x
  | _, _, n, .lst h a => by cases n
  | _, _, n, .tup h a => .tup (s.sqT h) (Md.dpAll s n a)
theorem Md.dpAll {S : List Addr} {K : PySem.W.Frag} {H H' : Hp} (s : Md S H H') : ∀ {ds : List PyData} {vs : List V}, noLs ds = true → DpAll K H vs ds → DpAll K H' vs ds
  | _, _, _, .nil => .nil
  | _, _, n, .cons a b => .cons (Md.dp s (Bool.and_eq_true_iff.mp n).1 a) (Md.dpAll s (Bool.and_eq_true_iff.mp n).2 b)
end
/-- data without lists, laid and not deep -/
structure Pd (d : PyData) : Prop where
  nl : noL d = true
  cl : d.canLay0 = true
  dp : d.depth ≤ 16
theorem Pd.shaped {d : PyData} (h : Pd d) : SeqAt.shaped d = true := Bool.and_eq_true_iff.mpr ⟨h.cl, decide_eq_true (Nat.le_trans h.dp (by decide))⟩
def Pds (ds : List PyData) : Prop := ∀ d ∈ ds, Pd d
theorem Pds.nl : ∀ {ds : List PyData}, Pds ds → noLs ds = true
  | [], _ => rfl
  | d :: r, h => Bool.and_eq_true_iff.mpr ⟨(h d (by simp)).nl, Pds.nl fun x hx => h x (by simp [hx])⟩
theorem Pds.cl : ∀ {ds : List PyData}, Pds ds → PyData.canLayAll0 ds = true
  | [], _ => rfl
  | d :: r, h => Bool.and_eq_true_iff.mpr ⟨(h d (by simp)).cl, Pds.cl fun x hx => h x (by simp [hx])⟩
theorem Pds.dp : ∀ {ds : List PyData}, Pds ds → PyData.depthAll ds ≤ 16
  | [], _ => Nat.zero_le _
  | d :: r, h => Nat.max_le.mpr ⟨(h d (by simp)).dp, Pds.dp fun x hx => h x (by simp [hx])⟩
theorem Pds.shaped {ds : List PyData} (h : Pds ds) : SeqAt.shaped (.list ds) = true := Bool.and_eq_true_iff.mpr ⟨h.cl, decide_eq_true (by show PyData.depthAll ds + 1 ≤ 64; have := h.dp; omega)⟩
theorem Pds.snoc {ds : List PyData} {d : PyData} (h : Pds ds) (k : Pd d) : Pds (ds ++ [d]) := fun x hx => (List.mem_append.mp hx).elim (h x) fun z => by cases List.mem_singleton.mp z; exact k
theorem Pds.refl {ds : List PyData} (h : Pds ds) : PyData.eqv (.list ds) (.list ds) = true := SeqAt.eqv_refl _ h.cl
theorem DpAll.snoc {K : PySem.W.Frag} {H : Hp} {v : V} {d : PyData} (k : Dp K H v d) : ∀ {ds : List PyData} {vs : List V}, DpAll K H vs ds → DpAll K H (vs ++ [v]) (ds ++ [d])
  | _, _, .nil => .cons k .nil
  | _, _, .cons a b => .cons a (DpAll.snoc k b)
theorem DpAll.get {K : PySem.W.Frag} {H : Hp} : ∀ {ds : List PyData} {vs : List V} {i : Nat} {v : V}, DpAll K H vs ds → vs[i]? = some v → ∃ d, ds[i]? = some d ∧ Dp K H v d
  | _, _, 0, _, .cons a b, e => by cases e; exact ⟨_, rfl, a⟩
  | _, _, i + 1, _, .cons a b, e => DpAll.get (i := i) b e
/-! ### a caught error that has a dict: isinstance, where the answer is yes -/
theorem kit_yes {K : PySem.W.Frag} {x t c : Value} {Hq : Heap → Prop} (ty : ∀ (M : Model) (h : Heap), K.In h → Hq h → PySem.W.Looks M h (typeOf x) t) (e : PySem.W.kitOne K t c = some true) : Answers (fun s => K.In s.heap ∧ Hq s.heap) x c true := by
  intro dep tk prog w A R s hs
  obtain ⟨⟨X, p⟩, hq⟩ := hs
  obtain ⟨h0, g, d, tt, os⟩ := s
  have LT := ty (model prog w) h0 X p
  unfold PySem.W.kitOne at e
  unfold Builtin.«isinstance.nested»
  refine wpAny_bind (LT.at ?_)
  by_cases q : (t == c) = true
  · rw [if_pos q]
    first
      | exact wpAny_bind (wpAny_rule (hq tt))
      | exact wpAny_bind (wpAny_rule (wpAny_pure (hq tt)))
      | exact wpAny_pure (hq tt)
      | exact wpAny_bind (wpAny_pure (hq tt))
  · rw [if_neg q] at e
    rw [if_neg q]
    obtain ⟨k1, k2, k3⟩ := PySem.W.kit_cls (M := model prog w) X e
    refine wpAny_bind (k1.at ?_)
    rw [if_pos (by decide)]
    k_delta "plainIsInstance"
    refine wpAny_bind (wpAny_bind (k2.at ?_))
    simp only [Bool.not_true, Bool.false_eq_true, if_false]
    refine wpAny_bind ((LT.andThen k3).at ?_)
    first
      | exact wpAny_pure (wpAny_pure (hq tt))
      | (simp only [if_true]; first | exact wpAny_pure (wpAny_pure (hq tt)) | exact wpAny_pure (hq tt) | exact wpAny_bind (wpAny_pure (wpAny_pure (hq tt))))
def rIsY (K : PySem.W.Frag) (cls : Value) (a : Addr) : List V → Hp → VK → Prop := fun xs H Q => ∃ (c : V) (cv : Value), xs = [.ref a, c] ∧ (∀ u, RelV c u → u = cv) ∧ PySem.W.kitOne K cls cv = some true ∧ Q (.bl true) H
theorem call_isY {X : Cx} {a : Addr} {oe : Obj} {pn : List (Addr × Obj)} {cls : Value} {d : Option Addr} (hz : Zc cls d oe) : CallR (X.suite a ((a, oe) :: pn)) (.builtin "isinstance") (rIsY X.K cls a) := by
  intro pins s σ H xs us Q I r h
  obtain ⟨c, cv, rfl, hcv, e, q⟩ := h
  cases r with
  | cons rx rr =>
    cases rr with
    | cons rt rr =>
      cases rr
      cases rx
      cases hcv _ rt
      obtain ⟨hget, _⟩ := I.pin (a, oe) (List.mem_append.mpr (.inl List.mem_cons_self))
      refine call_isinstance (S := fun _ R s => (X.K.In s.heap ∧ s.heap.get? a = some oe) ∧ ∀ tk, R (.ok (.ret (.bool true))) { s with toks := tk })
        (fun prog w A R s hs => isinstance_outer (kit_yes (Hq := fun h => h.get? a = some oe) (t := cls) (fun M h _ e0 A Q E s k q => wpAny_typeOf_ref (k _ _ e0) (by rw [hz.1]; exact q)) e 0 _ prog w A R s hs) (fun z => nomatch z)) ⟨⟨I.kIn, hget⟩, fun tk => ?_⟩
      exact ⟨.bl true, H, I.kept (t' := tk) fun _ _ z => z, rfl, q⟩
/-! ### defs with defaults at any address -/
theorem fnD {P : Program} {w : World} {K : PySem.W.Frag} {mg : Str → Option Value} {base : Heap} {CX : CXT} {k : Nat} {x qual : Str} {sp : Sp} {params : Arguments} {body : List Stmt} {scope : Scope} {f : Addr} {fd : FuncData} {ps : List Str} {dvs : List V}
    (F : FunD K x qual params body scope dvs [] f fd) (ok : FnOk P w K mg base CX k f fd ps sp) (n j : Nat) (hd : dvs ≠ []) (hn : n + (dvs.length - j) = ps.length)
    (h : ∀ (T : Addr) (kV doc pm : Value) (an : Option Addr) (cdv ct : Value) (us its : List Value), us.length = n → its.length = dvs.length →
      ∃ k, bindArgs (PySem.W.fnOf x qual params body scope (.ref T) kV doc pm an cdv ct) ⟨us, []⟩ = seqItems? (.ref T) >>= k ∧ k (some its.toArray) = pure (ps.zip (us ++ its.drop j))) :
    FnR P w K mg base CX k f (fun vs H Q E => sp (vs ++ dvs.drop j) H Q E) := by
  obtain ⟨ds, h1, h2⟩ := F.binds1 n j hd hn h
  exact ok.raw h2 h1
/-- C() by an __init__ whose parameters all have defaults -/
theorem pe_makeE0 {X : Cx} {CX : CXT} {k : Nat} {C f : Addr} {x : Str} {sp : Sp} {E : L2.St → XK} {p pos : Pos} (M : Mk X.K C f) (F : FnR X.prog X.w X.K X.mg X.base CX k f sp) (hr : Room (k + 1) X.A) (hm : X.mg x = some (.ref C)) (hx : ∀ σ, PassesAt CX X σ (E σ)) (hg : Gl X x := by rfl) (hdb : (x == ("__debug__" : Str)) = false := by decide) :
    PE X (.Call (.Name x p) [] [] pos) (tMakeE C sp E tNil) := by
  refine ⟨fun pins s σ H Q I h => ?_⟩
  refine wpAny_Call_Name_kw (ld_glob I hg hm ?_ hdb)
  exact PySem.W.callWith_K0 (first := []) I.kIn M.kp (run_makeE (us := []) (vs := []) M F hr (hx σ) I .nil h)
def tupAB (K : PySem.W.Frag) (a : Addr) : Bool := match K.lookup a with
  | some ⟨.type c, _, .seq its _, _⟩ => decide (c = "tuple") && decide (its = #[])
  | _ => false
theorem tupAB_ok {K : PySem.W.Frag} {a : Addr} (h : tupAB K a = true) (H : Hp) : SqT K H a [] := by
  unfold tupAB at h
  split at h
  · rename_i c od its n osl q
    obtain ⟨h1, h2⟩ := ba h
    have e2 := of_decide_eq_true h2
    subst e2
    exact .inr ⟨_, #[], n, q, congrArg Value.type (of_decide_eq_true h1), rfl, by decide, .nil⟩
  · cases h
theorem tYes_of {σ : L2.St} {H : Hp} {F G : Hp → Prop} (h : F H) : tYes σ H fun b H3 => if b = true then F H3 else G H3 := by
  show if true = true then F H else G H
  rw [if_pos rfl]
  exact h
/-- try .. except X: with a name for its reading (a loop's body) -/
def tTryO (K : PySem.W.Frag) (c : Value) (ts : Addr → Value → Option Addr → TS) (Wout : WX) (tb : WX → TS) : TS := fun D σ H => tb (wOnly K c ts Wout D) D σ H
theorem ps_tryO {X : Cx} {x : Str} {c : Value} {body suite : List Stmt} {b₀ : Stmt} {np pos pos' : Pos} {tb : WX → TS} {ts : Addr → Value → Option Addr → TS} {Wout : WX} (hs : X.stack = X.env :: X.outer) (hf : X.env.frame = some X.env.locals) (hc : Names X x c) (tk : Takes X Wout)
    (hb : ∀ (W : WX) (pn : List (Addr × Obj)) (xe : Value → Shared → Prop), Takes (X.tr pn xe) W → PassesOwn (model X.prog X.w) X.A X.env xe → PSs (X.tr pn xe) body (tb W))
    (hsu : ∀ (a : Addr) (oe : Obj) (cls : Value) (d : Option Addr) (pn : List (Addr × Obj)), Zc cls d oe → (∃ vs, oe.data = .fields vs) → PSs (X.suite a ((a, oe) :: pn)) (b₀ :: suite) (ts a cls d)) :
    PS X (.Try body [.ExceptHandler (some (.Name x np)) none (b₀ :: suite) pos'] [] [] pos) (tTryO X.K c ts Wout tb) := ps_try_only hs hf hc tk hb hsu
end EL
namespace EL
open PySem PySem.Spec PyProof.Rows L2 He TL
/-! ### an exception that leaves a comprehension -/
theorem note_same {ce env : Env} (h : ce.frame = env.frame) (x : Value) : noteFrame x ce = noteFrame x env := by
  unfold noteFrame PySem.frameOf
  rw [h]
theorem comp_leave {X : Cx} {W : WX} (tk : Takes X W) (hs : X.stack = X.env :: X.outer) (hf : X.env.frame = some X.env.locals) {pins : List (Addr × Obj)} {σ : L2.St} {H : Hp} {s s' : Shared} (I : Inv X pins σ H s) {C : Addr} {m : Str → Option Value} (hn : s.heap.Ns C m) (hC : FpOk X pins H C)
    {E : XK} (hW : ∀ cls d H', E cls d H' → W cls d σ H') {e : Value} (c : L2.CX X.prog X.w X.stack H s E e s') {ce : Env} (hce : ce.frame = X.env.frame) {what : String} {E₁ : Value → Shared → Prop} :
    wpAny (model X.prog X.w) X.A (noteFrame e ce) (fun _ s1 => ∃ m, s1.heap.Ns C m ∧ ∀ h', Heap.SameBut C s1.heap h' → wpAny (model X.prog X.w) X.A (passOn what e ce : Sem Value) (fun _ _ => False) X.xe { s1 with heap := h' }) E₁ s' := by
  obtain ⟨a, B, H', cls, d, rfl, fl, hok, ub, na, os, ag, hE⟩ := c
  obtain ⟨oC, es, ep, gC, dC, rC⟩ := hn
  obtain ⟨f0, f1, f2, f3, f4, f5⟩ := hC
  have nfC : C ∉ frs X.stack := by
    rw [hs]
    intro z
    obtain ⟨env, he, q⟩ := List.mem_filterMap.mp z
    rcases List.mem_cons.mp he with rfl | he
    · rw [hf] at q
      exact f1 (Option.some.inj q).symm
    · exact f2 (List.mem_filterMap.mpr ⟨env, he, q⟩)
  have bC : B.get? C = some oC := ub.keep C oC gC f0 nfC
  obtain ⟨oe, vs, T, oT, ts, he, hz, hd, h1, hnT, hTe, hT, hdT, h3⟩ := fl.2.2.2
  have sC : s'.heap.get? C = some oC := fl.1 _ _ bC
  have aC : a ≠ C := fun z => by rw [z, sC] at he; cases he; rw [dC] at hd; cases hd
  have TC : T ≠ C := fun z => by rw [z, sC] at hT; cases hT; rw [dC] at hdT; cases hdT
  -- the three heaps without C
  obtain ⟨Gs, gs1, gs2⟩ := restrict s.heap fun b => decide (b ≠ C)
  obtain ⟨B', b1, b2⟩ := restrict B fun b => decide (b ≠ C)
  obtain ⟨Q', q1, q2⟩ := restrict s'.heap fun b => decide (b ≠ C)
  have gsS : ∀ b o, Gs.get? b = some o → b ≠ C ∧ s.heap.get? b = some o := fun b o h => by
    by_cases z : b = C
    · rw [gs2 b (by simp [z])] at h; cases h
    · exact ⟨z, (gs1 b (decide_eq_true z)).symm.trans h⟩
  have bS : ∀ b o, B'.get? b = some o → b ≠ C ∧ B.get? b = some o := fun b o h => by
    by_cases z : b = C
    · rw [b2 b (by simp [z])] at h; cases h
    · exact ⟨z, (b1 b (decide_eq_true z)).symm.trans h⟩
  have qS : ∀ b o, Q'.get? b = some o → b ≠ C ∧ s'.heap.get? b = some o := fun b o h => by
    by_cases z : b = C
    · rw [q2 b (by simp [z])] at h; cases h
    · exact ⟨z, (q1 b (decide_eq_true z)).symm.trans h⟩
  have IP : Inv X pins σ H { s with heap := Gs } := I.turned (t' := s.toks) (fun b o hb e => (gs1 b (decide_eq_true hb)).trans e) f0 f1 f3 f4 f5
  have hC' : H' C = none := ub.free C oC gC f0
  have stB : B'.StaysIn Q' := fun b o h => (q1 b (decide_eq_true (bS b o h).1)).trans (fl.1 b o (bS b o h).2)
  have ff : Q'.FunFrames B' X.stack := by
    have go : ∀ l : List Env, C ∉ frs l → s'.heap.FunFrames B l → Q'.FunFrames B' l := by
      intro l
      induction l with
      | nil => intro _ _; trivial
      | cons env r ih =>
        rintro hc ⟨k1, ⟨L, o, k2, k3, k4, k5⟩, k6⟩
        have LC : L ≠ C := fun z => hc (List.mem_filterMap.mpr ⟨env, List.mem_cons_self, by rw [k2, z]⟩)
        refine ⟨k1, ⟨L, o, k2, (b1 L (decide_eq_true LC)).trans k3, (q1 L (decide_eq_true LC)).trans k4, k5⟩, ih (fun z => hc ?_) k6⟩
        obtain ⟨env', h1, h2⟩ := List.mem_filterMap.mp z
        exact List.mem_filterMap.mpr ⟨env', List.mem_cons_of_mem _ h1, h2⟩
    exact go _ nfC fl.2.2.1
  have aB' : ∀ {b : Addr}, B.get? b = none → B'.get? b = none := fun {b} h => by
    cases q : B'.get? b with
    | none => rfl
    | some o => rw [(bS b o q).2] at h; cases h
  have fl' : HandSPX.FlyingZ B' X.stack a (Zc cls d) Q' := ⟨stB, aB' fl.2.1, ff, oe, vs, T, oT, ts, (q1 a (decide_eq_true aC)).trans he, hz, hd, h1, aB' hnT, hTe, (q1 T (decide_eq_true TC)).trans hT, hdT, h3⟩
  have hok' : HOk X.prog X.w H' B' := fun b o h => (hok b o h).stay (fun c u hc q => by
    have hcC : c ≠ C := fun z => by
      rcases hc with hc | hc
      · rw [hc] at z; rw [z, hC'] at h; cases h
      · rw [z, hC'] at hc; cases hc
    exact (b1 c (decide_eq_true hcC)).trans q) (fun _ q => q) (fun _ _ q => q)
  have ub' : UB (frs X.stack) H H' Gs B' Q' :=
    ⟨fun b o h1 h2 h3 => (b1 b (decide_eq_true (gsS b o h1).1)).trans (ub.keep b o (gsS b o h1).2 h2 h3), fun b o h1 h2 => by
      obtain ⟨sl, e⟩ := ub.slot b o (gsS b o h1).2 h2
      exact ⟨sl, (q1 b (decide_eq_true (gsS b o h1).1)).trans e⟩, fun b o h1 h2 => ub.free b o (gsS b o h1).2 h2, fun b o h1 h2 => by
      obtain ⟨o', e⟩ := ub.there b o (gsS b o h1).2 h2
      exact ⟨o', (b1 b (decide_eq_true (gsS b o h1).1)).trans e⟩, ub.tups, ub.frzs, ub.tbls⟩
  have xx : XE X W (.ref a) { s' with heap := Q' } := XE.of_call IP hW ⟨a, B', H', cls, d, rfl, fl', hok', ub', na, os, ag, hE⟩
  obtain ⟨a2, B0, sI, pins2, σ2, H2, cls2, d2, ea, I2, nb, up, sky, na2, os2, ag2, w2⟩ := xx
  obtain rfl : a = a2 := by injection ea
  have qa : Q'.get? a = some oe := (q1 a (decide_eq_true aC)).trans he
  have fl0 : HandSPX.FlyingZ B0 X.stack a (Zc cls2 d2) s'.heap := by
    rcases sky with ⟨_, _, _, oe', vs', he', _, hd', h1'⟩ | ⟨k1, k2, k3, oe', vs', T', oT', ts', he', hz', hd', h1', hnT', hTe', hT', hdT', h3'⟩ | ⟨_, _, _, oe', vs', T', oT', ts', he', _, hd', h1', _, _, hT', hdT', h3'⟩
    · have e1 : oe = oe' := Option.some.inj (qa.symm.trans he')
      subst e1
      rw [hd] at hd'
      cases hd'
      rw [h1] at h1'
      cases h1'
    · refine ⟨fun b o h => (qS b o (k1 b o h)).2, k2, k3.of_keeps (fun b o h _ => ⟨o, (qS b o h).2, rfl⟩), oe', vs', T', oT', ts', (qS _ _ he').2, hz', hd', h1', hnT', hTe', (qS _ _ hT').2, hdT', h3'⟩
    · have e1 : oe = oe' := Option.some.inj (qa.symm.trans he')
      subst e1
      rw [hd] at hd'
      cases hd'
      rw [h1] at h1'
      cases h1'
      have e2 : oT = oT' := Option.some.inj (((q1 T (decide_eq_true TC)).trans hT).symm.trans hT')
      subst e2
      rw [hdT] at hdT'
      cases hdT'
      rw [h3] at h3'
      cases h3'
  have B0C : B0.get? C = none := by
    cases q : B0.get? C with
    | none => rfl
    | some o =>
      have : B0.StaysIn Q' := by
        rcases sky with ⟨k, _⟩ | ⟨k, _⟩ | ⟨k, _⟩ <;> exact k
      exact absurd rfl (qS C o (this C o q)).1
  rw [note_same hce]
  have hfr : X.A.frames = some (X.env :: X.outer) := by rw [I.ok.frames, hs]
  rw [hs] at fl0
  refine HandSPX.looks_onZ Zc.steady hfr hf fl0 fun h1' held up1 => ?_
  obtain ⟨sl, eC⟩ := up1 C oC sC (fun vs z => by rw [dC] at z; cases z)
  refine ⟨m, ⟨_, es, ep, eC, dC, rC⟩, fun h2 sb => ?_⟩
  -- held, whatever became of C
  obtain ⟨j1, j2, j3, oe4, vs4, T4, oT4, ts4, he4, hz4, hd4, h14, hnT4, hTe4, hT4, hdT4, h34⟩ := held
  have a4 : a ≠ C := aC
  have T4C : T4 ≠ C := fun z => by rw [z, eC] at hT4; cases hT4; rw [dC] at hdT4; cases hdT4
  have k2 : ∀ b, b ≠ C → ∀ o, h1'.get? b = some o → h2.get? b = some o := fun b hb o h => (sb.2 b hb).trans h
  have ff2 : h2.FunFrames B0 (X.env :: X.outer) := by
    have go : ∀ l : List Env, C ∉ frs l → h1'.FunFrames B0 l → h2.FunFrames B0 l := by
      intro l
      induction l with
      | nil => intro _ _; trivial
      | cons env r ih =>
        rintro hc ⟨k1, ⟨L, o, l2, l3, l4, l5⟩, k6⟩
        have LC : L ≠ C := fun z => hc (List.mem_filterMap.mpr ⟨env, List.mem_cons_self, by rw [l2, z]⟩)
        refine ⟨k1, ⟨L, o, l2, l3, k2 _ LC _ l4, l5⟩, ih (fun z => hc ?_) k6⟩
        obtain ⟨env', h1, h2⟩ := List.mem_filterMap.mp z
        exact List.mem_filterMap.mpr ⟨env', List.mem_cons_of_mem _ h1, h2⟩
    exact go _ (by rw [← hs]; exact nfC) j3
  have held2 : HandSPX.HeldZ B0 (X.env :: X.outer) a (Zc cls2 d2) X.env.locals h2 :=
    ⟨fun b o h => k2 b (fun z => by rw [z, B0C] at h; cases h) o (j1 b o h), j2, ff2, oe4, vs4, T4, oT4, ts4, k2 _ a4 _ he4, hz4, hd4, h14, hnT4, hTe4, k2 _ T4C _ hT4, hdT4, h34⟩
  unfold PySem.passOn
  refine wpAny_bind (wpAny_field (k2 _ a4 _ he4) hd4 h14 ?_)
  rw [if_neg (show ¬ ((Value.ref T4 == Value.none) = true) from by simp)]
  have fin : wpAny (model X.prog X.w) X.A (setFlight (.ref a) ce.frame) (fun _ s4 => wpAny (model X.prog X.w) X.A (throw (.ref a) : Sem Value) (fun _ _ => False) X.xe s4) X.xe { s' with heap := h2 } := by
    rw [hce, hf]
    refine HandSPX.setFlight_onZ held2 fun h5 hh5 up5 => wpAny_throw (tk _ _ ?_)
    refine ⟨a, B0, sI, pins2, σ2, H2, cls2, d2, rfl, I2, nb, fun b o h hnf => ?_, .inr (.inr (by rw [hs]; exact hh5)), na2, os2, ag2, w2⟩
    obtain ⟨s1, u1⟩ := up b o h hnf
    obtain ⟨z, u1'⟩ := qS _ _ u1
    obtain ⟨s2, u2⟩ := up1 b _ u1' hnf
    obtain ⟨s3, u3⟩ := up5 b _ (k2 b z _ u2) hnf
    exact ⟨s3, u3⟩
  first
    | exact wpAny_bind (wpAny_pure (wpAny_bind fin))
    | exact wpAny_bind fin
/-- what is wanted behind a comprehension's block, its own environment known -/
def cpX (M : Model) (A : Around) (E : Value → Shared → Prop) (use : Option (Value → Sem Unit)) (Q : Value → Shared → Prop) (acc : Value) (ce : Env) (r : Result) (s' : Shared) : Prop :=
  match r with
  | .ok _ => compPost M A E use Q acc ce.locals r s'
  | .error x => ∃ m, s'.heap.Ns ce.locals m ∧ ∀ h', Heap.SameBut ce.locals s'.heap h' → wpAny M A (passOn "comprehension.variables-let-go" x ce : Sem Value) (fun _ _ => False) E { s' with heap := h' }
theorem comp_freeX {M : Model} {A : Around} {E : Value → Shared → Prop} {s : Shared} {env : Env} {e : Expr} {scope : Scope} {pos : Pos} {newAcc first : Sem Value} {g : Comprehension} {gs : List Comprehension} {cl : List (Str × Addr)} {use : Option (Value → Sem Unit)} {Q : Value → Shared → Prop}
    (hcl : clausesOf e = g :: gs) (hs : ∀ x, foldedSetIterable g.iter env x = pure x) (hclos : closureFor scope env = pure cl) (hkind : scope.kind = .function) (hnames : ∀ x ∈ scope.names, x.2 = .local → scope.names.lookup x.1 = some .local)
    (h : wpAny M A first (fun x s₁ => wpAny M A (pyIter x) (fun it s₂ => wpAny M A newAcc (fun acc s₃ => wpAny M A (newFunctionEnv scope env.globals cl [] env.qual none .none (some env)) (fun cenv s₄ =>
      codeAny M A (.compStart e 0 it acc { cenv with scope := relabel scope env }) (cpX M A E use Q acc { cenv with scope := relabel scope env }) s₄) E s₃) E s₂) E s₁) E s) :
    wpAny M A (comprehension e scope env pos newAcc false first use) Q E s := by
  unfold comprehension
  rw [hclos, hcl]
  have up : ∀ {α : Type} {t : Sem α} {P P' : α → Shared → Prop} {s : Shared}, wpAny M A t P E s → (∀ a s, P a s → P' a s) → wpAny M A t P' E s := fun h k => wpAny_mono h k fun _ _ z => z
  refine wpAny_bind (up h fun x s₁ h₁ => wpAny_bind (wpAny_standAt (wpAny_bind (wpAny_of_eq (hs x) (wpAny_bind (wpAny_holding (up h₁ fun it s₂ h₂ => wpAny_standIf (wpAny_bind (up h₂ fun acc s₃ h₃ => wpAny_bind (wpAny_pure (wpAny_bind (up h₃ fun cenv s₄ h₄ => ?_))))))))))))
  dsimp only
  have hv : ∀ x ∈ (scope.names.filter fun x => (x.2 == .local || x.2 == .cell) && x.1 != (".0" : Str)).reverse, x.2 = .local → Env.kindOf { cenv with scope := relabel scope env } x.1 = some .local := fun x hx hl => lookup_relabel_local (hnames x (List.mem_filter.mp (List.mem_reverse.mp hx)).1 hl)
  refine wpAny_holding (wpAny_bind (wpAny_attempt (wpAny_holding (wpAny_run (codeAny_mono h₄ fun r s' hr => ?_)))))
  cases r with
  | ok f =>
    cases use with
    | none =>
      obtain ⟨m, hn, hq⟩ := hr
      exact wpAny_bind (wpAny_holding (wpAny_comp_letGo (cenv := { cenv with scope := relabel scope env }) hkind _ s' m hv hn fun h' m' _ hs' => wpAny_pure (hq h' hs')))
    | some u =>
      refine wpAny_bind (wpAny_rule (wpAny_bind (wpAny_holding (up hr fun _ s2 hr' => ?_))))
      obtain ⟨m, hn, hq⟩ := hr'
      refine wpAny_bind (wpAny_comp_letGo (cenv := { cenv with scope := relabel scope env }) hkind _ s2 m (fun x hx hl => ?_) hn fun h' m' _ hs' => wpAny_pure (hq h' hs'))
      exact (List.mem_append.mp hx).elim (fun z => hv x (List.mem_of_mem_drop z) hl) (fun z => hv x (List.mem_of_mem_take z) hl)
  | error x =>
    obtain ⟨m, hn, hq⟩ := hr
    exact wpAny_bind (wpAny_holding (wpAny_comp_letGo (cenv := { cenv with scope := relabel scope env }) hkind _ s' m hv hn fun h' m' _ hs' => up (hq h' hs') (fun _ _ f => f.elim)))
/-- a block that lets exceptions out -/
abbrev blx (X : Cx) (s : Shared) (H : Hp) (scope : Scope) (cenv : Env) (fp : List Addr) (xe : Value → Shared → Prop) : Cx := { X.blk s H scope cenv fp with xe := xe }
theorem _root_.L2.Inv.toBlx {X : Cx} {s0 : Shared} {H0 : Hp} {scope : Scope} {ce : Env} {fp : List Addr} {xe : Value → Shared → Prop} {pins : List (Addr × Obj)} {σ : L2.St} {H : Hp} {s : Shared} (I : Inv (X.blk s0 H0 scope ce fp) pins σ H s) : Inv (EL.blx X s0 H0 scope ce fp xe) pins σ H s :=
  ⟨⟨I.ok.mod, I.ok.kind, I.ok.glob, I.ok.blt, I.ok.above, I.ok.inj, I.ok.has, I.ok.cab, I.ok.hd, I.ok.frames, I.ok.stk, I.ok.exf, I.ok.bs, I.ok.bsz, I.ok.noex, I.ok.exfs, I.ok.funs, I.ok.frf⟩, I.os, I.bare, I.base, I.loc, I.cell, I.free, I.freeC, I.pin, I.hok, I.len⟩
theorem _root_.L2.Inv.ofBlx {X : Cx} {s0 : Shared} {H0 : Hp} {scope : Scope} {ce : Env} {fp : List Addr} {xe : Value → Shared → Prop} {pins : List (Addr × Obj)} {σ : L2.St} {H : Hp} {s : Shared} (I : Inv (EL.blx X s0 H0 scope ce fp xe) pins σ H s) : Inv (X.blk s0 H0 scope ce fp) pins σ H s :=
  ⟨⟨I.ok.mod, I.ok.kind, I.ok.glob, I.ok.blt, I.ok.above, I.ok.inj, I.ok.has, I.ok.cab, I.ok.hd, I.ok.frames, I.ok.stk, I.ok.exf, I.ok.bs, I.ok.bsz, I.ok.noex, I.ok.exfs, I.ok.funs, I.ok.frf⟩, I.os, I.bare, I.base, I.loc, I.cell, I.free, I.freeC, I.pin, I.hok, I.len⟩
section
variable {X : Cx}
/-- [elt for target in iter if ..] whose elt may raise: te by what is let out -/
abbrev LcStep (g : TG) (tt : TT) (te : TE) (vs : List Nat) (σ : L2.St) (D : Addr) (Nx : Hp → Prop) (x : V) (H : Hp) : Prop := g x (wipe σ vs) H fun σ2 H2 => wipe σ2 vs = wipe σ vs ∧ tt σ2 H2 fun b H3 =>
  if b = true then te σ2 H3 fun y H4 => ∃ acc, H4 D = some (.lst acc) ∧ acc.length < sizeLine ∧ Nx (upd H4 D (.lst (acc ++ [y]))) else Nx H3
def tLcX (W : WX) (wi : TI) (g : TG) (tt : TT) (te : XK → TE) (vs : List Nat) : TE := fun σ H Q => wi σ H fun J H1 => ∀ D, H1 D = none → ∃ V : Nat → Nat → Hp → Prop, (∃ m, V 0 m (upd H1 D (.lst []))) ∧ ∀ i m H, V i m H →
  (J.stop i H ∧ Q (.ref D) H) ∨ (J.go i H ∧ ∃ Nx : Hp → Prop, (∀ H', Nx H' → ∃ m', m' < m ∧ V (i + 1) m' H') ∧ ∀ x H', J.yld i H x H' → LcStep g tt (te (WE W σ)) vs σ D Nx x H')
theorem lcX_core {pins : List (Addr × Obj)} {s : Shared} {σ : L2.St} {H : Hp} {Q : VK} {W : WX} {elt tg iter : Expr} {ifs : List Expr} {scope : Scope} {own : List (Str × Nat)} {pos pos' : Pos} {wi : TI} {g : TG} {tt : TT} {te : XK → TE} {use : Option (Value → Sem Unit)} {Qf : Value → Shared → Prop}
    (tk : Takes X W) (hst : X.stack = X.env :: X.outer) (hfm : X.env.frame = some X.env.locals) (hc : X.calm = true) (hN : X.N.Nodup) (I : Inv X pins σ H s) (hi : PI X tg iter wi) (ok : BlkOk X.N X.env.scope scope own)
    (hg : ∀ (s : Shared) (H : Hp) (C : Addr) (cl : List (Str × Addr)) (fp : List Addr), PG (X.blk s H scope (compEnvC scope cl C X.env) fp) tg g) (ht : ∀ (s : Shared) (H : Hp) (C : Addr) (cl : List (Str × Addr)) (fp : List Addr), PTs (X.blk s H scope (compEnvC scope cl C X.env) fp) ifs tt)
    (he : ∀ (s : Shared) (H : Hp) (C : Addr) (cl : List (Str × Addr)) (fp : List Addr) (xe : Value → Shared → Prop) (E : XK), (∀ σ', PassesAt (L2.CX X.prog X.w) (EL.blx X s H scope (compEnvC scope cl C X.env) fp xe) σ' E) → PE (EL.blx X s H scope (compEnvC scope cl C X.env) fp xe) elt (te E)) (hs : ∀ x, foldedSetIterable iter X.env x = pure x)
    (h : tLcX W wi g tt te (own.map (·.2)) σ H Q)
    (hRR : ∀ D C s' m H', Inv X pins σ H' s' → Q (.ref D) H' → s'.heap.Ns C m → FpOk X pins H' C → compPost (model X.prog X.w) X.A X.xe use Qf (.ref D) C (.ok .next) s') :
    wpAny (model X.prog X.w) X.A (comprehension (.ListComp elt [⟨tg, iter, ifs, 0⟩] scope pos) scope X.env pos' (newList []) false (eval iter X.env) use) Qf X.xe s := by
  have cl : ∀ y ∈ scope.names, y.2 = .free → ∃ c, X.env.cells.lookup y.1 = some c := fun y hy e => (ok.free y hy e).elim (fun k => I.ok.has _ (.inl k)) (fun k => I.ok.has _ (.inr k))
  refine comp_freeX (use := use) rfl hs (closure_ok cl) ok.kind (fun y hy e => by rw [ok.uniq y hy, e]) (thn (hi.run pins s σ H _ I h) fun xv s1 hx => thn hx fun itv s2 h2 => ?_)
  obtain ⟨it, fp, tn, J, H2, e, I2, T, st2, f2, q⟩ := h2
  subst e
  refine wpAny_newObj_type (newEnv_comp ?_)
  generalize hD : s2.heap.objs.size = D
  obtain ⟨V, ⟨m0, w0⟩, turn⟩ := q D (I2.hok.fresh (Nat.le_of_eq hD))
  obtain ⟨s3, hs3⟩ : ∃ s3 : Shared, ({ s2 with heap := s2.heap.push { cls := .type "list", data := .seq ([] : List Value).toArray } } : Shared) = s3 := ⟨_, rfl⟩
  have hh3 : s3.heap = s2.heap.push { cls := .type "list", data := .seq ([] : List Value).toArray } := by rw [← hs3]
  obtain ⟨H3, hH3⟩ : ∃ H3, upd H2 D (.lst []) = H3 := ⟨_, rfl⟩
  have I3 : Inv X pins σ H3 s3 := by
    rw [← hs3, ← hH3]
    refine I2.laid (t' := s2.toks) (fun b o e => Heap.get?_push_of_some _ e) (Nat.le_of_eq hD) ?_
    rw [← hD]
    exact ⟨Nat.zero_le _, [], 0, .nil, Heap.get?_push_size _ rfl⟩
  rw [hH3] at w0
  have lt2 : ∀ b ∈ fp, b < s2.heap.objs.size := fun b hb => let ⟨o, e, _⟩ := T.obj _ _ st2 b hb; Heap.lt_size e
  have f3 : ∀ b ∈ fp, FpOk X pins H3 b ∧ b < s3.heap.objs.size := fun b hb => by
    refine ⟨⟨?_, (f2 b hb).2⟩, by rw [hh3, Heap.size_push]; exact Nat.lt_succ_of_lt (lt2 b hb)⟩
    rw [← hH3, upd_ne (by rw [← hD]; exact Nat.ne_of_lt (lt2 b hb))]
    exact (f2 b hb).1
  have I4 := block_start I3 ok hN f3
  rw [hs3]
  show codeAny _ _ (.compStart (.ListComp elt [⟨tg, iter, ifs, 0⟩] scope pos) 0 (.ref it) (.ref D) (compEnvC scope (cellsFrom (s3.heap.objs.size + 1) scope.names (cloFrom X.env.cells scope.names [])) s3.heap.objs.size X.env)) (cpX (model X.prog X.w) X.A X.xe use Qf (.ref D) (compEnvC scope (cellsFrom (s3.heap.objs.size + 1) scope.names (cloFrom X.env.cells scope.names [])) s3.heap.objs.size X.env)) { s3 with heap := pushCells (s3.heap.push { cls := .type "dict", data := .dict #[] }) scope.names }
  have pg := hg s3 H3 s3.heap.objs.size (cellsFrom (s3.heap.objs.size + 1) scope.names (cloFrom X.env.cells scope.names [])) fp
  have pt := ht s3 H3 s3.heap.objs.size (cellsFrom (s3.heap.objs.size + 1) scope.names (cloFrom X.env.cells scope.names [])) fp
  have pe0 := he s3 H3 s3.heap.objs.size (cellsFrom (s3.heap.objs.size + 1) scope.names (cloFrom X.env.cells scope.names [])) fp
  have cF : (compEnvC scope (cellsFrom (s3.heap.objs.size + 1) scope.names (cloFrom X.env.cells scope.names [])) s3.heap.objs.size X.env).frame = X.env.frame := rfl
  generalize hce : compEnvC scope (cellsFrom (s3.heap.objs.size + 1) scope.names (cloFrom X.env.cells scope.names [])) s3.heap.objs.size X.env = ce at I4 pg pt pe0 cF ⊢
  have cL : ce.locals = s3.heap.objs.size := by rw [← hce]; rfl
  have st4 : tn 0 (pushCells (s3.heap.push { cls := .type "dict", data := .dict #[] }) scope.names) := T.keep _ _ _ st2 fun b _ o e => pushCells_keeps _ _ _ _ (Heap.get?_push_of_some _ (by rw [hh3]; exact Heap.get?_push_of_some _ e))
  generalize hs4 : ({ s3 with heap := pushCells (s3.heap.push { cls := .type "dict", data := .dict #[] }) scope.names } : Shared) = s4 at I4 ⊢
  have st4' : tn 0 s4.heap := by rw [← hs4]; exact st4
  have stat : ∀ {σ' : L2.St} {H' : Hp} {s' : Shared}, Inv (X.blk s3 H3 scope ce fp) [] σ' H' s' → (∀ b ∈ fp, H' b = none) → ∀ b ∈ fp, FpOk (X.blk s3 H3 scope ce fp) [] H' b := fun I' hn b hb =>
    ⟨hn b hb, (I'.ok.exf b hb).1, I'.ok.exfs b hb, .inl hb, fun x c e => (I'.ok.exf b hb).2 x c e, fun p hp => by cases hp⟩
  -- the def's own view of a state within the block
  have back : ∀ {pins' : List (Addr × Obj)} {σ' : L2.St} {H' : Hp} {s' : Shared}, Inv (X.blk s3 H3 scope ce fp) pins' σ' H' s' → Inv X pins σ H' s' ∧ (∃ m, s'.heap.Ns ce.locals m) ∧ FpOk X pins H' ce.locals := fun {pins' σ' H' s'} I6 => by
    have nC : H' s3.heap.objs.size = none := by rw [← cL]; exact I6.free
    obtain ⟨m, hn, _⟩ := I6.loc
    exact ⟨I3.call' (ch := fp) I6.os I6.base I6.hok I6.bare fun b hb => ⟨(f3 b hb).1.2.2.2.1, (f3 b hb).1.2.1, (f3 b hb).1.2.2.2.2.1, (f3 b hb).1.2.2.2.2.2⟩, ⟨m, hn⟩, by rw [cL]; exact I3.fpOk (Nat.le_refl _) nC⟩
  have pe := pe0 (notedBy (model X.prog X.w) X.A ce fun e s' => cpX (model X.prog X.w) X.A X.xe use Qf (.ref D) ce (.error e) s') (WE W σ) (fun σ' pins' H' s' e s2' I' c => by
    obtain ⟨J1, ⟨m, hn⟩, J2⟩ := back I'.ofBlx
    exact comp_leave tk hst hfm J1 hn J2 (fun _ _ _ z => z) c cF)
  have loop : codeAny (model X.prog X.w) X.A (.compLoop (.ListComp elt [⟨tg, iter, ifs, 0⟩] scope pos) 0 (.ref it) (.ref D) ce) (cpX (model X.prog X.w) X.A X.xe use Qf (.ref D) ce) s4 := by
    refine compLoop_any (fun n s' => ∃ i H', Inv (X.blk s3 H3 scope ce fp) [] (wipe σ (own.map (·.2))) H' s' ∧ tn i s'.heap ∧ (∀ b ∈ fp, H' b = none) ∧ V i n H') ?_ m0 ⟨0, H3, I4, st4', fun b hb => (f3 b hb).1.1, w0⟩
    rintro n s5 ⟨i, H5, I5, st5, n5, w5⟩
    rcases turn i n H5 w5 with ⟨stop, qq⟩ | ⟨go, Nx, hNx, step⟩
    · refine thnF (T.done (X.blk s3 H3 scope ce fp) rfl rfl rfl hc i [] s5 _ H5 (fun _ _ => False) I5 (stat I5 n5) st5 stop) fun r s6 ⟨hr, I6⟩ => ?_
      subst hr
      obtain ⟨J1, ⟨m, hn⟩, J2⟩ := back I6
      exact hRR D ce.locals s6 m H5 J1 qq hn J2
    · refine thnF (T.item (X.blk s3 H3 scope ce fp) rfl rfl rfl hc i [] s5 _ H5 (fun _ _ => False) I5 (stat I5 n5) st5 go) fun r s6 ⟨u, hr, h6⟩ => ?_
      subst hr
      refine thnF h6 fun _ s7 ⟨x, H7, I7, r7, y7, st7, n7⟩ => ?_
      refine thnF (pg.run _ s7 _ H7 x u _ (I7.pinned (stat I7 n7) (T.obj _ _ st7)) r7 (step x H7 y7)) fun _ s8 ⟨σ8, H8, I8, hw8, q8⟩ => ?_
      refine thnF (pt.run _ s8 σ8 H8 _ I8 q8) fun b s9 ⟨H9, I9, q9⟩ => ?_
      have fin : ∀ {s' : Shared} {H' : Hp}, Inv (X.blk s3 H3 scope ce fp) ([] ++ pinsAt fp s7.heap) σ8 H' s' → Nx H' → ∃ m, m < n ∧ ∃ i H', Inv (X.blk s3 H3 scope ce fp) [] (wipe σ (own.map (·.2))) H' s' ∧ tn i s'.heap ∧ (∀ b ∈ fp, H' b = none) ∧ V i m H' := fun {s' H'} I' nx => by
        obtain ⟨m', hm, w'⟩ := hNx H' nx
        have pin' : ∀ b ∈ fp, ∀ o, s7.heap.get? b = some o → s'.heap.get? b = some o ∧ H' b = none := fun b hb o e =>
          let z := I'.pin (b, o) (List.mem_append_right _ (List.mem_append_right _ (mem_pinsAt hb e)))
          ⟨z.1, z.2.1⟩
        refine ⟨m', hm, i + 1, H', (I'.unpinned (pins := [])).weak (by rw [← hw8, wipe_length]) (fun j v e => (wipe_some (by rw [hw8]; exact e)).1), T.keep _ _ _ st7 fun b hb o e => (pin' b hb o e).1, fun b hb => ?_, w'⟩
        obtain ⟨o, e, _⟩ := T.obj _ _ st7 b hb
        exact (pin' b hb o e).2
      cases b with
      | false => exact fin I9 q9
      | true =>
        refine thn (pe.run _ s9 σ8 H9 _ I9.toBlx q9) fun z s10 ⟨yv, H10, I10, r10, acc, hD10, hz10, nx⟩ => ?_
        exact app_ok (X := X.blk s3 H3 scope ce fp) I10.ofBlx hD10 hz10 r10 fun s11 I11 => fin I11 nx
  exact codeAny_compStart_list loop (T.self X.A 0 _ _ _ st4' loop)
theorem pe_lcX {W : WX} {elt tg iter : Expr} {ifs : List Expr} {scope : Scope} {own : List (Str × Nat)} {pos : Pos} {wi : TI} {g : TG} {tt : TT} {te : XK → TE} (tk : Takes X W) (hst : X.stack = X.env :: X.outer) (hfm : X.env.frame = some X.env.locals) (hc : X.calm = true) (hN : X.N.Nodup) (hi : PI X tg iter wi) (ok : BlkOk X.N X.env.scope scope own)
    (hg : ∀ (s : Shared) (H : Hp) (C : Addr) (cl : List (Str × Addr)) (fp : List Addr), PG (X.blk s H scope (compEnvC scope cl C X.env) fp) tg g) (ht : ∀ (s : Shared) (H : Hp) (C : Addr) (cl : List (Str × Addr)) (fp : List Addr), PTs (X.blk s H scope (compEnvC scope cl C X.env) fp) ifs tt)
    (he : ∀ (s : Shared) (H : Hp) (C : Addr) (cl : List (Str × Addr)) (fp : List Addr) (xe : Value → Shared → Prop) (E : XK), (∀ σ', PassesAt (L2.CX X.prog X.w) (EL.blx X s H scope (compEnvC scope cl C X.env) fp xe) σ' E) → PE (EL.blx X s H scope (compEnvC scope cl C X.env) fp xe) elt (te E)) (hs : ∀ x, foldedSetIterable iter X.env x = pure x := by intro _; rfl) :
    PE X (.ListComp elt [⟨tg, iter, ifs, 0⟩] scope pos) (tLcX W wi g tt te (own.map (·.2))) := by
  refine ⟨fun pins s σ H Q I h => ?_⟩
  rw [arm_eval_ListComp]
  refine lcX_core tk hst hfm hc hN I hi ok hg ht he hs h fun D C s' m H' I' q hn f => ⟨m, hn, fun h2 sb => ?_⟩
  obtain ⟨f0, f1, f2, f3, f4, f5⟩ := f
  exact ⟨.ref D, H', I'.turned (t' := s'.toks) (fun b o hb e => (sb.2 b hb).trans e) f0 f1 f3 f4 f5, rfl, q⟩
theorem ps_setLcX {W : WX} {i : Nat} {y : Str} {py : Pos} {elt tg iter : Expr} {ifs : List Expr} {scope : Scope} {own : List (Str × Nat)} {pos spos : Pos} {wi : TI} {g : TG} {tt : TT} {te : XK → TE} (tk : Takes X W) (hst : X.stack = X.env :: X.outer) (hfm : X.env.frame = some X.env.locals) (hc : X.calm = true) (hN : X.N.Nodup) (hy : X.N[i]? = some y) (hyl : X.env.scope.names.lookup y = some .local)
    (hsw : swapsWith (.ListComp elt [⟨tg, iter, ifs, 0⟩] scope pos) (some (.Name y py)) spos.line X.env = pure true) (hi : PI X tg iter wi) (ok : BlkOk X.N X.env.scope scope own)
    (hg : ∀ (s : Shared) (H : Hp) (C : Addr) (cl : List (Str × Addr)) (fp : List Addr), PG (X.blk s H scope (compEnvC scope cl C X.env) fp) tg g) (ht : ∀ (s : Shared) (H : Hp) (C : Addr) (cl : List (Str × Addr)) (fp : List Addr), PTs (X.blk s H scope (compEnvC scope cl C X.env) fp) ifs tt)
    (he : ∀ (s : Shared) (H : Hp) (C : Addr) (cl : List (Str × Addr)) (fp : List Addr) (xe : Value → Shared → Prop) (E : XK), (∀ σ', PassesAt (L2.CX X.prog X.w) (EL.blx X s H scope (compEnvC scope cl C X.env) fp xe) σ' E) → PE (EL.blx X s H scope (compEnvC scope cl C X.env) fp xe) elt (te E)) (hs : ∀ x, foldedSetIterable iter X.env x = pure x := by intro _; rfl) :
    PS X (.Assign [.Name y py] (.ListComp elt [⟨tg, iter, ifs, 0⟩] scope pos) spos) (tAsg (tLcX W wi g tt te (own.map (·.2))) (gName i)) := by
  refine ⟨fun pins s σ H D I h => ?_⟩
  rw [exec_Assign_Name_used _ _ _ _ hsw]
  refine wpAny_bind (wpAny_standAt (wpAny_bind ?_))
  show wpAny _ X.A (do let _ ← comprehension (.ListComp elt [⟨tg, iter, ifs, 0⟩] scope pos) scope X.env (firstIterPos [⟨tg, iter, ifs, 0⟩] pos) (newList []) false (eval iter X.env) (some (assign (.Name y py) X.env))) _ _ s
  have h' : tLcX W wi g tt te (own.map (·.2)) σ H (fun x H1 => gName i x σ H1 D.nx) := h
  refine wpAny_bind (thn (lcX_core (Qf := fun _ s' => SP X pins D .next s') tk hst hfm hc hN I hi ok hg ht he hs h' fun L C s' m H' I' q hn f => ?_) fun _ s' hq => wpAny_pure (wpAny_pure hq))
  obtain ⟨f0, f1, f2, f3, f4, f5⟩ := f
  refine wpAny_assign_Name (store_ok2 (v := V.ref L) I' hN hy (.inl hyl) rfl (fun s2 I2 ⟨a, sb, ha⟩ => ?_) (.inr hyl))
  have haC : C ≠ a := ha.elim (fun z => by rw [z]; exact f1) (fun z e => f4 y a z e.symm)
  exact ⟨m, hn.sameBut sb haC, fun h3 sb3 => ⟨_, H', I2.turned (t' := s2.toks) (fun b o hb e => (sb3.2 b hb).trans e) f0 f1 f3 f4 f5, q⟩⟩
theorem lcX_it {J : It} {n : Nat} {G : Hp → Prop} {Y : Nat → Hp → V → Hp → Prop} (w : L2.Walk J n G Y) {g : TG} {tt : TT} {te : TE} {vs : List Nat} {σ : L2.St} {H1 : Hp} {D : Addr} {Qd : Hp → Prop} (Pv : Nat → Hp → Prop) (h0 : Pv 0 (upd H1 D (.lst []))) (hG : ∀ i H, i ≤ n → Pv i H → G H)
    (hs : ∀ i x H H', i < n → Pv i H → Y i H x H' → LcStep g tt te vs σ D (Pv (i + 1)) x H') (hd : ∀ H, Pv n H → Qd H) :
    ∃ V : Nat → Nat → Hp → Prop, (∃ m, V 0 m (upd H1 D (.lst []))) ∧ ∀ i m H, V i m H → (J.stop i H ∧ Qd H) ∨ (J.go i H ∧ ∃ Nx : Hp → Prop, (∀ H', Nx H' → ∃ m', m' < m ∧ V (i + 1) m' H') ∧ ∀ x H', J.yld i H x H' → LcStep g tt te vs σ D Nx x H') := by
  refine ⟨fun i m H => m + i = n ∧ Pv i H, ⟨n, rfl, h0⟩, fun i m H ⟨hm, p⟩ => ?_⟩
  have q := hG i H (by omega) p
  cases m with
  | zero =>
    have e : i = n := by omega
    subst e
    exact .inl ⟨w.stops H q, hd H p⟩
  | succ m => exact .inr ⟨w.goes i H (by omega) q, Pv (i + 1), fun H' p' => ⟨m, Nat.lt_succ_self m, by omega, p'⟩, fun x H' y => hs i x H H' (by omega) p (w.yields i H x H' (by omega) q y)⟩
/-- a call of a def that may raise, what it lets out being taken as hx says -/
theorem clP {CX : CXT} {k : Nat} {x : Str} {sp : Sp} {E : XK} {e : Expr} {es : List Expr} {t : TA} {p pos : Pos} (hx : ∀ σ, PassesAt CX X σ E) (D : Dn X.prog X.w X.K X.mg X.base CX k x sp) (hr : Room k X.A) (ha : PA X (e :: es) t) (hg : Gl X x := by rfl)
    (hdb : (x == ("__debug__" : Str)) = false := by decide) (he : starEach (e :: es) X.env = (false, eval e X.env) :: starEach es X.env := by rfl) (hpl : (backTo pos (starEach es X.env)).any (·.1) = false := by rfl) :
    PE X (.Call (.Name x p) (e :: es) [] pos) (tCallS sp (fun _ => E) t) := pe_fn D.r hr hg D.g D.kp hx ha hdb he hpl
end
/-! ### an instance called, what it lets out by the caller's slots -/
def tCallOE (C : Addr) (sp : Sp) (E : L2.St → XK) (tf : TE) (t : TA) : TE := fun σ H Q => tf σ H fun y H1 => ∃ a, y = V.ref a ∧ t σ H1 fun vs H2 => (∃ dx fs, H2 a = some (.ins C dx fs)) ∧ sp (V.ref a :: vs) H2 Q (E σ)
theorem pe_callOE {X : Cx} {CX : CXT} {k : Nat} {C g : Addr} {sp : Sp} {E : L2.St → XK} {fe e : Expr} {es : List Expr} {tf : TE} {t : TA} {pos : Pos} (hf : PE X fe tf) (c : StX.CallO X.K C g) (F : FnR X.prog X.w X.K X.mg X.base CX k g sp) (hr : Room k X.A) (hx : ∀ σ, PassesAt CX X σ (E σ)) (ha : PA X (e :: es) t)
    (ht : eval (.Call fe (e :: es) [] pos) X.env = (do callWith pos (← eval fe X.env) [] (backTo pos (starEach (e :: es) X.env)) (backToKw pos (keywordEach [] X.env))) := by rfl)
    (he : starEach (e :: es) X.env = (false, eval e X.env) :: starEach es X.env := by rfl) (hpl : (backTo pos (starEach es X.env)).any (·.1) = false := by rfl) : PE X (.Call fe (e :: es) [] pos) (tCallOE C sp E tf t) := by
  refine ⟨fun pins s σ H Q I h => ?_⟩
  refine Call_ (thn (hf.run pins s σ H _ I h) fun u s1 ⟨y, H1, I1, ry, a, ey, q⟩ => ?_) ht
  subst ey
  cases (show u = Value.ref a from ry)
  refine StX.callO_with (thn (ha.run pos pins s1 σ H1 _ I1 q) fun us s2 ⟨vs, H2, I2, r, hi, q2⟩ => ?_) he hpl
  obtain ⟨ox, od, J, hd⟩ := StX.insC_at (C := C) I2 (.inr hi)
  refine ⟨⟨C, ox, od, J, hd⟩, wpAny_call (PySem.W.kco_code I2.kIn J hd c.at_ c.fn c.fi (codeAny_mono (F X.A X.stack s2 H2 (.ref a :: us) (.ref a :: vs) Q (E σ) hr I2.env0 (.cons rfl r) q2) fun r s' hq => ?_))⟩
  cases r with
  | error e => exact hx σ pins _ s2 e s' I2 hq
  | ok fl =>
    cases fl with
    | ret u => exact I2.after hq
    | next => exact False.elim hq
    | brk => exact False.elim hq
    | cont => exact False.elim hq
def callOB (K : PySem.W.Frag) (C : Addr) : Bool := eqO (PySem.W.findIn K (.ref C) "__call__") (some (some (.ref (ma K C "__call__")))) && (PySem.W.isFn K (.ref (ma K C "__call__")) && PySem.W.fnIn K (ma K C "__call__"))
theorem callOB_ok {K : PySem.W.Frag} {C : Addr} (h : callOB K C = true) : StX.CallO K C (ma K C "__call__") := by
  obtain ⟨h1, h⟩ := ba h
  obtain ⟨h2, h3⟩ := ba h
  exact ⟨eqO_ok h1, h2, h3⟩
/-! ### facts of dunders; the operators of two instances of one class -/
def dunB (K : PySem.W.Frag) (C : Addr) (m : Str) : Bool := eqO (PySem.W.findIn K (.ref C) m) (some (some (.ref (ma K C m)))) && PySem.W.isFn K (.ref (ma K C m))
theorem dunB_ok {K : PySem.W.Frag} {C : Addr} {m : Str} (h : dunB K C m = true) : PySem.W.findIn K (.ref C) m = some (some (.ref (ma K C m))) ∧ PySem.W.isFn K (.ref (ma K C m)) = true := by
  obtain ⟨h1, h2⟩ := ba h
  exact ⟨eqO_ok h1, h2⟩
/-! ### a dict of the top with text keys -/
def nsStrB (K : PySem.W.Frag) (d : Addr) (z y : Str) : Bool := match PySem.W.nsIn K d z with
  | some (some (.str x _)) => decide (x = y)
  | _ => false
theorem nsStrB_ok {K : PySem.W.Frag} {d : Addr} {z y : Str} (h : nsStrB K d z y = true) : ∃ u, PySem.W.nsIn K d z = some (some u) ∧ RelV (.str y) u := by
  unfold nsStrB at h
  split at h
  · rename_i x t q
    cases of_decide_eq_true h
    exact ⟨_, q, t, rfl⟩
  · cases h
theorem kdct {K : PySem.W.Frag} {w : World} {a : Addr} {z y : Str} (D : ∃ es n, KDict K w a es n) (h : ∃ u, PySem.W.nsIn K a z = some (some u) ∧ RelV (.str y) u) : KDct K w a z (.str y) := by
  obtain ⟨es, n, D⟩ := D
  obtain ⟨u, h1, h2⟩ := h
  exact ⟨es, n, u, D.at_, D.lit, h1, h2⟩
abbrev AlY : Type := AlX × List (Option (List (Option (Str × Int))))
def obsY (fa : List Fa) (fn : List DefE) (xn : List DefX) (ts : List Tab) (ex : PySem.W.Frag → Bool) (K : PySem.W.Frag) : AlY := (obsX fa fn xn ex K, ts.map fun t => dicW K (t.1 K))
def obsYG (n : Nat) (fa : List Fa) (fn : List DefE) (xn : List DefX) (ts : List Tab) (ex : PySem.W.Frag → Bool) (g : Addr → Option Obj) : AlY := obsY fa fn xn ts ex (frG g (He5.asA g n))
def valY (fn : List DefE) (xn : List DefX) (ts : List Tab) (w : World) : AlY := (valX fn xn, ts.map fun t => some (keysIn w.params t.2))
def SaysY (fa : List Fa) (fn : List DefE) (xn : List DefX) (ts : List Tab) (ex : PySem.W.Frag → Bool) (w : World) (K : PySem.W.Frag) : Prop := obsY fa fn xn ts ex K = valY fn xn ts w
def hookY (n : Nat) (fa : List Fa) (fn : List DefE) (xn : List DefX) (ts : List Tab) (ex : PySem.W.Frag → Bool) : PySem.W.Hook where
  α := AlY
  obs := fun s => obsYG n fa fn xn ts ex s.heap.get?
  val := fun w => valY fn xn ts w
  says := fun w h => ∃ K : PySem.W.Frag, K.In h ∧ SaysY fa fn xn ts ex w K
  of := fun _ _ e => ⟨_, frG_in, e⟩
  keeps := fun _ _ _ ⟨K, hK, c⟩ k => ⟨K, PySem.W.Frag.In.keeps hK k, c⟩
theorem obsYG_eq {n : Nat} {fa : List Fa} {fn : List DefE} {xn : List DefX} {ts : List Tab} {ex : PySem.W.Frag → Bool} {g : Addr → Option Obj} {s : Shared} (h : ∀ a, g a = s.heap.get? a) : obsYG n fa fn xn ts ex g = (hookY n fa fn xn ts ex).obs s := by
  have e : g = s.heap.get? := funext h
  rw [e] <;> rfl
section
variable {fa : List Fa} {fn : List DefE} {xn : List DefX} {ts : List Tab} {ex : PySem.W.Frag → Bool} {w : World} {K : PySem.W.Frag}
theorem SaysY.x (c : SaysY fa fn xn ts ex w K) : SaysX fa fn xn ex K := congrArg (fun z : AlY => z.1) c
theorem SaysY.tab (c : SaysY fa fn xn ts ex w K) (i : Nat) {t : Tab} (h : ts[i]? = some t := by rfl) : ∃ es n, KDict K w (t.1 K) es n := by
  have e2 : (ts.map fun t => dicW K (t.1 K))[i]? = (ts.map fun t => some (keysIn w.params t.2))[i]? := congrArg (fun z : AlY => z.2[i]?) c
  rw [List.getElem?_map, List.getElem?_map, h] at e2
  exact dicW_ok (Option.some.inj e2)
end
/-! ### lists or tuples -/
theorem PI.or_ {X : Cx} {tg e : Expr} {w1 w2 : TI} (h1 : PI X tg e w1) (h2 : PI X tg e w2) : PI X tg e (fun σ H R => w1 σ H R ∨ w2 σ H R) :=
  ⟨fun pins s σ H R I h => h.elim (fun z => h1.run pins s σ H R I z) (fun z => h2.run pins s σ H R I z)⟩
theorem PE.or_ {X : Cx} {e : Expr} {t1 t2 : TE} (h1 : PE X e t1) (h2 : PE X e t2) : PE X e (fun σ H Q => t1 σ H Q ∨ t2 σ H Q) :=
  ⟨fun pins s σ H Q I h => h.elim (fun z => h1.run pins s σ H Q I z) (fun z => h2.run pins s σ H Q I z)⟩
theorem SqL.new {K : PySem.W.Frag} {H H' : Hp} {S : List Addr} {a : Addr} {xs : List V} (h : SqL K H a xs) (m : Md S H H') (n : ∀ b ∈ S, H b = none) : SqL K H' a xs := by
  rcases h with (h | ⟨o, h⟩) | h
  · exact .inl (.inl (m.out _ _ h fun z => by rw [n a z] at h; cases h))
  · exact .inl (.inr ⟨o, m.out _ _ h fun z => by rw [n a z] at h; cases h⟩)
  · exact .inr h
theorem kit_any2 (K : PySem.W.Frag) (A B : Kd) (d : PyData) : PySem.W.kitAny K (.type (tyn d)) [.type (kdN A), .type (kdN B)] = some (isTy A d || isTy B d) := by
  unfold PySem.W.kitAny
  rw [kit_d K A d]
  cases isTy A d with
  | true => rfl
  | false =>
    show PySem.W.kitAny K (.type (tyn d)) [.type (kdN B)] = _
    unfold PySem.W.kitAny
    rw [kit_d K B d]
    cases isTy B d with
    | true => rfl
    | false => rfl
theorem u65 {k : Nat} {A : Around} (r : Room k A) : A.units + 65 < cLine := by have := r.un; omega
/-- x is True, x is False: x a truth value or None -/
def rIsBN : R2 := fun x y H Q => ∃ b : Bool, y = .bl b ∧ ((x = .non ∧ Q (.bl false) H) ∨ ∃ a : Bool, x = .bl a ∧ Q (.bl (decide (a = b))) H)
theorem op_isBN {X : Cx} : OpR X (compareOp .Is) rIsBN := by
  intro pins s σ H x y v u Q I rx ry h
  obtain ⟨b, rfl, ⟨rfl, q⟩ | ⟨a, rfl, q⟩⟩ := h
  · cases (show v = Value.none from rx)
    cases (show u = Value.bool b from ry)
    exact wpAny_is_other rfl (fun z => nomatch z) ⟨.bl false, H, I, rfl, q⟩
  · exact op_is_bl pins s σ H _ _ v u Q I rx ry ⟨a, b, rfl, rfl, q⟩
end EL
namespace EL
open PySem PySem.Spec PyProof.Rows L2 He TL
/-! ### isinstance of a caught error, with or without a dict, either answer -/
def rIsA (K : PySem.W.Frag) (D : Addr) (cls : Value) (d : Option Addr) (a : Addr) : List V → Hp → VK → Prop := fun xs H Q => cls = .ref D ∧ (d = none ∨ ∃ dd fs, d = some dd ∧ H dd = some (.xd fs)) ∧ rIsE K D a xs H Q
theorem call_isA {X : Cx} {a D : Addr} {oe : Obj} {pn : List (Addr × Obj)} {cls : Value} {d : Option Addr} (C : ExcC X.K D) (hz : Zc cls d oe) (hf : ∃ vs, oe.data = .fields vs) : CallR (X.suite a ((a, oe) :: pn)) (.builtin "isinstance") (rIsA X.K D cls d a) := by
  intro pins s σ H xs us Q I r h
  obtain ⟨rfl, hd, c, cv, b, rfl, hcv, e, q⟩ := h
  cases r with
  | cons rx rr =>
    cases rr with
    | cons rt rr =>
      cases rr
      cases rx
      cases hcv _ rt
      obtain ⟨hget, _⟩ := I.pin (a, oe) (List.mem_append.mpr (.inl List.mem_cons_self))
      obtain ⟨vs, hv⟩ := hf
      have hcl : (PySem.W.clsIn X.K D).isSome = true := by
        obtain ⟨cd, hc, _⟩ := PySem.W.any_some C.hd
        rw [hc]
        rfl
      have J : ∃ od, PySem.W.InstAt s.heap a oe D od := by
        rcases hd with rfl | ⟨dd, fs, rfl, hx⟩
        · refine ⟨none, hget, hz.1, by unfold PySem.W.notCls; rw [hv] <;> rfl, ?_⟩
          rw [hz.2]
          trivial
        · have hx' : ObjOk X.prog X.w H s.heap dd (.xd fs) := I.hok dd _ hx
          obtain ⟨mA, ⟨o, es, ep, ho, _⟩, _⟩ := hx'
          refine ⟨some o, hget, hz.1, by unfold PySem.W.notCls; rw [hv] <;> rfl, ?_⟩
          rw [hz.2]
          exact ho
      obtain ⟨od, J⟩ := J
      exact PySem.W.kia_one (PySem.W.kitx_exc hcl C.hg C.hk C.hs C.ha C.hn C.ht C.hm) I.kIn J e (fun z => nomatch z) fun tk => ⟨.bl b, H, I.kept (t' := tk) fun _ _ z => z, rfl, q⟩
/-! ### x op= y by an own def -/
theorem ip_own {X : Cx} {CX : CXT} {k : Nat} {C g : Addr} {sp : Sp} {E : XK} {op : Operator} (hc : PySem.W.selfFirst X.K C = true) (hs : PySem.W.findIn X.K (.ref C) (PySem.dunderI op.info.2) = some (some (.ref g))) (hf : PySem.W.isFn X.K (.ref g) = true) (F : FnR X.prog X.w X.K X.mg X.base CX k g sp)
    (hr : Room k X.A) (hx : Passes CX X E) : PIp X op (fun x y H Q => ∃ a dx fs, x = .ref a ∧ H a = some (.ins C dx fs) ∧ sp [x, y] H Q E) := by
  intro pins s σ H x y v u Q I rx ry h
  obtain ⟨a, dx, fs, rfl, ha, q⟩ := h
  cases (show v = Value.ref a from rx)
  obtain ⟨ox, od, J, _⟩ := ins_at I ha
  obtain ⟨m, hF⟩ := I.fr
  refine PySem.W.ksp_inplace hF I.ok.mod.kin J hc hs hf ?_
  refine wpAny_mono (wpAny_call (run_fnR (us := [.ref a, u]) (vs := [.ref a, y]) F hr hx I (.cons rfl (.cons ry .nil)) q)) (fun w s' z => ?_) fun _ _ x => x
  obtain ⟨z', H', I', rz, qz⟩ := z
  exact SlX.cmpback rz ⟨z', H', I', rz, qz⟩
/-! ### two dicts whose values are ints -/
def eqDI (ks ls : List (Key × Int)) : Bool := ks.all fun p => decide (valV (ls.map fun q => (q.1, V.int q.2)) p.1 = some (.int p.2))
abbrev dI (ks : List (Key × Int)) : List (Key × V) := ks.map fun q => (q.1, V.int q.2)
theorem hits_int {A : Around} {s : Shared} {ls : List (Key × Int)} {vb : List (Key × Value)} (rb : KV (dI ls) vb) : ∀ {ks : List (Key × Int)} {va : List (Key × Value)}, KV (dI ks) va → PySem.W.KeqHits A s vb va (eqDI ks ls)
  | [], _, r => by
    cases r
    exact .nil
  | (k, i) :: ks, _, r => by
    cases r with
    | @cons _ q _ qs h t =>
      obtain ⟨k', v'⟩ := q
      obtain ⟨h1, h2⟩ := h
      have h1 : k = k' := h1
      subst h1
      obtain ⟨ti, rfl⟩ := (show ∃ t, v' = Value.int i t from h2)
      have ih := hits_int (A := A) (s := s) rb t
      have rk := rb.val k
      have e : eqDI ((k, i) :: ks) ls = (decide (valV (dI ls) k = some (.int i)) && eqDI ks ls) := rfl
      rw [e]
      cases hv : valV (dI ls) k with
      | none =>
        rw [hv] at rk
        cases hb : valueAt vb k with
        | none => rw [decide_eq_false (by intro z; cases z), Bool.false_and]; exact .miss hb
        | some y => rw [hb] at rk; cases rk
      | some y =>
        rw [hv] at rk
        obtain ⟨j, rfl⟩ : ∃ j, y = .int j := by
          have : ∀ (l : List (Key × Int)) y, valV (dI l) k = some y → ∃ j, y = .int j := by
            intro l
            induction l with
            | nil => intro y h; cases h
            | cons p r ih =>
              intro y h
              by_cases e : p.1 = k
              · have : valV (dI (p :: r)) k = some (.int p.2) := valV_pos e
                rw [this] at h
                cases h
                exact ⟨_, rfl⟩
              · have : valV (dI (p :: r)) k = valV (dI r) k := valV_neg e
                rw [this] at h
                exact ih y h
          exact this ls y hv
        cases hb : valueAt vb k with
        | none => rw [hb] at rk; cases rk
        | some y' =>
          rw [hb] at rk
          obtain ⟨tj, rfl⟩ := (show ∃ t, y' = Value.int j t from rk)
          have e2 : decide ((some (V.int j) : Option V) = some (V.int i)) = (i == j) := by
            by_cases h : i = j
            · subst h; simp
            · rw [decide_eq_false (by intro z; injection z with z; injection z with z; exact h z.symm), beq_eq_false_iff_ne.mpr h]
          rw [e2]
          exact .hit hb (SeqAt.EqAt.int_int _ _ _ _) ih
def rEqDI : R2 := fun x y H Q => ∃ a b ks ls, x = .ref a ∧ y = .ref b ∧ H a = some (.dK (dI ks)) ∧ H b = some (.dK (dI ls)) ∧ Q (.bl (decide (ks.length = ls.length) && eqDI ks ls)) H
theorem op_eqDI {X : Cx} (hu : X.A.units < cLine) : OpR X (compareOp .Eq) rEqDI := by
  intro pins s σ H x y v u Q I rx ry h
  obtain ⟨a, b, ks, ls, rfl, rfl, ea, eb, q⟩ := h
  cases (show v = Value.ref a from rx)
  cases (show u = Value.ref b from ry)
  obtain ⟨_, ya, va, ra, da⟩ := (show ObjOk X.prog X.w H s.heap a (.dK (dI ks)) from I.hok a _ ea)
  obtain ⟨_, yb, vb, rb, db⟩ := (show ObjOk X.prog X.w H s.heap b (.dK (dI ls)) from I.hok b _ eb)
  refine PySem.W.keq_eq (knd := mixKind X.prog X.w) (r := eqDI ks ls) ya yb da db hu (fun _ => hits_int rb ra) ?_
  have e : (va.length == vb.length) = decide (ks.length = ls.length) := by
    have h1 : va.length = ks.length := by rw [← ra.length, List.length_map]
    have h2 : vb.length = ls.length := by rw [← rb.length, List.length_map]
    rw [h1, h2]
    rfl
  rw [e]
  exact ⟨.bl _, H, I, rfl, q⟩
end EL
namespace EL
open PySem PySem.Spec PyProof.Rows L2 He TL
/-! ### objects that are there -/
def Al (M : List Addr) (H : Hp) : Prop := ∀ a ∈ M, ∃ o, H a = some o
theorem Al.out {M : List Addr} {H : Hp} {a : Addr} (h : Al M H) (n : H a = none) : a ∉ M := fun z => by obtain ⟨o, e⟩ := h a z; rw [n] at e; cases e
theorem Al.same {M : List Addr} {H H' : Hp} (h : Al M H) (s : Same H H') : Al M H' := fun a ha => let ⟨o, e⟩ := h a ha; ⟨o, s _ _ e⟩
theorem Al.md {M S : List Addr} {H H' : Hp} (h : Al M H) (m : Md S H H') (k : Al S H') : Al M H' := fun a ha => by
  by_cases z : a ∈ S
  · exact k a z
  · obtain ⟨o, e⟩ := h a ha
    exact ⟨o, m.out _ _ e z⟩
theorem Al.sub {M M' : List Addr} {H : Hp} (h : Al M H) (k : ∀ b ∈ M', b ∈ M) : Al M' H := fun a ha => h a (k a ha)
theorem free_md {S : List Addr} {H H' : Hp} {a : Addr} (m : Md S H H') (k : Al S H') (n : H' a = none) : H a = none := by
  cases hh : H a with
  | none => rfl
  | some o =>
    by_cases z : a ∈ S
    · obtain ⟨o', e⟩ := k a z
      rw [n] at e; cases e
    · rw [m.out _ _ hh z] at n; cases n
theorem al1 {a : Addr} {H : Hp} {o : HO} (h : H a = some o) : Al [a] H := fun b hb => by cases List.mem_singleton.mp hb; exact ⟨o, h⟩
theorem al_cons {a : Addr} {S : List Addr} {H : Hp} {o : HO} (h : H a = some o) (k : Al S H) : Al (a :: S) H := fun b hb => (List.mem_cons.mp hb).elim (fun e => e ▸ ⟨o, h⟩) (k b)
theorem al_nil {H : Hp} : Al [] H := fun b hb => by cases hb
theorem not1 {a b : Addr} (h : a ≠ b) : a ∉ [b] := by simp [h]
theorem not2 {a b c : Addr} (h : a ≠ b) (h2 : a ≠ c) : a ∉ [b, c] := by simp [h, h2]
theorem Src.md {H H' : Hp} {p l : Addr} {S : List Addr} (h : Src H p l) (m : Md S H H') (h1 : p ∉ S) (h2 : l ∉ S) : Src H' p l := by
  obtain ⟨ns, i, c, r, k1, k2, h3⟩ := h
  exact ⟨ns, i, c, r, m.out _ _ k1 h1, m.out _ _ k2 h2, h3⟩
/-! ### data whose lists are not in S -/
mutual
inductive DpX (K : PySem.W.Frag) (S : List Addr) (H : Hp) : V → PyData → Prop
  | non : DpX K S H .non .none
  | bl (b : Bool) : DpX K S H (.bl b) (.bool b)
  | int (i : Int) : DpX K S H (.int i) (.int i)
  | str (x : Str) : DpX K S H (.str x) (.str x)
  | lst {a : Addr} {xs : List V} {ds : List PyData} : H a = some (.lst xs) → a ∉ S → DpXs K S H xs ds → DpX K S H (.ref a) (.list ds)
  | tup {a : Addr} {xs : List V} {ds : List PyData} : SqT K H a xs → DpXs K S H xs ds → DpX K S H (.ref a) (.tuple ds)
inductive DpXs (K : PySem.W.Frag) (S : List Addr) (H : Hp) : List V → List PyData → Prop
  | nil : DpXs K S H [] []
  | cons {v : V} {d : PyData} {vs : List V} {ds : List PyData} : DpX K S H v d → DpXs K S H vs ds → DpXs K S H (v :: vs) (d :: ds)
end
section
variable {K : PySem.W.Frag} {S S' : List Addr} {H H' : Hp}
mutual
theorem DpX.dp : ∀ {d : PyData} {v : V}, DpX K S H v d → Dp K H v d
  | _, _, .non => .non
  | _, _, .bl b => .bl b
  | _, _, .int i => .int i
  | _, _, .str x => .str x
  | _, _, .lst h _ a => .lst (SqL.of h) (DpXs.dp a)
  | _, _, .tup h a => .tup h (DpXs.dp a)
theorem DpXs.dp : ∀ {ds : List PyData} {vs : List V}, DpXs K S H vs ds → DpAll K H vs ds
  | _, _, .nil => .nil
  | _, _, .cons a b => .cons (DpX.dp a) (DpXs.dp b)
end
mutual
theorem DpX.md (m : Md S H H') : ∀ {d : PyData} {v : V}, DpX K S H v d → DpX K S H' v d
  | _, _, .non => .non
  | _, _, .bl b => .bl b
  | _, _, .int i => .int i
  | _, _, .str x => .str x
  | _, _, .lst h n a => .lst (m.out _ _ h n) n (DpXs.md m a)
  | _, _, .tup h a => .tup (m.sqT h) (DpXs.md m a)
theorem DpXs.md (m : Md S H H') : ∀ {ds : List PyData} {vs : List V}, DpXs K S H vs ds → DpXs K S H' vs ds
  | _, _, .nil => .nil
  | _, _, .cons a b => .cons (DpX.md m a) (DpXs.md m b)
end
theorem DpX.same {d : PyData} {v : V} (s : Same H H') (h : DpX K S H v d) : DpX K S H' v d := h.md (.of s)
theorem DpXs.same {ds : List PyData} {vs : List V} (s : Same H H') (h : DpXs K S H vs ds) : DpXs K S H' vs ds := h.md (.of s)
mutual
theorem DpX.re (hm : ∀ b, b ∉ S → (∃ o, H b = some o) → b ∉ S') : ∀ {d : PyData} {v : V}, DpX K S H v d → DpX K S' H v d
  | _, _, .non => .non
  | _, _, .bl b => .bl b
  | _, _, .int i => .int i
  | _, _, .str x => .str x
  | _, _, .lst h n a => .lst h (hm _ n ⟨_, h⟩) (DpXs.re hm a)
  | _, _, .tup h a => .tup h (DpXs.re hm a)
theorem DpXs.re (hm : ∀ b, b ∉ S → (∃ o, H b = some o) → b ∉ S') : ∀ {ds : List PyData} {vs : List V}, DpXs K S H vs ds → DpXs K S' H vs ds
  | _, _, .nil => .nil
  | _, _, .cons a b => .cons (DpX.re hm a) (DpXs.re hm b)
end
theorem DpX.sub {d : PyData} {v : V} (h : DpX K S H v d) (k : ∀ b ∈ S', b ∈ S) : DpX K S' H v d := h.re fun b n _ z => n (k b z)
/-- one more place, which was not there -/
theorem DpX.more {d : PyData} {v : V} {p : Addr} (h : DpX K S H v d) (n : H p = none) : DpX K (p :: S) H v d := h.re fun b nb ⟨o, e⟩ z => (List.mem_cons.mp z).elim (fun e2 => by rw [e2, n] at e; cases e) nb
mutual
theorem DpX.of : ∀ {d : PyData} {v : V}, noL d = true → Dp K H v d → DpX K S H v d
  | _, _, _, .non => .non
  | _, _, _, .bl b => .bl b
  | _, _, _, .int i => .int i
  | _, _, _, .str x => .str x
  | _, _, n, .lst h a => by cases n
  | _, _, n, .tup h a => .tup h (DpXs.of n a)
theorem DpXs.of : ∀ {ds : List PyData} {vs : List V}, noLs ds = true → DpAll K H vs ds → DpXs K S H vs ds
  | _, _, _, .nil => .nil
  | _, _, n, .cons a b => .cons (DpX.of (Bool.and_eq_true_iff.mp n).1 a) (DpXs.of (Bool.and_eq_true_iff.mp n).2 b)
end
theorem DpXs.length : ∀ {ds : List PyData} {vs : List V}, DpXs K S H vs ds → vs.length = ds.length
  | _, _, .nil => rfl
  | _, _, .cons _ b => congrArg Nat.succ (DpXs.length b)
theorem DpXs.get : ∀ {ds : List PyData} {vs : List V} {i : Nat} {v : V}, DpXs K S H vs ds → vs[i]? = some v → ∃ d, ds[i]? = some d ∧ DpX K S H v d
  | _, _, 0, _, .cons a b, e => by cases e; exact ⟨_, rfl, a⟩
  | _, _, i + 1, _, .cons a b, e => DpXs.get (i := i) b e
theorem DpXs.at {ds : List PyData} {vs : List V} {n : Int} (h : DpXs K S H vs ds) (h0 : 0 ≤ n) (h1 : n < (ds.length : Nat)) : ∃ v d, atI vs n = some v ∧ ds[n.toNat]? = some d ∧ d ∈ ds ∧ DpX K S H v d := by
  obtain ⟨k, rfl⟩ := Int.eq_ofNat_of_zero_le h0
  have hk : k < vs.length := by rw [h.length]; omega
  have e := List.getElem?_eq_getElem hk
  obtain ⟨d, e2, x⟩ := h.get e
  exact ⟨vs[k], d, atI_nat e, e2, List.mem_of_getElem? e2, x⟩
theorem DpXs.snoc {v : V} {d : PyData} (k : DpX K S H v d) : ∀ {ds : List PyData} {vs : List V}, DpXs K S H vs ds → DpXs K S H (vs ++ [v]) (ds ++ [d])
  | _, _, .nil => .cons k .nil
  | _, _, .cons a b => .cons a (DpXs.snoc k b)
theorem DpX.lst_inv {v : V} {ds : List PyData} (h : DpX K S H v (.list ds)) : ∃ a xs, v = .ref a ∧ H a = some (.lst xs) ∧ a ∉ S ∧ DpXs K S H xs ds := by
  cases h with
  | lst h n a => exact ⟨_, _, rfl, h, n, a⟩
theorem DpX.tup_inv {v : V} {ds : List PyData} (h : DpX K S H v (.tuple ds)) : ∃ a xs, v = .ref a ∧ SqT K H a xs ∧ DpXs K S H xs ds := by
  cases h with
  | tup h a => exact ⟨_, _, rfl, h, a⟩
end
/-! ### written data -/
section
variable {X : Cx}
theorem pe_imp {e : Expr} {t t' : TE} (h : PE X e t) (k : ∀ σ H Q, t' σ H Q → t σ H Q) : PE X e t' := ⟨fun pins s σ H Q I q => h.run pins s σ H Q I (k σ H Q q)⟩
theorem pa_imp {es : List Expr} {t t' : TA} (h : PA X es t) (k : ∀ σ H Q, t' σ H Q → t σ H Q) : PA X es t' := ⟨fun pos pins s σ H Q I q => h.run pos pins s σ H Q I (k σ H Q q)⟩
def tLit (K : PySem.W.Frag) (d : PyData) : TE := fun _ H Q => ∀ v H', Same H H' → (∀ S, Al S H → DpX K S H' v d) → Q v H'
def tLits (K : PySem.W.Frag) (ds : List PyData) : TA := fun _ H Q => ∀ vs H', Same H H' → (∀ S, Al S H → DpXs K S H' vs ds) → Q vs H'
theorem lit_n {j pos} : PE X (.Constant .none j pos) (tLit X.K .none) := pe_imp pe_non fun _ H Q h => h _ _ (.refl _) fun _ _ => .non
theorem lit_b {b j pos} : PE X (.Constant (.bool b) j pos) (tLit X.K (.bool b)) := pe_imp pe_bl fun _ H Q h => h _ _ (.refl _) fun _ _ => .bl b
theorem lit_i {i j pos} : PE X (.Constant (.int i) j pos) (tLit X.K (.int i)) := pe_imp pe_int fun _ H Q h => h _ _ (.refl _) fun _ _ => .int i
theorem lit_s {z j pos} : PE X (.Constant (.str z) j pos) (tLit X.K (.str z)) := pe_imp pe_str fun _ H Q h => h _ _ (.refl _) fun _ _ => .str z
/-- an expression that is an int -/
theorem lit_e {e : Expr} {t : TE} (i : Int) (h : PE X e t) (k : ∀ σ H (Q : VK), Q (.int i) H → t σ H Q) : PE X e (tLit X.K (.int i)) := pe_imp h fun σ H Q q => k σ H Q (q _ _ (.refl _) fun _ _ => .int i)
theorem lits_nil : PA X [] (tLits X.K []) := pa_imp pa_nil fun _ H Q h => h _ _ (.refl _) fun _ _ => .nil
theorem lits_cons {e : Expr} {es : List Expr} {d : PyData} {ds : List PyData} (h : PE X e (tLit X.K d)) (r : PA X es (tLits X.K ds)) (hs : starEach (e :: es) X.env = (false, eval e X.env) :: starEach es X.env := by rfl) : PA X (e :: es) (tLits X.K (d :: ds)) :=
  pa_imp (pa_cons h r hs) fun _ H Q q v H1 s1 h1 vs H2 s2 h2 => q _ _ (s1.trans s2) fun S al => .cons ((h1 S al).same s2) (h2 S (al.same s1))
theorem lit_t {es : List Expr} {ds : List PyData} {x1 pos} (h : PA X es (tLits X.K ds)) (hl : ds.length ≤ 1000 := by decide) : PE X (.Tuple es x1 pos) (tLit X.K (.tuple ds)) :=
  pe_imp (pe_tup h) fun _ H Q q vs H1 s1 h1 => by
    have l := (h1 [] al_nil).length
    refine ⟨Nat.le_trans (by rw [l]; exact hl) (by decide), fun p np => q _ _ (s1.trans (same_upd np)) fun S al => .tup (SqT.of upd_same) ((h1 S al).same (same_upd np))⟩
theorem lit_l {es : List Expr} {ds : List PyData} {pos} (h : PA X es (tLits X.K ds)) (hl : ds.length ≤ 1000 := by decide) : PE X (.List es pos) (tLit X.K (.list ds)) :=
  pe_imp (pe_lst h) fun _ H Q q vs H1 s1 h1 => by
    have l := (h1 [] al_nil).length
    refine ⟨Nat.le_trans (by rw [l]; exact hl) (by decide), fun p np => q _ _ (s1.trans (same_upd np)) fun S al => .lst upd_same ((al.same s1).out np) ((h1 S al).same (same_upd np))⟩
end
/-! ### calls with keywords that let out by the slots -/
section
variable {X : Cx} {CX : CXT} {k n : Nat} {f : Addr} {fd : FuncData} {ps ks : List Str} {sp : Sp} {E : L2.St → XK} {x : Str} {p pos : Pos} {e : Expr} {es : List Expr} {kws : List Keyword} {t tk : TA} {g : List Value → List Value → List Value} {gV : List V → List V → List V}
def tCallNE (n m : Nat) (sp : Sp) (gV : List V → List V → List V) (E : L2.St → XK) (t tk : TA) : TE := fun σ H Q => t σ H fun vs H1 => tk σ H1 fun zs H2 => vs.length = n ∧ zs.length = m ∧ sp (gV vs zs) H2 Q (E σ)
theorem run_fnNE {pins : List (Addr × Obj)} {σ : L2.St} {H : Hp} {s : Shared} {Q : VK} {us ws : List Value} {vs zs : List V} (F : FnOk X.prog X.w X.K X.mg X.base CX k f fd ps sp) (hr : Room k X.A) (hb : KBn X.K fd ps n ks g gV) (hx : PassesAt CX X σ (E σ))
    (I : Inv X pins σ H s) (r : Vals vs us) (rz : Vals zs ws) (l1 : vs.length = n) (l2 : zs.length = ks.length) (h : sp (gV vs zs) H Q (E σ)) : wpAny (model X.prog X.w) X.A (call (.ref f) us (ks.zip ws)) (EP X pins σ Q) X.xe s := by
  have r2 := hb.rel r rz
  refine wpAny_call (codeAny_mono (F.run X.A X.stack s H ⟨us, ks.zip ws⟩ (g us ws) (gV vs zs) Q (E σ) hr I.env0 (hb.to s us ws I.kIn (r.length.symm.trans l1) (rz.length.symm.trans l2)) r2 h) fun r s' hq => ?_)
  cases r with
  | error e => exact hx pins H s e s' I hq
  | ok fl =>
    cases fl with
    | ret u => exact I.after hq
    | next => exact False.elim hq
    | brk => exact False.elim hq
    | cont => exact False.elim hq
theorem pe_callNE (F : FnOk X.prog X.w X.K X.mg X.base CX k f fd ps sp) (hr : Room k X.A) (hm : X.mg x = some (.ref f)) (hk : PySem.W.keepIn X.K (.ref f) = true) (hb : KBn X.K fd ps n ks g gV) (hx : ∀ σ, PassesAt CX X σ (E σ))
    (ha : PA X (e :: es) t) (hkw : PK X kws tk) (hg : Gl X x := by rfl) (hall : (backToKw pos (keywordEach kws X.env)).all (·.1.isSome) = true := by rfl) (hks : (backToKw pos (keywordEach kws X.env)).filterMap (·.1) = ks := by rfl)
    (hdb : (x == ("__debug__" : Str)) = false := by decide) (he : starEach (e :: es) X.env = (false, eval e X.env) :: starEach es X.env := by rfl)
    (hpl : ((backTo pos (starEach (e :: es) X.env)).any (·.1) || (backToKw pos (keywordEach kws X.env)).any (·.1.isNone)) = false := by rfl) :
    PE X (.Call (.Name x p) (e :: es) kws pos) (tCallNE n ks.length sp gV E t tk) := by
  refine ⟨fun pins s σ H Q I h => ?_⟩
  refine wpAny_Call_Name_kw (ld_glob I hg hm ?_ hdb)
  refine PySem.W.callWith_KW (h₀ := X.base) I.ok.mod.kin hk hall (thn (ha.run pos pins s σ H _ I h) fun us s1 ⟨vs, H1, I1, r, q⟩ => ?_) hpl he
  refine thn (hkw.run pos pins s1 σ H1 _ I1 q) fun ws s2 ⟨zs, H2, I2, rz, l1, l2, q2⟩ => ⟨I2.kIn, ?_⟩
  rw [hks]
  exact run_fnNE F hr hb (hx σ) I2 r rz l1 l2 q2
end
end EL
namespace EL
open PySem PySem.Spec PyProof.Rows L2 He TL
/-! ### x != y by object.__ne__ over an own __eq__ -/
theorem one_entry : entryFor table "object.__ne__" = some Builtin.«object.__ne__» := entryFor_of_tree (by kernel_rfl)
theorem one_plain : plainId "object.__ne__" = true := by decide +kernel
theorem one_kind : builtinKind "object.__ne__" = some .slot := by decide +kernel
theorem one_split : splitId "object.__ne__" = some ("object", "__ne__") := by decide +kernel
theorem one_args (a b : Value) : argsOk "object.__ne__" ⟨[a, b], []⟩ := by unfold argsOk; kernel_rfl
theorem one_bind (self : Value) : bindSpecial (.builtin "object.__ne__") self = pure (.builtin "object.__ne__", [self]) :=
  (Slot.of (T := "object") (name := "__ne__") (owner := "object") (n := "__ne__") (by rw [typeLookup_type, builtinLookup_eq_fast]; kernel_rfl) (by decide +kernel) (by decide +kernel) (by decide +kernel)
    (.inl (by decide +kernel)) (by rw [isSubtype_type]; kernel_rfl)).bind self
section
variable {prog : Program} {w : World} {A : Around} {E : Value → Shared → Prop} {s : Shared} {K : PySem.W.Frag} {C g x : Addr} {ox : Obj} {od : Option Obj} {b tb : Value}
theorem ne_call {Q : Value → Shared → Prop} (hu : A.units + 1 < cLine) (X : K.In s.heap) (I : PySem.W.InstAt s.heap x ox C od) (ho : PySem.W.mroIn K C (.type "object") = some true) (he : PySem.W.findIn K (.ref C) "__eq__" = some (some (.ref g))) (hf : PySem.W.isFn K (.ref g) = true)
    (h : wpAny (model prog w) A.in1 (call (.ref g) [.ref x, b]) (fun v s' => ∃ k : Bool, v = .bool k ∧ Q (.bool (!k)) s') E s) : wpAny (model prog w) A (call (.builtin "object.__ne__") [.ref x, b]) Q E s := by
  have t2 : PySem.W.Looks (model prog w) s.heap (isInstance (.ref x) (.type "object")) true := I.type.andThen (PySem.W.looks_mroIn X ho)
  refine wpAny_call (codeAny_call_builtin one_plain one_entry (PySem.W.check_slot one_kind one_split t2 (one_args _ _) ?_))
  show wpAny (model prog w) A.in1 (do
    cRoomFor "comparison" [.ref x, b]
    match ← callSpecialIfBound? (.ref x) "__eq__" [b] with
    | some .notImplemented | none => ret .notImplemented
    | some r => ret (.bool (!(← truthy r)))) _ _ s
  refine wpAny_bind (wpAny_cRoomFor (show A.units + 1 < cLine from hu) (wpAny_bind (PySem.W.ifBound_K X I he hf (wpAny_mono h (fun v s' hv => ?_) fun _ _ e => e))))
  obtain ⟨k, rfl, q⟩ := hv
  exact wpAny_bind (wpAny_truthy_bool (wpAny_pure q))
theorem ne_own {Q : Value → Shared → Prop} (hu : A.units + 1 < cLine) (X : K.In s.heap) (I : PySem.W.InstAt s.heap x ox C od) (hb : PySem.W.Looks (model prog w) s.heap (typeOf b) tb) (hn : PySem.W.notFirst K C tb = true)
    (hs : PySem.W.findIn K (.ref C) "__ne__" = some (some (.builtin "object.__ne__"))) (ho : PySem.W.mroIn K C (.type "object") = some true) (he : PySem.W.findIn K (.ref C) "__eq__" = some (some (.ref g))) (hf : PySem.W.isFn K (.ref g) = true)
    (h : wpAny (model prog w) A.in1 (call (.ref g) [.ref x, b]) (fun v s' => ∃ k : Bool, v = .bool k ∧ Q (.bool (!k)) s') E s) : wpAny (model prog w) A (richCompare .NotEq (.ref x) b) Q E s := by
  have one : wpAny (model prog w) A (tryCompare (.ref x) (cmpInfo .NotEq).2.1 b) (fun r s' => ∃ v, r = some v ∧ Q v s') E s := by
    unfold tryCompare
    refine wpAny_bind ?_
    simp only [callSpecialIfBound?, bindSpecialIfBound?]
    refine wpAny_holding (wpAny_bind (wpAny_bind (wpAny_bind (I.type.here ((PySem.W.looks_findIn X hs).here ?_)))))
    refine wpAny_bind (wpAny_askSetting (wpAny_ite ?_))
    have fin : ∀ (Q' : Option Value → Shared → Prop), (∀ (k : Bool) s', Q (.bool (!k)) s' → Q' (some (.bool (!k))) s') → wpAny (model prog w) A (call (.builtin "object.__ne__") ([.ref x] ++ [b]) >>= fun v => pure (some v)) Q' E s := fun Q' hQ => wpAny_bind (wpAny_mono (ne_call (Q := fun v s' => ∃ k : Bool, v = .bool (!k) ∧ Q (.bool (!k)) s') hu X I ho he hf (wpAny_mono h (fun v s' ⟨k, e, q⟩ => ⟨k, e, k, rfl, q⟩) fun _ _ e => e)) (fun v s' ⟨k, e, q⟩ => by subst e; exact wpAny_pure (hQ k s' q)) fun _ _ e => e)
    split
    · exact wpAny_bind ((PySem.W.Looks.of_pure (one_bind _)).here (wpAny_pure (by exact fin _ fun k s' q => wpAny_pure ⟨_, rfl, q⟩)))
    · exact wpAny_tryCatch (wpAny_bind ((PySem.W.Looks.of_pure (one_bind _)).here (wpAny_pure (by exact fin _ fun k s' q => wpAny_pure ⟨_, rfl, q⟩))))
  unfold richCompare
  simp only [oneThing_ref]
  refine wpAny_holding (wpAny_bind (wpAny_cRoomFor (by omega) ?_))
  refine wpAny_bind (I.type.here (wpAny_bind (hb.here ?_)))
  split
  · rename_i q
    have e : PySem.W.subIn K tb (.ref C) = some false := by
      rcases Bool.or_eq_true_iff.mp hn with e | e
      · rw [beq_iff_eq.mp e] at q; simp at q
      · exact beq_iff_eq.mp e
    refine wpAny_bind ((PySem.W.looks_subIn X e).here ?_)
    simp only [Bool.false_eq_true, if_false]
    refine wpAny_bind (wpAny_mono one (fun r s' z => ?_) fun _ _ e => e)
    obtain ⟨v, rfl, hq⟩ := z
    exact wpAny_pure hq
  · refine wpAny_bind (wpAny_pure ?_)
    simp only [Bool.false_eq_true, if_false]
    refine wpAny_bind (wpAny_mono one (fun r s' z => ?_) fun _ _ e => e)
    obtain ⟨v, rfl, hq⟩ := z
    exact wpAny_pure hq
end
section
variable {X : Cx} {CX : CXT} {k : Nat} {C g : Addr} {sp : Sp} {E : XK}
def rNeO (K : PySem.W.Frag) (C : Addr) (sp : Sp) (E : XK) : R2 := fun x y H Q => ∃ a dx fs t, x = .ref a ∧ H a = some (.ins C dx fs) ∧ TyX K H y t ∧ PySem.W.notFirst K C t = true ∧ sp [x, y] H (fun z H' => ∃ b : Bool, z = .bl b ∧ Q (.bl (!b)) H') E
theorem op_neO (c : OC X.K C) (hn : PySem.W.findIn X.K (.ref C) "__ne__" = some (some (.builtin "object.__ne__"))) (hs : PySem.W.findIn X.K (.ref C) "__eq__" = some (some (.ref g))) (hf : PySem.W.isFn X.K (.ref g) = true) (F : FnR X.prog X.w X.K X.mg X.base CX k g sp)
    (hr : Room (k + 1) X.A) (hx : Passes CX X E) : OpR X (compareOp .NotEq) (rNeO X.K C sp E) := by
  intro pins s σ H x y v u Q I rx ry h
  obtain ⟨a, dx, fs, t, rfl, ha, ty, hnf, q⟩ := h
  cases (show v = Value.ref a from rx)
  obtain ⟨ox, od, J, _⟩ := ins_at I ha
  obtain ⟨P, Z, p, _⟩ := kit_of I ry ty
  show wpAny _ X.A (richCompare .NotEq (.ref a) u) _ _ s
  refine ne_own (tb := t) (by have := hr.units; omega) I.kIn J (Z.ty _ _ I.kIn p) hnf hn c.ob hs hf ?_
  refine wpAny_mono (wpAny_call (SlX.run_at (us := [.ref a, u]) (ws := [.ref a, y]) F (Room.in1 hr) I.env0.in1 hx I (.cons rfl (.cons ry .nil)) q)) (fun w s' z => ?_) fun _ _ x => x
  obtain ⟨z', H', I', rz, b, eb, qz⟩ := z
  subst eb
  cases (show w = Value.bool b from rz)
  exact ⟨b, rfl, .bl (!b), H', I', rfl, qz⟩
end
end EL
namespace EL
open PySem PySem.Spec PyProof.Rows L2 He TL
/-! ### the head, its fragment by a written list of addresses -/
def obsZG (as : List Addr) (fa : List Fa) (fn : List DefE) (xn : List DefX) (ts : List Tab) (ex : PySem.W.Frag → Bool) (g : Addr → Option Obj) : AlY := obsY fa fn xn ts ex (frG g as)
def hookZ (as : List Addr) (fa : List Fa) (fn : List DefE) (xn : List DefX) (ts : List Tab) (ex : PySem.W.Frag → Bool) : PySem.W.Hook where
  α := AlY
  obs := fun s => obsZG as fa fn xn ts ex s.heap.get?
  val := fun w => valY fn xn ts w
  says := fun w h => ∃ K : PySem.W.Frag, K.In h ∧ SaysY fa fn xn ts ex w K
  of := fun _ _ e => ⟨_, frG_in, e⟩
  keeps := fun _ _ _ ⟨K, hK, c⟩ k => ⟨K, PySem.W.Frag.In.keeps hK k, c⟩
theorem obsZG_eq {as : List Addr} {fa : List Fa} {fn : List DefE} {xn : List DefX} {ts : List Tab} {ex : PySem.W.Frag → Bool} {g : Addr → Option Obj} {s : Shared} (h : ∀ a, g a = s.heap.get? a) : obsZG as fa fn xn ts ex g = (hookZ as fa fn xn ts ex).obs s := by
  have e : g = s.heap.get? := funext h
  rw [e] <;> rfl
end EL
namespace EL
open PySem PySem.Spec PyProof.Rows L2 He TL
open AutoSeq1 (wpAny_loadPart')
open MeetsSeq MeetsSeq2 MeetsSeq3 SeqRoads2
/-! ### x in xs, xs == ys where == is an own def: G is kept -/
def EqG (prog : Program) (w : World) (A : Around) (G : Shared → Prop) (E : Value → Shared → Prop) (y x : Value) (b : Bool) : Prop := ∀ (s : Shared) (Q : Bool → Shared → Prop), G s → (∀ s', G s' → Q b s') → wpAny (model prog w) A (eqBool y x) Q E s
theorem contains_loopG {prog : Program} {w : World} (G : Shared → Prop) (l : Addr) (items : List Value) (x : Value) (e : Nat → Bool) (k : Nat) :
    ∀ i : Nat, items.length - i = k → MeetsIn prog w (Builtin.«list.__contains__.loop» ⟨[.ref l, x, rawInt i], []⟩)
      (fun A R s => G s ∧ (∀ s, G s → ∃ n, s.heap.get? l = some { cls := .type "list", data := .seq items.toArray n }) ∧ (∀ j y, items[j]? = some y → EqG prog w A.in1 G (fun e s' => R (.error e) s') y x (e j)) ∧ ∀ s', G s' → R (.ok (.ret (.bool (((List.range items.length).drop i).any e)))) s') := by
  induction k with
  | zero =>
    intro i hk A R s h
    obtain ⟨g, hl, he, h⟩ := h
    obtain ⟨n, hl⟩ := hl s g
    have h := h s g
    obtain ⟨hp, gg, d, tk, os⟩ := s
    wp_walk using wpAny_loadPart' hl
    have hi : items.toArray[((i : Nat) : Int).toNat]? = none := by simp; omega
    have hd : (List.range items.length).drop i = [] := by simp; omega
    rw [hd] at h
    rw [hi]
    wp_walk
    exact h
  | succ k ih =>
    intro i hk A R s h
    obtain ⟨g, hl, he, h⟩ := h
    obtain ⟨n, hl0⟩ := hl s g
    have g0 := g
    obtain ⟨hp, gg, d, tk, os⟩ := s
    wp_walk using wpAny_loadPart' hl0
    have hlt : i < items.length := by omega
    have hi : items.toArray[((i : Nat) : Int).toNat]? = some items[i] := by simp [hlt]
    have hd : (List.range items.length).drop i = i :: (List.range items.length).drop (i + 1) := by simp [List.drop_eq_getElem_cons, hlt]
    rw [hd] at h
    simp only [List.any_cons] at h
    rw [hi]
    refine wpAny_bind (he i _ (List.getElem?_eq_getElem hlt) _ _ g0 fun s1 g1 => ?_)
    cases hb : e i with
    | true =>
      have h := h s1 g1
      rw [hb] at h
      obtain ⟨hp, gg, d, tk, os⟩ := s1
      wp_walk
      exact h
    | false =>
      simp only [hb, Bool.false_or] at h
      have hc : ((i : Int) + 1) = ((i + 1 : Nat) : Int) := by push_cast; rfl
      obtain ⟨hp, gg, d, tk, os⟩ := s1
      wp_walk
      rw [hc]
      exact ⟨plainId_quiet plain_contains_loop _, codeAny_builtin entry_contains_loop (by
        rw [Around.under_plainId plain_contains_loop _]
        exact ih (i + 1) (by omega) A R _ ⟨g1, hl, he, h⟩)⟩
theorem containsG {prog : Program} {w : World} (G : Shared → Prop) (l : Addr) (items : List Value) (x : Value) (e : Nat → Bool) : MeetsIn prog w (Builtin.«list.__contains__» ⟨[.ref l, x], []⟩)
      (fun A R s => G s ∧ (∀ s, G s → ∃ n, s.heap.get? l = some { cls := .type "list", data := .seq items.toArray n }) ∧ (∀ j y, items[j]? = some y → EqG prog w A.in1 G (fun e s' => R (.error e) s') y x (e j)) ∧ ∀ s', G s' → R (.ok (.ret (.bool ((List.range items.length).any e)))) s') := by
  intro A R s h
  obtain ⟨g, hl, he, h⟩ := h
  obtain ⟨hp, gg, d, tk, os⟩ := s
  wp_walk
  exact ⟨plainId_quiet plain_contains_loop _, codeAny_builtin entry_contains_loop (by
    rw [Around.under_plainId plain_contains_loop _]
    exact contains_loopG G l items x e _ 0 rfl A R _ ⟨g, hl, he, h⟩)⟩
theorem eq_loopG {prog : Program} {w : World} (G : Shared → Prop) (l b : Addr) (items items2 : List Value) (hsz : items.length = items2.length) (e : Nat → Bool) (k : Nat) :
    ∀ i : Nat, items.length - i = k → MeetsIn prog w (Builtin.«list.__eq__.loop» ⟨[.ref l, .ref b, rawInt i, rawInt 2], []⟩)
      (fun A R s => G s ∧ (∀ s, G s → ∃ n, s.heap.get? l = some { cls := .type "list", data := .seq items.toArray n }) ∧ (∀ s, G s → ∃ n, s.heap.get? b = some { cls := .type "list", data := .seq items2.toArray n }) ∧
        (∀ j x y, items[j]? = some x → items2[j]? = some y → EqG prog w A.in1 G (fun e s' => R (.error e) s') x y (e j)) ∧ ∀ s', G s' → R (.ok (.ret (.bool (((List.range items.length).drop i).all e)))) s') := by
  induction k with
  | zero =>
    intro i hk A R s h
    obtain ⟨g, hl, hb, he, h⟩ := h
    obtain ⟨n, hl⟩ := hl s g
    obtain ⟨n2, hb⟩ := hb s g
    have h := h s g
    obtain ⟨hp, gg, d, tk, os⟩ := s
    wp_walk using wpAny_loadPart' hl, wpAny_loadPart' hb
    have hi1 : items.toArray[((i : Nat) : Int).toNat]? = none := by simp; omega
    have hi2 : items2.toArray[((i : Nat) : Int).toNat]? = none := by simp; omega
    have hd : (List.range items.length).drop i = [] := by simp; omega
    rw [hd] at h
    rw [hi1, hi2]
    wp_walk using wpAny_loadPart' hl, wpAny_loadPart' hb
    show R (.ok (.ret (.bool (items.toArray.size == items2.toArray.size)))) _
    simpa [hsz] using h
  | succ k ih =>
    intro i hk A R s h
    obtain ⟨g, hl, hb, he, h⟩ := h
    obtain ⟨n, hl0⟩ := hl s g
    obtain ⟨n2, hb0⟩ := hb s g
    have g0 := g
    obtain ⟨hp, gg, d, tk, os⟩ := s
    wp_walk using wpAny_loadPart' hl0, wpAny_loadPart' hb0
    have hlt : i < items.length := by omega
    have hlt2 : i < items2.length := by omega
    have hi1 : items.toArray[((i : Nat) : Int).toNat]? = some items[i] := by simp [hlt]
    have hi2 : items2.toArray[((i : Nat) : Int).toNat]? = some items2[i] := by simp [hlt2]
    have hd : (List.range items.length).drop i = i :: (List.range items.length).drop (i + 1) := by simp [List.drop_eq_getElem_cons, hlt]
    have hc : ((i : Int) + 1) = ((i + 1 : Nat) : Int) := by push_cast; rfl
    rw [hd] at h
    simp only [List.all_cons] at h
    rw [hi1, hi2]
    refine wpAny_bind (he i _ _ (List.getElem?_eq_getElem hlt) (List.getElem?_eq_getElem hlt2) _ _ g0 fun s1 g1 => ?_)
    cases hb' : e i with
    | true =>
      simp only [hb', Bool.true_and] at h
      obtain ⟨hp, gg, d, tk, os⟩ := s1
      wp_walk
      rw [hc]
      exact ⟨plainId_quiet plain_eq_loop _, codeAny_builtin entry_eq_loop (by
        rw [Around.under_plainId plain_eq_loop _]
        exact ih (i + 1) (by omega) A R _ ⟨g1, hl, hb, he, h⟩)⟩
    | false =>
      have h := h s1 g1
      rw [hb'] at h
      obtain ⟨n3, hl1⟩ := hl s1 g1
      obtain ⟨n4, hb1⟩ := hb s1 g1
      obtain ⟨hp, gg, d, tk, os⟩ := s1
      wp_walk using wpAny_loadPart' hl1, wpAny_loadPart' hb1
      rw [hi1, hi2]
      wp_walk
      simpa using h
theorem eqG {prog : Program} {w : World} (G : Shared → Prop) (l b : Addr) (items items2 : List Value) (e : Nat → Bool) : MeetsIn prog w (Builtin.«list.__eq__» ⟨[.ref l, .ref b], []⟩)
      (fun A R s => G s ∧ (∀ s, G s → ∃ n, s.heap.get? l = some { cls := .type "list", data := .seq items.toArray n }) ∧ (∀ s, G s → ∃ n, s.heap.get? b = some { cls := .type "list", data := .seq items2.toArray n }) ∧
        (∀ j x y, items[j]? = some x → items2[j]? = some y → EqG prog w A.in1 G (fun e s' => R (.error e) s') x y (e j)) ∧ ∀ s', G s' → R (.ok (.ret (.bool (decide (items.length = items2.length) && (List.range items.length).all e)))) s') := by
  intro A R s h
  obtain ⟨g, hl, hb, he, h⟩ := h
  obtain ⟨n, hl0⟩ := hl s g
  obtain ⟨n2, hb0⟩ := hb s g
  have g0 := g
  have f3 := AutoSeq1.sub_list_list
  by_cases hsz : items.length = items2.length
  · simp only [decide_eq_true hsz, Bool.true_and] at h
    obtain ⟨hp, gg, d, tk, os⟩ := s
    have hne : ¬ (items.toArray.size != items2.toArray.size) = true := by simp [hsz]
    wp_walk using wpAny_loadPart' hl0, wpAny_loadPart' hb0
    exact ⟨plainId_quiet plain_eq_loop _, codeAny_builtin entry_eq_loop (by
      rw [Around.under_plainId plain_eq_loop _]
      exact eq_loopG G l b items items2 hsz e _ 0 rfl A R _ ⟨g0, hl, hb, he, h⟩)⟩
  · have h := h s g
    rw [decide_eq_false hsz, Bool.false_and] at h
    obtain ⟨hp, gg, d, tk, os⟩ := s
    have hc0 : (items.toArray.size != items2.toArray.size) = true := by simp [hsz]
    wp_walk using wpAny_loadPart' hl0, wpAny_loadPart' hb0
    exact h
end EL
namespace EL
open PySem PySem.Spec PyProof.Rows L2 He TL
theorem range_any {α : Type} {f : α → Bool} {e : Nat → Bool} : ∀ {l : List α}, (∀ i a, l[i]? = some a → e i = f a) → (List.range l.length).any e = l.any f := by
  intro l
  induction l generalizing e with
  | nil => intro _; rfl
  | cons x r ih =>
    intro h
    rw [List.length_cons, List.range_succ_eq_map, List.any_cons, List.any_map, List.any_cons, h 0 x rfl, ih (e := e ∘ Nat.succ) fun i a ha => h (i + 1) a ha]
theorem range_all {α : Type} {f : α → Bool} {e : Nat → Bool} : ∀ {l : List α}, (∀ i a, l[i]? = some a → e i = f a) → (List.range l.length).all e = l.all f := by
  intro l
  induction l generalizing e with
  | nil => intro _; rfl
  | cons x r ih =>
    intro h
    rw [List.length_cons, List.range_succ_eq_map, List.all_cons, List.all_map, List.all_cons, h 0 x rfl, ih (e := e ∘ Nat.succ) fun i a ha => h (i + 1) a ha]
theorem vals_refs : ∀ {ss : List Addr} {us : List Value}, Vals (ss.map V.ref) us → us = ss.map Value.ref
  | [], _, .nil => rfl
  | a :: r, _, .cons h t => by
    cases (show _ = Value.ref a from h)
    rw [vals_refs t]
    rfl
section
variable {X : Cx} {CX : CXT} {k : Nat} {C g : Addr} {sp : Sp} {E : XK}
def OwnEq1 (K : PySem.W.Frag) (C : Addr) (sp : Sp) (E : XK) (H : Hp) (a b : Addr) (e : Bool) : Prop := (a = b → e = true) ∧ ∃ dx fs t, H a = some (.ins C dx fs) ∧ TyX K H (.ref b) t ∧ PySem.W.notFirst K C t = true ∧ sp [.ref a, .ref b] H (fun z H' => z = .bl e ∧ H = H') E
theorem eqG_own (hs : PySem.W.findIn X.K (.ref C) "__eq__" = some (some (.ref g))) (hf : PySem.W.isFn X.K (.ref g) = true) (F : FnR X.prog X.w X.K X.mg X.base CX k g sp) (hr : Room (k + 1) X.A) (hx : Passes CX X E) {pins : List (Addr × Obj)} {σ : L2.St} {H : Hp} {a b : Addr} {e : Bool}
    (h : OwnEq1 X.K C sp E H a b e) : EqG X.prog X.w X.A.in1 (Inv X pins σ H) X.xe (.ref a) (.ref b) e := by
  intro s Q I q
  obtain ⟨h1, dx, fs, t, ha, ty, hn, hsp⟩ := h
  unfold eqBool
  refine wpAny_holding ?_
  refine wpAny_ite_split (fun hab => ?_) (fun _ => ?_)
  · have := eq_of_beq hab
    injection this with this
    rw [h1 this] at q
    exact wpAny_bind (wpAny_rule (wpAny_pure (q s I)))
  · obtain ⟨ox, od, J, _⟩ := ins_at I ha
    obtain ⟨P, Z, p, _⟩ := kit_of I (show RelV (.ref b) (.ref b) from rfl) ty
    obtain ⟨m, hF⟩ := I.fr
    refine wpAny_bind (PySem.W.cmp_K (op := .Eq) (tb := t) (by show X.A.units + 1 < cLine; have := hr.units; omega) hF I.ok.mod.kin J (Z.ty _ _ I.kIn p) hn hs hf ?_)
    refine wpAny_mono (wpAny_call (SlX.run_at (us := [.ref a, .ref b]) (ws := [.ref a, .ref b]) F (Room.in1 hr) I.env0.in1 hx I (.cons rfl (.cons rfl .nil)) hsp)) (fun w s' z => ?_) fun _ _ x => x
    obtain ⟨z', H', I', rz, ez, eH⟩ := z
    subst ez eH
    cases (show w = Value.bool e from rz)
    exact wpAny_truthy_bool (q s' I')
theorem lst_obj {pins : List (Addr × Obj)} {σ : L2.St} {H : Hp} {p : Addr} {ss : List Addr} (h : H p = some (.lst (ss.map V.ref))) : ∀ s, Inv X pins σ H s → ∃ n, s.heap.get? p = some { cls := .type "list", data := .seq (ss.map Value.ref).toArray n } := fun s I => by
  obtain ⟨_, its, n, r, e⟩ := (show ObjOk X.prog X.w H s.heap p (.lst (ss.map V.ref)) from I.hok p _ h)
  rw [vals_refs r] at e
  exact ⟨n, e⟩
def rInOwn (K : PySem.W.Frag) (C : Addr) (sp : Sp) (E : XK) (neg : Bool) : R2 := fun x y H Q => ∃ (p b : Addr) (ss : List Addr) (e : Addr → Bool), x = .ref b ∧ y = .ref p ∧ H p = some (.lst (ss.map V.ref)) ∧ (∀ a ∈ ss, OwnEq1 K C sp E H a b (e a)) ∧ Q (.bl (if neg then !ss.any e else ss.any e)) H
theorem inOwn_core (hs : PySem.W.findIn X.K (.ref C) "__eq__" = some (some (.ref g))) (hf : PySem.W.isFn X.K (.ref g) = true) (F : FnR X.prog X.w X.K X.mg X.base CX k g sp) (hr : Room (k + 1) X.A) (hx : Passes CX X E) {pins : List (Addr × Obj)} {σ : L2.St} {H : Hp} {s : Shared} {p b : Addr} {ss : List Addr} {e : Addr → Bool} {Q : Value → Shared → Prop}
    (I : Inv X pins σ H s) (hp : H p = some (.lst (ss.map V.ref))) (he : ∀ a ∈ ss, OwnEq1 X.K C sp E H a b (e a)) (q : ∀ s', Inv X pins σ H s' → Q (.bool (ss.any e)) s') : wpAny (model X.prog X.w) X.A (call (.builtin "list.__contains__") [.ref p, .ref b]) Q X.xe s := by
  obtain ⟨n, ho⟩ := lst_obj hp s I
  refine call_meetsIn PySem.F.slot_list_contains ⟨_, ho, rfl⟩ PySem.F.entry_list_contains (PySem.F.args_list_contains_2 _ _) (containsG (Inv X pins σ H) p (ss.map Value.ref) (.ref b) (fun i => match ss[i]? with | some a => e a | none => false)) ⟨I, lst_obj hp, fun j y hy => ?_, fun s' I' => ?_⟩
  · rw [List.getElem?_map] at hy
    cases ha : ss[j]? with
    | none => rw [ha] at hy; cases hy
    | some a =>
      rw [ha] at hy
      cases hy
      exact eqG_own hs hf F hr hx (he a (List.mem_of_getElem? ha))
  · have z := q s' I'
    rw [List.length_map, range_any (l := ss) (f := e) (fun i a ha => by rw [ha])]
    exact z
theorem op_inOwn (hs : PySem.W.findIn X.K (.ref C) "__eq__" = some (some (.ref g))) (hf : PySem.W.isFn X.K (.ref g) = true) (F : FnR X.prog X.w X.K X.mg X.base CX k g sp) (hr : Room (k + 1) X.A) (hx : Passes CX X E) : OpR X (compareOp .In) (rInOwn X.K C sp E false) := by
  intro pins s σ H x y v u Q I rx ry h
  obtain ⟨p, b, ss, e, rfl, rfl, hp, he, q⟩ := h
  cases (show v = Value.ref b from rx)
  cases (show u = Value.ref p from ry)
  obtain ⟨n, ho⟩ := lst_obj hp s I
  show wpAny _ X.A (do return Value.bool (← contains (.ref p) (.ref b))) _ _ s
  refine wpAny_bind (wpAny_contains_slot ⟨_, ho, rfl⟩ PySem.F.slot_list_contains (inOwn_core hs hf F hr hx I hp he fun s' I' => ?_))
  exact wpAny_truthy_bool (wpAny_pure ⟨.bl _, H, I', rfl, q⟩)
theorem op_notInOwn (hs : PySem.W.findIn X.K (.ref C) "__eq__" = some (some (.ref g))) (hf : PySem.W.isFn X.K (.ref g) = true) (F : FnR X.prog X.w X.K X.mg X.base CX k g sp) (hr : Room (k + 1) X.A) (hx : Passes CX X E) : OpR X (compareOp .NotIn) (rInOwn X.K C sp E true) := by
  intro pins s σ H x y v u Q I rx ry h
  obtain ⟨p, b, ss, e, rfl, rfl, hp, he, q⟩ := h
  cases (show v = Value.ref b from rx)
  cases (show u = Value.ref p from ry)
  obtain ⟨n, ho⟩ := lst_obj hp s I
  show wpAny _ X.A (do return Value.bool (!(← contains (.ref p) (.ref b)))) _ _ s
  refine wpAny_bind (wpAny_contains_slot ⟨_, ho, rfl⟩ PySem.F.slot_list_contains (inOwn_core hs hf F hr hx I hp he fun s' I' => ?_))
  exact wpAny_truthy_bool (wpAny_pure ⟨.bl _, H, I', rfl, q⟩)
/-- xs == ys -/
def rEqOwn (K : PySem.W.Frag) (C : Addr) (sp : Sp) (E : XK) : R2 := fun x y H Q => ∃ (p q : Addr) (ss ts : List Addr) (e : Addr → Addr → Bool), x = .ref p ∧ y = .ref q ∧ H p = some (.lst (ss.map V.ref)) ∧ H q = some (.lst (ts.map V.ref)) ∧ (∀ a ∈ ss, ∀ b ∈ ts, OwnEq1 K C sp E H a b (e a b)) ∧
  Q (.bl (decide (ss.length = ts.length) && (ss.zip ts).all fun p => e p.1 p.2)) H
theorem op_eqOwn (hs : PySem.W.findIn X.K (.ref C) "__eq__" = some (some (.ref g))) (hf : PySem.W.isFn X.K (.ref g) = true) (F : FnR X.prog X.w X.K X.mg X.base CX k g sp) (hr : Room (k + 1) X.A) (hx : Passes CX X E) : OpR X (compareOp .Eq) (rEqOwn X.K C sp E) := by
  intro pins s σ H x y v u Q I rx ry h
  obtain ⟨p, q, ss, ts, e, rfl, rfl, hp, hq, he, z⟩ := h
  cases (show v = Value.ref p from rx)
  cases (show u = Value.ref q from ry)
  obtain ⟨n, ho⟩ := lst_obj hp s I
  obtain ⟨n2, ho2⟩ := lst_obj hq s I
  show wpAny _ X.A (richCompare .Eq (.ref p) (.ref q)) _ _ s
  refine wpAny_richCompare_same_room ⟨_, ho, rfl⟩ ⟨_, ho2, rfl⟩ PySem.F.slot_list_eq (call_meetsIn PySem.F.slot_list_eq ⟨_, ho, rfl⟩ PySem.F.entry_list_eq (PySem.F.args_list_eq_2 _ _) (eqG (Inv X pins σ H) p q (ss.map Value.ref) (ts.map Value.ref) (fun i => match (ss.zip ts)[i]? with | some p => e p.1 p.2 | none => true)) ⟨I, lst_obj hp, lst_obj hq, fun j x y hx' hy => ?_, fun s' I' => ?_⟩) hr.units0
  · rw [List.getElem?_map] at hx' hy
    cases ha : ss[j]? with
    | none => rw [ha] at hx'; cases hx'
    | some a =>
      cases hb : ts[j]? with
      | none => rw [hb] at hy; cases hy
      | some b =>
        rw [ha] at hx'
        rw [hb] at hy
        cases hx'
        cases hy
        rw [(List.getElem?_zip_eq_some (z := (a, b))).mpr ⟨ha, hb⟩]
        refine eqG_own hs hf F hr hx (he a (List.mem_of_getElem? ha) b (List.mem_of_getElem? hb))
  · rw [List.length_map, List.length_map]
    have e1 : (decide (ss.length = ts.length) && (List.range ss.length).all fun i => match (ss.zip ts)[i]? with | some p => e p.1 p.2 | none => true) = (decide (ss.length = ts.length) && (ss.zip ts).all fun p => e p.1 p.2) := by
      by_cases hl : ss.length = ts.length
      · have hz : (ss.zip ts).length = ss.length := by rw [List.length_zip, ← hl, Nat.min_self]
        have hr := range_all (l := ss.zip ts) (f := fun p => e p.1 p.2) (e := fun i => match (ss.zip ts)[i]? with | some p => e p.1 p.2 | none => true) (fun i a ha => by rw [ha])
        rw [hz] at hr
        rw [hr]
      · rw [decide_eq_false hl, Bool.false_and, Bool.false_and]
    rw [e1]
    exact ⟨fun z => (by cases z), .bl _, H, I', rfl, z⟩
end
end EL
namespace EL
open PySem PySem.Spec PyProof.Rows L2 He TL
theorem walk_zipT {K : PySem.W.Frag} {a b : Addr} {xs ys : List V} {n : Nat} (hn : n = min xs.length ys.length) : L2.Walk (RZ.ItzT K a b) n (fun H => SqT K H a xs ∧ SqT K H b ys) (YPair (fun i => xs[i]?) (fun i => ys[i]?)) := by
  subst hn
  refine ⟨fun i _ hi q => ?_, fun _ q => ⟨xs, ys, q.1, q.2, by omega⟩, fun i H v H' _ q y => ?_⟩
  · have h1 : i < xs.length := by omega
    have h2 : i < ys.length := by omega
    exact ⟨xs, ys, xs[i], ys[i], q.1, q.2, by simp [h1], by simp [h2]⟩
  · obtain ⟨T, x, z, h1, h2, h3, h4, h5⟩ := y
    exact ⟨T, x, z, h1, h2, h3, h4 xs q.1, h5 ys q.2⟩
end EL
namespace EL
open PySem PySem.Spec PyProof.Rows L2 He TL
/-! ### operators by own defs that raise inside a try: the errors' postcondition hangs on the slots -/
def tOpX (C : Addr) (sp : Sp) (E : L2.St → XK) (ta tb : TE) : TE := fun σ H Q => ta σ H fun x H1 => tb σ H1 fun y H2 => rBinO C sp (E σ) x y H2 Q
def tAugX (i : Nat) (C : Addr) (sp : Sp) (E : L2.St → XK) (te : TE) : TS := fun D σ H => ∃ x, σ[i]? = some (some x) ∧ te σ H fun y H1 => ∃ a dx fs, x = .ref a ∧ H1 a = some (.ins C dx fs) ∧ sp [x, y] H1 (fun z H2 => D.nx (σ.set i (some z)) H2) (E σ)
section
variable {X : Cx} {CX : CXT} {k : Nat} {C g : Addr} {sp : Sp} {E : L2.St → XK} {op : Operator} {a b : Expr} {ta tb : TE} {pos : Pos}
theorem pe_binOX (hc : PySem.W.selfFirst X.K C = true) (hs : PySem.W.findIn X.K (.ref C) (PySem.dunder op.info.2) = some (some (.ref g))) (hf : PySem.W.isFn X.K (.ref g) = true) (F : FnR X.prog X.w X.K X.mg X.base CX k g sp)
    (hr : Room k X.A) (hx : ∀ σ, PassesAt CX X σ (E σ)) (ha : PE X a ta) (hb : PE X b tb) : PE X (.BinOp a op b pos) (tOpX C sp E ta tb) := by
  refine ⟨fun pins s σ H Q I h => ?_⟩
  refine wpAny_BinOp (binT ha hb I h fun v u s2 x y H2 I2 rx ry q => ?_)
  obtain ⟨a', dx, fs, b', dy, gs, rfl, rfl, ha', hb', q⟩ := q
  cases (show v = Value.ref a' from rx)
  cases (show u = Value.ref b' from ry)
  obtain ⟨ox, od, J, _⟩ := ins_at I2 ha'
  obtain ⟨ox', od', J', _⟩ := ins_at I2 hb'
  obtain ⟨m, hF⟩ := I2.fr
  refine PySem.W.binop_K hF I2.ok.mod.kin J J'.type hc hs hf ?_
  refine wpAny_mono (run_fnRS (us := [.ref a', .ref b']) (vs := [.ref a', .ref b']) F hr (hx σ) I2 (.cons rfl (.cons rfl .nil)) q) (fun w s' z => ?_) fun _ _ x => x
  obtain ⟨z', H', I', rz, qz⟩ := z
  exact SlX.cmpback rz ⟨z', H', I', rz, qz⟩
theorem ps_augOX {i : Nat} {x : Str} {e : Expr} {te : TE} {pos' : Pos} (hN : X.N.Nodup) (hi : X.N[i]? = some x) (hx : Loc X.env.scope x) (hc : PySem.W.selfFirst X.K C = true) (hs : PySem.W.findIn X.K (.ref C) (PySem.dunderI op.info.2) = some (some (.ref g))) (hf : PySem.W.isFn X.K (.ref g) = true)
    (F : FnR X.prog X.w X.K X.mg X.base CX k g sp) (hr : Room k X.A) (hp : ∀ σ, PassesAt CX X σ (E σ)) (he : PE X e te) (hl' : X.fn x = true ∨ X.env.scope.names.lookup x = some .local := by first | exact .inl rfl | exact .inr rfl | assumption) :
    PS X (.AugAssign (.Name x pos') op e pos) (tAugX i C sp E te) := by
  refine ⟨fun pins s σ H D I h => ?_⟩
  obtain ⟨v, e1, h⟩ := h
  obtain ⟨m, hn, hl⟩ := I.loc
  have vis : Vis X.env.scope x := by rcases hx with k | k; exact .inl k; exact .inr (.inl k)
  obtain ⟨u, r, l⟩ := hl i x v hi e1 vis
  refine wpAny_AugAssign_Name ?_
  have go : wpAny (model X.prog X.w) X.A (eval e X.env) (fun w s₂ => wpAny (model X.prog X.w) X.A (inplaceOp op u w) (fun r s₃ => wpAny (model X.prog X.w) X.A (storeName X.env x r) (fun _ => SP X pins D .next) X.xe s₃) X.xe s₂) X.xe s := by
    refine thn (he.run pins s σ H _ I h) fun w s1 ⟨y, H1, I1, r1, q1⟩ => ?_
    have step : wpAny (model X.prog X.w) X.A (inplaceOp op u w) (EP X pins σ fun z H2 => D.nx (σ.set i (some z)) H2) X.xe s1 := by
      obtain ⟨a, dx, fs, rfl, ha, q⟩ := q1
      cases (show u = Value.ref a from r)
      obtain ⟨ox, od, J, _⟩ := ins_at I1 ha
      obtain ⟨m, hF⟩ := I1.fr
      refine PySem.W.ksp_inplace hF I1.ok.mod.kin J hc hs hf ?_
      refine wpAny_mono (run_fnRS (us := [.ref a, w]) (vs := [.ref a, y]) F hr (hp σ) I1 (.cons rfl (.cons r1 .nil)) q) (fun w s' z => ?_) fun _ _ x => x
      obtain ⟨z', H', I', rz, qz⟩ := z
      exact SlX.cmpback rz ⟨z', H', I', rz, qz⟩
    refine thn step fun z s2 ⟨zv, H2, I2, r2, q2⟩ => ?_
    exact store_ok I2 hN hi hx r2 (fun s3 I3 => ⟨_, H2, I3, q2⟩) hl'
  rcases l with ⟨hk, hm⟩ | ⟨hk, c, hc, hcell⟩
  · exact wpAny_loadName_local I.ok.kind hk hn hm go
  · rcases hk with hk | hk
    · exact wpAny_loadName_cell I.ok.kind hk hc hcell go
    · rcases hx with k | k
      · have : X.env.scope.names.lookup x = some .free := hk
        rw [k] at this; cases this
      · have : X.env.scope.names.lookup x = some .free := hk
        rw [k] at this; cases this
end
end EL
namespace EL
open PySem PySem.Spec PyProof.Rows L2 He TL
open AutoSeq1 (wpAny_loadPart')
open MeetsSeq MeetsSeq2 MeetsSeq3 SeqRoads2
/-! ### dicts with the same keys whose values are data -/
structure DDat (K : PySem.W.Frag) (H : Hp) (ks ls : List (Key × V)) (ds es : List PyData) : Prop where
  keys : ks.map Prod.fst = ls.map Prod.fst
  nd : (ls.map Prod.fst).Nodup
  dk : DpAll K H (ks.map Prod.snd) ds
  dl : DpAll K H (ls.map Prod.snd) es
  sk : ∀ d ∈ ds, SeqAt.shaped d = true
  sl : ∀ e ∈ es, SeqAt.shaped e = true
theorem hits_D {X : Cx} {A : Around} {pins : List (Addr × Obj)} {σ : L2.St} {H : Hp} {s : Shared} (I : Inv X pins σ H s) (hu : A.in1.units + 64 < cLine) {ls : List (Key × V)} {vb : List (Key × Value)} (rb : KV ls vb) :
    ∀ {ks ls' : List (Key × V)} {va : List (Key × Value)} {ds es : List PyData}, KV ks va → ks.map Prod.fst = ls'.map Prod.fst → (∀ p ∈ ls', valV ls p.1 = some p.2) → DpAll X.K H (ks.map Prod.snd) ds → DpAll X.K H (ls'.map Prod.snd) es → (∀ d ∈ ds, SeqAt.shaped d = true) → (∀ e ∈ es, SeqAt.shaped e = true) →
      PySem.W.KeqHits A.in1 s vb va (PyData.eqv (.list ds) (.list es))
  | [], [], _, _, _, r, _, _, hd, he, _, _ => by
    cases r
    cases hd
    cases he
    exact .nil
  | [], _ :: _, _, _, _, _, hk, _, _, _, _, _ => by cases hk
  | _ :: _, [], _, _, _, _, hk, _, _, _, _, _ => by cases hk
  | (k, v) :: ks, (k2, v2) :: ls', _, _, _, r, hk, hv, hd, he, sd, se => by
    cases r with
    | @cons _ q _ qs h t =>
      obtain ⟨k', v'⟩ := q
      obtain ⟨h1, h2⟩ := h
      have h1 : k = k' := h1
      subst h1
      obtain ⟨hk1, hk2⟩ := List.cons_eq_cons.mp (show k :: ks.map Prod.fst = k2 :: ls'.map Prod.fst from hk)
      subst hk1
      cases hd with
      | cons d1 d2 =>
        cases he with
        | cons e1 e2 =>
          have ih := hits_D I hu rb t hk2 (fun p hp => hv p (by simp [hp])) d2 e2 (fun d hd => sd d (by simp [hd])) fun e he => se e (by simp [he])
          have rk := rb.val k
          rw [hv (k, v2) (by simp)] at rk
          cases hb : valueAt vb k with
          | none => rw [hb] at rk; cases rk
          | some y' =>
            rw [hb] at rk
            obtain ⟨as, r1⟩ := Dp.reads I _ v v' d1 h2
            obtain ⟨bs, r2⟩ := Dp.reads I _ v2 y' e1 rk
            exact .hit hb (PySem.W.keq_at r1 r2 (sd _ (List.mem_cons_self ..)) (se _ (List.mem_cons_self ..)) hu) ih
theorem val_nodup : ∀ {ls : List (Key × V)}, (ls.map Prod.fst).Nodup → ∀ p ∈ ls, valV ls p.1 = some p.2
  | [], _, p, hp => by cases hp
  | q :: r, nd, p, hp => by
    obtain ⟨n1, n2⟩ := List.nodup_cons.mp (show (q.1 :: r.map Prod.fst).Nodup from nd)
    rcases List.mem_cons.mp hp with rfl | hp
    · exact valV_pos rfl
    · rw [valV_neg (fun e => n1 (List.mem_map.mpr ⟨p, hp, e.symm⟩)), val_nodup n2 p hp]
def rEqDD (K : PySem.W.Frag) (neg : Bool) : R2 := fun x y H Q => ∃ a b ks ls ds es, x = .ref a ∧ y = .ref b ∧ H a = some (.dK ks) ∧ H b = some (.dK ls) ∧ DDat K H ks ls ds es ∧ Q (.bl (if neg then !PyData.eqv (.list ds) (.list es) else PyData.eqv (.list ds) (.list es))) H
theorem op_neDD {X : Cx} (hu : X.A.units + 65 < cLine) : OpR X (compareOp .NotEq) (rEqDD X.K true) := by
  intro pins s σ H x y v u Q I rx ry h
  obtain ⟨a, b, ks, ls, ds, es, rfl, rfl, ea, eb, D, q⟩ := h
  cases (show v = Value.ref a from rx)
  cases (show u = Value.ref b from ry)
  obtain ⟨_, ya, va, ra, da⟩ := (show ObjOk X.prog X.w H s.heap a (.dK ks) from I.hok a _ ea)
  obtain ⟨_, yb, vb, rb, db⟩ := (show ObjOk X.prog X.w H s.heap b (.dK ls) from I.hok b _ eb)
  refine PySem.W.keq_ne (knd := mixKind X.prog X.w) (r := PyData.eqv (.list ds) (.list es)) ya yb da db (by omega) (fun _ => hits_D I (by show X.A.units + 1 + 64 < cLine; omega) rb ra D.keys (val_nodup D.nd) D.dk D.dl D.sk D.sl) ?_
  have e : (va.length == vb.length) = true := by
    have h1 := congrArg List.length D.keys
    rw [List.length_map, List.length_map, ra.length, rb.length] at h1
    rw [h1]
    exact beq_self_eq_true _
  rw [e, Bool.true_and]
  exact ⟨.bl _, H, I, rfl, q⟩
/-- two states: lists of a dict and a list of data -/
def rEqSt (K : PySem.W.Frag) : R2 := fun x y H Q => ∃ p q a b c d ks ls ds es f g, x = .ref p ∧ y = .ref q ∧ H p = some (.lst [.ref a, .ref c]) ∧ H q = some (.lst [.ref b, .ref d]) ∧ H a = some (.dK ks) ∧ H b = some (.dK ls) ∧ DDat K H ks ls ds es ∧ (a = b → PyData.eqv (.list ds) (.list es) = true) ∧
  Dp K H (.ref c) f ∧ Dp K H (.ref d) g ∧ SeqAt.shaped f = true ∧ SeqAt.shaped g = true ∧ (c = d → PyData.eqv f g = true) ∧ Q (.bl (PyData.eqv (.list ds) (.list es) && PyData.eqv f g)) H
theorem op_eqSt {X : Cx} (hu : X.A.units + 66 < cLine) : OpR X (compareOp .Eq) (rEqSt X.K) := by
  intro pins s σ H x y v u Q I rx ry h
  obtain ⟨p, q, a, b, c, d, ks, ls, ds, es, f, g, rfl, rfl, ep, eq, ea, eb, D, hab, hf, hg, sf, sg, hcd, z⟩ := h
  cases (show v = Value.ref p from rx)
  cases (show u = Value.ref q from ry)
  have ep' : H p = some (.lst ([a, c].map V.ref)) := ep
  have eq' : H q = some (.lst ([b, d].map V.ref)) := eq
  obtain ⟨n, ho⟩ := lst_obj ep' s I
  obtain ⟨n2, ho2⟩ := lst_obj eq' s I
  show wpAny _ X.A (richCompare .Eq (.ref p) (.ref q)) _ _ s
  refine wpAny_richCompare_same_room ⟨_, ho, rfl⟩ ⟨_, ho2, rfl⟩ PySem.F.slot_list_eq (call_meetsIn PySem.F.slot_list_eq ⟨_, ho, rfl⟩ PySem.F.entry_list_eq (PySem.F.args_list_eq_2 _ _) (eqG (Inv X pins σ H) p q ([a, c].map Value.ref) ([b, d].map Value.ref) (fun i => if i = 0 then PyData.eqv (.list ds) (.list es) else PyData.eqv f g)) ⟨I, lst_obj ep', lst_obj eq', fun j x y hx' hy => ?_, fun s' I' => ?_⟩) (by omega)
  · match j, hx', hy with
    | 0, hx', hy =>
      cases hx'
      cases hy
      intro s Q I q
      rw [if_pos rfl] at q
      unfold eqBool
      refine wpAny_holding ?_
      refine wpAny_ite_split (fun e => ?_) (fun _ => ?_)
      · have := eq_of_beq e
        injection this with this
        rw [hab this] at q
        exact wpAny_bind (wpAny_rule (wpAny_pure (q s I)))
      · obtain ⟨_, ya, va, ra, da⟩ := (show ObjOk X.prog X.w H s.heap a (.dK ks) from I.hok a _ ea)
        obtain ⟨_, yb, vb, rb, db⟩ := (show ObjOk X.prog X.w H s.heap b (.dK ls) from I.hok b _ eb)
        refine wpAny_bind (PySem.W.keq_eq (knd := mixKind X.prog X.w) (r := PyData.eqv (.list ds) (.list es)) ya yb da db (by show X.A.units + 1 < cLine; omega) (fun _ => hits_D I (by show X.A.units + 1 + 1 + 64 < cLine; omega) rb ra D.keys (val_nodup D.nd) D.dk D.dl D.sk D.sl) ?_)
        have e : (va.length == vb.length) = true := by
          have h1 := congrArg List.length D.keys
          rw [List.length_map, List.length_map, ra.length, rb.length] at h1
          rw [h1]
          exact beq_self_eq_true _
        rw [e, Bool.true_and]
        exact wpAny_truthy_bool (q s I)
    | 1, hx', hy =>
      cases hx'
      cases hy
      intro s Q I q
      rw [if_neg (by decide)] at q
      obtain ⟨as, r1⟩ := Dp.reads I f _ _ hf (show RelV (.ref c) (.ref c) from rfl)
      obtain ⟨bs, r2⟩ := Dp.reads I g _ _ hg (show RelV (.ref d) (.ref d) from rfl)
      exact PySem.W.keq_at r1 r2 sf sg (by show X.A.units + 1 + 64 < cLine; omega) X.prog X.w _ _ (q s I)
    | j + 2, hx', _ => cases hx'
  · have e1 : (decide (([a, c].map Value.ref).length = ([b, d].map Value.ref).length) && (List.range ([a, c].map Value.ref).length).all fun i => if i = 0 then PyData.eqv (.list ds) (.list es) else PyData.eqv f g) = (PyData.eqv (.list ds) (.list es) && PyData.eqv f g) := by
      show (true && (PyData.eqv (.list ds) (.list es) && (PyData.eqv f g && true))) = _
      rw [Bool.true_and, Bool.and_true]
    rw [e1]
    exact ⟨fun z => (by cases z), .bl _, H, I', rfl, z⟩
end EL
namespace EL
open PySem PySem.Spec PyProof.Rows L2 He TL
/-! ### where an exception is being handled: the ends of iterators, list(d), all(xs), a list comprehension over a dict's keys, own == and != -/
section
variable {prog : Program} {w : World} {A : Around} {E : Value → Shared → Prop} {s : Shared}
theorem hot_ext {it a : Addr} {h0 h1 h2 h3 : Heap} {f : Obj → Obj} {o2 o3 : Obj} (ex : Heap.ExtBut it h0 h1) (e2 : h2 = h1.push o2) (e3 : h3 = h2.push o3) (ea : a = h2.objs.size) : Heap.ExtBut it h0 (h3.update a f) := fun b o hb e => by
  have g1 := ex b o hb e
  have g2 : h2.get? b = some o := by rw [e2]; exact Heap.get?_push_of_some _ g1
  have g3 : h3.get? b = some o := by rw [e3]; exact Heap.get?_push_of_some _ g2
  rw [Heap.get?_update_other _ _ (by rw [ea]; exact Nat.ne_of_gt (Heap.lt_size g2))]
  exact g3
theorem keys_end_hot {it d x1 : Addr} {i n ep : Nat} {od : Obj} {es : Array DictEntry} {Q : Option Value → Shared → Prop} (hot : HotX.HotAt A x1 s.heap) (nx : x1 ≠ it) (hit : s.heap.IsKeyIter it d i n ep) (hod : s.heap.get? d = some od) (hdd : od.data = .dict es ep)
    (hsz : es.size = n) (hge : n ≤ i) (hQ : ∀ h', Heap.ExtBut it s.heap h' → Q none { s with heap := h' }) : wpAny (model prog w) A (pyNext (.ref it)) Q E s := by
  obtain ⟨hh, o1, vs1, g1, d1, c1⟩ := hot
  obtain ⟨oi, hoi, hci, hdi⟩ := id hit
  have big : es.size ≤ i := by omega
  unfold pyNext
  refine wpAny_bind (wpAny_attempt (wpAny_callSpecial?_slot (name := Str.ofString "__next__") hit.typeIs F.slot_dict_keyiterator_next (wpAny_call_entry F.slot_dict_keyiterator_next hit.typeIs F.entry_dict_keyiterator_next ?_ (F.args_dict_keyiterator_next_1 _))))
  refine wpAny_bind (wpAny_pure (wpAny_bind (wpAny_bind ?_)))
  first | refine wpAny_bind (wpAny_typeNameOfWhole_keyiter hit.typeIs (wpAny_pure ?_)) | refine wpAny_bind (wpAny_typeNameOf_keyiter hit.typeIs (wpAny_pure ?_))
  refine wpAny_bind (wpAny_fieldsOf hoi hdi ?_)
  simp only [show Builtin.Dict_items.ownsTuple "dict_keyiterator" = false by decide, Bool.false_eq_true, if_false]
  show wpAny _ _ (if (Value.ref d == Value.none) = true then _ else _) _ _ s
  rw [if_neg (show ¬ ((Value.ref d == Value.none) = true) from Bool.false_ne_true)]
  refine wpAny_bind (wpAny_pure (wpAny_bind (wpAny_dictEntries hod hdd ?_)))
  rw [if_neg (by rw [hsz]; simp)]
  refine wpAny_bind (wpAny_pure (wpAny_bind (wpAny_dictEpoch hod hdd ?_)))
  rw [if_neg (by simp)]
  refine wpAny_pure ?_
  simp only [show ¬ ((i : Int) < 0) by omega, if_false, Int.toNat_natCast, Array.getElem?_eq_none big]
  refine wpAny_bind ?_
  first | refine wpAny_bind (wpAny_typeNameOfWhole_keyiter hit.typeIs (wpAny_pure ?_)) | refine wpAny_bind (wpAny_typeNameOf_keyiter hit.typeIs (wpAny_pure ?_))
  show wpAny _ _ (setField (.ref it) 0 .none >>= _) _ _ s
  refine wpAny_bind (wpAny_setField hoi hdi (by simp) ?_)
  show wpAny _ _ (newExc (.type "StopIteration") [] >>= _) _ _ _
  refine wpAny_bind ?_
  simp only [newExc, newTuple]
  refine wpAny_bind (wpAny_newObj_type ?_ (by size_fits))
  refine wpAny_bind (m := firstArgMember _ _) (wpAny_of_eq (a := Value.none) (by first | rfl | (simp only [firstArgMember]; rfl)) ?_)
  refine wpAny_newObj_type ?_ (by size_fits)
  have q1 : (s.heap.update it (Obj.mapFields fun x => x.setIfInBounds 0 Value.none)).get? x1 = some o1 := (Heap.get?_update_other s.heap _ (Ne.symm nx)).trans g1
  refine HotX.raiseNew_hot ⟨hh, o1, vs1, Heap.get?_push_of_some _ (Heap.get?_push_of_some _ q1), d1, c1⟩ (Nat.ne_of_lt (Heap.lt_size (Heap.get?_push_of_some _ q1))) (Heap.get?_push_size _ rfl) rfl (by first | (simp; done) | (simp; omega) | (simp only [Array.size_append]; simp; omega)) ?_
  refine wpAny_bind (wpAny_isInstance (T := "StopIteration") (b := true) ⟨_, Heap.get?_update_self _ (Heap.get?_push_size _ rfl) rfl, rfl⟩ isSubtype_stop (wpAny_pure (hQ _ ?_)))
  exact hot_ext (Heap.SameBut.update ..).extBut rfl rfl rfl
theorem list_end_hot {it l x1 : Addr} {i : Nat} {items : Array Value} {Q : Option Value → Shared → Prop} (hot : HotX.HotAt A x1 s.heap) (nx : x1 ≠ it) (hit : s.heap.IsListIter it l i) (hl : s.heap.IsList l items) (hx : items[i]? = none)
    (hQ : ∀ h', Heap.ExtBut it s.heap h' → Q none { s with heap := h' }) : wpAny (model prog w) A (pyNext (.ref it)) Q E s := by
  obtain ⟨hh, o1, vs1, g1, d1, c1⟩ := hot
  obtain ⟨oi, hoi, hci, hdi⟩ := id hit
  obtain ⟨ol, hol, _, nl, hdl⟩ := hl
  unfold pyNext
  refine wpAny_bind (wpAny_attempt (wpAny_callSpecial?_slot (name := Str.ofString "__next__") hit.typeIs slot_listiter_next (wpAny_call_entry slot_listiter_next hit.typeIs entry_listiter_next ?_ (args_listiter_next _))))
  show wpAny _ _ (field (.ref it) 0 >>= _) _ _ s
  refine wpAny_bind (wpAny_field hoi hdi (x := .ref l) rfl ?_)
  show wpAny _ _ (if (Value.ref l == Value.none) = true then _ else _) _ _ s
  rw [if_neg (show ¬ ((Value.ref l == Value.none) = true) from Bool.false_ne_true)]
  show wpAny _ _ (field (.ref it) 1 >>= _) _ _ s
  refine wpAny_bind (wpAny_field hoi hdi (x := .int i 0) rfl ?_)
  show wpAny _ _ (seqItems? (.ref l) >>= _) _ _ s
  refine wpAny_bind (wpAny_seqItems hol hdl ?_)
  simp only [Int.toNat_natCast, hx]
  refine wpAny_bind (wpAny_rule (wpAny_bind (wpAny_setField hoi hdi (by simp) ?_)))
  show wpAny _ _ (newExc (.type "StopIteration") [] >>= _) _ _ _
  refine wpAny_bind ?_
  simp only [newExc, newTuple]
  refine wpAny_bind (wpAny_newObj_type ?_ (by size_fits))
  refine wpAny_bind (m := firstArgMember _ _) (wpAny_of_eq (a := Value.none) (by first | rfl | (simp only [firstArgMember]; rfl)) ?_)
  refine wpAny_newObj_type ?_ (by size_fits)
  have q1 : (s.heap.update it (Obj.mapFields fun x => x.setIfInBounds 0 Value.none)).get? x1 = some o1 := (Heap.get?_update_other s.heap _ (Ne.symm nx)).trans g1
  refine HotX.raiseNew_hot ⟨hh, o1, vs1, Heap.get?_push_of_some _ (Heap.get?_push_of_some _ q1), d1, c1⟩ (Nat.ne_of_lt (Heap.lt_size (Heap.get?_push_of_some _ q1))) (Heap.get?_push_size _ rfl) rfl (by first | (simp; done) | (simp; omega) | (simp only [Array.size_append]; simp; omega)) ?_
  refine wpAny_bind (wpAny_isInstance (T := "StopIteration") (b := true) ⟨_, Heap.get?_update_self _ (Heap.get?_push_size _ rfl) rfl, rfl⟩ isSubtype_stop (wpAny_pure (hQ _ ?_)))
  exact hot_ext (Heap.SameBut.update ..).extBut rfl rfl rfl
theorem hot_keep {x1 : Addr} {h h' : Heap} (c : HotX.HotAt A x1 h) (e : ∀ o, h.get? x1 = some o → h'.get? x1 = some o) : HotX.HotAt A x1 h' := by
  obtain ⟨hh, o1, vs1, g1, r⟩ := c
  exact ⟨hh, o1, vs1, e _ g1, r⟩
theorem walk_listH (x1 I ax : Addr) (n1 : x1 ≠ I) (hne : ax ≠ I) (items : Array Value) : Walks prog w A I [I, ax, x1] [I] items.size (fun i v => items[i]? = some v) (fun i h => h.IsListIter I ax i ∧ h.IsList ax items ∧ HotX.HotAt A x1 h) where
  sub := fun b hb => by cases List.mem_singleton.mp hb; simp
  frame := fun _ _ _ st k => ⟨st.1.at fun o e => k I (by simp) o e, st.2.1.at fun o e => k ax (by simp) o e, hot_keep st.2.2 fun o e => k x1 (by simp) o e⟩
  item := fun i s Q E hi st q => by
    refine wpAny_pyNext_list_item st.1 st.2.1 (x := items[i]) (by simp [hi]) fun h' hit' sb => ?_
    exact q _ h' s.toks (by simp [hi]) ⟨hit', st.2.1.extBut sb.extBut hne, hot_keep st.2.2 fun o e => sb.extBut _ o n1 e⟩ fun b o hb e => sb.extBut b o (fun z => hb (by simp [z])) e
  done := fun s Q E st q => list_end_hot st.2.2 n1 st.1 st.2.1 (by simp) fun h' ex => q h' s.toks fun b o hb e => ex b o (fun z => hb (by simp [z])) e
  self := fun _ _ _ _ st q => wpAny_pyIter_listiter st.1 q
theorem walk_keysH {κ : Type} [DecidableEq κ] {knd : KeyKind prog w κ} (x1 I d : Addr) (n1 : x1 ≠ I) (hne : d ≠ I) (kvs : List (κ × Value)) (ep : Nat) :
    Walks prog w A I [I, d, x1] [I] kvs.length (fun i v => ∃ k x, kvs[i]? = some (k, x) ∧ knd.is k v = true) (fun i h => h.IsKeyIter I d i kvs.length ep ∧ h.DictAt knd d kvs ep ∧ HotX.HotAt A x1 h) where
  sub := fun b hb => by cases List.mem_singleton.mp hb; simp
  frame := fun _ _ _ st k => ⟨st.1.at fun o e => k I (by simp) o e, st.2.1.at' fun o e => k d (by simp) o e, hot_keep st.2.2 fun o e => k x1 (by simp) o e⟩
  item := fun i s Q E hi st q => by
    obtain ⟨⟨k, x⟩, hx⟩ : ∃ p, kvs[i]? = some p := ⟨kvs[i], by simp [hi]⟩
    refine wpAny_pyNext_dict_item st.1 st.2.1 hx fun key h' hkey hit' sb => ?_
    exact q key h' s.toks ⟨k, x, hx, hkey⟩ ⟨hit', st.2.1.extBut sb.extBut hne, hot_keep st.2.2 fun o e => sb.extBut _ o n1 e⟩ fun b o hb e => sb.extBut b o (fun z => hb (by simp [z])) e
  done := fun s Q E st q => by
    obtain ⟨o, es, ho, _, hd, _, hp, _⟩ := id st.2.1
    have hsz : es.size = kvs.length := by
      have := hp.length
      simpa using this
    exact keys_end_hot st.2.2 n1 st.1 ho hd hsz (Nat.le_refl _) fun h' ex => q h' s.toks fun b o hb e => ex b o (fun z => hb (by simp [z])) e
  self := fun _ _ _ _ st q => wpAny_pyIter_keyiter st.1 q
section
variable {κ : Type} [DecidableEq κ] {knd : KeyKind prog w κ} {d x1 : Addr} {kvs : List (κ × Value)} {ep : Nat}
/-- list.__init__ of a new list and a dict -/
theorem init_hot {R : Result → Shared → Prop} (lo : (d == sysModules) = false) (hot : HotX.HotAt A x1 s.heap) (hm : s.heap.DictAt knd d kvs ep) {S : Addr} (n1 : S ≠ d) (n2 : S ≠ x1) (hS : s.heap.get? S = some { cls := .type "list", data := .seq #[] }) (hn : kvs.length ≤ sizeLine)
    (hR : ∀ h' tk acc c, (∀ b o, b ≠ S → s.heap.get? b = some o → h'.get? b = some o) → h'.get? S = some { cls := .type "list", dict := none, data := .seq acc c, slots := #[] } → ItemsOf (fun i v => ∃ k x, kvs[i]? = some (k, x) ∧ knd.is k v = true) acc kvs.length → R (.ok (.ret .none)) { s with heap := h', toks := tk }) :
    wpAny (model prog w) A.in1 (Builtin.«list.__init__» ⟨[.ref S, .ref d], []⟩) (fun fin s' => match fin with | .done f => R (.ok f) s' | .again c' => c'.quiet = true ∧ codeAny (model prog w) A c' R s') (fun e s' => R (.error e) s') s := by
  show wpAny _ _ (do let old ← Builtin.List.listItems (.ref S); Builtin.List.listUpdate (.ref S) (fun _ => #[]); letGo old.toList.reverse; Builtin.List.listExtendWith (.ref S) (.ref d) .none) _ _ s
  refine wpAny_bind ?_
  unfold Builtin.List.listItems
  refine wpAny_bind (wpAny_seqItems hS rfl (wpAny_pure ?_))
  show wpAny _ _ (updateSeq S (fun _ => #[]) >>= fun _ => letGo (#[] : Array Value).toList.reverse >>= fun _ => Builtin.List.listExtendWith (.ref S) (.ref d) .none) _ _ s
  refine wpAny_bind (wpAny_updateSeq hS rfl ?_)
  have hS2 := Heap.get?_update_self (Obj.mapSeq (fun _ => (#[] : Array Value))) hS rfl
  have oth : ∀ b o, b ≠ S → s.heap.get? b = some o → (s.heap.update S (Obj.mapSeq (fun _ => (#[] : Array Value)))).get? b = some o := fun b o hb e => (Heap.get?_update_other _ _ (Ne.symm hb)).trans e
  refine wpAny_bind (wpAny_letGo ?_)
  generalize hh2 : s.heap.update S (Obj.mapSeq (fun _ => (#[] : Array Value))) = h2 at hS2 oth
  have hm2 : h2.DictAt knd d kvs ep := hm.at' fun o e => oth _ o (Ne.symm n1) e
  have hot2 : HotX.HotAt A x1 h2 := hot_keep hot fun o e => oth _ o (Ne.symm n2) e
  have lS : S < h2.objs.size := Heap.lt_size hS2
  have ld : d < h2.objs.size := hm2.lt_size
  have lx : x1 < h2.objs.size := by obtain ⟨_, o1, _, g, _⟩ := hot2; exact Heap.lt_size g
  unfold Builtin.List.listExtendWith
  refine wpAny_bind (wpAny_typeOf (T := "dict") (show Shared.TypeIs { s with heap := h2 } (.ref d) "dict" from hm2.dictOf.typeIs) ?_)
  simp only [show Builtin.List.listSameRef (.ref S) (.ref d) = false by simp [Builtin.List.listSameRef, n1], show (Value.type "dict" == Value.type "list") = false by decide, show (Value.type "dict" == Value.type "tuple") = false by decide, Bool.or_false, Bool.false_eq_true, if_false]
  refine wpAny_bind (wpAny_pyIter_dict lo hm2 ?_)
  have W := walk_keysH (prog := prog) (w := w) (A := A.in1) (knd := knd) x1 h2.objs.size d (Nat.ne_of_lt lx) (Nat.ne_of_lt ld) kvs ep
  have hSf : S ∉ [h2.objs.size, d, x1] := by
    simp only [List.mem_cons, List.not_mem_nil, or_false, not_or]
    exact ⟨Nat.ne_of_lt lS, n1, n2⟩
  have st0 : ∀ {h3 : Heap}, (∀ b o, b ≠ S → (h2.push { cls := .type "dict_keyiterator", data := .fields #[.ref d, .int 0 0, .int kvs.length 0, .int ep 0] }).get? b = some o → h3.get? b = some o) →
      h3.IsKeyIter h2.objs.size d 0 kvs.length ep ∧ h3.DictAt knd d kvs ep ∧ HotX.HotAt A.in1 x1 h3 := fun k =>
    ⟨⟨_, k _ _ (Ne.symm (Nat.ne_of_lt lS)) (Heap.get?_push_size _ rfl), rfl, rfl⟩, hm2.at' fun o e => k _ o (Ne.symm n1) (Heap.get?_push_of_some _ e), hot_keep (A := A) hot2 fun o e => k _ o (Ne.symm n2) (Heap.get?_push_of_some _ e)⟩
  have key : ∀ (h3 : Heap) (c : Nat), (∀ b o, b ≠ S → (h2.push { cls := .type "dict_keyiterator", data := .fields #[.ref d, .int 0 0, .int kvs.length 0, .int ep 0] }).get? b = some o → h3.get? b = some o) →
      h3.get? S = some { cls := .type "list", data := .seq #[] c } → codeAny (model prog w) A (.builtin "list.extend.loop" ⟨[.ref S, .ref h2.objs.size, .none], []⟩) R { s with heap := h3 } := fun h3 c k hS3 => by
    refine codeAny_extend_loopS W.toS hn S hSf .none kvs.length 0 _ #[] c rfl (Nat.zero_le _) (st0 k) hS3 (ItemsOf.nil _) fun s' acc c' mv hS' ha => ?_
    rw [Moved.eq_with mv]
    refine hR s'.heap s'.toks acc c' (fun b o hb e => mv.heap b o (fun hmem => ?_) (k b o hb (Heap.get?_push_of_some _ (oth b o hb e)))) hS' ha
    rcases List.mem_cons.mp hmem with z | hmem
    · exact hb z
    · have lb := Heap.lt_size (oth b o hb e)
      rw [List.mem_singleton.mp hmem] at lb
      exact Nat.lt_irrefl _ lb
  have hS3 := Heap.get?_push_of_some { cls := .type "dict_keyiterator", data := .fields #[.ref d, .int 0 0, .int kvs.length 0, .int ep 0] } hS2
  refine wpAny_bind (wpAny_holding (PySem.W.kdl_hint_dict (show Shared.TypeIs _ (.ref d) "dict" from (hm2.at' fun o e => Heap.get?_push_of_some _ e).dictOf.typeIs) ?_))
  refine wpAny_ite_split (fun _ => ?_) (fun _ => wpAny_pure ⟨plainId_quiet PySem.F.plain_extend_loop _, key _ _ (fun _ _ _ e => e) hS3⟩)
  refine wpAny_bind (wpAny_rule (wpAny_bind ?_))
  show wpAny _ _ (updateSeq S (·.push .none) >>= fun _ => updateSeq S (·.pop)) _ _ _
  refine wpAny_bind (wpAny_updateSeq hS3 rfl ?_)
  have hS4 := Heap.get?_update_self (Obj.mapSeq (·.push Value.none)) hS3 rfl
  refine wpAny_updateSeq (hz := by seq_fits) hS4 rfl ?_
  have hS5 := Heap.get?_update_self (Obj.mapSeq (·.pop)) hS4 rfl
  exact wpAny_pure ⟨plainId_quiet PySem.F.plain_extend_loop _, key _ _ (fun b o hb e => (Heap.get?_update_other _ _ (Ne.symm hb)).trans ((Heap.get?_update_other _ _ (Ne.symm hb)).trans e)) hS5⟩
theorem list_hot {Q : Value → Shared → Prop} (lo : (d == sysModules) = false) (hot : HotX.HotAt A x1 s.heap) (hm : s.heap.DictAt knd d kvs ep) (hn : kvs.length ≤ sizeLine)
    (hQ : ∀ h' tk acc c, (∀ b o, s.heap.get? b = some o → h'.get? b = some o) → h'.get? s.heap.objs.size = some { cls := .type "list", dict := none, data := .seq acc c, slots := #[] } → ItemsOf (fun i v => ∃ k x, kvs[i]? = some (k, x) ∧ knd.is k v = true) acc kvs.length → Q (.ref s.heap.objs.size) { s with heap := h', toks := tk }) :
    wpAny (model prog w) A (call (.type "list") [.ref d]) Q E s := by
  refine callType_codes (Q₁ := fun obj s₁ => obj = .ref s.heap.objs.size ∧ s₁ = { s with heap := s.heap.push { cls := .type "list", data := .seq #[] } }) PySem.F.called_list (PySem.F.typeCall_list_1 _) PySem.F.entry_list_init (code_list_new _ ⟨rfl, rfl⟩) fun obj s₁ h₁ => ?_
  obtain ⟨rfl, rfl⟩ := h₁
  have hS : (s.heap.push { cls := .type "list", data := .seq #[] }).get? s.heap.objs.size = some { cls := .type "list", data := .seq #[] } := Heap.get?_push_size _ rfl
  have lx : x1 < s.heap.objs.size := by obtain ⟨_, o1, _, g, _⟩ := hot; exact Heap.lt_size g
  refine ⟨⟨_, hS, rfl⟩, PySem.F.args_list_init_2 _ _, init_hot (A := A.in1) lo (hot_keep (A := A) hot fun o e => Heap.get?_push_of_some _ e) (hm.at' fun o e => Heap.get?_push_of_some _ e) (Nat.ne_of_gt hm.lt_size) (Nat.ne_of_gt lx) hS hn fun h' tk acc c k hS' ha => ?_⟩
  exact ⟨rfl, hQ h' tk acc c (fun b o e => k b o (Nat.ne_of_lt (Heap.lt_size e)) (Heap.get?_push_of_some _ e)) hS' ha⟩
end
end
section
variable {X : Cx}
theorem call_list_dKH (hc : L2H.HotC X) : CallR X (.type "list") rListD := by
  intro pins s σ H xs us Q I r h
  obtain ⟨p, kvs, e, hk, q⟩ := h
  subst e
  obtain ⟨u, eu, rx⟩ := vals1 r
  subst eu
  obtain rfl : u = Value.ref p := rx
  obtain ⟨x1, hot⟩ := hc.at I
  obtain ⟨z, lo, vs, rk, hd⟩ := (show ObjOk X.prog X.w H s.heap p (.dK kvs) from I.hok p _ hk)
  obtain ⟨ep, hat⟩ := hd.dictAt
  have hl : kvs.length = vs.length := Paired.length rk
  refine list_hot (knd := mixKind X.prog X.w) lo hot hat (by rw [← hl]; exact z) fun h' tk acc c hkeep hS hacc => ?_
  have fresh := I.hok.fresh (Nat.le_refl _)
  have vv : Vals (kvs.map fun kv => kV kv.1) acc.toList := by
    have el : acc.toList.length = acc.size := by simp
    refine vals_of_at (by rw [List.length_map, el, hacc.1, hl]) fun j x w h1 h2 => ?_
    obtain ⟨k, y, hky, hi⟩ := hacc.2 j w (by rw [← Array.getElem?_toList]; exact h2)
    have e1 : (kvs.map (·.1))[j]? = some k := by rw [KV.keys rk, List.getElem?_map, hky] <;> rfl
    have e3 : (kvs.map fun kv => kV kv.1) = (kvs.map (·.1)).map kV := by rw [List.map_map] <;> rfl
    rw [e3, List.getElem?_map, e1] at h1
    cases h1
    exact keyIs_rel hi
  exact ⟨.ref s.heap.objs.size, upd H s.heap.objs.size (.lst (kvs.map fun kv => kV kv.1)), I.laid hkeep (Nat.le_refl _) (show ObjOk X.prog X.w _ _ _ (.lst (kvs.map fun kv => kV kv.1)) from ⟨by rw [List.length_map]; exact z, acc.toList, c, vv, by rw [Array.toArray_toList]; exact hS⟩), rfl, q _ fresh⟩
theorem cr_allH (hc : L2H.HotC X) : CallR X (.builtin "all") (rAll X.K) := by
  intro pins s σ H vs us Q I r h
  obtain ⟨a, bs, rfl, hs, q⟩ := h
  obtain ⟨its, rv, hl, _⟩ := I.list hs
  rw [Vals.ref1 r]
  have hb := rv.bls
  obtain ⟨x1, hot⟩ := hc.at I
  have lx : x1 < s.heap.objs.size := by obtain ⟨_, o1, _, g, _⟩ := hot; exact Heap.lt_size g
  refine call_all_walk (iter_any hl.isList fun s₂ e2 st hne => ?_)
  subst e2
  refine ⟨_, _, _, _, _, _, _, rfl, walk_listH (A := X.A.in1) x1 _ a (Nat.ne_of_lt lx) hne its.toArray, ⟨st.1, st.2, hot_keep (A := X.A) hot fun o e => Heap.get?_push_of_some _ e⟩, truth_bools hb, fun h' tk hk => ?_⟩
  refine ⟨.bl _, H, I.kept fun b o eo => hk b o (fun hm => ?_) (Heap.get?_push_of_some _ eo), ?_, q⟩
  · have lb := Heap.lt_size eo
    rw [List.mem_singleton.mp hm] at lb
    exact Nat.lt_irrefl _ lb
  · show Value.bool _ = Value.bool _
    rw [← L2.all_range, hb, List.size_toArray, List.length_map]
end
end EL
namespace EL
open PySem PySem.Spec PyProof.Rows L2 He TL
/-! ### for x in d, within a comprehension -/
section
variable {P : Program} {w : World} {K : PySem.W.Frag} {tg : Expr} {d : Addr} {o : Obj} {es : Array DictEntry} {ep : Nat}
theorem turn_keysH {kvs : List (Key × V)} (it : Addr) (hod : o.data = .dict es ep) : L2H.TurnH P w K tg (Itk d o kvs) [it] it (fun i h => h.IsKeyIter it d i kvs.length ep) where
  mem := by simp
  obj := fun i h st b hb => by
    cases List.mem_singleton.mp hb
    obtain ⟨oi, e, c, dd⟩ := st
    exact ⟨oi, e, fun v z => by rw [dd] at z; cases z⟩
  keep := fun i h h' st k => st.at fun oi e => k it (by simp) oi e
  item := by
    intro X hP hw hK hc i pins s σ H E I hf st hg
    subst hP hw hK
    obtain ⟨hd, hi⟩ := hg
    obtain ⟨f0, f1, f2, f3, f4, f5⟩ := hf it (by simp)
    obtain ⟨hs, hgd, hx, es', ep', vs, hdt, hsz, kv, hm⟩ := I.frzK hd
    obtain ⟨rfl, rfl⟩ := dict_ep hod hdt
    obtain ⟨⟨k, v⟩, hkv⟩ : ∃ p, kvs[i]? = some p := ⟨kvs[i], List.getElem?_eq_getElem hi⟩
    obtain ⟨u, hu, ru⟩ := kv_get kv hkv
    have hl : kvs.length = vs.length := Paired.length kv
    rw [hl] at st
    refine wpAny_pyNext_dict_item st hm hu fun key h' hkey st' sb => ?_
    obtain ⟨oi, e, c, dd⟩ := id st'
    exact ⟨key, rfl, go_of (s := { s with heap := h' }) e c dd (by decide) ⟨kV k, H, I.turned (t' := s.toks) (fun b ob hb e => (sb.2 b hb).trans e) f0 f1 f3 f4 f5, relV_key (show keyIs k key = true from hkey), ⟨rfl, k, v, hkv, rfl⟩, (by show h'.IsKeyIter it d (i + 1) kvs.length _; rw [hl]; exact st'), fun b hb => (hf b hb).1⟩⟩
  done := by
    intro X hP hw hK hc i pins s σ H E I hf st hg
    subst hP hw hK
    obtain ⟨hd, hi⟩ := hg
    obtain ⟨f0, f1, f2, f3, f4, f5⟩ := hf it (by simp)
    obtain ⟨hs, hgd, hx, es', ep', vs, hdt, hsz, kv, hm⟩ := I.frzK hd
    obtain ⟨rfl, rfl⟩ := dict_ep hod hdt
    obtain ⟨x1, hot⟩ := hc.at I
    have n1 : x1 ≠ it := fun z => by
      obtain ⟨_, o1, vs1, g1, d1, c1⟩ := hot
      obtain ⟨oi, e, _, dd⟩ := st
      rw [z, e] at g1
      cases g1
      rw [dd] at d1
      cases d1
      cases c1
    exact keys_end_hot hot n1 st hgd hdt hsz hi fun h' eb => ⟨rfl, I.turned (t' := s.toks) (fun b ob hb e => eb b ob hb e) f0 f1 f3 f4 f5⟩
  self := fun A i s Q E st h => wpAny_pyIter_keyiter st h
end
section
variable {X : Cx}
def iKeysH (td : TE) : TI := fun σ H R => td σ H fun x H1 => ∃ d o, x = .ref d ∧ ((∃ kvs, H1 d = some (.frz o (.dK kvs)) ∧ R (Itk d o kvs) H1) ∨ False)
theorem pi_keysH {tg e : Expr} {td : TE} (he : PE X e td) : L2H.PIH X tg e (iKeysH td) := by
  refine ⟨fun pins s σ H R I h => ?_⟩
  refine thn (he.run pins s σ H _ I h) fun u s1 ⟨x, H1, I1, rx, d, o, ex, hd⟩ => ?_
  subst ex
  obtain ⟨kvs, hd, q⟩ : ∃ kvs, H1 d = some (.frz o (.dK kvs)) ∧ R (Itk d o kvs) H1 := hd.elim id False.elim
  obtain rfl : u = Value.ref d := rx
  obtain ⟨hs, hgd, hx, es, ep, vs, hdt, hsz, kv, hm⟩ := I1.frzK hd
  refine iter_keys hs hgd hx hdt ?_
  refine ⟨s1.heap.objs.size, [s1.heap.objs.size], _, _, H1, rfl, I1.kept (t' := s1.toks) fun b ob e => Heap.get?_push_of_some _ e, turn_keysH _ hdt, ⟨_, Heap.get?_push_size _ rfl, rfl, by rw [hsz]; rfl⟩, fun b hb => ?_, q⟩
  cases List.mem_singleton.mp hb
  exact I1.fpOk (Nat.le_refl _) (I1.hok.fresh (Nat.le_refl _))
/-- a comprehension's block where an exception is being handled -/
abbrev blkH (X : Cx) (s : Shared) (H : Hp) (scope : Scope) (cenv : Env) (fp : List Addr) (p : Addr × Obj) : Cx := { X.blk s H scope cenv fp with pn := [p] }
theorem _root_.L2.Inv.toBlkH {s0 : Shared} {H0 : Hp} {scope : Scope} {ce : Env} {fp : List Addr} {p : Addr × Obj} {σ : L2.St} {H : Hp} {s : Shared} (I : Inv (X.blk s0 H0 scope ce fp) [] σ H s) (hp : s.heap.get? p.1 = some p.2 ∧ H p.1 = none ∧ p.1 ≠ ce.locals ∧ p.1 ∉ frs X.stack ∧ ∀ v, p.2.data ≠ .cell v) : Inv (EL.blkH X s0 H0 scope ce fp p) [] σ H s :=
  ⟨⟨I.ok.mod, I.ok.kind, I.ok.glob, I.ok.blt, I.ok.above, I.ok.inj, I.ok.has, I.ok.cab, I.ok.hd, I.ok.frames, I.ok.stk, I.ok.exf, I.ok.bs, I.ok.bsz, I.ok.noex, I.ok.exfs, I.ok.funs, I.ok.frf⟩, I.os, I.bare, I.base, I.loc, I.cell, I.free, I.freeC, fun q hq => by
    cases List.mem_singleton.mp (show q ∈ [p] from by simpa using hq)
    exact hp, I.hok, I.len⟩
theorem lcH_core {pins : List (Addr × Obj)} {s : Shared} {σ : L2.St} {H : Hp} {Q : VK} {elt tg iter : Expr} {ifs : List Expr} {scope : Scope} {own : List (Str × Nat)} {pos pos' : Pos} {wi : TI} {g : TG} {tt : TT} {te : TE} {use : Option (Value → Sem Unit)} {Qf : Value → Shared → Prop}
    (hc : L2H.HotC X) (hN : X.N.Nodup) (I : Inv X pins σ H s) (hi : L2H.PIH X tg iter wi) (ok : BlkOk X.N X.env.scope scope own)
    (hg : ∀ (s : Shared) (H : Hp) (C : Addr) (cl : List (Str × Addr)) (fp : List Addr) (p : Addr × Obj), L2H.Hot1 X.A p → PG (EL.blkH X s H scope (compEnvC scope cl C X.env) fp p) tg g) (ht : ∀ (s : Shared) (H : Hp) (C : Addr) (cl : List (Str × Addr)) (fp : List Addr) (p : Addr × Obj), L2H.Hot1 X.A p → PTs (EL.blkH X s H scope (compEnvC scope cl C X.env) fp p) ifs tt)
    (he : ∀ (s : Shared) (H : Hp) (C : Addr) (cl : List (Str × Addr)) (fp : List Addr) (p : Addr × Obj), L2H.Hot1 X.A p → PE (EL.blkH X s H scope (compEnvC scope cl C X.env) fp p) elt te) (hs : ∀ x, foldedSetIterable iter X.env x = pure x)
    (h : tLc wi g tt te (own.map (·.2)) σ H Q)
    (hRR : ∀ D C s' m H', Inv X pins σ H' s' → Q (.ref D) H' → s'.heap.Ns C m → FpOk X pins H' C → compPost (model X.prog X.w) X.A X.xe use Qf (.ref D) C (.ok .next) s') :
    wpAny (model X.prog X.w) X.A (comprehension (.ListComp elt [⟨tg, iter, ifs, 0⟩] scope pos) scope X.env pos' (newList []) false (eval iter X.env) use) Qf X.xe s := by
  obtain ⟨p, hot, hpn⟩ := hc
  have cl : ∀ y ∈ scope.names, y.2 = .free → ∃ c, X.env.cells.lookup y.1 = some c := fun y hy e => (ok.free y hy e).elim (fun k => I.ok.has _ (.inl k)) (fun k => I.ok.has _ (.inr k))
  refine wpAny_comprehension_free (use := use) rfl hs (closure_ok cl) ok.kind (fun y hy e => by rw [ok.uniq y hy, e]) (thn (hi.run pins s σ H _ I h) fun xv s1 hx => thn hx fun itv s2 h2 => ?_)
  obtain ⟨it, fp, tn, J, H2, e, I2, T, st2, f2, q⟩ := h2
  subst e
  refine wpAny_newObj_type (newEnv_comp ?_)
  generalize hD : s2.heap.objs.size = D
  obtain ⟨V, ⟨m0, w0⟩, turn⟩ := q D (I2.hok.fresh (Nat.le_of_eq hD))
  obtain ⟨s3, hs3⟩ : ∃ s3 : Shared, ({ s2 with heap := s2.heap.push { cls := .type "list", data := .seq ([] : List Value).toArray } } : Shared) = s3 := ⟨_, rfl⟩
  have hh3 : s3.heap = s2.heap.push { cls := .type "list", data := .seq ([] : List Value).toArray } := by rw [← hs3]
  obtain ⟨H3, hH3⟩ : ∃ H3, upd H2 D (.lst []) = H3 := ⟨_, rfl⟩
  have I3 : Inv X pins σ H3 s3 := by
    rw [← hs3, ← hH3]
    refine I2.laid (t' := s2.toks) (fun b o e => Heap.get?_push_of_some _ e) (Nat.le_of_eq hD) ?_
    rw [← hD]
    exact ⟨Nat.zero_le _, [], 0, .nil, Heap.get?_push_size _ rfl⟩
  rw [hH3] at w0
  have lt2 : ∀ b ∈ fp, b < s2.heap.objs.size := fun b hb => let ⟨o, e, _⟩ := T.obj _ _ st2 b hb; Heap.lt_size e
  have f3 : ∀ b ∈ fp, FpOk X pins H3 b ∧ b < s3.heap.objs.size := fun b hb => by
    refine ⟨⟨?_, (f2 b hb).2⟩, by rw [hh3, Heap.size_push]; exact Nat.lt_succ_of_lt (lt2 b hb)⟩
    rw [← hH3, upd_ne (by rw [← hD]; exact Nat.ne_of_lt (lt2 b hb))]
    exact (f2 b hb).1
  have I4' := block_start I3 ok hN f3
  have P3 := I3.pin p (List.mem_append_left _ hpn)
  rw [hs3]
  show codeAny _ _ (.compStart (.ListComp elt [⟨tg, iter, ifs, 0⟩] scope pos) 0 (.ref it) (.ref D) (compEnvC scope (cellsFrom (s3.heap.objs.size + 1) scope.names (cloFrom X.env.cells scope.names [])) s3.heap.objs.size X.env)) (compPost (model X.prog X.w) X.A X.xe use Qf (.ref D) s3.heap.objs.size) { s3 with heap := pushCells (s3.heap.push { cls := .type "dict", data := .dict #[] }) scope.names }
  have pg := hg s3 H3 s3.heap.objs.size (cellsFrom (s3.heap.objs.size + 1) scope.names (cloFrom X.env.cells scope.names [])) fp p hot
  have pt := ht s3 H3 s3.heap.objs.size (cellsFrom (s3.heap.objs.size + 1) scope.names (cloFrom X.env.cells scope.names [])) fp p hot
  have pe := he s3 H3 s3.heap.objs.size (cellsFrom (s3.heap.objs.size + 1) scope.names (cloFrom X.env.cells scope.names [])) fp p hot
  generalize hce : compEnvC scope (cellsFrom (s3.heap.objs.size + 1) scope.names (cloFrom X.env.cells scope.names [])) s3.heap.objs.size X.env = ce at I4' pg pt pe ⊢
  have cL : ce.locals = s3.heap.objs.size := by rw [← hce]; rfl
  have keep4 : ∀ b o, s3.heap.get? b = some o → (pushCells (s3.heap.push { cls := .type "dict", data := .dict #[] }) scope.names).get? b = some o := fun b o e => pushCells_keeps _ _ _ _ (Heap.get?_push_of_some _ e)
  have st4 : tn 0 (pushCells (s3.heap.push { cls := .type "dict", data := .dict #[] }) scope.names) := T.keep _ _ _ st2 fun b _ o e => keep4 _ _ (by rw [hh3]; exact Heap.get?_push_of_some _ e)
  have I4 : Inv (EL.blkH X s3 H3 scope ce fp p) [] (wipe σ (own.map (·.2))) H3 { s3 with heap := pushCells (s3.heap.push { cls := .type "dict", data := .dict #[] }) scope.names } := by
    refine I4'.toBlkH ⟨keep4 _ _ P3.1, P3.2.1, by rw [cL]; exact Nat.ne_of_lt (Heap.lt_size P3.1), fun hm => (List.mem_cons.mp (I3.stkSub p.1 hm)).elim P3.2.2.1 P3.2.2.2.1, P3.2.2.2.2⟩
  generalize hs4 : ({ s3 with heap := pushCells (s3.heap.push { cls := .type "dict", data := .dict #[] }) scope.names } : Shared) = s4 at I4 ⊢
  have st4' : tn 0 s4.heap := by rw [← hs4]; exact st4
  have hcB : L2H.HotC (EL.blkH X s3 H3 scope ce fp p) := ⟨p, hot, by simp⟩
  have stat : ∀ {σ' : L2.St} {H' : Hp} {s' : Shared}, Inv (EL.blkH X s3 H3 scope ce fp p) [] σ' H' s' → (∀ b ∈ fp, H' b = none) → ∀ b ∈ fp, FpOk (EL.blkH X s3 H3 scope ce fp p) [] H' b := fun I' hn b hb =>
    ⟨hn b hb, (I'.ok.exf b hb).1, I'.ok.exfs b hb, .inl hb, fun x c e => (I'.ok.exf b hb).2 x c e, fun q hq => by
      cases List.mem_singleton.mp (show q ∈ [p] from by simpa using hq)
      exact (f3 b hb).1.2.2.2.2.2 p (List.mem_append_left _ hpn)⟩
  have loop : codeAny (model X.prog X.w) X.A (.compLoop (.ListComp elt [⟨tg, iter, ifs, 0⟩] scope pos) 0 (.ref it) (.ref D) ce) (compPost (model X.prog X.w) X.A X.xe use Qf (.ref D) s3.heap.objs.size) s4 := by
    refine compLoop_any (fun n s' => ∃ i H', Inv (EL.blkH X s3 H3 scope ce fp p) [] (wipe σ (own.map (·.2))) H' s' ∧ tn i s'.heap ∧ (∀ b ∈ fp, H' b = none) ∧ V i n H') ?_ m0 ⟨0, H3, I4, st4', fun b hb => (f3 b hb).1.1, w0⟩
    rintro n s5 ⟨i, H5, I5, st5, n5, w5⟩
    rcases turn i n H5 w5 with ⟨stop, qq⟩ | ⟨go, Nx, hNx, step⟩
    · refine thnF (T.done (EL.blkH X s3 H3 scope ce fp p) rfl rfl rfl hcB i [] s5 _ H5 (fun _ _ => False) I5 (stat I5 n5) st5 stop) fun r s6 ⟨hr, I6⟩ => ?_
      subst hr
      have I7 : Inv X pins σ H5 s6 := I3.call' (ch := fp) I6.os I6.base I6.hok I6.bare fun b hb => ⟨(f3 b hb).1.2.2.2.1, (f3 b hb).1.2.1, (f3 b hb).1.2.2.2.2.1, (f3 b hb).1.2.2.2.2.2⟩
      have nC : H5 s3.heap.objs.size = none := by rw [← cL]; exact I6.free
      obtain ⟨m, hn, _⟩ := I6.loc
      have hn : s6.heap.Ns ce.locals m := hn
      rw [cL] at hn
      exact hRR D s3.heap.objs.size s6 m H5 I7 qq hn (I3.fpOk (Nat.le_refl _) nC)
    · refine thnF (T.item (EL.blkH X s3 H3 scope ce fp p) rfl rfl rfl hcB i [] s5 _ H5 (fun _ _ => False) I5 (stat I5 n5) st5 go) fun r s6 ⟨u, hr, h6⟩ => ?_
      subst hr
      refine thnF h6 fun _ s7 ⟨x, H7, I7, r7, y7, st7, n7⟩ => ?_
      refine thnF (pg.run _ s7 _ H7 x u _ (I7.pinned (stat I7 n7) (T.obj _ _ st7)) r7 (step x H7 y7)) fun _ s8 ⟨σ8, H8, I8, hw8, q8⟩ => ?_
      refine thnF (pt.run _ s8 σ8 H8 _ I8 q8) fun b s9 ⟨H9, I9, q9⟩ => ?_
      have fin : ∀ {s' : Shared} {H' : Hp}, Inv (EL.blkH X s3 H3 scope ce fp p) ([] ++ pinsAt fp s7.heap) σ8 H' s' → Nx H' → ∃ m, m < n ∧ ∃ i H', Inv (EL.blkH X s3 H3 scope ce fp p) [] (wipe σ (own.map (·.2))) H' s' ∧ tn i s'.heap ∧ (∀ b ∈ fp, H' b = none) ∧ V i m H' := fun {s' H'} I' nx => by
        obtain ⟨m', hm, w'⟩ := hNx H' nx
        have pin' : ∀ b ∈ fp, ∀ o, s7.heap.get? b = some o → s'.heap.get? b = some o ∧ H' b = none := fun b hb o e =>
          let z := I'.pin (b, o) (List.mem_append_right _ (List.mem_append_right _ (mem_pinsAt hb e)))
          ⟨z.1, z.2.1⟩
        refine ⟨m', hm, i + 1, H', (I'.unpinned (pins := [])).weak (by rw [← hw8, wipe_length]) (fun j v e => (wipe_some (by rw [hw8]; exact e)).1), T.keep _ _ _ st7 fun b hb o e => (pin' b hb o e).1, fun b hb => ?_, w'⟩
        obtain ⟨o, e, _⟩ := T.obj _ _ st7 b hb
        exact (pin' b hb o e).2
      cases b with
      | false => exact fin I9 q9
      | true =>
        refine thnF (pe.run _ s9 σ8 H9 _ I9 q9) fun z s10 ⟨yv, H10, I10, r10, acc, hD10, hz10, nx⟩ => ?_
        exact app_ok (X := EL.blkH X s3 H3 scope ce fp p) I10 hD10 hz10 r10 fun s11 I11 => fin I11 nx
  exact codeAny_compStart_list loop (T.self X.A 0 _ _ _ st4' loop)
theorem pe_lcH {elt tg iter : Expr} {ifs : List Expr} {scope : Scope} {own : List (Str × Nat)} {pos : Pos} {wi : TI} {g : TG} {tt : TT} {te : TE} (hc : L2H.HotC X) (hN : X.N.Nodup) (hi : L2H.PIH X tg iter wi) (ok : BlkOk X.N X.env.scope scope own)
    (hg : ∀ (s : Shared) (H : Hp) (C : Addr) (cl : List (Str × Addr)) (fp : List Addr) (p : Addr × Obj), L2H.Hot1 X.A p → PG (EL.blkH X s H scope (compEnvC scope cl C X.env) fp p) tg g) (ht : ∀ (s : Shared) (H : Hp) (C : Addr) (cl : List (Str × Addr)) (fp : List Addr) (p : Addr × Obj), L2H.Hot1 X.A p → PTs (EL.blkH X s H scope (compEnvC scope cl C X.env) fp p) ifs tt)
    (he : ∀ (s : Shared) (H : Hp) (C : Addr) (cl : List (Str × Addr)) (fp : List Addr) (p : Addr × Obj), L2H.Hot1 X.A p → PE (EL.blkH X s H scope (compEnvC scope cl C X.env) fp p) elt te) (hs : ∀ x, foldedSetIterable iter X.env x = pure x := by intro _; rfl) :
    PE X (.ListComp elt [⟨tg, iter, ifs, 0⟩] scope pos) (tLc wi g tt te (own.map (·.2))) := by
  refine ⟨fun pins s σ H Q I h => ?_⟩
  rw [arm_eval_ListComp]
  refine lcH_core hc hN I hi ok hg ht he hs h fun D C s' m H' I' q hn f => ⟨m, hn, fun h2 sb => ?_⟩
  obtain ⟨f0, f1, f2, f3, f4, f5⟩ := f
  exact ⟨.ref D, H', I'.turned (t' := s'.toks) (fun b o hb e => (sb.2 b hb).trans e) f0 f1 f3 f4 f5, rfl, q⟩
end
end EL
namespace EL
open PySem PySem.Spec PyProof.Rows L2 He TL
/-! ### defs where an exception is being handled -/
def FnHx (P : Program) (w : World) (K : PySem.W.Frag) (mg : Str → Option Value) (base : Heap) (CX : CXT) (k : Nat) (f : Addr) (sp : Sp) : Prop := ∃ fd ps, L2H.FnH P w K mg base CX k f fd ps sp ∧ Binds K fd ps []
section
variable {P : Program} {w : World} {K : PySem.W.Frag} {mg : Str → Option Value} {base : Heap} {CX : CXT} {k : Nat} {x qual : Str} {sp : Sp} {params : Arguments} {body : List Stmt} {scope : Scope} {f : Addr} {fd : FuncData} {ps N : List Str}
theorem fnHx (F : FunD K x qual params body scope [] [] f fd)
    (hb : ∀ (kV doc pm : Value) (an : Option Addr) (cdv ct : Value) (us : List Value), us.length = ps.length → bindArgs (PySem.W.fnOf x qual params body scope .none kV doc pm an cdv ct) ⟨us, []⟩ = pure (ps.zip us))
    (S : FnScope N ps scope) (len : ∀ vs H Q E, sp vs H Q E → vs.length = ps.length)
    (hbody : ∀ (cdv : Value) (A : Around) (outer : List Env) (s : Shared) (H : Hp) (vs : List V) (Q : VK) (E : XK) (p : Addr × Obj), L2H.Hot1 A p → L2H.RoomH k (A.deeper (envOfC qual scope s.heap.objs.size f cdv)) → sp vs H Q E →
      ∃ t, PSs (L2H.cxH CX P w K mg base N qual scope f cdv A outer s H E p) body t ∧ t { nx := fun _ H' => Q .non H', rt := Q } (start N vs) H) : FnHx P w K mg base CX (k + 1) f sp := by
  have b := F.bindsN hb
  obtain ⟨oc, od, dV, kV, doc, pm, an, cdv, ct, osl, rfl, lk, hcd, hD, hK⟩ := F.ex
  exact ⟨_, ps, L2H.fn_ofH lk hcd S len fun A outer s H vs Q E p hot hr h => hbody cdv A outer s H vs Q E p hot hr h, b⟩
theorem FnHx.mono {j : Nat} (F : FnHx P w K mg base CX j f sp) (h : j ≤ k) : FnHx P w K mg base CX k f sp := by
  obtain ⟨fd, ps, F, b⟩ := F
  exact ⟨fd, ps, ⟨F.len, fun A outer s H args us vs Q E p hr => F.run A outer s H args us vs Q E p (hr.mono h)⟩, b⟩
end
section
variable {X : Cx} {CX : CXT} {k : Nat} {C g : Addr} {sp : Sp}
theorem uH64 {A : Around} (r : L2H.RoomH k A) : A.units + 64 < cLine := by have := r.un; omega
theorem uH65 {A : Around} (r : L2H.RoomH k A) : A.units + 65 < cLine := by have := r.un; omega
theorem uH0 {A : Around} (r : L2H.RoomH k A) : A.units < cLine := by have := r.un; omega
theorem uH1 {A : Around} (r : L2H.RoomH k A) : A.units + 1 < cLine := by have := r.un; omega
theorem uH {A : Around} (r : L2H.RoomH k A) : A.units + 66 < cLine := by have := r.un; omega
theorem runH_at {A : Around} {E : XK} {pins : List (Addr × Obj)} {σ : L2.St} {H : Hp} {s : Shared} {Q : VK} {us : List Value} {vs : List V} (F : FnHx X.prog X.w X.K X.mg X.base CX k g sp) (hr : L2H.RoomH k A) (hA : A.handled = X.A.handled) (e0 : Env0 X.prog X.w X.K X.mg X.base A X.stack s H) (hc : L2H.HotC X) (hx : PassesAt CX X σ E)
    (I : Inv X pins σ H s) (r : Vals vs us) (h : sp vs H Q E) : codeAny (model X.prog X.w) A (.call (.ref g) ⟨us, []⟩) (fun r s' => match r with | .ok (.ret v) => EP X pins σ Q v s' | .ok _ => False | .error e => X.xe e s') s := by
  obtain ⟨fd, ps, F, hb⟩ := F
  obtain ⟨p, ⟨h1, h2⟩, hp⟩ := hc
  have b := hb s us I.kIn (by rw [List.append_nil, ← r.length]; exact F.len _ _ _ _ h)
  rw [List.append_nil] at b
  have P1 := I.pin p (List.mem_append_left _ hp)
  have hpin : L2H.PinOk X.stack H s p := ⟨P1.1, P1.2.1, fun hm => (List.mem_cons.mp (I.stkSub p.1 hm)).elim P1.2.2.1 P1.2.2.2.1, P1.2.2.2.2⟩
  refine codeAny_mono (F.run A X.stack s H ⟨us, []⟩ us vs Q E p hr ⟨hA.trans h1, h2⟩ hpin e0 b r h) fun r s' hq => ?_
  cases r with
  | error e => exact hx pins H s e s' I hq
  | ok fl =>
    cases fl with
    | ret u => exact I.after hq
    | next => exact False.elim hq
    | brk => exact False.elim hq
    | cont => exact False.elim hq
theorem px0H {σ : L2.St} : PassesAt CX0 X σ E0 := fun _ _ _ _ _ _ h => h.elim
theorem op_cmpOH {op : CmpOp} (hop : ∀ a b, compareOp op a b = richCompare op a b) (hs : PySem.W.findIn X.K (.ref C) (cmpInfo op).2.1 = some (some (.ref g))) (hf : PySem.W.isFn X.K (.ref g) = true) (F : FnHx X.prog X.w X.K X.mg X.base CX0 k g sp)
    (hr : L2H.RoomH k X.A) (hc : L2H.HotC X) : OpR X (compareOp op) (rCmpO X.K C sp E0) := by
  intro pins s σ H x y v u Q I rx ry h
  obtain ⟨a, dx, fs, t, rfl, ha, ty, hn, q⟩ := h
  cases (show v = Value.ref a from rx)
  obtain ⟨ox, od, J, _⟩ := ins_at I ha
  obtain ⟨P, Z, p, _⟩ := kit_of I ry ty
  obtain ⟨m, hF⟩ := I.fr
  rw [hop]
  refine PySem.W.cmp_K (op := op) (tb := t) (by have := uH hr; omega) hF I.ok.mod.kin J (Z.ty _ _ I.kIn p) hn hs hf ?_
  refine wpAny_mono (wpAny_call (runH_at (us := [.ref a, u]) (vs := [.ref a, y]) F hr rfl I.env0 hc px0H I (.cons rfl (.cons ry .nil)) q)) (fun w s' z => ?_) fun _ _ x => x
  obtain ⟨z', H', I', rz, qz⟩ := z
  exact SlX.cmpback rz ⟨z', H', I', rz, qz⟩
end
end EL
namespace EL
open PySem PySem.Spec PyProof.Rows L2 He TL
section
variable {X : Cx} {CX : CXT} {k : Nat} {C g : Addr} {sp : Sp}
theorem roomH_mark {A : Around} {hd : Option Value} (r : Room k A) : L2H.RoomH k (A.mark hd) := ⟨r.dp, r.un⟩
theorem RoomH_in1 {A : Around} (r : L2H.RoomH (k + 1) A) : L2H.RoomH k A.in1 := ⟨by have := r.dp; show A.depth + 3 * k + 5 < _; omega, by have := r.un; show A.units + 1 + 16 * k + 200 < _; omega⟩
theorem op_neOH (c : OC X.K C) (hn : PySem.W.findIn X.K (.ref C) "__ne__" = some (some (.builtin "object.__ne__"))) (hs : PySem.W.findIn X.K (.ref C) "__eq__" = some (some (.ref g))) (hf : PySem.W.isFn X.K (.ref g) = true) (F : FnHx X.prog X.w X.K X.mg X.base CX0 k g sp)
    (hr : L2H.RoomH (k + 1) X.A) (hc : L2H.HotC X) : OpR X (compareOp .NotEq) (rNeO X.K C sp E0) := by
  intro pins s σ H x y v u Q I rx ry h
  obtain ⟨a, dx, fs, t, rfl, ha, ty, hnf, q⟩ := h
  cases (show v = Value.ref a from rx)
  obtain ⟨ox, od, J, _⟩ := ins_at I ha
  obtain ⟨P, Z, p, _⟩ := kit_of I ry ty
  show wpAny _ X.A (richCompare .NotEq (.ref a) u) _ _ s
  refine ne_own (tb := t) (by have := uH hr; omega) I.kIn J (Z.ty _ _ I.kIn p) hnf hn c.ob hs hf ?_
  refine wpAny_mono (wpAny_call (runH_at (A := X.A.in1) (us := [.ref a, u]) (vs := [.ref a, y]) F (RoomH_in1 hr) rfl I.env0.in1 hc px0H I (.cons rfl (.cons ry .nil)) q)) (fun w s' z => ?_) fun _ _ x => x
  obtain ⟨z', H', I', rz, b, eb, qz⟩ := z
  subst eb
  cases (show w = Value.bool b from rz)
  exact ⟨b, rfl, .bl (!b), H', I', rfl, qz⟩
/-- raise C('..') where an exception is being handled -/
theorem rsH {W : WX} {c m : Str} {j : Nat} {p p2 pos pos2 : Pos} (hc : L2H.HotC X) (tk : Takes X W) (x : XC X.K X.mg c) (hg : Gl X c) (hdb : (c == ("__debug__" : Str)) = false := by decide) :
    PS X (.Raise (some (.Call (.Name c p) [.Constant (.str m) j p2] [] pos)) none pos2) (fun _ σ H => W (.ref (ga X.K c)) none σ H) :=
  L2H.ps_raiseH hc tk (L2N.pmk_own PySem.F.excBase_ValueError x.q x.g x.k (raises_own x.b x.t) hg hdb)
/-- the same in a def whose exceptions bear no context -/
theorem rsN {W : WX} {c m : Str} {j : Nat} {p p2 pos pos2 : Pos} (hc : X.calm = true) (tk : L2N.Takes X W) (x : XC X.K X.mg c) (hg : Gl X c) (hdb : (c == ("__debug__" : Str)) = false := by decide) :
    PS X (.Raise (some (.Call (.Name c p) [.Constant (.str m) j p2] [] pos)) none pos2) (fun _ σ H => W (.ref (ga X.K c)) none σ H) :=
  L2N.ps_raise hc tk (L2N.pmk_own PySem.F.excBase_ValueError x.q x.g x.k (raises_own x.b x.t) hg hdb)
theorem pxN {W : WX} (tk : L2N.Takes X W) : ∀ σ, PassesAt (L2N.CX X.prog X.w) X σ (WE W σ) := fun σ => L2N.passAt tk σ
theorem ps_augOH {E : L2.St → XK} {op : Operator} {i : Nat} {x : Str} {e : Expr} {te : TE} {pos pos' : Pos} (hN : X.N.Nodup) (hi : X.N[i]? = some x) (hx : Loc X.env.scope x) (hc : PySem.W.selfFirst X.K C = true) (hs : PySem.W.findIn X.K (.ref C) (PySem.dunderI op.info.2) = some (some (.ref g))) (hf : PySem.W.isFn X.K (.ref g) = true)
    (F : FnHx X.prog X.w X.K X.mg X.base CX k g sp) (hr : L2H.RoomH k X.A) (hot : L2H.HotC X) (hp : ∀ σ, PassesAt CX X σ (E σ)) (he : PE X e te) (hl' : X.fn x = true ∨ X.env.scope.names.lookup x = some .local := by first | exact .inl rfl | exact .inr rfl | assumption) :
    PS X (.AugAssign (.Name x pos') op e pos) (tAugX i C sp E te) := by
  refine ⟨fun pins s σ H D I h => ?_⟩
  obtain ⟨v, e1, h⟩ := h
  obtain ⟨m0, hn, hl⟩ := I.loc
  have vis : Vis X.env.scope x := hx.elim .inl fun k => .inr (.inl k)
  obtain ⟨u, r, l⟩ := hl i x v hi e1 vis
  refine wpAny_AugAssign_Name ?_
  have go : wpAny (model X.prog X.w) X.A (eval e X.env) (fun w s₂ => wpAny (model X.prog X.w) X.A (inplaceOp op u w) (fun r s₃ => wpAny (model X.prog X.w) X.A (storeName X.env x r) (fun _ => SP X pins D .next) X.xe s₃) X.xe s₂) X.xe s := by
    refine thn (he.run pins s σ H _ I h) fun w s1 ⟨y, H1, I1, r1, q1⟩ => ?_
    have step : wpAny (model X.prog X.w) X.A (inplaceOp op u w) (EP X pins σ fun z H2 => D.nx (σ.set i (some z)) H2) X.xe s1 := by
      obtain ⟨a, dx, fs, rfl, ha, q⟩ := q1
      cases (show u = Value.ref a from r)
      obtain ⟨ox, od, J, _⟩ := ins_at I1 ha
      obtain ⟨m, hF⟩ := I1.fr
      refine PySem.W.ksp_inplace hF I1.ok.mod.kin J hc hs hf ?_
      refine wpAny_mono (wpAny_call (runH_at (us := [.ref a, w]) (vs := [.ref a, y]) F hr rfl I1.env0 hot (hp σ) I1 (.cons rfl (.cons r1 .nil)) q)) (fun w s' z => ?_) fun _ _ x => x
      obtain ⟨z', H', I', rz, qz⟩ := z
      exact SlX.cmpback rz ⟨z', H', I', rz, qz⟩
    exact thn step fun z s2 ⟨zv, H2, I2, r2, q2⟩ => store_ok I2 hN hi hx r2 (fun s3 I3 => ⟨_, H2, I3, q2⟩) hl'
  rcases l with ⟨hk, hm⟩ | ⟨hk, c, hc, hcell⟩
  · exact wpAny_loadName_local I.ok.kind hk hn hm go
  · refine hk.elim (fun hk => wpAny_loadName_cell I.ok.kind hk hc hcell go) fun hk => ?_
    have z : X.env.scope.names.lookup x = some .free := hk
    rcases hx with k | k <;> (rw [k] at z; cases z)
end
end EL
/-! EV: list(zip(a, b)) of two lists; xs[a:b] = ys -/
namespace EL
open PySem PySem.Spec PyProof.Rows PyProof.V PySem.Calls PySem.W L2 He TL
namespace ZL
theorem no_len : typeLookup (.type "zip") "__len__" = pure none := by rw [typeLookup_type, builtinLookup_eq_fast]; kernel_rfl
theorem no_hint : typeLookup (.type "zip") "__length_hint__" = pure none := by rw [typeLookup_type, builtinLookup_eq_fast]; kernel_rfl
section
variable {prog : Program} {w : World} {A : Around} {E : Value → Shared → Prop} {s : Shared} {z TI TO i1 i2 l1 l2 : Addr} {xs ys : Array Value}
/-- a zip at its turn i, its last tuple perhaps held by another -/
structure St (h : Heap) (S z TI TO i1 i2 l1 l2 : Addr) (xs ys : Array Value) (i : Nat) : Prop where
  ti : IsPair h TI (.ref i1) (.ref i2)
  h1 : h.IsListIter i1 l1 i
  h2 : h.IsListIter i2 l2 i
  e1 : h.IsList l1 xs
  e2 : h.IsList l2 ys
  z : (IsZip h z TI TO .none ∧ ∃ a b, IsPair h TO a b) ∨ ∃ T f oT, IsZipHeld h z TI TO T f ∧ h.get? T = some oT ∧ T ≠ z ∧ T ≠ i1 ∧ T ≠ i2 ∧ T ≠ S
/-- what the walk may change -/
abbrev Out (z TO i1 i2 c : Addr) : Prop := c ≠ z ∧ c ≠ TO ∧ c ≠ i1 ∧ c ≠ i2
theorem St.keep {h h' : Heap} {S : Addr} {i : Nat} (st : St h S z TI TO i1 i2 l1 l2 xs ys i) (k : ∀ c o, c ≠ S → h.get? c = some o → h'.get? c = some o) (s1 : TI ≠ S) (s2 : i1 ≠ S) (s3 : i2 ≠ S) (s4 : l1 ≠ S) (s5 : l2 ≠ S) (s6 : z ≠ S) (s7 : TO ≠ S) : St h' S z TI TO i1 i2 l1 l2 xs ys i := by
  obtain ⟨a, b, c, d, e, f⟩ := st
  refine ⟨k _ _ s1 a, b.at fun o q => k _ o s2 q, c.at fun o q => k _ o s3 q, d.at fun o q => k _ o s4 q, e.at fun o q => k _ o s5 q, ?_⟩
  rcases f with ⟨f1, x, y, f2⟩ | ⟨T, f, oT, f1, f2, f3, f4, f5, f6⟩
  · exact .inl ⟨k _ _ s6 f1, x, y, k _ _ s7 f2⟩
  · exact .inr ⟨T, f, oT, k _ _ s6 f1, k _ _ f6 f2, f3, f4, f5, f6⟩
theorem item {S : Addr} {i : Nat} {x y : Value} {Q : Option Value → Shared → Prop} (D : ZipApart z TI TO i1 i2 l1 l2) (st : St s.heap S z TI TO i1 i2 l1 l2 xs ys i) (hS : S < s.heap.objs.size) (hx : xs[i]? = some x) (hy : ys[i]? = some y)
    (hQ : ∀ h', St h' S z TI TO i1 i2 l1 l2 xs ys (i + 1) → IsPair h' s.heap.objs.size x y → h'.objs.size = s.heap.objs.size + 1 →
      (∀ c o, Out z TO i1 i2 c → s.heap.get? c = some o → h'.get? c = some o) → Q (some (.ref s.heap.objs.size)) { s with heap := h' }) :
    wpAny (model prog w) A (pyNext (.ref z)) Q E s := by
  obtain ⟨ti, h1, h2, e1, e2, f⟩ := st
  have lt : ∀ {c o}, s.heap.get? c = some o → s.heap.objs.size ≠ c := fun e => Nat.ne_of_gt (Heap.lt_size e)
  rcases f with ⟨f1, a, b, f2⟩ | ⟨T, f, oT, f1, f2, f3, f4, f5, f6⟩
  · refine wpAny_pyNext_zip_item D f1 ti f2 h1 h2 e1 e2 hx hy fun h' a1 a2 a3 a4 a5 a6 hk => hQ h' ⟨hk _ _ D.TIz D.TITO D.TIi1 D.TIi2 ti, a3, a4, e1.at fun o e => hk _ o D.l1z D.l1TO D.l1i1 D.l1i2 e, e2.at fun o e => hk _ o D.l2z D.l2TO D.l2i1 D.l2i2 e,
      .inr ⟨_, false, _, a1, a5, lt f1, (by obtain ⟨_, e, _⟩ := h1; exact lt e), (by obtain ⟨_, e, _⟩ := h2; exact lt e), Nat.ne_of_gt hS⟩⟩ a5 a6 fun c o hc e => hk c o hc.1 hc.2.1 hc.2.2.1 hc.2.2.2 e
  · refine wpAny_pyNext_zip_item_held D f1 f2 ti h1 h2 e1 e2 hx hy fun h' a1 a3 a4 a5 a6 hk => hQ h' ⟨hk _ _ D.TIz D.TIi1 D.TIi2 ti, a3, a4, e1.at fun o e => hk _ o D.l1z D.l1i1 D.l1i2 e, e2.at fun o e => hk _ o D.l2z D.l2i1 D.l2i2 e,
      .inr ⟨T, true, oT, a1, hk _ _ f3 f4 f5 f2, f3, f4, f5, f6⟩⟩ a5 a6 fun c o hc e => hk c o hc.1 hc.2.2.1 hc.2.2.2 e
theorem done {S : Addr} {i : Nat} {Q : Option Value → Shared → Prop} (hh : A.handled = none) (D : ZipApart z TI TO i1 i2 l1 l2) (st : St s.heap S z TI TO i1 i2 l1 l2 xs ys i) (hend : xs[i]? = none ∨ ys[i]? = none)
    (hQ : ∀ h', (∀ c o, Out z TO i1 i2 c → s.heap.get? c = some o → h'.get? c = some o) → Q none { s with heap := h' }) : wpAny (model prog w) A (pyNext (.ref z)) Q E s := by
  obtain ⟨ti, h1, h2, e1, e2, f⟩ := st
  rcases f with ⟨f1, a, b, f2⟩ | ⟨T, f, oT, f1, f2, f3, f4, f5, f6⟩
  · exact wpAny_pyNext_zip_end hh D f1 ti f2 h1 h2 e1 e2 hend fun h' hk => hQ h' fun c o hc e => hk c o hc.1 hc.2.1 hc.2.2.1 hc.2.2.2 e
  · exact wpAny_pyNext_zip_end_held hh D f1 f2 ti h1 h2 e1 e2 hend fun h' hk => hQ h' fun c o hc e => hk c o hc.1 hc.2.2.1 hc.2.2.2 e
/-- the addresses as hold the pairs, they lie above lo and rise -/
structure Zg (xs ys : Array Value) (lo : Addr) (h : Heap) (as : List Addr) : Prop where
  rise : as.Pairwise (· < ·)
  above : ∀ a ∈ as, lo < a
  pairs : ∀ (j : Nat) (a : Addr), as[j]? = some a → ∃ x y, xs[j]? = some x ∧ ys[j]? = some y ∧ IsPair h a x y
theorem Zg.there {lo : Addr} {h : Heap} {as : List Addr} (g : Zg xs ys lo h as) {a : Addr} (ha : a ∈ as) : a < h.objs.size := by
  obtain ⟨j, hj⟩ := List.mem_iff_getElem?.mp ha
  obtain ⟨_, _, _, _, e⟩ := g.pairs j a hj
  exact Heap.lt_size e
theorem loop {S : Addr} {n : Nat} {R : Result → Shared → Prop} (hh : A.handled = none) (D : ZipApart z TI TO i1 i2 l1 l2) (hn : n = min xs.size ys.size) (hns : n ≤ sizeLine) (lz : z < S) (lTO : TO < S) (lTI : TI < S) (li1 : i1 < S) (li2 : i2 < S) (ll1 : l1 < S) (ll2 : l2 < S) (res : Value) {h₁ : Heap}
    (hR : ∀ h' tk acc c as, (∀ b o, b ≠ S → Out z TO i1 i2 b → h₁.get? b = some o → h'.get? b = some o) → h'.get? S = some { cls := .type "list", dict := none, data := .seq acc c, slots := #[] } → as.length = n → Zg xs ys S h' as →
      acc.toList = as.map Value.ref → R (.ok (.ret res)) { s with heap := h', toks := tk }) :
    ∀ (k i : Nat) (h : Heap) (tk c : Nat) (acc : Array Value) (as : List Addr), n - i = k → i ≤ n → St h S z TI TO i1 i2 l1 l2 xs ys i → (∀ b o, b ≠ S → Out z TO i1 i2 b → h₁.get? b = some o → h.get? b = some o) →
      h.get? S = some { cls := .type "list", dict := none, data := .seq acc c, slots := #[] } → acc.toList = as.map Value.ref → as.length = i → Zg xs ys S h as →
      codeAny (model prog w) A (.builtin "list.extend.loop" ⟨[.ref S, .ref z, res], []⟩) R { s with heap := h, toks := tk } := by
  have oS : Out z TO i1 i2 S := ⟨Nat.ne_of_gt lz, Nat.ne_of_gt lTO, Nat.ne_of_gt li1, Nat.ne_of_gt li2⟩
  have oA : ∀ {b : Addr}, S < b → Out z TO i1 i2 b := fun hb => ⟨Nat.ne_of_gt (Nat.lt_trans lz hb), Nat.ne_of_gt (Nat.lt_trans lTO hb), Nat.ne_of_gt (Nat.lt_trans li1 hb), Nat.ne_of_gt (Nat.lt_trans li2 hb)⟩
  intro k
  induction k with
  | zero =>
    intro i h tk c acc as hk hi hst hkeep hS hacc hal hG
    have hin : i = n := by omega
    refine codeAny_builtin PySem.F.entry_extend_loop ?_
    rw [Around.under_plainId PySem.F.plain_extend_loop _]
    show wpAny _ A.in1 (pyNext (.ref z) >>= _) _ _ _
    have hend : xs[i]? = none ∨ ys[i]? = none := by
      rcases Nat.le_total xs.size ys.size with q | q
      · exact .inl (Array.getElem?_eq_none (by omega))
      · exact .inr (Array.getElem?_eq_none (by omega))
    refine wpAny_bind (done (s := { s with heap := h, toks := tk }) (A := A.in1) hh D hst hend fun h' he => ?_)
    refine wpAny_pure (hR h' tk acc c as (fun b o h1 h2 e => he b o h2 (hkeep b o h1 h2 e)) (he S _ oS hS) (by omega) ⟨hG.rise, hG.above, fun j a hj => ?_⟩ hacc)
    obtain ⟨x, y, q1, q2, q3⟩ := hG.pairs j a hj
    exact ⟨x, y, q1, q2, he a _ (oA (hG.above a (List.mem_of_getElem? hj))) q3⟩
  | succ k ih =>
    intro i h tk c acc as hk hi hst hkeep hS hacc hal hG
    have hlt : i < n := by omega
    have hsz : acc.size = i := by rw [← Array.length_toList, hacc, List.length_map, hal]
    have hxl : i < xs.size := by omega
    have hyl : i < ys.size := by omega
    refine codeAny_builtin PySem.F.entry_extend_loop ?_
    rw [Around.under_plainId PySem.F.plain_extend_loop _]
    show wpAny _ A.in1 (pyNext (.ref z) >>= _) _ _ _
    refine wpAny_bind (item (s := { s with heap := h, toks := tk }) D hst (Heap.lt_size hS) (Array.getElem?_eq_getElem hxl) (Array.getElem?_eq_getElem hyl) fun h' hst' ht hz hkp => ?_)
    dsimp only at ht hz hkp ⊢
    have hS' := hkp S _ oS hS
    have up : ∀ b o, b ≠ S → h'.get? b = some o → (h'.update S (Obj.mapSeq (·.push (Value.ref h.objs.size)))).get? b = some o := fun b o hb e => (Heap.get?_update_other _ _ (Ne.symm hb)).trans e
    have hSl : S < h.objs.size := Heap.lt_size hS
    show wpAny _ A.in1 (updateSeq S (·.push (Value.ref h.objs.size)) >>= _) _ _ _
    refine wpAny_bind ?_
    refine wpAny_updateSeq hS' rfl (wpAny_pure ⟨plainId_quiet PySem.F.plain_extend_loop _, ih (i + 1) _ tk _ (acc.push (Value.ref h.objs.size)) (as ++ [h.objs.size]) (by omega) hlt (hst'.keep up (Nat.ne_of_lt lTI) (Nat.ne_of_lt li1) (Nat.ne_of_lt li2) (Nat.ne_of_lt ll1) (Nat.ne_of_lt ll2) (Nat.ne_of_lt lz) (Nat.ne_of_lt lTO))
      (fun b o h1 h2 e => up b o h1 (hkp b o h2 (hkeep b o h1 h2 e))) (Heap.get?_update_self _ hS' rfl) (by rw [Array.toList_push, hacc, List.map_append]; rfl) (by rw [List.length_append, hal]; rfl) ⟨?_, ?_, ?_⟩⟩) (by rw [hsz]; omega) (by show (acc.push (Value.ref h.objs.size)).size ≤ sizeLine + 1; rw [Array.size_push, hsz]; omega)
    · refine List.pairwise_append.mpr ⟨hG.rise, List.pairwise_singleton _ _, fun a ha b hb => ?_⟩
      rw [List.mem_singleton.mp hb]
      exact hG.there ha
    · intro a ha
      rcases List.mem_append.mp ha with ha | ha
      · exact hG.above a ha
      · rw [List.mem_singleton.mp ha]; exact hSl
    · intro j b hj
      rcases Nat.lt_trichotomy j as.length with q1 | q1 | q1
      · rw [List.getElem?_append_left q1] at hj
        obtain ⟨x, y, e1, e2, e3⟩ := hG.pairs j b hj
        have hb := hG.above b (List.mem_of_getElem? hj)
        exact ⟨x, y, e1, e2, up b _ (Nat.ne_of_gt hb) (hkp b _ (oA hb) e3)⟩
      · subst q1
        have hb : h.objs.size = b := by simpa using hj
        subst hb
        exact ⟨_, _, by rw [hal]; exact Array.getElem?_eq_getElem hxl, by rw [hal]; exact Array.getElem?_eq_getElem hyl, up _ _ (Nat.ne_of_gt hSl) ht⟩
      · have hnone : (as ++ [h.objs.size])[j]? = none := List.getElem?_eq_none (by rw [List.length_append, List.length_singleton]; omega)
        rw [hnone] at hj; cases hj
/-- list(z) -/
theorem call {n : Nat} {Q : Value → Shared → Prop} (hh : A.handled = none) (D : ZipApart z TI TO i1 i2 l1 l2) (hn : n = min xs.size ys.size) (hns : n ≤ sizeLine)
    (hz : IsZip s.heap z TI TO .none) (hTI : IsPair s.heap TI (.ref i1) (.ref i2)) (hTO : ∃ a b, IsPair s.heap TO a b) (h1 : s.heap.IsListIter i1 l1 0) (h2 : s.heap.IsListIter i2 l2 0) (e1 : s.heap.IsList l1 xs) (e2 : s.heap.IsList l2 ys)
    (hQ : ∀ h' tk acc c as, (∀ b o, Out z TO i1 i2 b → s.heap.get? b = some o → h'.get? b = some o) → h'.get? s.heap.objs.size = some { cls := .type "list", dict := none, data := .seq acc c, slots := #[] } → as.length = n → Zg xs ys s.heap.objs.size h' as →
      acc.toList = as.map Value.ref → Q (.ref s.heap.objs.size) { s with heap := h', toks := tk }) :
    wpAny (model prog w) A (PySem.call (.type "list") [.ref z]) Q E s := by
  obtain ⟨ta, tb, hTO⟩ := hTO
  refine callType_codes (Q₁ := fun obj s₁ => obj = .ref s.heap.objs.size ∧ s₁ = { s with heap := s.heap.push { cls := .type "list", data := .seq #[] } }) PySem.F.called_list (PySem.F.typeCall_list_1 _) PySem.F.entry_list_init
    (code_list_new _ ⟨rfl, rfl⟩) fun obj s₁ h₁ => ?_
  obtain ⟨rfl, rfl⟩ := h₁
  have hS : (s.heap.push { cls := .type "list", data := .seq #[] }).get? s.heap.objs.size = some { cls := .type "list", data := .seq #[] } := Heap.get?_push_size _ rfl
  have lz := Heap.lt_size hz
  have lTI := Heap.lt_size hTI
  have lTO := Heap.lt_size hTO
  have li1 : i1 < s.heap.objs.size := by obtain ⟨_, e, _⟩ := h1; exact Heap.lt_size e
  have li2 : i2 < s.heap.objs.size := by obtain ⟨_, e, _⟩ := h2; exact Heap.lt_size e
  have ll1 : l1 < s.heap.objs.size := by obtain ⟨_, e, _⟩ := e1; exact Heap.lt_size e
  have ll2 : l2 < s.heap.objs.size := by obtain ⟨_, e, _⟩ := e2; exact Heap.lt_size e
  refine ⟨⟨_, hS, rfl⟩, PySem.F.args_list_init_2 _ _, ?_⟩
  generalize hSd : s.heap.objs.size = S at *
  show wpAny _ _ (do let old ← Builtin.List.listItems (.ref S); Builtin.List.listUpdate (.ref S) (fun _ => #[]); letGo old.toList.reverse; Builtin.List.listExtendWith (.ref S) (.ref z) .none) _ _ _
  refine wpAny_bind ?_
  unfold Builtin.List.listItems
  refine wpAny_bind (wpAny_seqItems hS rfl (wpAny_pure ?_))
  show wpAny _ _ (updateSeq S (fun _ => #[]) >>= fun _ => letGo (#[] : Array Value).toList.reverse >>= fun _ => Builtin.List.listExtendWith (.ref S) (.ref z) .none) _ _ _
  refine wpAny_bind (wpAny_updateSeq hS rfl ?_)
  have hS₂ := Heap.get?_update_self (Obj.mapSeq (fun _ => (#[] : Array Value))) hS rfl
  have oth : ∀ b o, s.heap.get? b = some o → ((s.heap.push { cls := .type "list", data := .seq #[] }).update S (Obj.mapSeq (fun _ => (#[] : Array Value)))).get? b = some o :=
    fun b o e => (Heap.get?_update_other _ _ (by rw [← hSd]; exact Nat.ne_of_gt (Heap.lt_size e))).trans (Heap.get?_push_of_some _ e)
  refine wpAny_bind (wpAny_letGo ?_)
  unfold Builtin.List.listExtendWith
  have hz2 := oth _ _ hz
  refine wpAny_bind (wpAny_typeOf (T := "zip") ⟨_, hz2, rfl⟩ ?_)
  have g1 : Builtin.List.listSameRef (.ref S) (.ref z) = false := by simp [Builtin.List.listSameRef, Nat.ne_of_gt lz]
  have g2 : (Value.type "zip" == Value.type "list") = false := by decide
  have g3 : (Value.type "zip" == Value.type "tuple") = false := by decide
  simp only [g1, g2, g3, Bool.or_false, Bool.false_eq_true, if_false]
  refine wpAny_bind (wpAny_pyIter_zip hz2 ?_)
  refine wpAny_bind (wpAny_holding ?_)
  unfold Builtin.List.listLengthHint
  refine wpAny_bind (wpAny_specialOf (T := "zip") ⟨_, hz2, rfl⟩ no_len ?_)
  show wpAny _ _ (specialOf (Value.ref z) (Str.ofString "__length_hint__") >>= _) _ _ _
  refine wpAny_bind (wpAny_specialOf (T := "zip") ⟨_, hz2, rfl⟩ no_hint ?_)
  refine wpAny_pure ?_
  show wpAny _ _ (rule "list.extend.makes-room" >>= fun _ => Builtin.List.listTouch (.ref S) >>= fun _ => again (.builtin "list.extend.loop" ⟨[.ref S, .ref z, .none], []⟩)) _ _ _
  refine wpAny_bind (wpAny_rule ?_)
  refine wpAny_bind ?_
  show wpAny _ _ (updateSeq S (·.push .none) >>= fun _ => updateSeq S (·.pop)) _ _ _
  refine wpAny_bind (wpAny_updateSeq hS₂ rfl ?_)
  have hS₃ := Heap.get?_update_self (Obj.mapSeq (·.push Value.none)) hS₂ rfl
  refine wpAny_updateSeq (hz := by seq_fits) hS₃ rfl ?_
  have hS₄ := Heap.get?_update_self (Obj.mapSeq (·.pop)) hS₃ rfl
  have ot4 : ∀ b o, s.heap.get? b = some o → ((((s.heap.push { cls := .type "list", data := .seq #[] }).update S (Obj.mapSeq (fun _ => (#[] : Array Value)))).update S (Obj.mapSeq (·.push Value.none))).update S (Obj.mapSeq (·.pop))).get? b = some o := fun b o e => by
    have ne : S ≠ b := by rw [← hSd]; exact Nat.ne_of_gt (Heap.lt_size e)
    exact (Heap.get?_update_other _ _ ne).trans ((Heap.get?_update_other _ _ ne).trans (oth b o e))
  refine wpAny_pure ⟨plainId_quiet PySem.F.plain_extend_loop _, loop (s := s) (A := A.in1) (n := n) (h₁ := s.heap) hh D hn hns lz lTO lTI li1 li2 ll1 ll2 .none (fun h' tk acc c as hk hS' hl hG hacc => ?_) n 0 _ _ _ #[] [] (Nat.sub_zero _) (Nat.zero_le _)
    ⟨ot4 _ _ hTI, h1.at fun o e => ot4 _ o e, h2.at fun o e => ot4 _ o e, e1.at fun o e => ot4 _ o e, e2.at fun o e => ot4 _ o e, .inl ⟨ot4 _ _ hz, _, _, ot4 _ _ hTO⟩⟩ (fun b o _ _ e => ot4 b o e) hS₄ rfl rfl ⟨List.Pairwise.nil, (fun _ ha => nomatch ha), (fun j a hj => by simp at hj)⟩⟩
  exact ⟨rfl, hQ h' tk acc c as (fun b o ho e => hk b o (by rw [← hSd]; exact Nat.ne_of_lt (Heap.lt_size e)) ho e) hS' hl hG hacc⟩
end
/-- the pairs tracked at their addresses -/
def putP : Hp → List Addr → List (V × V) → Hp
  | H, a :: as, p :: kvs => putP (upd H a (.tup [p.1, p.2])) as kvs
  | H, _, _ => H
theorem putP_off {b : Addr} : ∀ (as : List Addr) (kvs : List (V × V)) (H : Hp), b ∉ as → putP H as kvs b = H b
  | [], _, _, _ => rfl
  | _ :: _, [], _, _ => rfl
  | a :: as, p :: kvs, H, h => by
    show putP (upd H a (.tup [p.1, p.2])) as kvs b = H b
    rw [putP_off as kvs _ (fun z => h (List.mem_cons_of_mem _ z)), upd_ne (fun z => h (by rw [z]; exact List.mem_cons_self))]
theorem putP_at : ∀ (as : List Addr) (kvs : List (V × V)) (H : Hp), as.length = kvs.length → as.Nodup → Paired (fun (t : Addr) (p : V × V) => putP H as kvs t = some (.tup [p.1, p.2])) as kvs
  | [], [], _, _, _ => .nil
  | [], _ :: _, _, h, _ => by cases h
  | _ :: _, [], _, h, _ => by cases h
  | a :: as, p :: kvs, H, h, hn => by
    have hn' := List.nodup_cons.mp hn
    have ih := putP_at as kvs (upd H a (.tup [p.1, p.2])) (Nat.succ.inj h) hn'.2
    refine .cons ?_ ih
    show putP (upd H a (.tup [p.1, p.2])) as kvs a = some (.tup [p.1, p.2])
    rw [putP_off as kvs _ hn'.1, upd_same]
section
variable {X : Cx}
theorem laidP {pins : List (Addr × Obj)} {σ : L2.St} {H : Hp} {s : Shared} {h' : Heap} {tk S : Nat} {xs ys : List V} {its its2 : List Value} {acc : Array Value} {c : Nat} {as : List Addr} (I : Inv X pins σ H s) (r1 : Vals xs its) (r2 : Vals ys its2) (hlow : s.heap.objs.size ≤ S)
    (hk : ∀ b o, s.heap.get? b = some o → h'.get? b = some o) (hS : h'.get? S = some { cls := .type "list", dict := none, data := .seq acc c, slots := #[] }) (hl : as.length = min xs.length ys.length) (hz : as.length ≤ sizeLine) (hG : Zg its.toArray its2.toArray S h' as) (hacc : acc.toList = as.map Value.ref) :
    ∃ H' : Hp, (∀ b o, H b = some o → H' b = some o) ∧ H S = none ∧ (∀ t ∈ as, H t = none) ∧ S ∉ as ∧ H' S = some (.lst (as.map V.ref)) ∧ Paired (fun (t : Addr) (q : V × V) => H' t = some (.tup [q.1, q.2])) as (xs.zip ys) ∧ Inv X pins σ H' { s with heap := h', toks := tk } := by
  have hSn : S ∉ as := fun z => Nat.lt_irrefl _ (hG.above _ z)
  have nd : as.Nodup := List.Pairwise.imp (fun {a b} (h : a < b) => Nat.ne_of_lt h) hG.rise
  have new : ∀ t ∈ as, H t = none := fun t ht => I.hok.fresh (Nat.le_trans hlow (Nat.le_of_lt (hG.above t ht)))
  have newS : H S = none := I.hok.fresh hlow
  have atP := putP_at as (xs.zip ys) (upd H S (.lst (as.map V.ref))) (by rw [hl, List.length_zip]) nd
  have off : ∀ b, b ∉ as → b ≠ S → putP (upd H S (.lst (as.map V.ref))) as (xs.zip ys) b = H b := fun b h1 h2 => by rw [putP_off as _ _ h1, upd_ne h2]
  have low : ∀ b o, s.heap.get? b = some o → b ∉ as ∧ b ≠ S := fun b o e => ⟨fun z => absurd (Heap.lt_size e) (Nat.not_lt.mpr (Nat.le_trans hlow (Nat.le_of_lt (hG.above b z)))), Nat.ne_of_lt (Nat.lt_of_lt_of_le (Heap.lt_size e) hlow)⟩
  have kp : ∀ b u, H b = some u → (putP (upd H S (.lst (as.map V.ref))) as (xs.zip ys)) b = some u := fun b u e => by
    rw [off b (fun z => by rw [new b z] at e; cases e) (fun z => by rw [z, newS] at e; cases e)]
    exact e
  have eS : putP (upd H S (.lst (as.map V.ref))) as (xs.zip ys) S = some (.lst (as.map V.ref)) := by rw [putP_off as _ _ hSn, upd_same]
  refine ⟨putP (upd H S (.lst (as.map V.ref))) as (xs.zip ys), kp, newS, new, hSn, eS, atP, ?_⟩
  refine I.call' (ch := []) rfl ⟨fun b o q _ _ _ => hk b o q, fun b o q _ _ _ => ⟨o.slots, hk b o q⟩, fun b o q n _ => ?_, fun b o q _ => ⟨o, hk b o q⟩, fun b xs q => kp b _ q, fun b o u q => kp b _ q, fun b ps q => ⟨#[], by rw [kp b _ q]; simp⟩⟩ (fun b u q => ?_) I.bare fun b z => by simp at z
  · obtain ⟨z1, z2⟩ := low b o q
    rw [off b z1 z2]
    exact n
  · by_cases hb : b ∈ as
    · obtain ⟨j, pk, e1, e2, e3⟩ := LiI.paired_ix atP hb
      rw [e3] at q
      cases q
      obtain ⟨x, y, f1, f2, f3⟩ := hG.pairs j b e1
      have g1 : xs[j]? = some pk.1 ∧ ys[j]? = some pk.2 := by
        obtain ⟨h1, h2⟩ := List.getElem?_zip_eq_some.mp e2
        exact ⟨h1, h2⟩
      obtain ⟨u, hu, ru⟩ := r1.get g1.1
      obtain ⟨v, hv, rv⟩ := r2.get g1.2
      have f1' : its[j]? = some x := by rw [← f1]; simp
      have f2' : its2[j]? = some y := by rw [← f2]; simp
      rw [f1'] at hu
      rw [f2'] at hv
      cases hu
      cases hv
      exact ⟨by show 2 ≤ sizeLine; decide, [x, y], .cons ru (.cons rv .nil), ⟨_, f3, rfl, _, rfl⟩⟩
    · by_cases hb2 : b = S
      · rw [hb2] at q ⊢
        rw [eS] at q
        cases q
        refine ⟨by rw [List.length_map]; exact hz, acc.toList, c, by rw [hacc]; exact LiI.vals_refs as, ?_⟩
        rw [Array.toArray_toList]
        exact hS
      · rw [off b hb hb2] at q
        exact (I.hok b u q).stay (fun d v _ y => hk d v y) (fun d y => kp d _ y) fun d xs y => kp d _ y
def tZipL (K : PySem.W.Frag) (ta : TA) : TE := fun σ H Q => ta σ H fun vs H1 => ∃ a b xs ys, vs = [.ref a, .ref b] ∧ SqL K H1 a xs ∧ SqL K H1 b ys ∧
  ∀ (H' : Hp) (p : Addr) (ts : List Addr), (∀ b o, H1 b = some o → H' b = some o) → H1 p = none → (∀ t ∈ ts, H1 t = none) → p ∉ ts → H' p = some (.lst (ts.map V.ref)) → Paired (fun (t : Addr) (q : V × V) => H' t = some (.tup [q.1, q.2])) ts (xs.zip ys) → Q (.ref p) H'
/-- list(zip(e, e2)) -/
theorem pe_zipL {e e2 : Expr} {ta : TA} {p p2 pos pos2 : Pos} (hc : X.calm = true) (hg : Gl X "list") (hm : X.mg "list" = none) (hg2 : Gl X "zip") (hm2 : X.mg "zip" = none) (ha : PA X [e, e2] ta)
    (hs : starEach [e, e2] X.env = (false, eval e X.env) :: starEach [e2] X.env := by rfl) (hpl : (backTo pos2 (starEach [e2] X.env)).any (·.1) = false := by rfl)
    (na : starEach [.Call (.Name "zip" p2) [e, e2] [] pos2] X.env = (false, eval (.Call (.Name "zip" p2) [e, e2] [] pos2) X.env) :: starEach [] X.env := by rfl) :
    PE X (.Call (.Name "list" p) [.Call (.Name "zip" p2) [e, e2] [] pos2] [] pos) (tZipL X.K ta) := by
  refine ⟨fun pins s σ H Q I h => ?_⟩
  refine Call_ (ld_blt I hg hm boot_list (PyProof.Rows.callWith_type1 (args_cons (Call_ (ld_blt I hg2 hm2 PyProof.Rows.boot_zip (PyProof.Rows.callWith_type1 (thn (ha.run pos2 pins s σ H _ I h) fun us s1 ⟨vs, H1, I1, r1, q1⟩ => ?_) hs hpl))) na) na))
  obtain ⟨a, b, xs, ys, ex, hqx, hqy, q⟩ := q1
  subst ex
  cases r1 with
  | cons r rr =>
    cases rr with
    | cons r' rr =>
      cases rr
      cases r
      cases r'
      obtain ⟨its, rv, p1, z1⟩ := I1.list hqx
      obtain ⟨its2, rv2, p2', z2⟩ := I1.list hqy
      have la : a < s1.heap.objs.size := p1.lt
      have lb : b < s1.heap.objs.size := p2'.lt
      have l1 := rv.length
      have l2 := rv2.length
      refine call_zip_2 p1.isList p2'.isList fun h' hz hTI hTO h1 h2 hsz hk => args_nil ?_
      refine call (s := { s1 with heap := h' }) (n := min its.toArray.size its2.toArray.size) (I1.ok.hd hc) (PySem.W.ktu_apart s1.heap.objs.size a b la lb) rfl (by rw [List.size_toArray, ← l1]; omega) hz hTI ⟨_, _, hTO⟩ h1 h2 (p1.isList.at fun o e => hk _ o e) (p2'.isList.at fun o e => hk _ o e) fun h2 tk acc c as hk2 hS hl hG hacc => ?_
      have kk : ∀ b o, s1.heap.get? b = some o → h2.get? b = some o := fun b o e => by
        have hb := Heap.lt_size e
        exact hk2 b o ⟨Nat.ne_of_lt (Nat.lt_of_lt_of_le hb (Nat.le_add_right _ _)), Nat.ne_of_lt (Nat.lt_of_lt_of_le hb (Nat.le_add_right _ _)), Nat.ne_of_lt hb, Nat.ne_of_lt (Nat.lt_of_lt_of_le hb (Nat.le_add_right _ _))⟩ (hk b o e)
      obtain ⟨H', k1, k2, k3, k4, k5, k6, J⟩ := laidP (tk := tk) I1 rv rv2 (by show s1.heap.objs.size ≤ h'.objs.size; omega) kk hS (by rw [hl, List.size_toArray, List.size_toArray, l1, l2]) (by rw [hl, List.size_toArray, ← l1]; omega) hG hacc
      exact ⟨.ref _, H', J, rfl, q H' _ as k1 k2 k3 k4 k5 k6⟩
end
end ZL
/-! xs[a:b] = ys -/
section
variable {X : Cx}
def gSlS (to : TE) (tl th : TO) : TG := fun v σ H Q => to σ H fun o H1 => tl σ H1 fun i H2 => th σ H2 fun j H3 => ∃ l b xs ys a c, o = .ref l ∧ v = .ref b ∧ i = some a ∧ j = some c ∧ H3 l = some (.lst xs) ∧ H3 b = some (.lst ys) ∧ l ≠ b ∧ 0 ≤ a ∧ a ≤ c ∧ c ≤ xs.length ∧ xs.length + ys.length ≤ sizeLine ∧
  Q σ (upd H3 l (.lst (xs.take a.toNat ++ ys ++ xs.drop c.toNat)))
theorem pg_slice {o a b : Expr} {to : TE} {tl th : TE} {p2 pos : Pos} (ho : PE X o to) (hl : PE X a tl) (hu : PE X b th)
    (ha : ∀ v, assign (.Subscript o (.Slice (some a) (some b) none p2) pos) X.env v = (do
      let ov ← holding [v] (eval o X.env)
      let iv ← holding [v, ov] (eval (.Slice (some a) (some b) none p2) X.env)
      standAt pos
      holding [v, ov, iv] (setItem ov iv v)
      release [v, ov, iv] []) := by intro _; rfl) : PG X (.Subscript o (.Slice (some a) (some b) none p2) pos) (gSlS to (tPart tl) (tPart th)) := by
  refine ⟨fun pins s σ H v u Q I r h => ?_⟩
  rw [ha]
  refine wpAny_bind (wpAny_holding (thn (ho.run pins s σ H _ I h) fun ov s1 ⟨x, H1, I1, r1, q1⟩ => ?_))
  refine wpAny_bind (wpAny_holding (wpAny_Slice (thn ((po_some hl).run pins s1 σ H1 _ I1 q1) fun vl s2 ⟨i, H2, I2, pl, q2⟩ => thn ((po_some hu).run pins s2 σ H2 _ I2 q2) fun vu s3 ⟨j, H3, I3, pu, q3⟩ => ?_)))
  rw [evalPart_none]
  refine wpAny_pure ?_
  have I4 : Inv X pins σ H3 { s3 with heap := s3.heap.push { cls := .type "slice", data := .fields #[vl, vu, .none] } } := I3.kept (t' := s3.toks) fun b ob q => Heap.get?_push_of_some _ q
  obtain ⟨l, bb, xs, ys, ai, ci, e1, e2, e3, e4, hx, hy, hne, h0, hac, hc, hz, q⟩ := q3
  subst e1 e2 e3 e4
  cases r1
  cases r
  have rl : RelV (.int ai) vl := by cases pl; exact ⟨_, rfl⟩
  have ru : RelV (.int ci) vu := by cases pu; exact ⟨_, rfl⟩
  refine wpAny_bind (wpAny_standAt (wpAny_bind (wpAny_holding ?_)))
  refine set_slice I4 hx hy hne (Heap.IsSliceOf.new ..) rl ru h0 hac hc hz fun s5 I5 => ?_
  exact wpAny_release ⟨σ, _, I5, q⟩
end
/-! for k, v in d.items(), the keys tuples -/
namespace ZI
section
variable {X : Cx} {pins : List (Addr × Obj)} {σ : L2.St} {H : Hp} {s : Shared} {d : Addr} {o : Obj}
theorem frzTV {kvs : List (List L2.Key × V)} (I : Inv X pins σ H s) (h : H d = some (.frz o (.dT kvs))) :
    (d == sysModules) = false ∧ s.heap.get? d = some o ∧ o.ExactDict ∧ ∃ (es : Array DictEntry) (ep : Nat), o.data = .dict es ep ∧ es.size = kvs.length ∧
      ∀ (i : Nat) (k : List L2.Key) (v : V), kvs[i]? = some (k, v) → ∃ (en : DictEntry) (q : Addr), es[i]? = some en ∧ en.key = .ref q ∧ H q = some (.tup (k.map kV)) ∧ RelV v en.val := by
  obtain ⟨hd, z, hs, xs, pr, o', es, ep, ho, hx, hdt, he, _⟩ := I.hok d _ h
  rw [hd] at ho
  cases ho
  refine ⟨hs, hd, hx, es, ep, hdt, ?_, fun i k v e => ?_⟩
  · have l1 : es.size = xs.length := size_of_entries he
    have l2 : kvs.length = xs.length := Paired.length pr
    omega
  · obtain ⟨b, hb, e1, e2, e3⟩ := paired_get pr e
    have q := entry_at he i
    rw [hb] at q
    exact ⟨_, b.2.1, q, rfl, e2, e3⟩
end
/-- the pairs of a locked dict with tuple keys, each a new tuple -/
def It (d : Addr) (o : Obj) (kvs : List (List L2.Key × V)) : L2.It :=
  ⟨fun i H => H d = some (.frz o (.dT kvs)) ∧ i < kvs.length, fun i H x H' => ∃ T k v q, kvs[i]? = some (k, v) ∧ H q = some (.tup (k.map kV)) ∧ x = .ref T ∧ H T = none ∧ H' = upd H T (.tup [.ref q, v]), fun i H => H d = some (.frz o (.dT kvs)) ∧ kvs.length ≤ i⟩
theorem walk {d : Addr} {o : Obj} {kvs : List (List L2.Key × V)} : Walk (It d o kvs) kvs.length (fun H => H d = some (.frz o (.dT kvs)))
    (fun i H x H' => ∃ T k v q, kvs[i]? = some (k, v) ∧ H q = some (.tup (k.map kV)) ∧ x = .ref T ∧ H T = none ∧ H' = upd H T (.tup [.ref q, v])) :=
  ⟨fun _ _ hi q => ⟨q, hi⟩, fun _ q => ⟨q, Nat.le_refl _⟩, fun _ _ _ _ _ _ y => y⟩
theorem turn {P : Program} {w : World} {K : PySem.W.Frag} {d : Addr} {o : Obj} {es : Array DictEntry} {ep : Nat} {kvs : List (List L2.Key × V)} {elts : List Expr} {kk : Nat} {tpos : Pos} (it : Addr) (hod : o.data = .dict es ep) :
    Turn P w K (.Tuple elts kk tpos) (It d o kvs) [it] it (fun i h => ∃ ok ov, IsItemIter h it d i es.size ep ok ov) where
  mem := by simp
  obj := fun i h st b hb => by
    have e : b = it := by simpa using hb
    subst e
    obtain ⟨ok, ov, e⟩ := st
    exact ⟨_, e, fun v z => nomatch z⟩
  keep := fun i h h' st k => let ⟨ok, ov, e⟩ := st; ⟨ok, ov, k it (by simp) _ e⟩
  item := by
    intro X hP hw hK hc i pins s σ H E I hf st hg
    subst hP hw hK
    obtain ⟨hd, hi⟩ := hg
    obtain ⟨hs, hgd, hx, es', ep', hdt, hsz, ent⟩ := frzTV I hd
    obtain ⟨rfl, rfl⟩ := dict_ep hod hdt
    obtain ⟨⟨k, v⟩, hkv⟩ : ∃ p, kvs[i]? = some p := ⟨kvs[i], List.getElem?_eq_getElem hi⟩
    obtain ⟨en, q, hen, hkey, hq, ru⟩ := ent i k v hkv
    obtain ⟨ok, ov, he⟩ := st
    have hlt : it < s.heap.objs.size := Heap.lt_size he
    have hie : i < es'.size := by omega
    have een : es'[i] = en := by
      rw [Array.getElem?_eq_getElem hie] at hen
      exact Option.some.inj hen
    refine wpAny_pyNext_items_item_raw he ⟨o, hgd, hx, hdt⟩ hie fun h' ho hT hz hk => ?_
    refine ⟨_, rfl, wpAny_letOwnedTupleGo_items (s := { s with heap := h' }) ho fun h'' he' sb => ?_⟩
    have hT2 : h''.get? s.heap.objs.size = some { cls := .type "tuple", data := .seq #[.ref q, en.val] } := by
      have := (sb.2 _ (Nat.ne_of_gt hlt)).trans hT
      rw [een, hkey] at this
      exact this
    have new : ObjOk X.prog X.w (upd H s.heap.objs.size (.tup [.ref q, v])) h'' s.heap.objs.size (.tup [.ref q, v]) :=
      ⟨by show 2 ≤ sizeLine; decide, [.ref q, en.val], .cons rfl (.cons ru .nil), ⟨_, hT2, rfl, _, rfl⟩⟩
    have I1 : Inv X pins σ (upd H s.heap.objs.size (.tup [.ref q, v])) { s with heap := h'' } :=
      I.turnedNew (t' := s.toks) (ch := [it]) (fun b ob hb e => (sb.2 b (by simpa using hb)).trans (hk b ob (by simpa using hb) e)) hf (Nat.le_refl _) new
    refine ⟨.ref s.heap.objs.size, _, I1, rfl, ⟨_, k, v, q, hkv, hq, rfl, I.hok.fresh (Nat.le_refl _), rfl⟩, ⟨_, _, he'⟩, fun b hb => ?_⟩
    · have e : b = it := by simpa using hb
      rw [e, upd_ne (Nat.ne_of_lt hlt)]
      exact (hf it (by simp)).1
  done := by
    intro X hP hw hK hc i pins s σ H E I hf st hg
    subst hP hw hK
    obtain ⟨hd, hi⟩ := hg
    obtain ⟨f0, f1, f2, f3, f4, f5⟩ := hf it (by simp)
    obtain ⟨hs, hgd, hx, es', ep', hdt, hsz, ent⟩ := frzTV I hd
    obtain ⟨rfl, rfl⟩ := dict_ep hod hdt
    obtain ⟨ok, ov, he⟩ := st
    exact wpAny_pyNext_items_end_raw (I.ok.hd hc) he ⟨o, hgd, hx, hdt⟩ (by omega) fun h' eb => ⟨rfl, I.turned (t' := s.toks) (fun b ob hb e => eb b ob hb e) f0 f1 f3 f4 f5⟩
  self := fun A i s Q E st h => let ⟨_, _, e⟩ := st; PySem.W.kcp_self e h
def iItems (td : TE) : TI := fun σ H R => td σ H fun x H1 => ∃ d o kvs, x = .ref d ∧ H1 d = some (.frz o (.dT kvs)) ∧ R (It d o kvs) H1
section
variable {X : Cx} {tg e : Expr} {td : TE} {apos cpos : Pos}
theorem pi_items {elts : List Expr} {kk : Nat} {tpos : Pos} (he : PE X e td) (hbase : attributeBase e "items" X.env (eval e X.env) = eval e X.env := by rfl) (hline : (apos.endLine == cpos.line) = true := by rfl) :
    PI X (.Tuple elts kk tpos) (.Call (.Attribute e "items" apos) [] [] cpos) (iItems td) := by
  refine ⟨fun pins s σ H R I h => ?_⟩
  refine wpAny_Call_method (T := "dict") (id := "dict.items") hbase rfl hline F.plainAttrs_dict F.slot_dict_items F.type_dict_items (thn (he.run pins s σ H _ I h) fun u s1 ⟨x, H1, I1, rx, d, o, kvs, ex, hd, q⟩ => ?_)
  subst ex
  obtain rfl : u = Value.ref d := rx
  obtain ⟨hs, hgd, hx, es, ep, hdt, hsz, ent⟩ := frzTV I1 hd
  refine ⟨⟨o, hgd, hx.1⟩, fun a e2 => ?_, ?_⟩
  · cases e2
    exact ⟨o, hgd, hx.2.1⟩
  have I2 : Inv X pins σ H1 { s1 with heap := s1.heap.push { cls := .type "dict_items", data := .fields #[.ref d] } } := I1.kept (t' := s1.toks) fun b ob q => Heap.get?_push_of_some _ q
  refine Calls.callWith_builtin rfl (PySem.evalArgs_none (DT.callItems (es := es) (ep := ep) hs ⟨o, hgd, hx, hdt⟩ ?_))
  refine wpAny_pyIter_items_raw (d := d) (s := { s1 with heap := s1.heap.push { cls := .type "dict_items", data := .fields #[.ref d] } }) ⟨_, Heap.get?_push_size _ rfl, rfl, rfl⟩ ⟨o, Heap.get?_push_of_some _ hgd, hx, hdt⟩ (pi_one (tk := s1.toks) I2 _ (turn _ hdt) ⟨.none, .none, Heap.get?_push_size _ rfl⟩ q)
end
end ZI
end EL
namespace EW
open PySem PyProof.Rows
open Sem (wp)
/-! ### enumerate(t), t a tuple -/
set_option maxHeartbeats 1000000 in
theorem newEnumT (tp : Addr) (its : Array Value) : Meets (Builtin.«enumerate.__new__» ⟨[.type "enumerate", .ref tp], []⟩) (fun _ RR s1 => s1.heap.IsTuple tp its ∧
      RR (.ok (.ret (.ref (s1.heap.objs.size + 1)))) { s1 with heap := (s1.heap.push { cls := .type "tuple_iterator", data := .fields #[.ref tp, .int 0 0] }).push { cls := .type "enumerate", data := .fields #[.none, .bool false, .ref s1.heap.objs.size, rawInt 0, .none, .none] } }) :=
  .of_wp fun pr ww AA RR s1 hyp => by
    obtain ⟨hh, gg, dd, tt, oo⟩ := s1
    obtain ⟨isT, hyp⟩ := hyp
    have se := sub_enumerate
    have it1 : ∀ {A' : Around} {E' : Value → Shared → Prop} {Q' : Value → Shared → Prop}, Q' (.ref hh.objs.size) ⟨hh.push { cls := .type "tuple_iterator", data := .fields #[.ref tp, .int 0 0] }, gg, dd, tt, oo⟩ →
        wpAny (model pr ww) A' (pyIter (.ref tp)) Q' E' ⟨hh, gg, dd, tt, oo⟩ := fun q => wpAny_pyIter_tuple (s := ⟨hh, gg, dd, tt, oo⟩) isT q
    have hz : (hh.push { cls := .type "tuple_iterator", data := .fields #[.ref tp, .int 0 0] }).objs.size = hh.objs.size + 1 := Heap.size_push ..
    have done : RR (.ok (.ret (.ref (hh.push { cls := .type "tuple_iterator", data := .fields #[.ref tp, .int 0 0] }).objs.size))) ⟨(hh.push { cls := .type "tuple_iterator", data := .fields #[.ref tp, .int 0 0] }).push { cls := .type "enumerate", data := .fields #[.none, .bool false, .ref hh.objs.size, rawInt 0, .none, .none] }, gg, dd, tt, oo⟩ := by
      rw [hz]; exact hyp
    wp_walk using it1
    refine wpAny_stack_any fun _ => wpAny_pure ?_
    split
    · rename_i cc _ _ _ _ _
      cases (cc == Value.type "enumerate") <;> (wp_walk using it1; exact ⟨_, rfl, done⟩)
    · wp_walk using it1
      exact ⟨_, rfl, done⟩
theorem callEnumT {prog : Program} {w : World} {A : Around} {E : Value → Shared → Prop} {s : Shared} {tp : Addr} {its : Array Value} {Q : Value → Shared → Prop} (isT : s.heap.IsTuple tp its)
    (q : ∀ h', IsEnum h' (s.heap.objs.size + 1) s.heap.objs.size 0 .none → h'.IsTupleIter s.heap.objs.size tp 0 → (∀ b o, s.heap.get? b = some o → h'.get? b = some o) → Q (.ref (s.heap.objs.size + 1)) { s with heap := h' }) :
    wpAny (model prog w) A (call (.type "enumerate") [.ref tp]) Q E s := by
  have hz : (s.heap.push { cls := .type "tuple_iterator", data := .fields #[.ref tp, .int 0 0] }).objs.size = s.heap.objs.size + 1 := Heap.size_push ..
  have he : IsEnum ((s.heap.push { cls := .type "tuple_iterator", data := .fields #[.ref tp, .int 0 0] }).push { cls := .type "enumerate", data := .fields #[.none, .bool false, .ref s.heap.objs.size, rawInt 0, .none, .none] }) (s.heap.objs.size + 1) s.heap.objs.size 0 .none := by
    have k := Heap.get?_push_size (s.heap.push { cls := .type "tuple_iterator", data := .fields #[.ref tp, .int 0 0] }) (o := { cls := .type "enumerate", data := .fields #[.none, .bool false, .ref s.heap.objs.size, rawInt 0, .none, .none] }) rfl
    rw [hz] at k
    exact k
  exact callType_new F.called_enumerate (by decide) (F.typeCall_enumerate_1 _) (F.newCall_enumerate_1 _) (fun ob => F.args_object_init_2 ob _) F.entry_enumerate_new (newEnumT tp its)
    ⟨isT, ⟨_, he, rfl⟩, q _ he ⟨_, Heap.get?_push_of_some _ (Heap.get?_push_size _ rfl), rfl, rfl⟩ fun b o x => Heap.get?_push_of_some _ (Heap.get?_push_of_some _ x)⟩
end EW
namespace EL
open PySem PySem.Spec PyProof.Rows L2 He TL
/-- the tuple at a, each item in a new pair with its number -/
def Itet (K : PySem.W.Frag) (a : Addr) : It :=
  ⟨fun i H => ∃ (xs : List V) (x : V), SqT K H a xs ∧ xs[i]? = some x, fun i H v H' => ∃ T x, v = .ref T ∧ H T = none ∧ H' = upd H T (.tup [.int (i : Nat), x]) ∧ ∀ xs, SqT K H a xs → xs[i]? = some x, fun i H => ∃ xs : List V, SqT K H a xs ∧ xs.length = i⟩
theorem turn_enumT {P : Program} {w : World} {K : PySem.W.Frag} {elts : List Expr} {kk : Nat} {tpos : Pos} (a e it : Addr) (h1 : e ≠ it) (h2 : e ≠ a) (h3 : a ≠ it) :
    Turn P w K (.Tuple elts kk tpos) (Itet K a) [e, it] e (fun i h => (∃ old, IsEnum h e it ((i : Nat) : Int) old) ∧ h.IsTupleIter it a i) where
  mem := List.mem_cons_self
  obj := fun i h st b hb => by
    obtain ⟨⟨old, he⟩, o, ho, hc, hd⟩ := st
    rcases List.mem_cons.mp hb with z | z
    · rw [z]; exact ⟨_, he, fun v q => nomatch q⟩
    · rw [List.mem_singleton.mp z]
      exact ⟨o, ho, fun v q => by rw [hd] at q; cases q⟩
  keep := fun i h h' st k => ⟨let ⟨old, he⟩ := st.1; ⟨old, k e (by simp) _ he⟩, st.2.at fun o q => k it (by simp) o q⟩
  item := by
    intro X hP hw hK hc i pins s σ H E I hf st hg
    subst hP hw hK
    obtain ⟨⟨old, he⟩, hit⟩ := st
    obtain ⟨xs, x, hq, hx⟩ := hg
    obtain ⟨its, rv, p, hz⟩ := I.tuple hq
    obtain ⟨u, hu, ru⟩ := rv.get hx
    have p' : s.heap.IsTuple a its.toArray := p
    have hel : e < s.heap.objs.size := Heap.lt_size he
    have hil : it < s.heap.objs.size := let ⟨_, q, _⟩ := hit; Heap.lt_size q
    have hi : i < its.toArray.size := by
      have := (List.getElem?_eq_some_iff.mp hu).1
      simpa using this
    refine wpAny_pyNext_enum_itemC (Draws.tuple (A := X.A.in1) (I.ok.hd hc) it a h3 its.toArray) he ⟨hit, p'⟩ hi h1 (by simp [h1, h2]) fun y h' tk hy ho st' hT hsz hk => ?_
    have ey : y = u := by
      have hy' : its.toArray[i]? = some y := hy
      rw [List.getElem?_toArray, hu] at hy'
      exact (Option.some.inj hy').symm
    subst ey
    refine ⟨_, rfl, wpAny_letOwnedTupleGo_enum (s := { s with heap := h', toks := tk + 1 }) ho fun h'' he' sb => ?_⟩
    have hT2 := (sb.2 _ (Nat.ne_of_gt hel)).trans hT
    have hN : ObjOk X.prog X.w (upd H s.heap.objs.size (.tup [.int (i : Nat), x])) h'' s.heap.objs.size (.tup [.int (i : Nat), x]) :=
      ⟨by show 2 ≤ sizeLine; decide, [.int i tk, y], .cons ⟨_, rfl⟩ (.cons ru .nil), ⟨_, hT2, rfl, _, rfl⟩⟩
    have I1 : Inv X pins σ (upd H s.heap.objs.size (.tup [.int (i : Nat), x])) { s with heap := h'', toks := tk + 1 } :=
      I.turnedNew (ch := [e, it]) (fun b ob hb q => (sb.2 b (fun z => hb (by simp [z]))).trans (hk b ob (fun z => hb (by simp [z])) (fun z => hb (by simp [z])) q)) hf (Nat.le_refl _) hN
    have e1 : ((i + 1 : Nat) : Int) = (i : Int) + 1 := by omega
    refine ⟨.ref s.heap.objs.size, _, I1, rfl, ⟨_, x, rfl, I.hok.fresh (Nat.le_refl _), rfl, fun ys hy => by rw [I.tuple_inj hy hq]; exact hx⟩, ⟨⟨y, by rw [e1]; exact he'⟩, st'.1.at fun o q => (sb.2 it (Ne.symm h1)).trans q⟩, fun b hb => ?_⟩
    have hb' : b ≠ s.heap.objs.size := by
      rcases List.mem_cons.mp hb with z | z
      · rw [z]; exact Nat.ne_of_lt hel
      · rw [List.mem_singleton.mp z]; exact Nat.ne_of_lt hil
    rw [upd_ne hb']
    exact (hf b hb).1
  done := by
    intro X hP hw hK hc i pins s σ H E I hf st hg
    subst hP hw hK
    obtain ⟨⟨old, he⟩, hit⟩ := st
    obtain ⟨xs, hq, hx⟩ := hg
    obtain ⟨its, rv, p, hz⟩ := I.tuple hq
    have p' : s.heap.IsTuple a its.toArray := p
    obtain ⟨f0, f1, f2, f3, f4, f5⟩ := hf it (by simp)
    have hn : i = its.toArray.size := by have := rv.length; simp; omega
    subst hn
    exact wpAny_pyNext_enum_endD (Draws.tuple (A := X.A.in1) (I.ok.hd hc) it a h3 its.toArray) he ⟨hit, p'⟩ fun h' eb => ⟨rfl, I.turned (t' := s.toks) (fun b o hb q => eb b o hb q) f0 f1 f3 f4 f5⟩
  self := fun A i s Q E st h => let ⟨⟨_, he⟩, _⟩ := st; wpAny_pyIter_enum he h
theorem walk_enumT {K : PySem.W.Frag} {a : Addr} {xs : List V} : Walk (Itet K a) xs.length (fun H => SqT K H a xs) (YPair (fun i => some (.int (i : Nat))) (fun i => xs[i]?)) :=
  ⟨fun i _ hi q => ⟨xs, xs[i], q, List.getElem?_eq_getElem hi⟩, fun _ q => ⟨xs, q, rfl⟩, fun i H v H' _ q y => by
    obtain ⟨T, x, k1, k2, k3, k4⟩ := y
    exact ⟨T, .int (i : Nat), x, k1, k2, k3, rfl, k4 xs q⟩⟩
def iEnumT (K : PySem.W.Frag) (ta : TA) : TI := fun σ H R => ta σ H fun vs H1 => ∃ a xs, vs = [.ref a] ∧ SqT K H1 a xs ∧ R (Itet K a) H1
theorem pi_enumT {X : Cx} {e : Expr} {ta : TA} {p pos tpos : Pos} {elts : List Expr} {kk : Nat} (hg : Gl X "enumerate") (hm : X.mg "enumerate" = none) (ha : PA X [e] ta) (hs : starEach [e] X.env = [(false, eval e X.env)] := by rfl) :
    PI X (.Tuple elts kk tpos) (.Call (.Name "enumerate" p) [e] [] pos) (iEnumT X.K ta) := by
  refine ⟨fun pins s σ H R I h => Call_ (ld_blt I hg hm boot_enumerate (PyProof.Rows.callWith_type1 (thn (ha.run pos pins s σ H _ I h) fun us s1 ⟨vs, H1, I1, r1, a, xs, ex, hq, q⟩ => ?_) hs rfl))⟩
  subst ex
  obtain ⟨u, rfl, r⟩ := r1.one
  cases r
  obtain ⟨its, rv, pt, hz⟩ := I1.tuple hq
  have pt' : s1.heap.IsTuple a its.toArray := pt
  have hal : a < s1.heap.objs.size := let ⟨_, e1, _⟩ := pt'; Heap.lt_size e1
  refine EW.callEnumT pt' fun h' he hit hk => wpAny_pyIter_enum he ?_
  have h1 : (s1.heap.objs.size + 1 : Nat) ≠ s1.heap.objs.size := Nat.succ_ne_self _
  refine ⟨s1.heap.objs.size + 1, [s1.heap.objs.size + 1, s1.heap.objs.size], _, _, H1, rfl, I1.kept (t' := s1.toks) hk, turn_enumT a (s1.heap.objs.size + 1) s1.heap.objs.size h1 (Nat.ne_of_gt (Nat.lt_succ_of_lt hal)) (Nat.ne_of_lt hal), ⟨⟨.none, he⟩, hit⟩, fun b hb => ?_, q⟩
  have hle : s1.heap.objs.size ≤ b := by
    rcases List.mem_cons.mp hb with z | z
    · rw [z]; exact Nat.le_succ _
    · rw [List.mem_singleton.mp z]; exact Nat.le_refl _
  exact I1.fpOk hle (I1.hok.fresh hle)
/-! ### len(set(t)), t a tuple of ints -/
def tLenSetT (K : PySem.W.Frag) (ta : TE) : TE := fun σ H Q => ta σ H fun x H1 => ∃ (l : Addr) (ns : List Int), x = V.ref l ∧ SqT K H1 l (ns.map V.int) ∧ ns.length < 64 ∧ ∀ ds : List Int, ds.Nodup → (∀ k, k ∈ ds ↔ k ∈ ns) → Q (.int ds.length) H1
theorem pe_lenSetT {X : Cx} {a : Expr} {ta : TE} {p p2 q pos : Pos} (hc : X.calm = true) (hg : Gl X "len") (hm : X.mg "len" = none) (hg2 : Gl X "set") (hm2 : X.mg "set" = none) (ha : PE X a ta)
    (na : starEach [a] X.env = (false, eval a X.env) :: starEach [] X.env := by rfl) : PE X (.Call (.Name "len" p) [.Call (.Name "set" p2) [a] [] q] [] pos) (tLenSetT X.K ta) := by
  refine ⟨fun pins s σ H Q I h => Call_ (ld_blt I hg hm PySem.boot_len (PyProof.Rows.callWith_builtin1 (PyProof.Rows.args_cons (Call_ (ld_blt I hg2 hm2 PyProof.Rows.boot_set
    (PyProof.Rows.callWith_type1 (PyProof.Rows.args_cons (thn (ha.run pins s σ H _ I h) fun v s1 ⟨x, H1, I1, r1, l, ns, ex, hq, hlt, q1⟩ => PyProof.Rows.args_nil ?_) na) na rfl))) rfl) rfl rfl))⟩
  subst ex
  cases r1
  obtain ⟨its, r, pl, hz⟩ := I1.tuple hq
  refine call_set_tupI ns (I1.ok.hd hc) (show s1.heap.IsTuple l its.toArray from pl) (by simpa using r.ints) (by unfold scanBound; omega) fun h' tk c hS hcl hk => PyProof.Rows.args_nil ?_
  obtain ⟨o, es, ep, t, ho, hex, hd, _, hnd, hmem, _, hf, hn, _⟩ := hS
  have I2 : Inv X pins σ H1 { s1 with heap := h', toks := tk } := I1.kept hk
  have hlen : (es.toList.map L2.keyOf).length = es.size := by rw [List.length_map, Array.length_toList]
  refine call_len_set ho hex hd hf (by rw [hn]; omega) ⟨.int (es.toList.map L2.keyOf).length, H1, I2.tok _, ⟨_, by rw [hlen]⟩, q1 _ hnd fun k => by rw [← hmem k, decide_eq_true_iff]⟩
/-! ### a dict comprehension that is given a name at once -/
section
variable {X : Cx}
theorem dcG_core {pins : List (Addr × Obj)} {s : Shared} {σ : L2.St} {H : Hp} {Q : VK} {o0 : HO} {kx vx tg iter : Expr} {ifs : List Expr} {scope : Scope} {own : List (Str × Nat)} {pos pos' : Pos} {wi : TI} {g : TG} {tt : TT} {tk tv : TE} {use : Option (Value → Sem Unit)} {Qf : Value → Shared → Prop} (n0 : NilD o0) (hu : X.A.units < cLine) (hc : X.calm = true) (hN : X.N.Nodup)
    (I : Inv X pins σ H s) (hi : PI X tg iter wi) (ok : BlkOk X.N X.env.scope scope own)
    (hg : ∀ (s : Shared) (H : Hp) (C : Addr) (cl : List (Str × Addr)) (fp : List Addr), PG (X.blk s H scope (compEnvC scope cl C X.env) fp) tg g) (ht : ∀ (s : Shared) (H : Hp) (C : Addr) (cl : List (Str × Addr)) (fp : List Addr), PTs (X.blk s H scope (compEnvC scope cl C X.env) fp) ifs tt)
    (hk : ∀ (s : Shared) (H : Hp) (C : Addr) (cl : List (Str × Addr)) (fp : List Addr), PE (X.blk s H scope (compEnvC scope cl C X.env) fp) kx tk)
    (hv : ∀ (s : Shared) (H : Hp) (C : Addr) (cl : List (Str × Addr)) (fp : List Addr), PE (X.blk s H scope (compEnvC scope cl C X.env) fp) vx tv) (hs : ∀ x, foldedSetIterable iter X.env x = pure x)
    (h : tDcG o0 wi g tt tk tv (own.map (·.2)) σ H Q)
    (hRR : ∀ D C s' m H', Inv X pins σ H' s' → Q (.ref D) H' → s'.heap.Ns C m → FpOk X pins H' C → compPost (model X.prog X.w) X.A X.xe use Qf (.ref D) C (.ok .next) s') :
    wpAny (model X.prog X.w) X.A (comprehension (.DictComp kx vx [⟨tg, iter, ifs, 0⟩] scope pos) scope X.env pos' newDict false (eval iter X.env) use) Qf X.xe s := by
  have cl : ∀ y ∈ scope.names, y.2 = .free → ∃ c, X.env.cells.lookup y.1 = some c := fun y hy e => (ok.free y hy e).elim (fun k => I.ok.has _ (.inl k)) (fun k => I.ok.has _ (.inr k))
  refine wpAny_comprehension_free (use := use) rfl hs (closure_ok cl) ok.kind (fun y hy e => by rw [ok.uniq y hy, e]) (thn (hi.run pins s σ H _ I h) fun xv s1 hx => thn hx fun itv s2 h2 => ?_)
  obtain ⟨it, fp, tn, J, H2, e, I2, T, st2, f2, q⟩ := h2
  subst e
  refine wpAny_newObj_type (newEnv_comp ?_)
  generalize hD : s2.heap.objs.size = D
  obtain ⟨W, ⟨m0, w0⟩, turn⟩ := q D (I2.hok.fresh (Nat.le_of_eq hD))
  -- the new dict
  have h3 : ∃ s3 : Shared, ({ s2 with heap := s2.heap.push { cls := .type "dict", data := .dict #[] } } : Shared) = s3 := ⟨_, rfl⟩
  obtain ⟨s3, hs3⟩ := h3
  have hh3 : s3.heap = s2.heap.push { cls := .type "dict", data := .dict #[] } := by rw [← hs3]
  have h4 : ∃ H3, upd H2 D o0 = H3 := ⟨_, rfl⟩
  obtain ⟨H3, hH3⟩ := h4
  have I3 : Inv X pins σ H3 s3 := by
    rw [← hs3, ← hH3]
    refine I2.laid (t' := s2.toks) (fun b o e => Heap.get?_push_of_some _ e) (Nat.le_of_eq hD) ?_
    rw [← hD]
    exact n0.ok s2.heap I2.big
  rw [hH3] at w0
  have lt2 : ∀ b ∈ fp, b < s2.heap.objs.size := fun b hb => let ⟨o, e, _⟩ := T.obj _ _ st2 b hb; Heap.lt_size e
  have f3 : ∀ b ∈ fp, FpOk X pins H3 b ∧ b < s3.heap.objs.size := fun b hb => by
    refine ⟨⟨?_, (f2 b hb).2⟩, by rw [hh3, Heap.size_push]; exact Nat.lt_succ_of_lt (lt2 b hb)⟩
    rw [← hH3, upd_ne (by rw [← hD]; exact Nat.ne_of_lt (lt2 b hb))]
    exact (f2 b hb).1
  have I4 := block_start I3 ok hN f3
  rw [hs3]
  show codeAny _ _ (.compStart (.DictComp kx vx [⟨tg, iter, ifs, 0⟩] scope pos) 0 (.ref it) (.ref D) (compEnvC scope (cellsFrom (s3.heap.objs.size + 1) scope.names (cloFrom X.env.cells scope.names [])) s3.heap.objs.size X.env)) (compPost (model X.prog X.w) X.A X.xe use Qf (.ref D) s3.heap.objs.size) { s3 with heap := pushCells (s3.heap.push { cls := .type "dict", data := .dict #[] }) scope.names }
  have pg := hg s3 H3 s3.heap.objs.size (cellsFrom (s3.heap.objs.size + 1) scope.names (cloFrom X.env.cells scope.names [])) fp
  have pt := ht s3 H3 s3.heap.objs.size (cellsFrom (s3.heap.objs.size + 1) scope.names (cloFrom X.env.cells scope.names [])) fp
  have pk := hk s3 H3 s3.heap.objs.size (cellsFrom (s3.heap.objs.size + 1) scope.names (cloFrom X.env.cells scope.names [])) fp
  have pv := hv s3 H3 s3.heap.objs.size (cellsFrom (s3.heap.objs.size + 1) scope.names (cloFrom X.env.cells scope.names [])) fp
  generalize hce : compEnvC scope (cellsFrom (s3.heap.objs.size + 1) scope.names (cloFrom X.env.cells scope.names [])) s3.heap.objs.size X.env = ce at I4 pg pt pk pv ⊢
  have cL : ce.locals = s3.heap.objs.size := by rw [← hce]; rfl
  have st4 : tn 0 (pushCells (s3.heap.push { cls := .type "dict", data := .dict #[] }) scope.names) := T.keep _ _ _ st2 fun b _ o e => pushCells_keeps _ _ _ _ (Heap.get?_push_of_some _ (by rw [hh3]; exact Heap.get?_push_of_some _ e))
  generalize hs4 : ({ s3 with heap := pushCells (s3.heap.push { cls := .type "dict", data := .dict #[] }) scope.names } : Shared) = s4 at I4 ⊢
  have st4' : tn 0 s4.heap := by rw [← hs4]; exact st4
  have stat : ∀ {σ' : L2.St} {H' : Hp} {s' : Shared}, Inv (X.blk s3 H3 scope ce fp) [] σ' H' s' → (∀ b ∈ fp, H' b = none) → ∀ b ∈ fp, FpOk (X.blk s3 H3 scope ce fp) [] H' b := fun I' hn b hb =>
    ⟨hn b hb, (I'.ok.exf b hb).1, I'.ok.exfs b hb, .inl hb, fun x c e => (I'.ok.exf b hb).2 x c e, fun p hp => by cases hp⟩
  have loop : codeAny (model X.prog X.w) X.A (.compLoop (.DictComp kx vx [⟨tg, iter, ifs, 0⟩] scope pos) 0 (.ref it) (.ref D) ce) (compPost (model X.prog X.w) X.A X.xe use Qf (.ref D) s3.heap.objs.size) s4 := by
    refine compLoop_anyD (fun n s' => ∃ i H', Inv (X.blk s3 H3 scope ce fp) [] (wipe σ (own.map (·.2))) H' s' ∧ tn i s'.heap ∧ (∀ b ∈ fp, H' b = none) ∧ W i n H') ?_ m0 ⟨0, H3, I4, st4', fun b hb => (f3 b hb).1.1, w0⟩
    rintro n s5 ⟨i, H5, I5, st5, n5, w5⟩
    rcases turn i n H5 w5 with ⟨stop, qq⟩ | ⟨go, Nx, hNx, step⟩
    · refine thnF (T.done (X.blk s3 H3 scope ce fp) rfl rfl rfl hc i [] s5 _ H5 (fun _ _ => False) I5 (stat I5 n5) st5 stop) fun r s6 ⟨hr, I6⟩ => ?_
      subst hr
      have I7 : Inv X pins σ H5 s6 := I3.call' (ch := fp) I6.os I6.base I6.hok I6.bare fun b hb => ⟨(f3 b hb).1.2.2.2.1, (f3 b hb).1.2.1, (f3 b hb).1.2.2.2.2.1, (f3 b hb).1.2.2.2.2.2⟩
      have nC : H5 s3.heap.objs.size = none := by rw [← cL]; exact I6.free
      obtain ⟨m, hn, _⟩ := I6.loc
      exact hRR D s3.heap.objs.size s6 m H5 I7 qq (by rw [← cL]; exact hn) (I3.fpOk (Nat.le_refl _) nC)
    · refine thnF (T.item (X.blk s3 H3 scope ce fp) rfl rfl rfl hc i [] s5 _ H5 (fun _ _ => False) I5 (stat I5 n5) st5 go) fun r s6 ⟨u, hr, h6⟩ => ?_
      subst hr
      refine thnF h6 fun _ s7 ⟨x, H7, I7, r7, y7, st7, n7⟩ => ?_
      refine thnF (pg.run _ s7 _ H7 x u _ (I7.pinned (stat I7 n7) (T.obj _ _ st7)) r7 (step x H7 y7)) fun _ s8 ⟨σ8, H8, I8, hw8, q8⟩ => ?_
      refine thnF (pt.run _ s8 σ8 H8 _ I8 q8) fun b s9 ⟨H9, I9, q9⟩ => ?_
      have fin : ∀ {s' : Shared} {H' : Hp}, Inv (X.blk s3 H3 scope ce fp) ([] ++ pinsAt fp s7.heap) σ8 H' s' → Nx H' → ∃ m, m < n ∧ ∃ i H', Inv (X.blk s3 H3 scope ce fp) [] (wipe σ (own.map (·.2))) H' s' ∧ tn i s'.heap ∧ (∀ b ∈ fp, H' b = none) ∧ W i m H' := fun {s' H'} I' nx => by
        obtain ⟨m', hm, w'⟩ := hNx H' nx
        have pin' : ∀ b ∈ fp, ∀ o, s7.heap.get? b = some o → s'.heap.get? b = some o ∧ H' b = none := fun b hb o e =>
          let z := I'.pin (b, o) (List.mem_append_right _ (List.mem_append_right _ (mem_pinsAt hb e)))
          ⟨z.1, z.2.1⟩
        refine ⟨m', hm, i + 1, H', (I'.unpinned (pins := [])).weak (by rw [← hw8, wipe_length]) (fun j v e => (wipe_some (by rw [hw8]; exact e)).1), T.keep _ _ _ st7 fun b hb o e => (pin' b hb o e).1, fun b hb => ?_, w'⟩
        obtain ⟨o, e, _⟩ := T.obj _ _ st7 b hb
        exact (pin' b hb o e).2
      cases b with
      | false => exact fin I9 q9
      | true =>
        refine thnF (pk.run _ s9 σ8 H9 _ I9 q9) fun z s10 ⟨yk, H10, I10, r10, q10⟩ => ?_
        refine thnF (pv.run _ s10 σ8 H10 _ I10 q10) fun z2 s11 ⟨yv, H11, I11, r11, H12, dp, nx⟩ => ?_
        exact put_by (X := X.blk s3 H3 scope ce fp) hu I11 dp r10 r11 fun s12 I12 => fin I12 nx
  exact codeAny_compStart_dict loop (T.self X.A 0 _ _ _ st4' loop)
theorem ps_setDcG {i : Nat} {y : Str} {py : Pos} {o0 : HO} {kx vx tg iter : Expr} {ifs : List Expr} {scope : Scope} {own : List (Str × Nat)} {pos spos : Pos} {wi : TI} {g : TG} {tt : TT} {tk tv : TE} (n0 : NilD o0) (hu : X.A.units < cLine) (hc : X.calm = true) (hN : X.N.Nodup) (hy : X.N[i]? = some y) (hyl : X.env.scope.names.lookup y = some .local)
    (hsw : swapsWith (.DictComp kx vx [⟨tg, iter, ifs, 0⟩] scope pos) (some (.Name y py)) spos.line X.env = pure true) (hi : PI X tg iter wi) (ok : BlkOk X.N X.env.scope scope own)
    (hg : ∀ (s : Shared) (H : Hp) (C : Addr) (cl : List (Str × Addr)) (fp : List Addr), PG (X.blk s H scope (compEnvC scope cl C X.env) fp) tg g) (ht : ∀ (s : Shared) (H : Hp) (C : Addr) (cl : List (Str × Addr)) (fp : List Addr), PTs (X.blk s H scope (compEnvC scope cl C X.env) fp) ifs tt)
    (hk : ∀ (s : Shared) (H : Hp) (C : Addr) (cl : List (Str × Addr)) (fp : List Addr), PE (X.blk s H scope (compEnvC scope cl C X.env) fp) kx tk)
    (hv : ∀ (s : Shared) (H : Hp) (C : Addr) (cl : List (Str × Addr)) (fp : List Addr), PE (X.blk s H scope (compEnvC scope cl C X.env) fp) vx tv) (hs : ∀ x, foldedSetIterable iter X.env x = pure x := by intro _; rfl) :
    PS X (.Assign [.Name y py] (.DictComp kx vx [⟨tg, iter, ifs, 0⟩] scope pos) spos) (tAsg (tDcG o0 wi g tt tk tv (own.map (·.2))) (gName i)) := by
  refine ⟨fun pins s σ H D I h => ?_⟩
  rw [exec_Assign_Name_used _ _ _ _ hsw]
  refine wpAny_bind (wpAny_standAt (wpAny_bind ?_))
  show wpAny _ X.A (do let _ ← comprehension (.DictComp kx vx [⟨tg, iter, ifs, 0⟩] scope pos) scope X.env (firstIterPos [⟨tg, iter, ifs, 0⟩] pos) newDict false (eval iter X.env) (some (assign (.Name y py) X.env))) _ _ s
  have hh : tDcG o0 wi g tt tk tv (own.map (·.2)) σ H (fun x H1 => gName i x σ H1 D.nx) := h
  refine wpAny_bind (thn (dcG_core (Qf := fun _ s' => SP X pins D .next s') n0 hu hc hN I hi ok hg ht hk hv hs hh fun L C s' m H' J' q hn f => ?_) fun _ s' hq => wpAny_pure (wpAny_pure hq))
  obtain ⟨f0, f1, f2, f3, f4, f5⟩ := f
  refine wpAny_assign_Name (store_ok2 (v := V.ref L) J' hN hy (.inl hyl) rfl (fun s2 I2 ⟨a, sb, ha⟩ => ⟨m, hn.sameBut sb (ha.elim (fun z => by rw [z]; exact f1) fun z e => f4 y a z e.symm), fun h3 sb3 => ?_⟩) (.inr hyl))
  exact ⟨_, H', I2.turned (t' := s2.toks) (fun b o hb e => (sb3.2 b hb).trans e) f0 f1 f3 f4 f5, q⟩
theorem swD_true {kx vx : Expr} {gs : List Comprehension} {scope : Scope} {pos py : Pos} {y : Str} {l : Nat} {env : Env} (hkind : env.scope.kind = .function) (hloc : env.scope.names.lookup y = some .local) (hline : (py.line == pos.line) = true)
    (hany : (scope.names.any fun (n, k) => n == y && (k == .local || k == .cell)) = false) : swapsWith (.DictComp kx vx gs scope pos) (some (.Name y py)) l env = pure true := by
  have e1 : env.kindOf y = some .local := hloc
  have e2 : env.blockKind = .function := by unfold Env.blockKind; rw [hkind]; rfl
  unfold swapsWith
  simp only [e2, e1, hany, Expr.pos, hline]
  rfl
end
/-! ### parts and sums of tuples, whatever they are -/
section
variable {K : PySem.W.Frag} {H : Hp} {a b : Addr} {xs ys : List V} {Q : VK}
theorem cut_from (xs : List V) (c : Nat) : cutV xs (some (c : Int)) none = xs.drop c := by
  unfold cutV
  rw [HT.sIx_none, HT.sIx_nat]
  by_cases h : c ≤ xs.length
  · rw [Nat.min_eq_left h, List.take_of_length_le (by rw [List.length_drop]; exact Nat.le_refl _)]
  · rw [Nat.min_eq_right (by omega), List.drop_length, List.drop_of_length_le (by omega), List.take_nil]
theorem cut_to (xs : List V) (c : Nat) : cutV xs none (some (c : Int)) = xs.take c := by
  unfold cutV
  rw [HT.sIx_none, HT.sIx_nat, List.drop_zero, Nat.sub_zero]
  by_cases h : c ≤ xs.length
  · rw [Nat.min_eq_left h]
  · rw [Nat.min_eq_right (by omega), List.take_length, List.take_of_length_le (by omega)]
theorem slA_from {c : Nat} (h : SqT K H a xs) (q : ∀ p H', Same H H' → SqT K H' p (xs.drop c) → Q (.ref p) H') : rSlA K (.ref a) (some (c : Int)) none H Q := by
  refine ⟨a, xs, rfl, h, fun w => q a H (.refl _) ?_, fun _ p np => q p _ (same_upd np) (SqT.of (by rw [upd_same, cut_from]))⟩
  have w := w.1
  rw [HT.sIx_nat] at w
  by_cases e : c = 0
  · rw [e, List.drop_zero]; exact h
  · have e2 : xs = [] := List.eq_nil_of_length_eq_zero (by omega)
    subst e2
    rw [List.drop_nil]
    exact h
theorem slA_to {c : Nat} (h : SqT K H a xs) (q : ∀ p H', Same H H' → SqT K H' p (xs.take c) → Q (.ref p) H') : rSlA K (.ref a) none (some (c : Int)) H Q := by
  refine ⟨a, xs, rfl, h, fun w => q a H (.refl _) ?_, fun _ p np => q p _ (same_upd np) (SqT.of (by rw [upd_same, cut_to]))⟩
  have w := w.2
  rw [HT.sIx_nat] at w
  rw [List.take_of_length_le (by omega)]
  exact h
theorem catA_of (ha : SqT K H a xs) (hb : SqT K H b ys) (hl : xs.length + ys.length ≤ sizeLine) (q : ∀ p H', Same H H' → SqT K H' p (xs ++ ys) → Q (.ref p) H') : rCatA K (.ref a) (.ref b) H Q :=
  ⟨a, b, xs, ys, rfl, rfl, ha, hb, hl, fun e => q b H (.refl _) (by rw [e]; exact hb), fun _ e => q a H (.refl _) (by rw [e, List.append_nil]; exact ha), fun _ _ p np => q p _ (same_upd np) (SqT.of upd_same)⟩
end
end EL
namespace EL
open PySem PySem.Spec PyProof.Rows L2 He TL
/-! ### dicts whose keys are rows: tuples of pairs of ints -/
abbrev Rw := List (Int × Int)
def nkV (v : Int × Int) : NestedKey := .tup [.num v.1, .num v.2]
def nk (r : Rw) : NestedKey := .tup (r.map nkV)
abbrev vpD (v : Int × Int) : PyData := .tuple [.int v.1, .int v.2]
abbrev rwD (r : Rw) : PyData := .tuple (r.map vpD)
theorem nkVs_inj : ∀ {a b : Rw}, a.map nkV = b.map nkV → a = b
  | [], [], _ => rfl
  | [], _ :: _, h => by cases h
  | _ :: _, [], h => by cases h
  | (x, y) :: r, (u, v) :: t, h => by
    rw [List.map_cons, List.map_cons] at h
    injection h with h1 h2
    have h1 : NestedKey.tup [.num x, .num y] = .tup [.num u, .num v] := h1
    injection h1 with h1
    injection h1 with h3 h4
    injection h4 with h5 _
    injection h3 with h3
    injection h5 with h5
    rw [h3, h5, nkVs_inj h2]
theorem nk_inj {a b : Rw} (h : nk a = nk b) : a = b := nkVs_inj (by unfold nk at h; injection h)
theorem nk_hashes (w w' : World) : ∀ r : Rw, NestedKey.hashes w (r.map nkV) = NestedKey.hashes w' (r.map nkV)
  | [] => rfl
  | v :: r => by
    show NestedKey.hash w (nkV v) :: NestedKey.hashes w (r.map nkV) = NestedKey.hash w' (nkV v) :: NestedKey.hashes w' (r.map nkV)
    rw [nk_hashes w w' r]
    rfl
theorem nk_hash (w w' : World) (r : Rw) : (nk r).hash w = (nk r).hash w' := by
  show reduceHash (Builtin.Tuple.tupleHashOf (NestedKey.hashes w (r.map nkV))) = reduceHash (Builtin.Tuple.tupleHashOf (NestedKey.hashes w' (r.map nkV)))
  rw [nk_hashes w w' r]
theorem nk_depths : ∀ r : Rw, NestedKey.depthAll (r.map nkV) ≤ 1
  | [] => Nat.zero_le _
  | v :: r => Nat.max_le.mpr ⟨Nat.le_refl _, nk_depths r⟩
theorem nk_depth (r : Rw) : (nk r).depth ≤ 8 := by
  show NestedKey.depthAll (r.map nkV) + 1 ≤ 8
  have := nk_depths r
  omega
theorem rwD_nls : ∀ r : Rw, noLs (r.map vpD) = true
  | [] => rfl
  | _ :: r => Bool.and_eq_true_iff.mpr ⟨rfl, rwD_nls r⟩
theorem rwD_nl (r : Rw) : noL (rwD r) = true := rwD_nls r
section
variable {X : Cx} {pins : List (Addr × Obj)} {σ : L2.St} {H : Hp} {s : Shared}
theorem is_val (I : Inv X pins σ H s) {v : V} {u : Value} {x : Int × Int} (h : Dp X.K H v (vpD x)) (r : RelV v u) : NestedIs s.heap (nkV x) u := by
  cases h with
  | tup q a =>
    cases a with
    | cons a1 a2 =>
      cases a2 with
      | cons b1 b2 =>
        cases b2
        cases a1
        cases b1
        cases r
        obtain ⟨its, rv, ⟨o, e1, e2, n, e3⟩, hz⟩ := I.tuple q
        cases rv with
        | cons r1 rr =>
          cases rr with
          | cons r2 rr =>
            cases rr
            obtain ⟨t1, rfl⟩ := r1
            obtain ⟨t2, rfl⟩ := r2
            exact .tup e1 e2 e3 (.cons (.int _ _) (.cons (.int _ _) .nil))
theorem is_vals (I : Inv X pins σ H s) : ∀ {r : Rw} {vs : List V} {us : List Value}, DpAll X.K H vs (r.map vpD) → Vals vs us → NestedAll s.heap (r.map nkV) us
  | [], _, _, h, rv => by
    cases h
    cases rv
    exact .nil
  | x :: r, _, _, h, rv => by
    rw [List.map_cons] at h
    cases h with
    | cons a b =>
      cases rv with
      | cons r1 rr => exact .cons (is_val I a r1) (is_vals I b rr)
theorem is_row (I : Inv X pins σ H s) {p : Addr} {r : Rw} (h : Dp X.K H (.ref p) (rwD r)) : NestedIs s.heap (nk r) (.ref p) := by
  cases h with
  | tup q a =>
    obtain ⟨its, rv, ⟨o, e1, e2, n, e3⟩, hz⟩ := I.tuple q
    exact .tup e1 e2 e3 (by simpa using is_vals I a rv)
end
abbrev KNs (K : PySem.W.Frag) (H : Hp) : List (Rw × V) → List (NestedKey × Addr × Value) → Prop := Paired fun p x => x.1 = nk p.1 ∧ Dp K H (.ref x.2.1) (rwD p.1) ∧ RelV p.2 x.2.2
section
variable {K : PySem.W.Frag} {H H' : Hp} {kvs : List (Rw × V)} {xs : List (NestedKey × Addr × Value)}
theorem KNs.val (r : KNs K H kvs xs) (k : Rw) : RelO (valV kvs k) ((atKey xs (nk k)).map (·.2)) := by
  induction r with
  | nil => exact True.intro
  | @cons p q ps qs h t ih =>
    obtain ⟨h1, _, h2⟩ := h
    by_cases e : p.1 = k
    · have e' : q.1 = nk k := by rw [h1, e]
      have b : atKey (q :: qs) (nk k) = some q.2 := by simp [atKey, List.find?_cons, e']
      rw [valV_pos e, b]; exact h2
    · have e' : ¬ q.1 = nk k := fun z => e (nk_inj (h1.symm.trans z))
      have b : atKey (q :: qs) (nk k) = atKey qs (nk k) := by simp [atKey, List.find?_cons, e']
      rw [valV_neg e, b]; exact ih
theorem KNs.repl (r : KNs K H kvs xs) (k : Rw) {y : V} {u : Value} (ry : RelV y u) : KNs K H (kvs.map fun kv => if kv.1 = k then (kv.1, y) else kv) (xs.map (putAt (nk k) u)) := by
  induction r with
  | nil => exact .nil
  | @cons p q ps qs h t ih =>
    rw [List.map_cons, List.map_cons]
    refine .cons ?_ ih
    obtain ⟨h1, h2, h3⟩ := h
    unfold putAt
    by_cases e : p.1 = k
    · rw [if_pos e, if_pos (by rw [h1, e])]; exact ⟨h1, h2, ry⟩
    · rw [if_neg e, if_neg (fun z => e (nk_inj (h1.symm.trans z)))]; exact ⟨h1, h2, h3⟩
theorem KNs.put (r : KNs K H kvs xs) (k : Rw) {b : Addr} {y : V} {u : Value} (hb : Dp K H (.ref b) (rwD k)) (ry : RelV y u) : KNs K H (putK kvs k y) (storedH xs (nk k) b u) := by
  have e : (kvs.any fun kv => decide (kv.1 = k)) = (atKey xs (nk k)).isSome := by
    rw [valV_any, (r.val k).isSome_eq, Option.isSome_map]
  unfold putK storedH
  rw [e]
  by_cases q : (atKey xs (nk k)).isSome = true
  · rw [if_pos q, if_pos q]; exact r.repl k ry
  · rw [if_neg q, if_neg q]; exact Paired.snoc r ⟨rfl, hb, ry⟩
theorem KNs.md {S : List Addr} (r : KNs K H kvs xs) (m : Md S H H') : KNs K H' kvs xs := Paired.mapP r fun p _ z => ⟨z.1, Md.dp m (rwD_nl p.1) z.2.1, z.2.2⟩
theorem KNs.dps (r : KNs K H kvs xs) : DpAll K H (xs.map fun x => V.ref x.2.1) (kvs.map fun p => rwD p.1) := by
  induction r with
  | nil => exact .nil
  | cons h t ih => exact .cons h.2.1 ih
end
def entN (w0 : World) (x : NestedKey × Addr × Value) : DictEntry := ⟨x.1.hash w0, .ref x.2.1, x.2.2⟩
def dNφ (a : Addr) (xs : List (NestedKey × Addr × Value)) (h : Heap) : Prop := (xs.length ≤ sizeLine ∧ (a == sysModules) = false) ∧
  ∃ (w0 : World) (o : Obj) (es : Array DictEntry) (ep : Nat), h.get? a = some o ∧ o.ExactDict ∧ o.data = .dict es ep ∧ es.toList = xs.map (entN w0) ∧ (xs.map (·.1)).Nodup
/-- a dict with such keys: its entries -/
def dN (a : Addr) (xs : List (NestedKey × Addr × Value)) : HO := .ext (dNφ a xs)
theorem dN_ok {P : Program} {w : World} {H : Hp} {h : Heap} {a : Addr} {xs : List (NestedKey × Addr × Value)} (x : dNφ a xs h) : ObjOk P w H h a (dN a xs) := by
  refine ⟨x, ?_, fun h1 h2 p k => ?_⟩
  · obtain ⟨_, _, o, _, _, e, _⟩ := x
    exact ⟨o, e⟩
  · obtain ⟨z, w0, o, es, ep, e, r⟩ := p
    exact ⟨z, w0, o, es, ep, k o e, r⟩
theorem dN_of {P : Program} {w : World} {h : Heap} {a : Addr} {xs : List (NestedKey × Addr × Value)} (z : xs.length ≤ sizeLine) (hd : (a == sysModules) = false) (x : h.DictOfH (nestedKind P w) a xs) : dNφ a xs h := by
  obtain ⟨o, es, ep, h1, h2, h3, h4, _, h5⟩ := x
  exact ⟨⟨z, hd⟩, w, o, es, ep, h1, h2, h3, h4, h5⟩
/-- the dict at a has the rows kvs as keys, in this order -/
def KD (K : PySem.W.Frag) (H : Hp) (a : Addr) (kvs : List (Rw × V)) : Prop := ∃ xs, H a = some (dN a xs) ∧ KNs K H kvs xs
def KDr (K : PySem.W.Frag) (H : Hp) (a : Addr) (kvs : List (Rw × V)) : Prop := ∃ xs, Rd H a (dN a xs) ∧ KNs K H kvs xs
theorem KD.r {K : PySem.W.Frag} {H : Hp} {a : Addr} {kvs : List (Rw × V)} (h : KD K H a kvs) : KDr K H a kvs := let ⟨xs, e, r⟩ := h; ⟨xs, .inl e, r⟩
theorem KD.md {K : PySem.W.Frag} {H H' : Hp} {S : List Addr} {a : Addr} {kvs : List (Rw × V)} (h : KD K H a kvs) (m : Md S H H') (n : a ∉ S) : KD K H' a kvs := let ⟨xs, e, r⟩ := h; ⟨xs, m.out _ _ e n, r.md m⟩
theorem KD.at {K : PySem.W.Frag} {H H' : Hp} {S : List Addr} {a : Addr} {kvs : List (Rw × V)} (h : KD K H a kvs) (m : Md S H H') (e : H' a = H a) : KD K H' a kvs := let ⟨xs, e1, r⟩ := h; ⟨xs, e.trans e1, r.md m⟩
theorem KD.new {K : PySem.W.Frag} {H : Hp} {a : Addr} (e : H a = some (dN a [])) : KD K H a [] := ⟨[], e, .nil⟩
section
variable {X : Cx} {pins : List (Addr × Obj)} {σ : L2.St} {H : Hp} {s : Shared} {a : Addr} {kvs : List (Rw × V)} {xs : List (NestedKey × Addr × Value)}
theorem kn_of (I : Inv X pins σ H s) (e : Rd H a (dN a xs)) (r : KNs X.K H kvs xs) : xs.length ≤ sizeLine ∧ (a == sysModules) = false ∧ ∀ (P : Program) (w : World), s.heap.DictOfH (nestedKind P w) a xs := by
  obtain ⟨⟨⟨z, hd⟩, w0, o, es, ep, h1, h2, h3, h4, h5⟩, st⟩ := (show ObjOk X.prog X.w H s.heap a (dN a xs) from e.ok I.hok)
  clear st
  refine ⟨z, hd, fun P w => ⟨o, es, ep, h1, h2, h3, ?_, ?_, h5⟩⟩
  · rw [h4]
    clear h4 h5 z e
    induction r with
    | nil => rfl
    | @cons p q ps qs h t ih =>
      rw [List.map_cons, List.map_cons, ih]
      congr 1
      show (⟨q.1.hash w0, .ref q.2.1, q.2.2⟩ : DictEntry) = ⟨q.1.hash w, .ref q.2.1, q.2.2⟩
      rw [h.1, nk_hash w0 w p.1]
  · clear h4 h5 z e
    induction r with
    | nil => intro x hx; cases hx
    | @cons p q ps qs h t ih =>
      intro x hx
      rcases List.mem_cons.mp hx with hx | hx
      · subst hx
        exact ⟨by rw [h.1]; exact is_row I h.2.1, by rw [h.1]; exact nk_depth _⟩
      · exact ih x hx
theorem kn_len (r : KNs X.K H kvs xs) : kvs.length = xs.length := Paired.length r
theorem key_is (I : Inv X pins σ H s) {P : Program} {w : World} {b : Addr} {k : Rw} (h : Dp X.K H (.ref b) (rwD k)) : (nestedKind P w).is s.heap (nk k) b := ⟨is_row I h, nk_depth k⟩
/-- d[y] -/
theorem n_getItem {A : Around} {E : Value → Shared → Prop} {b : Addr} {k : Rw} {v : V} {Q : Value → Shared → Prop} (hu : A.units + 9 < cLine) (I : Inv X pins σ H s) (g : KDr X.K H a kvs) (hb : Dp X.K H (.ref b) (rwD k)) (l : valV kvs k = some v) (h : ∀ w' s', Inv X pins σ H s' → RelV v w' → Q w' s') :
    wpAny (model X.prog X.w) A (getItem (.ref a) (.ref b)) Q E s := by
  obtain ⟨xs, e, r⟩ := g
  obtain ⟨z, hd, dd⟩ := kn_of I e r
  obtain ⟨w', hw, rw'⟩ := RelO.some_of (v := v) (o := (atKey xs (nk k)).map (·.2)) (by rw [← l]; exact r.val k)
  obtain ⟨p, hp, hp2⟩ := Option.map_eq_some_iff.mp hw
  refine wpAny_getItem_heap (knd := nestedKind X.prog X.w) (show A.units + 1 + 8 < cLine by omega) (key_is I hb) (dd _ _) hp ?_
  rw [hp2]
  exact h w' _ (I.tok _) rw'
/-- y in d -/
theorem n_in {A : Around} {E : Value → Shared → Prop} {b : Addr} {k : Rw} {Q : Value → Shared → Prop} (hu : A.units + 9 < cLine) (I : Inv X pins σ H s) (g : KDr X.K H a kvs) (hb : Dp X.K H (.ref b) (rwD k)) (h : ∀ s', Inv X pins σ H s' → Q (.bool (valV kvs k).isSome) s') :
    wpAny (model X.prog X.w) A (compareOp .In (.ref b) (.ref a)) Q E s := by
  obtain ⟨xs, e, r⟩ := g
  obtain ⟨z, hd, dd⟩ := kn_of I e r
  refine wpAny_in_heap (knd := nestedKind X.prog X.w) (show A.units + 1 + 8 < cLine by omega) (key_is I hb) hd (dd _ _) ?_
  have q := (r.val k).isSome_eq
  rw [Option.isSome_map] at q
  rw [← q]
  exact h _ (I.tok _)
theorem n_put {h' : Heap} {t' : Nat} {b : Addr} {k : Rw} {v : V} {u : Value} (I : Inv X pins σ H s) (e : H a = some (dN a xs)) (r : KNs X.K H kvs xs) (z : xs.length < sizeLine) (hd : (a == sysModules) = false) (hb : Dp X.K H (.ref b) (rwD k)) (rv : RelV v u)
    (d' : h'.DictOfH (nestedKind X.prog X.w) a (storedH xs (nk k) b u)) (hs : Heap.SameBut a s.heap h') :
    Inv X pins σ (upd H a (dN a (storedH xs (nk k) b u))) { s with heap := h', toks := t' } ∧ KNs X.K (upd H a (dN a (storedH xs (nk k) b u))) (putK kvs k v) (storedH xs (nk k) b u) := by
  have lz : (storedH xs (nk k) b u).length ≤ sizeLine := by
    have h1 := length_putK kvs k v
    have h2 : (putK kvs k v).length = (storedH xs (nk k) b u).length := Paired.length (r.put k hb rv)
    have h3 : kvs.length = xs.length := Paired.length r
    omega
  obtain ⟨o, es, ep, ho, _⟩ := id d'
  exact ⟨d_write I (by rw [e]; trivial) hs ⟨o, ho⟩ (dN_ok (dN_of lz hd d')), (r.put k hb rv).md (Md.upd (S := [a]) e rfl (List.mem_singleton.mpr rfl))⟩
end
/-- the heap behind d[row] = v -/
def NPut (K : PySem.W.Frag) (H : Hp) (a : Addr) (y v : V) (R : Hp → Prop) : Prop := ∃ kvs xs k b, H a = some (dN a xs) ∧ KNs K H kvs xs ∧ y = .ref b ∧ Dp K H (.ref b) (rwD k) ∧ kvs.length < sizeLine ∧
  ∀ ys, KNs K (upd H a (dN a ys)) (putK kvs k v) ys → R (upd H a (dN a ys))
section
variable {X : Cx} {pins : List (Addr × Obj)} {σ : L2.St} {H : Hp} {s : Shared} {a : Addr} {y v : V} {u r : Value} {A : Around} {E : Value → Shared → Prop} {R : Hp → Prop}
theorem n_setItem {Q : Unit → Shared → Prop} (hu : A.units + 9 < cLine) (I : Inv X pins σ H s) (g : NPut X.K H a y v R) (ry : RelV y u) (rv : RelV v r) (h : ∀ H' s', Inv X pins σ H' s' → R H' → Q () s') : wpAny (model X.prog X.w) A (setItem (.ref a) u r) Q E s := by
  obtain ⟨kvs, xs, k, b, e, rel, rfl, hb, hl, q⟩ := g
  cases ry
  obtain ⟨z, hd, dd⟩ := kn_of I (.inl e) rel
  have hxl : kvs.length = xs.length := Paired.length rel
  refine wpAny_setItem_heap (knd := nestedKind X.prog X.w) (hsz := z) (show A.units + 1 + 8 < cLine by omega) (key_is I hb) (dd _ _) fun h' d' hs => ?_
  obtain ⟨I', r'⟩ := n_put (t' := s.toks + (nestedKind X.prog X.w).draws (nk k)) I e rel (by omega) hd hb rv d' hs
  exact h _ _ I' (q _ r')
theorem n_dictSet {Q : Unit → Shared → Prop} (hu : A.units + 9 < cLine) (I : Inv X pins σ H s) (g : NPut X.K H a y v R) (ry : RelV y u) (rv : RelV v r) (h : ∀ H' s', Inv X pins σ H' s' → R H' → Q () s') : wpAny (model X.prog X.w) A (dictSet a u r) Q E s := by
  obtain ⟨kvs, xs, k, b, e, rel, rfl, hb, hl, q⟩ := g
  cases ry
  obtain ⟨z, hd, dd⟩ := kn_of I (.inl e) rel
  have hxl : kvs.length = xs.length := Paired.length rel
  refine wpAny_dictSet_heap (knd := nestedKind X.prog X.w) (hsz := z) (show A.units + 8 < cLine by omega) (key_is I hb) (dd _ _) fun h' d' hs => ?_
  obtain ⟨I', r'⟩ := n_put (t' := s.toks + (nestedKind X.prog X.w).draws (nk k)) I e rel (by omega) hd hb rv d' hs
  exact h _ _ I' (q _ r')
end
/-! the rules -/
def tDInN (K : PySem.W.Frag) (ty td : TE) : TE := fun σ H Q => ty σ H fun y H1 => td σ H1 fun x H2 => ∃ a b kvs k, x = .ref a ∧ y = .ref b ∧ KDr K H2 a kvs ∧ Dp K H2 (.ref b) (rwD k) ∧ Q (.bl (valV kvs k).isSome) H2
def tDGetN (K : PySem.W.Frag) (td ty : TE) : TE := fun σ H Q => td σ H fun x H1 => ty σ H1 fun y H2 => ∃ a b kvs k v, x = .ref a ∧ y = .ref b ∧ KDr K H2 a kvs ∧ Dp K H2 (.ref b) (rwD k) ∧ valV kvs k = some v ∧ Q v H2
def sDPutN (K : PySem.W.Frag) (td ty tv : TE) : TS := fun D σ H => tv σ H fun v H1 => td σ H1 fun x H2 => ty σ H2 fun y H3 => ∃ a, x = .ref a ∧ NPut K H3 a y v (D.nx σ)
/-- {}, to be such a dict -/
def tDNewN : TE := fun _ H Q => ∀ p, H p = none → Q (.ref p) (upd H p (dN p []))
theorem dn_empty {P : Program} {w : World} {H : Hp} (h : Heap) (hb : sysModules < h.objs.size) (w0 : World) : ObjOk P w H (h.push { cls := .type "dict", data := .dict #[] }) h.objs.size (dN h.objs.size []) :=
  dN_ok ⟨⟨Nat.zero_le _, beq_eq_false_iff_ne.mpr (Ne.symm (Nat.ne_of_lt hb))⟩, w0, _, #[], 0, Heap.get?_push_size _ rfl, ⟨rfl, rfl, rfl⟩, rfl, rfl, List.nodup_nil⟩
section
variable {X : Cx} {o i value : Expr} {pos pos' : Pos} {td ty tv : TE}
theorem pc_dinN (hu : X.A.units + 9 < cLine) (hi : PE X i ty) (ho : PE X o td) : PC X .In i o (tDInN X.K ty td) := by
  refine ⟨fun pins s σ H Q I h => ?_⟩
  refine thn (hi.run pins s σ H _ I h) fun iv s1 ⟨y, H1, I1, ry, q1⟩ => thn (ho.run pins s1 σ H1 _ I1 q1) fun u s2 ⟨x, H2, I2, rx, a, b, kvs, k, ex, ey, g, hb, q2⟩ => ?_
  subst ex ey
  cases rx
  cases ry
  exact n_in hu I2 g hb fun s3 I3 => ⟨.bl _, H2, I3, rfl, q2⟩
theorem ps_dputN (hu : X.A.units + 9 < cLine) (ho : PE X o td) (hi : PE X i ty) (hv : PE X value tv) (hs : swapsWith value (some (.Subscript o i pos')) pos.line X.env = pure false) :
    PS X (.Assign [.Subscript o i pos'] value pos) (sDPutN X.K td ty tv) := by
  refine ⟨fun pins s σ H D I h => ?_⟩
  refine wpAny_Assign_Subscript (thn (hv.run pins s σ H _ I h) fun r s1 ⟨v, H1, I1, rv, q1⟩ => thn (ho.run pins s1 σ H1 _ I1 q1) fun u s2 ⟨x, H2, I2, rx, q2⟩ => thn (hi.run pins s2 σ H2 _ I2 q2) fun iv s3 ⟨y, H3, I3, ry, a, ex, g⟩ => ?_) hs
  subst ex
  cases rx
  exact n_setItem hu I3 g ry rv fun H4 s4 I4 q => ⟨σ, H4, I4, q⟩
theorem pe_dnewN : PE X (.Dict [] [] pos) tDNewN := ⟨fun pins s σ H Q I h => by
  have I2 := I.laid (a := s.heap.objs.size) (t' := s.toks) (fun b o e => Heap.get?_push_of_some { cls := .type "dict", data := .dict #[] } e) (Nat.le_refl _) (dn_empty (P := X.prog) (w := X.w) s.heap I.big X.w)
  exact wpAny_Dict_empty ⟨.ref s.heap.objs.size, _, I2, rfl, h _ (I.hok.fresh (Nat.le_refl _))⟩⟩
end
end EL
namespace EL
open PySem PySem.Spec PyProof.Rows L2 He TL
/-! ### dict comprehensions with such keys -/
section
variable {X : Cx}
abbrev DnStep (K : PySem.W.Frag) (g : TG) (tt : TT) (tk tv : TE) (vs : List Nat) (σ : L2.St) (D : Addr) (Nx : Hp → Prop) (x : V) (H : Hp) : Prop := g x (wipe σ vs) H fun σ2 H2 => wipe σ2 vs = wipe σ vs ∧ tt σ2 H2 fun b H3 =>
  if b = true then tk σ2 H3 fun y H4 => tv σ2 H4 fun z H5 => NPut K H5 D y z Nx else Nx H3
def tDcN (K : PySem.W.Frag) (wi : TI) (g : TG) (tt : TT) (tk tv : TE) (vs : List Nat) : TE := fun σ H Q => wi σ H fun J H1 => ∀ D, H1 D = none → ∃ W : Nat → Nat → Hp → Prop, (∃ m, W 0 m (upd H1 D (dN D []))) ∧ ∀ i m H, W i m H →
  (J.stop i H ∧ Q (.ref D) H) ∨ (J.go i H ∧ ∃ Nx : Hp → Prop, (∀ H', Nx H' → ∃ m', m' < m ∧ W (i + 1) m' H') ∧ ∀ x H', J.yld i H x H' → DnStep K g tt tk tv vs σ D Nx x H')
theorem pe_dcN {K : PySem.W.Frag} {kx vx tg iter : Expr} {ifs : List Expr} {scope : Scope} {own : List (Str × Nat)} {pos : Pos} {wi : TI} {g : TG} {tt : TT} {tk tv : TE} (hK : X.K = K) (hu : X.A.units + 9 < cLine) (hc : X.calm = true) (hN : X.N.Nodup) (hi : PI X tg iter wi) (ok : BlkOk X.N X.env.scope scope own)
    (hg : ∀ (s : Shared) (H : Hp) (C : Addr) (cl : List (Str × Addr)) (fp : List Addr), PG (X.blk s H scope (compEnvC scope cl C X.env) fp) tg g) (ht : ∀ (s : Shared) (H : Hp) (C : Addr) (cl : List (Str × Addr)) (fp : List Addr), PTs (X.blk s H scope (compEnvC scope cl C X.env) fp) ifs tt)
    (hk : ∀ (s : Shared) (H : Hp) (C : Addr) (cl : List (Str × Addr)) (fp : List Addr), PE (X.blk s H scope (compEnvC scope cl C X.env) fp) kx tk)
    (hv : ∀ (s : Shared) (H : Hp) (C : Addr) (cl : List (Str × Addr)) (fp : List Addr), PE (X.blk s H scope (compEnvC scope cl C X.env) fp) vx tv) (hs : ∀ x, foldedSetIterable iter X.env x = pure x := by intro _; rfl) :
    PE X (.DictComp kx vx [⟨tg, iter, ifs, 0⟩] scope pos) (tDcN K wi g tt tk tv (own.map (·.2))) := by
  subst hK
  refine ⟨fun pins s σ H Q I h => ?_⟩
  rw [arm_eval_DictComp]
  have cl : ∀ y ∈ scope.names, y.2 = .free → ∃ c, X.env.cells.lookup y.1 = some c := fun y hy e => (ok.free y hy e).elim (fun k => I.ok.has _ (.inl k)) (fun k => I.ok.has _ (.inr k))
  refine wpAny_comprehension_free (use := none) rfl hs (closure_ok cl) ok.kind (fun y hy e => by rw [ok.uniq y hy, e]) (thn (hi.run pins s σ H _ I h) fun xv s1 hx => thn hx fun itv s2 h2 => ?_)
  obtain ⟨it, fp, tn, J, H2, e, I2, T, st2, f2, q⟩ := h2
  subst e
  refine wpAny_newObj_type (newEnv_comp ?_)
  generalize hD : s2.heap.objs.size = D
  obtain ⟨W, ⟨m0, w0⟩, turn⟩ := q D (I2.hok.fresh (Nat.le_of_eq hD))
  -- the new dict
  have h3 : ∃ s3 : Shared, ({ s2 with heap := s2.heap.push { cls := .type "dict", data := .dict #[] } } : Shared) = s3 := ⟨_, rfl⟩
  obtain ⟨s3, hs3⟩ := h3
  have hh3 : s3.heap = s2.heap.push { cls := .type "dict", data := .dict #[] } := by rw [← hs3]
  have h4 : ∃ H3, upd H2 D (dN D []) = H3 := ⟨_, rfl⟩
  obtain ⟨H3, hH3⟩ := h4
  have I3 : Inv X pins σ H3 s3 := by
    rw [← hs3, ← hH3]
    refine I2.laid (t' := s2.toks) (fun b o e => Heap.get?_push_of_some _ e) (Nat.le_of_eq hD) ?_
    rw [← hD]
    exact dn_empty s2.heap I2.big X.w
  rw [hH3] at w0
  have lt2 : ∀ b ∈ fp, b < s2.heap.objs.size := fun b hb => let ⟨o, e, _⟩ := T.obj _ _ st2 b hb; Heap.lt_size e
  have f3 : ∀ b ∈ fp, FpOk X pins H3 b ∧ b < s3.heap.objs.size := fun b hb => by
    refine ⟨⟨?_, (f2 b hb).2⟩, by rw [hh3, Heap.size_push]; exact Nat.lt_succ_of_lt (lt2 b hb)⟩
    rw [← hH3, upd_ne (by rw [← hD]; exact Nat.ne_of_lt (lt2 b hb))]
    exact (f2 b hb).1
  have I4 := block_start I3 ok hN f3
  rw [hs3]
  show codeAny _ _ (.compStart (.DictComp kx vx [⟨tg, iter, ifs, 0⟩] scope pos) 0 (.ref it) (.ref D) (compEnvC scope (cellsFrom (s3.heap.objs.size + 1) scope.names (cloFrom X.env.cells scope.names [])) s3.heap.objs.size X.env)) (compPost (model X.prog X.w) X.A X.xe none _ (.ref D) s3.heap.objs.size) { s3 with heap := pushCells (s3.heap.push { cls := .type "dict", data := .dict #[] }) scope.names }
  have pg := hg s3 H3 s3.heap.objs.size (cellsFrom (s3.heap.objs.size + 1) scope.names (cloFrom X.env.cells scope.names [])) fp
  have pt := ht s3 H3 s3.heap.objs.size (cellsFrom (s3.heap.objs.size + 1) scope.names (cloFrom X.env.cells scope.names [])) fp
  have pk := hk s3 H3 s3.heap.objs.size (cellsFrom (s3.heap.objs.size + 1) scope.names (cloFrom X.env.cells scope.names [])) fp
  have pv := hv s3 H3 s3.heap.objs.size (cellsFrom (s3.heap.objs.size + 1) scope.names (cloFrom X.env.cells scope.names [])) fp
  generalize hce : compEnvC scope (cellsFrom (s3.heap.objs.size + 1) scope.names (cloFrom X.env.cells scope.names [])) s3.heap.objs.size X.env = ce at I4 pg pt pk pv ⊢
  have cL : ce.locals = s3.heap.objs.size := by rw [← hce]; rfl
  have st4 : tn 0 (pushCells (s3.heap.push { cls := .type "dict", data := .dict #[] }) scope.names) := T.keep _ _ _ st2 fun b _ o e => pushCells_keeps _ _ _ _ (Heap.get?_push_of_some _ (by rw [hh3]; exact Heap.get?_push_of_some _ e))
  generalize hs4 : ({ s3 with heap := pushCells (s3.heap.push { cls := .type "dict", data := .dict #[] }) scope.names } : Shared) = s4 at I4 ⊢
  have st4' : tn 0 s4.heap := by rw [← hs4]; exact st4
  have stat : ∀ {σ' : L2.St} {H' : Hp} {s' : Shared}, Inv (X.blk s3 H3 scope ce fp) [] σ' H' s' → (∀ b ∈ fp, H' b = none) → ∀ b ∈ fp, FpOk (X.blk s3 H3 scope ce fp) [] H' b := fun I' hn b hb =>
    ⟨hn b hb, (I'.ok.exf b hb).1, I'.ok.exfs b hb, .inl hb, fun x c e => (I'.ok.exf b hb).2 x c e, fun p hp => by cases hp⟩
  have loop : codeAny (model X.prog X.w) X.A (.compLoop (.DictComp kx vx [⟨tg, iter, ifs, 0⟩] scope pos) 0 (.ref it) (.ref D) ce) (compPost (model X.prog X.w) X.A X.xe none (EP X pins σ Q) (.ref D) s3.heap.objs.size) s4 := by
    refine compLoop_anyD (fun n s' => ∃ i H', Inv (X.blk s3 H3 scope ce fp) [] (wipe σ (own.map (·.2))) H' s' ∧ tn i s'.heap ∧ (∀ b ∈ fp, H' b = none) ∧ W i n H') ?_ m0 ⟨0, H3, I4, st4', fun b hb => (f3 b hb).1.1, w0⟩
    rintro n s5 ⟨i, H5, I5, st5, n5, w5⟩
    rcases turn i n H5 w5 with ⟨stop, qq⟩ | ⟨go, Nx, hNx, step⟩
    · refine thnF (T.done (X.blk s3 H3 scope ce fp) rfl rfl rfl hc i [] s5 _ H5 (fun _ _ => False) I5 (stat I5 n5) st5 stop) fun r s6 ⟨hr, I6⟩ => ?_
      subst hr
      have I7 : Inv X pins σ H5 s6 := I3.call' (ch := fp) I6.os I6.base I6.hok I6.bare fun b hb => ⟨(f3 b hb).1.2.2.2.1, (f3 b hb).1.2.1, (f3 b hb).1.2.2.2.2.1, (f3 b hb).1.2.2.2.2.2⟩
      have nC : H5 s3.heap.objs.size = none := by rw [← cL]; exact I6.free
      obtain ⟨m, hn, _⟩ := I6.loc
      obtain ⟨a0, a1, a2, a3, a4, a5⟩ := I3.fpOk (Nat.le_refl _) nC
      refine ⟨m, by rw [← cL]; exact hn, fun h'' sb => ?_⟩
      exact ⟨.ref D, H5, I7.turned (t' := s6.toks) (fun b o hb e => (sb.2 b hb).trans e) a0 a1 a3 a4 a5, rfl, qq⟩
    · refine thnF (T.item (X.blk s3 H3 scope ce fp) rfl rfl rfl hc i [] s5 _ H5 (fun _ _ => False) I5 (stat I5 n5) st5 go) fun r s6 ⟨u, hr, h6⟩ => ?_
      subst hr
      refine thnF h6 fun _ s7 ⟨x, H7, I7, r7, y7, st7, n7⟩ => ?_
      refine thnF (pg.run _ s7 _ H7 x u _ (I7.pinned (stat I7 n7) (T.obj _ _ st7)) r7 (step x H7 y7)) fun _ s8 ⟨σ8, H8, I8, hw8, q8⟩ => ?_
      refine thnF (pt.run _ s8 σ8 H8 _ I8 q8) fun b s9 ⟨H9, I9, q9⟩ => ?_
      have fin : ∀ {s' : Shared} {H' : Hp}, Inv (X.blk s3 H3 scope ce fp) ([] ++ pinsAt fp s7.heap) σ8 H' s' → Nx H' → ∃ m, m < n ∧ ∃ i H', Inv (X.blk s3 H3 scope ce fp) [] (wipe σ (own.map (·.2))) H' s' ∧ tn i s'.heap ∧ (∀ b ∈ fp, H' b = none) ∧ W i m H' := fun {s' H'} I' nx => by
        obtain ⟨m', hm, w'⟩ := hNx H' nx
        have pin' : ∀ b ∈ fp, ∀ o, s7.heap.get? b = some o → s'.heap.get? b = some o ∧ H' b = none := fun b hb o e =>
          let z := I'.pin (b, o) (List.mem_append_right _ (List.mem_append_right _ (mem_pinsAt hb e)))
          ⟨z.1, z.2.1⟩
        refine ⟨m', hm, i + 1, H', (I'.unpinned (pins := [])).weak (by rw [← hw8, wipe_length]) (fun j v e => (wipe_some (by rw [hw8]; exact e)).1), T.keep _ _ _ st7 fun b hb o e => (pin' b hb o e).1, fun b hb => ?_, w'⟩
        obtain ⟨o, e, _⟩ := T.obj _ _ st7 b hb
        exact (pin' b hb o e).2
      cases b with
      | false => exact fin I9 q9
      | true =>
        refine thnF (pk.run _ s9 σ8 H9 _ I9 q9) fun z s10 ⟨yk, H10, I10, r10, q10⟩ => ?_
        refine thnF (pv.run _ s10 σ8 H10 _ I10 q10) fun z2 s11 ⟨yv, H11, I11, r11, np⟩ => ?_
        exact n_dictSet (X := X.blk s3 H3 scope ce fp) hu I11 np r10 r11 fun H12 s12 I12 nx => fin I12 nx
  exact codeAny_compStart_dict loop (T.self X.A 0 _ _ _ st4' loop)
/-- the turns of such a comprehension -/
theorem dcN_it {K : PySem.W.Frag} {J : It} {n : Nat} {G : Hp → Prop} {Y : Nat → Hp → V → Hp → Prop} (w : L2.Walk J n G Y) {g : TG} {tt : TT} {tk tv : TE} {vs : List Nat} {σ : L2.St} {H1 : Hp} {D : Addr} {Qd : Hp → Prop} (Pv : Nat → Hp → Prop) (h0 : Pv 0 (upd H1 D (dN D []))) (hG : ∀ i H, i ≤ n → Pv i H → G H)
    (hs : ∀ i x H H', i < n → Pv i H → Y i H x H' → DnStep K g tt tk tv vs σ D (Pv (i + 1)) x H') (hd : ∀ H, Pv n H → Qd H) :
    ∃ W : Nat → Nat → Hp → Prop, (∃ m, W 0 m (upd H1 D (dN D []))) ∧ ∀ i m H, W i m H → (J.stop i H ∧ Qd H) ∨ (J.go i H ∧ ∃ Nx : Hp → Prop, (∀ H', Nx H' → ∃ m', m' < m ∧ W (i + 1) m' H') ∧ ∀ x H', J.yld i H x H' → DnStep K g tt tk tv vs σ D Nx x H') := by
  refine ⟨fun i m H => m + i = n ∧ Pv i H, ⟨n, rfl, h0⟩, fun i m H ⟨hm, p⟩ => ?_⟩
  have q := hG i H (by omega) p
  cases m with
  | zero =>
    have e : i = n := by omega
    subst e
    exact .inl ⟨w.stops H q, hd H p⟩
  | succ m => exact .inr ⟨w.goes i H (by omega) q, Pv (i + 1), fun H' p' => ⟨m, Nat.lt_succ_self m, by omega, p'⟩, fun x H' y => hs i x H H' (by omega) p (w.yields i H x H' (by omega) q y)⟩
end
/-! ### for row in d, d locked -/
section
variable {X : Cx} {pins : List (Addr × Obj)} {σ : L2.St} {H : Hp} {s : Shared} {d : Addr} {o : Obj} {xs : List (NestedKey × Addr × Value)}
theorem frzN (I : Inv X pins σ H s) (h : H d = some (.frz o (dN d xs))) : (d == sysModules) = false ∧ s.heap.get? d = some o ∧ o.ExactDict ∧ ∃ (es : Array DictEntry) (ep : Nat) (w0 : World), o.data = .dict es ep ∧ es.size = xs.length ∧ es.toList = xs.map (entN w0) := by
  obtain ⟨hd, ⟨⟨z, hs⟩, w0, o', es, ep, ho, hx, hdt, he, _⟩, _⟩ := (show ObjOk X.prog X.w H s.heap d (.frz o (dN d xs)) from I.hok d _ h)
  rw [hd] at ho
  cases ho
  refine ⟨hs, hd, hx, es, ep, w0, hdt, ?_, he⟩
  rw [← Array.length_toList, he, List.length_map]
end
def ItN (d : Addr) (o : Obj) (xs : List (NestedKey × Addr × Value)) : L2.It :=
  ⟨fun i H => H d = some (.frz o (dN d xs)) ∧ i < xs.length, fun i H x H' => H' = H ∧ ∃ e, xs[i]? = some e ∧ x = .ref e.2.1, fun i H => H d = some (.frz o (dN d xs)) ∧ xs.length ≤ i⟩
theorem walkN {d : Addr} {o : Obj} {xs : List (NestedKey × Addr × Value)} : L2.Walk (ItN d o xs) xs.length (fun H => H d = some (.frz o (dN d xs))) (fun i H x H' => H' = H ∧ ∃ e, xs[i]? = some e ∧ x = .ref e.2.1) :=
  ⟨fun _ _ hi q => ⟨q, hi⟩, fun _ q => ⟨q, Nat.le_refl _⟩, fun _ _ _ _ _ _ y => y⟩
theorem turnN {P : Program} {w : World} {K : PySem.W.Frag} {tg : Expr} {d : Addr} {o : Obj} {es : Array DictEntry} {ep : Nat} {xs : List (NestedKey × Addr × Value)} (it : Addr) (hod : o.data = .dict es ep) : Turn P w K tg (ItN d o xs) [it] it (fun i h => h.IsKeyIter it d i xs.length ep) where
  mem := by simp
  obj := fun i h st b hb => by
    have e : b = it := by simpa using hb
    subst e
    obtain ⟨oi, e, c, dd⟩ := st
    exact ⟨oi, e, fun v z => by rw [dd] at z; cases z⟩
  keep := fun i h h' st k => st.at fun oi e => k it (by simp) oi e
  item := by
    intro X hP hw hK hc i pins s σ H E I hf st hg
    subst hP hw hK
    obtain ⟨hd, hi⟩ := hg
    obtain ⟨f0, f1, f2, f3, f4, f5⟩ := hf it (by simp)
    obtain ⟨hs, hgd, hx, es', ep', w0, hdt, hsz, he⟩ := frzN I hd
    obtain ⟨rfl, rfl⟩ := dict_ep hod hdt
    obtain ⟨x, hxi⟩ : ∃ p, xs[i]? = some p := ⟨xs[i], List.getElem?_eq_getElem hi⟩
    have hen : es'[i]? = some (entN w0 x) := by rw [← Array.getElem?_toList, he, List.getElem?_map, hxi]; rfl
    refine next_key_item st hgd hdt hsz hen fun h' st' sb => ?_
    have I1 : Inv X pins σ H { s with heap := h' } := I.turned (t' := s.toks) (fun b ob hb e => (sb.2 b hb).trans e) f0 f1 f3 f4 f5
    obtain ⟨oi, e, c, dd⟩ := id st'
    exact ⟨_, rfl, go_of (s := { s with heap := h' }) e c dd (by decide) ⟨.ref x.2.1, H, I1, rfl, ⟨rfl, x, hxi, rfl⟩, st', fun b hb => (hf b hb).1⟩⟩
  done := by
    intro X hP hw hK hc i pins s σ H E I hf st hg
    subst hP hw hK
    obtain ⟨hd, hi⟩ := hg
    obtain ⟨f0, f1, f2, f3, f4, f5⟩ := hf it (by simp)
    obtain ⟨hs, hgd, hx, es', ep', w0, hdt, hsz, he⟩ := frzN I hd
    obtain ⟨rfl, rfl⟩ := dict_ep hod hdt
    exact next_key_end (I.ok.hd hc) st hgd hdt hsz hi fun h' eb => ⟨rfl, I.turned (t' := s.toks) (fun b ob hb e => eb b ob hb e) f0 f1 f3 f4 f5⟩
  self := fun A i s Q E st h => by
    refine wpAny_pyIter_slot st.typeIs F.slot_dict_keyiterator_iter (wpAny_call_entry F.slot_dict_keyiterator_iter st.typeIs F.entry_dict_keyiterator_iter ?_ (F.args_dict_keyiterator_iter_1 _))
    show wpAny _ _ (ret (.ref it)) _ _ s
    exact wpAny_pure ⟨_, rfl, "dict_keyiterator", _, st.typeIs, F.slot_dict_keyiterator_next.lookup, h⟩
def iKeysN (td : TE) : TI := fun σ H R => td σ H fun x H1 => ∃ d o xs, x = .ref d ∧ H1 d = some (.frz o (dN d xs)) ∧ R (ItN d o xs) H1
theorem pi_keysN {X : Cx} {tg e : Expr} {td : TE} (he : PE X e td) : PI X tg e (iKeysN td) := by
  refine ⟨fun pins s σ H R I h => ?_⟩
  refine thn (he.run pins s σ H _ I h) fun u s1 ⟨x, H1, I1, rx, d, o, xs, ex, hd, q⟩ => ?_
  subst ex
  cases rx
  obtain ⟨hs, hgd, hx, es, ep, w0, hdt, hsz, _⟩ := frzN I1 hd
  refine iter_keys hs hgd hx hdt (pi_one (tk := s1.toks) I1 _ (turnN _ hdt) ⟨_, Heap.get?_push_size _ rfl, rfl, ?_⟩ q)
  rw [hsz] <;> rfl
/-! ### list(d) -/
def rListN : List V → Hp → VK → Prop := fun vs H Q => ∃ a xs, vs = [.ref a] ∧ H a = some (dN a xs) ∧ ∀ q, H q = none → Q (.ref q) (upd H q (.lst (xs.map fun x => V.ref x.2.1)))
theorem call_list_dN {X : Cx} (hc : X.calm = true) : CallR X (.type "list") rListN := by
  intro pins s σ H vs us Q I r h
  obtain ⟨a, xs, e, hk, q⟩ := h
  subst e
  obtain ⟨u, eu, rx⟩ := vals1 r
  subst eu
  cases rx
  obtain ⟨⟨⟨z, lo⟩, w0, o, es, ep, h1, h2, h3, h4, h5⟩, _⟩ := (show ObjOk X.prog X.w H s.heap a (dN a xs) from I.hok a _ hk)
  have hsz : es.size = xs.length := by rw [← Array.length_toList, h4, List.length_map]
  refine PySem.W.kdl_call (PySem.KdlSrc.rawDict (es := es) (ep := ep) lo) (I.ok.hd hc) ⟨o, h1, h2, h3⟩ (by rw [hsz]; exact z) fun h' tk acc' c' hkeep hS hacc => ?_
  refine ⟨.ref s.heap.objs.size, upd H s.heap.objs.size (.lst (xs.map fun x => V.ref x.2.1)), I.laid hkeep (Nat.le_refl _) (show ObjOk X.prog X.w _ _ _ (.lst (xs.map fun x => V.ref x.2.1)) from ⟨?_, acc'.toList, c', ?_, ?_⟩), rfl, q _ (I.hok.fresh (Nat.le_refl _))⟩
  · rw [List.length_map]; exact z
  · have el : acc'.toList.length = acc'.size := by simp
    refine vals_of_at (by rw [List.length_map, el, hacc.1, hsz]) fun j x w h1 h2 => ?_
    obtain ⟨hi, hw⟩ := hacc.2 j w (by rw [← Array.getElem?_toList]; exact h2)
    have hj : j < xs.length := by rw [← hsz]; exact hi
    have e1 : (xs.map fun x => V.ref x.2.1)[j]? = some (.ref xs[j].2.1) := by rw [List.getElem?_map, List.getElem?_eq_getElem hj]; rfl
    rw [e1] at h1
    cases h1
    have e2 : es[j]? = some (entN w0 xs[j]) := by rw [← Array.getElem?_toList, h4, List.getElem?_map, List.getElem?_eq_getElem hj]; rfl
    rw [Array.getElem?_eq_getElem hi] at e2
    have e3 := Option.some.inj e2
    rw [hw, e3]
    rfl
  · simpa using hS
end EL
namespace EL
open PySem PySem.Spec PyProof.Rows L2 He TL
/-! ### d == e, their values True; == of dicts of such dicts -/
section
variable {prog : Program} {w : World} {A : Around} {E : Value → Shared → Prop} {s : Shared} {a b : Addr} {xs ys : List (NestedKey × Addr × Value)}
def inN (ys : List (NestedKey × Addr × Value)) (x : NestedKey × Addr × Value) : Bool := (atKey ys x.1).isSome
theorem n_samePairs {nm : String} {Q : Bool → Shared → Prop} (hu : A.units + 8 < cLine) (ha : (a == sysModules) = false) (hb : (b == sysModules) = false) (da : s.heap.DictOfH (nestedKind prog w) a xs) (db : s.heap.DictOfH (nestedKind prog w) b ys)
    (va : ∀ x ∈ xs, x.2.2 = .bool true) (vb : ∀ y ∈ ys, y.2.2 = .bool true) (h : Q (xs.length == ys.length && xs.all (inN ys)) s) : wpAny (model prog w) A (Builtin.Dict.samePairs nm a b) Q E s := by
  obtain ⟨oa, es, ep, hoa, _, hda, hea, hia, hna⟩ := da
  obtain ⟨ob, es', ep', hob, _, hdb, heb, hib, hnb⟩ := db
  have hla : xs.length = es.size := (size_of_entries hea).symm
  have hlb : ys.length = es'.size := (size_of_entries heb).symm
  rw [hla, hlb] at h
  unfold Builtin.Dict.samePairs Builtin.Dict.showsAll
  rw [if_neg (show ¬ (a == sysModules) = true by rw [ha]; exact Bool.false_ne_true), if_neg (show ¬ (b == sysModules) = true by rw [hb]; exact Bool.false_ne_true)]
  refine wpAny_bind (wpAny_pure (wpAny_bind (wpAny_pure ?_)))
  refine wpAny_bind (wpAny_dictEntries hoa hda ?_)
  dsimp only
  refine wpAny_bind (wpAny_dictEntries hob hdb ?_)
  by_cases hsz : es.size = es'.size
  case neg =>
    rw [if_pos (by simpa using hsz)]
    have hbf : (es.size == es'.size) = false := by simpa using hsz
    rw [hbf, Bool.false_and] at h
    exact wpAny_bind (wpAny_rule (wpAny_pure h))
  case pos =>
    have h' : Q (xs.all (inN ys)) s := by simpa [hsz] using h
    rw [if_neg (by rw [hsz]; simp)]
    refine wpAny_bind (wpAny_dictEpoch hoa hda ?_)
    refine wpAny_bind ?_
    rw [Std.Legacy.Range.forIn_eq_forIn_range']
    simp only [Std.Legacy.Range.size, Nat.sub_zero, Nat.add_sub_cancel, Nat.div_one]
    refine wpAny_forIn_list _
      (fun rest q s' => s' = s ∧ q = (none, ()) ∧ ∃ i, rest = List.range' i (es.size - i) ∧ i ≤ es.size ∧ xs.all (inN ys) = (xs.drop i).all (inN ys))
      _ ?_ ?_ _ _ ⟨rfl, rfl, 0, by simp, Nat.zero_le _, by rw [List.drop_zero]⟩
    · rintro x rest q s' ⟨rfl, rfl, i, hr, hi, hpre⟩
      have hlt : i < es.size := by
        rcases Nat.lt_or_ge i es.size with h | h
        · exact h
        · rw [Nat.sub_eq_zero_of_le h] at hr; simp at hr
      obtain ⟨rfl, hrest⟩ : x = i ∧ rest = List.range' (i + 1) (es.size - (i + 1)) := by
        have e : es.size - i = (es.size - (i + 1)) + 1 := by omega
        rw [e, List.range'_succ] at hr
        injection hr with h1 h2
        exact ⟨h1, h2⟩
      refine wpAny_bind (wpAny_dictEntries hoa hda ?_)
      have hlt' : x < xs.length := by rw [hla]; exact hlt
      obtain ⟨k, p, v, hkv⟩ : ∃ k p v, xs[x]? = some (k, p, v) := ⟨_, _, _, List.getElem?_eq_getElem hlt'⟩
      have hmem : (k, p, v) ∈ xs := List.mem_of_getElem? hkv
      have hdrop : xs.drop x = (k, p, v) :: xs.drop (x + 1) := by
        rw [List.drop_eq_getElem_cons hlt']
        rw [List.getElem?_eq_getElem hlt'] at hkv
        rw [Option.some.inj hkv]
      have hex : es[x]? = some ⟨k.hash w, .ref p, v⟩ := by rw [entry_at hea x, hkv]; rfl
      rw [hex]
      rw [hdrop, List.all_cons] at hpre
      have ev : v = .bool true := va _ hmem
      subst ev
      show wpAny _ _ (holding [.ref p, .bool true] _ >>= _) _ _ _
      refine wpAny_bind (wpAny_holding (wpAny_bind (wpAny_dictFind_heap (knd := nestedKind prog w) (k := k) hu (hia _ hmem) hob hdb heb hib hnb (fun hno => ?_) fun j q hj => ?_)))
      · have hn : inN ys (k, p, .bool true) = false := by
          show (atKey ys k).isSome = false
          rw [atKey_none_of_get hno] <;> rfl
        rw [hn, Bool.false_and] at hpre
        rw [hpre] at h'
        refine wpAny_pure ?_
        show wpAny _ _ (if (!false) = true then _ else _) _ _ _
        rw [if_pos (by decide)]
        exact wpAny_pure (wpAny_pure h')
      · have hs : inN ys (k, p, .bool true) = true := by
          show (atKey ys k).isSome = true
          rw [atKey_of_get hnb hj] <;> rfl
        rw [hs, Bool.true_and] at hpre
        refine wpAny_bind (wpAny_dictEntries hob hdb ?_)
        have hey : es'[j]? = some ⟨k.hash w, .ref q.1, q.2⟩ := by rw [entry_at heb j, hj]; rfl
        have eq : q.2 = .bool true := vb _ (List.mem_of_getElem? hj)
        rw [eq] at hey
        rw [hey]
        refine wpAny_holding (SeqAt.EqAt.bool_bool true true prog w _ _ ?_)
        show wpAny _ _ (if (!true) = true then _ else _) _ _ _
        rw [if_neg (by decide)]
        refine wpAny_bind (wpAny_dictEpoch hoa hda ?_)
        rw [if_neg (by simp)]
        exact wpAny_pure ⟨rfl, rfl, x + 1, hrest, hlt, hpre⟩
    · rintro q s' ⟨rfl, rfl, i, hr, hi, hpre⟩
      have hin : i = es.size := by
        rcases Nat.lt_or_ge i es.size with h | h
        · have e : es.size - i = (es.size - (i + 1)) + 1 := by omega
          rw [e, List.range'_succ] at hr; exact nomatch hr
        · exact Nat.le_antisymm hi h
      refine wpAny_pure ?_
      rw [hin, ← hla, List.drop_length, List.all_nil] at hpre
      rw [hpre] at h'
      exact h'
theorem n_eq {Q : Value → Shared → Prop} (hu : A.units + 9 < cLine) (ha : (a == sysModules) = false) (hb : (b == sysModules) = false) (da : s.heap.DictOfH (nestedKind prog w) a xs) (db : s.heap.DictOfH (nestedKind prog w) b ys)
    (va : ∀ x ∈ xs, x.2.2 = .bool true) (vb : ∀ y ∈ ys, y.2.2 = .bool true) (h : Q (.bool (xs.length == ys.length && xs.all (inN ys))) s) : wpAny (model prog w) A (richCompare .Eq (.ref a) (.ref b)) Q E s := by
  have ta : s.TypeIs (.ref a) "dict" := let ⟨o, _, _, e, c, _⟩ := da; ⟨o, e, c.1⟩
  have tb : s.TypeIs (.ref b) "dict" := let ⟨o, _, _, e, c, _⟩ := db; ⟨o, e, c.1⟩
  refine wpAny_richCompare_same_room (op := .Eq) ta tb PySem.F.slot_dict_eq (wpAny_call_entry PySem.F.slot_dict_eq ta PySem.F.entry_dict_eq ?_ (PySem.F.args_dict_eq_2 _ _)) (by omega)
  show wpAny _ _ (Builtin.Dict.dictSlotArgs "__eq__" ⟨[.ref a, .ref b], []⟩ >>= _) _ _ s
  refine wpAny_bind ?_
  unfold Builtin.Dict.dictSlotArgs
  refine wpAny_bind (wpAny_notOrdered_dict ta ?_)
  show wpAny _ _ (pure (Value.ref a, Value.ref b)) _ _ s
  refine wpAny_pure ?_
  refine wpAny_bind (wpAny_isInstance (T := "dict") tb PySem.F.sub_dict_dict ?_)
  simp only [Bool.not_true, Bool.false_eq_true, if_false]
  refine wpAny_bind (wpAny_pure (wpAny_bind (wpAny_pure ?_)))
  refine wpAny_bind (n_samePairs (show A.units + 1 + 8 < cLine by omega) ha hb da db va vb ?_)
  refine wpAny_pure ⟨_, rfl, ?_, ?_⟩
  · exact fun x => nomatch x
  · simpa using h
end
end EL
namespace EL
open PySem PySem.Spec PyProof.Rows L2 He TL
abbrev setR (rs : List Rw) : List (Rw × V) := rs.map fun r => (r, V.bl true)
theorem valV_setR (k : Rw) : ∀ rs : List Rw, valV (setR rs) k = if k ∈ rs then some (.bl true) else none
  | [] => rfl
  | r :: rs => by
    by_cases e : r = k
    · have h : valV (setR (r :: rs)) k = some (.bl true) := valV_pos (p := (r, V.bl true)) e
      rw [h, if_pos (by simp [e])]
    · have h : valV (setR (r :: rs)) k = valV (setR rs) k := valV_neg (p := (r, V.bl true)) e
      have e2 : (k ∈ r :: rs) = (k ∈ rs) := propext ⟨fun z => (List.mem_cons.mp z).elim (fun z => (e z.symm).elim) id, fun z => List.mem_cons_of_mem _ z⟩
      rw [h, valV_setR k rs]
      simp only [e2]
theorem isSome_setR (k : Rw) (rs : List Rw) : (valV (setR rs) k).isSome = decide (k ∈ rs) := by
  rw [valV_setR]
  by_cases h : k ∈ rs
  · rw [if_pos h, decide_eq_true h] <;> rfl
  · rw [if_neg h, decide_eq_false h] <;> rfl
/-- put where it is not -/
def addR (rs : List Rw) (k : Rw) : List Rw := if k ∈ rs then rs else rs ++ [k]
theorem putK_setR (rs : List Rw) (k : Rw) : putK (setR rs) k (.bl true) = setR (addR rs k) := by
  unfold putK addR
  rw [valV_any, isSome_setR]
  by_cases h : k ∈ rs
  · rw [decide_eq_true h, if_pos rfl, if_pos h]
    show ((rs.map fun r => (r, V.bl true)).map fun kv => if kv.1 = k then (kv.1, V.bl true) else kv) = rs.map fun r => (r, V.bl true)
    rw [List.map_map]
    refine List.map_congr_left fun r _ => ?_
    show (if r = k then (r, V.bl true) else (r, V.bl true)) = (r, V.bl true)
    split <;> rfl
  · rw [decide_eq_false h, if_neg (by decide), if_neg h]
    show (rs.map fun r => (r, V.bl true)) ++ [(k, V.bl true)] = (rs ++ [k]).map fun r => (r, V.bl true)
    rw [List.map_append]
    rfl
def sameR (p : List Rw × List Rw) : Bool := decide (p.1.length = p.2.length) && p.1.all fun r => decide (r ∈ p.2)
inductive EqN (K : PySem.W.Frag) (H : Hp) : List (Key × V) → List (Key × V) → List (List Rw × List Rw) → Prop
  | nil : EqN K H [] [] []
  | cons {k : Key} {a b : Addr} {rs ss : List Rw} {ks ls : List (Key × V)} {L : List (List Rw × List Rw)} : a ≠ b → KD K H a (setR rs) → KD K H b (setR ss) → EqN K H ks ls L → EqN K H ((k, .ref a) :: ks) ((k, .ref b) :: ls) ((rs, ss) :: L)
theorem EqN.keys {K : PySem.W.Frag} {H : Hp} {ks ls : List (Key × V)} {L : List (List Rw × List Rw)} (h : EqN K H ks ls L) : ks.map Prod.fst = ls.map Prod.fst := by
  induction h with
  | nil => rfl
  | cons _ _ _ _ ih => rw [List.map_cons, List.map_cons, ih]
section
variable {X : Cx} {A : Around} {pins : List (Addr × Obj)} {σ : L2.St} {H : Hp} {s : Shared}
theorem setR_true {K : PySem.W.Frag} {H : Hp} : ∀ {rs : List Rw} {xs : List (NestedKey × Addr × Value)}, KNs K H (setR rs) xs → ∀ x ∈ xs, x.2.2 = .bool true
  | [], _, r, x, hx => by
    cases r
    cases hx
  | r :: rs, _, h, x, hx => by
    cases h with
    | cons h t =>
      rcases List.mem_cons.mp hx with hx | hx
      · subst hx
        exact h.2.2
      · exact setR_true t x hx
theorem all_inN {K : PySem.W.Frag} {H : Hp} {ss : List Rw} {ys : List (NestedKey × Addr × Value)} (rb : KNs K H (setR ss) ys) : ∀ {rs : List Rw} {xs : List (NestedKey × Addr × Value)}, KNs K H (setR rs) xs → xs.all (inN ys) = rs.all fun r => decide (r ∈ ss)
  | [], _, r => by
    cases r
    rfl
  | r :: rs, _, h => by
    cases h with
    | @cons _ q _ qs h t =>
      rw [List.all_cons, List.all_cons, all_inN rb t]
      congr 1
      show (atKey ys q.1).isSome = decide (r ∈ ss)
      have e : q.1 = nk r := h.1
      have z := (rb.val r).isSome_eq
      rw [Option.isSome_map, isSome_setR] at z
      rw [e, z]
theorem eqAt_N (I : Inv X pins σ H s) {a b : Addr} {rs ss : List Rw} (hu : A.units + 9 < cLine) (hne : a ≠ b) (ha : KD X.K H a (setR rs)) (hb : KD X.K H b (setR ss)) : SeqAt.EqAt A s (.ref a) (.ref b) (sameR (rs, ss)) := by
  obtain ⟨xs, ea, ra⟩ := ha
  obtain ⟨ys, eb, rb⟩ := hb
  obtain ⟨_, ya, da⟩ := kn_of I (.inl ea) ra
  obtain ⟨_, yb, db⟩ := kn_of I (.inl eb) rb
  refine SeqAt.EqAt.of_refs hne fun prog w E Q h => n_eq hu ya yb (da prog w) (db prog w) (setR_true ra) (setR_true rb) ?_
  have l1 : rs.length = xs.length := by rw [← Paired.length ra, List.length_map]
  have l2 : ss.length = ys.length := by rw [← Paired.length rb, List.length_map]
  rw [all_inN rb ra, ← l1, ← l2]
  exact h
theorem hits_N (I : Inv X pins σ H s) (hu : A.units + 9 < cLine) {ls : List (Key × V)} {vb : List (Key × Value)} (rb : KV ls vb) :
    ∀ {ks ls' : List (Key × V)} {va : List (Key × Value)} {L : List (List Rw × List Rw)}, KV ks va → EqN X.K H ks ls' L → (∀ p ∈ ls', valV ls p.1 = some p.2) → PySem.W.KeqHits A s vb va (L.all sameR)
  | [], _, _, _, r, h, _ => by
    cases h
    cases r
    exact .nil
  | _ :: _, _, _, _, r, h, hv => by
    cases h with
    | @cons k a b rs ss ks ls L hne ha hb t =>
    cases r with
    | @cons _ q _ qs h t' =>
      obtain ⟨k', v'⟩ := q
      obtain ⟨h1, h2⟩ := h
      have h1 : k = k' := h1
      subst h1
      cases h2
      have ih := hits_N I hu rb t' t fun p hp => hv p (List.mem_cons_of_mem _ hp)
      have rk := rb.val k
      rw [hv (k, .ref b) (List.mem_cons_self ..)] at rk
      cases hb' : valueAt vb k with
      | none => rw [hb'] at rk; cases rk
      | some y' =>
        rw [hb'] at rk
        cases (show y' = Value.ref b from rk)
        exact .hit hb' (eqAt_N I hu hne ha hb) ih
def rEqDN (K : PySem.W.Frag) : R2 := fun x y H Q => ∃ a b ks ls L, x = .ref a ∧ y = .ref b ∧ H a = some (.dK ks) ∧ H b = some (.dK ls) ∧ EqN K H ks ls L ∧ (ls.map Prod.fst).Nodup ∧ Q (.bl (L.all sameR)) H
theorem op_eqDN (hu : X.A.units + 10 < cLine) : OpR X (compareOp .Eq) (rEqDN X.K) := by
  intro pins s σ H x y v u Q I rx ry h
  obtain ⟨a, b, ks, ls, L, rfl, rfl, ea, eb, D, nd, q⟩ := h
  cases (show v = Value.ref a from rx)
  cases (show u = Value.ref b from ry)
  obtain ⟨_, ya, va, ra, da⟩ := (show ObjOk X.prog X.w H s.heap a (.dK ks) from I.hok a _ ea)
  obtain ⟨_, yb, vb, rb, db⟩ := (show ObjOk X.prog X.w H s.heap b (.dK ls) from I.hok b _ eb)
  refine PySem.W.keq_eq (knd := mixKind X.prog X.w) (r := L.all sameR) ya yb da db (by omega) (fun _ => hits_N I (by show X.A.units + 1 + 9 < cLine; omega) rb ra D (val_nodup nd)) ?_
  have e : (va.length == vb.length) = true := by
    have h1 := congrArg List.length D.keys
    rw [List.length_map, List.length_map, ra.length, rb.length] at h1
    rw [h1]
    exact beq_self_eq_true _
  rw [e, Bool.true_and]
  exact ⟨.bl _, H, I, rfl, q⟩
end
/-! ### x[i] and x[i] = v by own defs, what they let out by the slots -/
section
variable {X : Cx} {CX : CXT} {k : Nat} {C g : Addr} {sp : Sp} {E : L2.St → XK} {o i value : Expr} {to ti tv : TE} {pos pos' : Pos}
def tSubO (C : Addr) (sp : Sp) (E : L2.St → XK) (to ti : TE) : TE := fun σ H Q => to σ H fun x H1 => ti σ H1 fun y H2 => ∃ a dx fs, x = .ref a ∧ H2 a = some (.ins C dx fs) ∧ sp [x, y] H2 Q (E σ)
theorem pe_subO (hm : Meth X.K C "__getitem__" g) (hf : PySem.W.fnIn X.K g = true) (F : FnR X.prog X.w X.K X.mg X.base CX k g sp) (hr : Room (k + 1) X.A) (hx : ∀ σ, PassesAt CX X σ (E σ)) (ho : PE X o to) (hi : PE X i ti)
    (hsl : ∀ (a : Addr) (u : Value), subscripted i true (.ref a) u = runValue (.builtin "lifetime.subscript" ⟨[.ref a, u], []⟩) := by intro _ _; with_unfolding_all rfl) : PE X (.Subscript o i pos) (tSubO C sp E to ti) := by
  refine ⟨fun pins s σ H Q I h => ?_⟩
  refine Subscript_ (binT ho hi I h fun v u s2 x y H2 I2 rx ry q => ?_)
  obtain ⟨a, dx, fs, rfl, ha, q⟩ := q
  cases (show v = Value.ref a from rx)
  obtain ⟨ox, od, J, _⟩ := ins_at I2 ha
  obtain ⟨m, hF⟩ := I2.fr
  refine PySem.W.sub_K (hsl := hsl a u) hF I2.ok.mod.kin J hm.at_ hf hm.fn ?_
  refine wpAny_call (codeAny_mono (F X.A.in1 X.stack s2 H2 [.ref a, u] [.ref a, y] Q (E σ) (Room.in1 hr) I2.env0.in1 (.cons rfl (.cons ry .nil)) q) fun r s' hq => ?_)
  cases r with
  | error e => exact hx σ pins _ s2 e s' I2 hq
  | ok fl =>
    cases fl with
    | ret u => exact I2.after hq
    | next => exact False.elim hq
    | brk => exact False.elim hq
    | cont => exact False.elim hq
def sSetO (C : Addr) (sp : Sp) (E : L2.St → XK) (to ti tv : TE) : TS := fun D σ H => tv σ H fun v H1 => to σ H1 fun x H2 => ti σ H2 fun y H3 => ∃ a dx fs, x = .ref a ∧ H3 a = some (.ins C dx fs) ∧ sp [x, y, v] H3 (fun _ H4 => D.nx σ H4) (E σ)
theorem ps_setO (hq : PySem.W.noSeq X.K C = true) (hm : Meth X.K C "__setitem__" g) (F : FnR X.prog X.w X.K X.mg X.base CX k g sp) (hr : Room k X.A) (hx : ∀ σ, PassesAt CX X σ (E σ)) (ho : PE X o to) (hi : PE X i ti) (hv : PE X value tv)
    (hs : swapsWith value (some (.Subscript o i pos')) pos.line X.env = pure false) : PS X (.Assign [.Subscript o i pos'] value pos) (sSetO C sp E to ti tv) := by
  refine ⟨fun pins s σ H D I h => ?_⟩
  refine wpAny_Assign_Subscript (thn (hv.run pins s σ H _ I h) fun r s1 ⟨v, H1, I1, rv, q1⟩ => thn (ho.run pins s1 σ H1 _ I1 q1) fun u s2 ⟨x, H2, I2, rx, q2⟩ => thn (hi.run pins s2 σ H2 _ I2 q2) fun iv s3 ⟨y, H3, I3, ry, a, dx, fs, ex, ha, q⟩ => ?_) hs
  subst ex
  cases (show u = Value.ref a from rx)
  obtain ⟨ox, od, J, _⟩ := ins_at I3 ha
  obtain ⟨m, hF⟩ := I3.fr
  refine PySem.W.ksp_setItem hF I3.ok.mod.kin J hq hm.at_ hm.fn ?_
  refine wpAny_mono (run_fnRS (us := [.ref a, iv, r]) (vs := [.ref a, y, v]) F hr (hx σ) I3 (.cons rfl (.cons ry (.cons rv .nil))) q) (fun w s' z => ?_) fun _ _ x => x
  obtain ⟨z', H', I', rz, qz⟩ := z
  exact ⟨σ, H', I', qz⟩
end
end EL
namespace EL
open PySem PySem.Spec PyProof.Rows L2 He TL
theorem same_upN {H H' : Hp} {a : Addr} {o : HO} (s : Same H H') (n : H a = none) : Same H (upd H' a o) := fun b u h => (upd_ne (ne_of_none h n)).trans (s b u h)
theorem hu9 {k : Nat} {A : Around} (h : Room k A) : A.units + 9 < cLine := by have := h.units; omega
theorem hu10 {k : Nat} {A : Around} (h : Room k A) : A.units + 10 < cLine := by have := h.units; omega
end EL
namespace EL
open PySem PySem.Spec PyProof.Rows L2 He TL
/-! ### several things locked at once -/
def frzL (od : Addr → Obj) : List (Addr × HO) → Hp → Hp
  | [], H => H
  | p :: r, H => frzL od r (upd H p.1 (.frz (od p.1) p.2))
def thawL : List (Addr × HO) → Hp → Hp
  | [], H => H
  | p :: r, H => thawL r (upd H p.1 p.2)
theorem frzL_off {od : Addr → Obj} : ∀ {L : List (Addr × HO)} {H : Hp} {b : Addr}, b ∉ L.map Prod.fst → frzL od L H b = H b
  | [], _, _, _ => rfl
  | p :: r, H, b, h => by
    have h1 : b ≠ p.1 := fun z => h (by rw [z]; exact List.mem_cons_self ..)
    show frzL od r (upd H p.1 _) b = H b
    rw [frzL_off fun z => h (List.mem_cons_of_mem _ z), upd_ne h1]
theorem thawL_off : ∀ {L : List (Addr × HO)} {H : Hp} {b : Addr}, b ∉ L.map Prod.fst → thawL L H b = H b
  | [], _, _, _ => rfl
  | p :: r, H, b, h => by
    have h1 : b ≠ p.1 := fun z => h (by rw [z]; exact List.mem_cons_self ..)
    show thawL r (upd H p.1 _) b = H b
    rw [thawL_off fun z => h (List.mem_cons_of_mem _ z), upd_ne h1]
theorem frzL_at {od : Addr → Obj} : ∀ {L : List (Addr × HO)} {H : Hp}, (L.map Prod.fst).Nodup → ∀ p ∈ L, frzL od L H p.1 = some (.frz (od p.1) p.2)
  | [], _, _, p, h => by cases h
  | q :: r, H, nd, p, h => by
    obtain ⟨n1, n2⟩ := List.nodup_cons.mp nd
    show frzL od r (upd H q.1 _) p.1 = _
    rcases List.mem_cons.mp h with e | e
    · rw [e, frzL_off n1, upd_same]
    · exact frzL_at n2 p e
theorem thawL_at : ∀ {L : List (Addr × HO)} {H : Hp}, (L.map Prod.fst).Nodup → ∀ p ∈ L, thawL L H p.1 = some p.2
  | [], _, _, p, h => by cases h
  | q :: r, H, nd, p, h => by
    obtain ⟨n1, n2⟩ := List.nodup_cons.mp nd
    show thawL r (upd H q.1 _) p.1 = _
    rcases List.mem_cons.mp h with e | e
    · rw [e, thawL_off n1, upd_same]
    · exact thawL_at n2 p e
/-- what is new beside the locked ones stays so -/
theorem thaw_same {od : Addr → Obj} {L : List (Addr × HO)} {H H' : Hp} (nd : (L.map Prod.fst).Nodup) (hL : ∀ p ∈ L, H p.1 = some p.2) (s : Same (frzL od L H) H') : Same H (thawL L H') := fun b o e => by
  by_cases h : b ∈ L.map Prod.fst
  · obtain ⟨p, hp, rfl⟩ := List.mem_map.mp h
    rw [thawL_at nd p hp]
    exact (hL p hp).symm.trans e
  · rw [thawL_off h]
    exact s b o ((frzL_off h).trans e)
section
variable {X : Cx} {pins : List (Addr × Obj)} {σ : L2.St} {s : Shared}
theorem inv_lockL (od : Addr → Obj) (hod : ∀ a o, s.heap.get? a = some o → od a = o) : ∀ {L : List (Addr × HO)} {H : Hp}, Inv X pins σ H s → (∀ p ∈ L, H p.1 = some p.2 ∧ Mut (some p.2)) → (L.map Prod.fst).Nodup → Inv X pins σ (frzL od L H) s
  | [], _, I, _, _ => I
  | p :: r, H, I, h, nd => by
    obtain ⟨n1, n2⟩ := List.nodup_cons.mp nd
    obtain ⟨hp, mu⟩ := h p (List.mem_cons_self ..)
    obtain ⟨o, I1⟩ := I.lock hp mu
    have e : od p.1 = o := hod _ _ (show ObjOk X.prog X.w _ s.heap p.1 (.frz o p.2) from I1.hok p.1 _ upd_same).1
    subst e
    exact inv_lockL od hod (L := r) I1 (fun q hq => ⟨by rw [upd_ne (fun z => n1 (by rw [← z]; exact List.mem_map_of_mem hq))]; exact (h q (List.mem_cons_of_mem _ hq)).1, (h q (List.mem_cons_of_mem _ hq)).2⟩) n2
theorem inv_thawL (od : Addr → Obj) : ∀ {L : List (Addr × HO)} {H : Hp}, Inv X pins σ H s → (∀ p ∈ L, H p.1 = some (.frz (od p.1) p.2)) → (∀ p ∈ L, ∀ o' u', X.H_0 p.1 ≠ some (.frz o' u')) → (L.map Prod.fst).Nodup → Inv X pins σ (thawL L H) s
  | [], _, I, _, _, _ => I
  | p :: r, H, I, h, hn, nd => by
    obtain ⟨n1, n2⟩ := List.nodup_cons.mp nd
    have I1 := I.unlock (h p (List.mem_cons_self ..)) (hn p (List.mem_cons_self ..))
    exact inv_thawL od (L := r) I1 (fun q hq => by rw [upd_ne (fun z => n1 (by rw [← z]; exact List.mem_map_of_mem hq))]; exact h q (List.mem_cons_of_mem _ hq)) (fun q hq => hn q (List.mem_cons_of_mem _ hq)) n2
def tLockL (t : TE) : TE := fun σ H Q => ∃ L : List (Addr × HO), (∀ p ∈ L, H p.1 = some p.2 ∧ Mut (some p.2)) ∧ (L.map Prod.fst).Nodup ∧ ∀ od : Addr → Obj, t σ (frzL od L H) fun v H' => (∀ p ∈ L, H' p.1 = some (.frz (od p.1) p.2)) ∧ Q v (thawL L H')
theorem pe_lockL {e : Expr} {t : TE} (h : PE X e t) : PE X e (tLockL t) := by
  refine ⟨fun pins s σ H Q I hw => ?_⟩
  obtain ⟨L, hL, nd, hw⟩ := hw
  have I1 := inv_lockL (fun a => (s.heap.get? a).getD { cls := .none, data := .plain }) (fun a o e => by rw [e]; rfl) I hL nd
  refine thn (h.run pins s σ _ _ I1 (hw _)) fun v s1 ⟨x, H1, I2, r, e2, q⟩ => ?_
  exact ⟨x, _, inv_thawL (fun a => (s.heap.get? a).getD { cls := .none, data := .plain }) I2 e2 (fun p hp => I.nofrz (hL p hp).1 (hL p hp).2) nd, r, q⟩
end
/-- the turns of a walk, the step any -/
theorem any_it {J : It} {n : Nat} {G : Hp → Prop} {Y : Nat → Hp → V → Hp → Prop} (w : L2.Walk J n G Y) {St : (Hp → Prop) → V → Hp → Prop} {H0 : Hp} {Qd : Hp → Prop} (Pv : Nat → Hp → Prop) (h0 : Pv 0 H0) (hG : ∀ i H, i ≤ n → Pv i H → G H)
    (hs : ∀ i x H H', i < n → Pv i H → Y i H x H' → St (Pv (i + 1)) x H') (hd : ∀ H, Pv n H → Qd H) :
    ∃ W : Nat → Nat → Hp → Prop, (∃ m, W 0 m H0) ∧ ∀ i m H, W i m H → (J.stop i H ∧ Qd H) ∨ (J.go i H ∧ ∃ Nx : Hp → Prop, (∀ H', Nx H' → ∃ m', m' < m ∧ W (i + 1) m' H') ∧ ∀ x H', J.yld i H x H' → St Nx x H') := by
  refine ⟨fun i m H => m + i = n ∧ Pv i H, ⟨n, rfl, h0⟩, fun i m H ⟨hm, p⟩ => ?_⟩
  have q := hG i H (by omega) p
  cases m with
  | zero =>
    have e : i = n := by omega
    subst e
    exact .inl ⟨w.stops H q, hd H p⟩
  | succ m => exact .inr ⟨w.goes i H (by omega) q, Pv (i + 1), fun H' p' => ⟨m, Nat.lt_succ_self m, by omega, p'⟩, fun x H' y => hs i x H H' (by omega) p (w.yields i H x H' (by omega) q y)⟩
end EL
namespace EL
open PySem PySem.Spec PyProof.Rows L2 He TL
/-- the tuples stay -/
def Tk (H H' : Hp) : Prop := ∀ a xs, Rd H a (.tup xs) → Rd H' a (.tup xs)
theorem Tk.sqT {K : PySem.W.Frag} {H H' : Hp} (s : Tk H H') {a : Addr} {xs : List V} (h : SqT K H a xs) : SqT K H' a xs := by
  rcases h with h | h
  · exact .inl (s a xs h)
  · exact .inr h
mutual
theorem Tk.dp {K : PySem.W.Frag} {H H' : Hp} (s : Tk H H') : ∀ {d : PyData} {v : V}, noL d = true → Dp K H v d → Dp K H' v d
  | _, _, _, .non => .non
  | _, _, _, .bl b => .bl b
  | _, _, _, .int i => .int i
  | _, _, _, .str x => .str x
  | _, _, n, .lst h a => by cases n
  | _, _, n, .tup h a => .tup (s.sqT h) (Tk.dpAll s n a)
theorem Tk.dpAll {K : PySem.W.Frag} {H H' : Hp} (s : Tk H H') : ∀ {ds : List PyData} {vs : List V}, noLs ds = true → DpAll K H vs ds → DpAll K H' vs ds
  | _, _, _, .nil => .nil
  | _, _, n, .cons a b => .cons (Tk.dp s (Bool.and_eq_true_iff.mp n).1 a) (Tk.dpAll s (Bool.and_eq_true_iff.mp n).2 b)
end
theorem KNs.tk {K : PySem.W.Frag} {H H' : Hp} {kvs : List (Rw × V)} {xs : List (NestedKey × Addr × Value)} (r : KNs K H kvs xs) (s : Tk H H') : KNs K H' kvs xs := Paired.mapP r fun p _ z => ⟨z.1, s.dp (rwD_nl p.1) z.2.1, z.2.2⟩
theorem KNs.at {K : PySem.W.Frag} {H : Hp} : ∀ {kvs : List (Rw × V)} {xs : List (NestedKey × Addr × Value)} {j : Nat} {en : NestedKey × Addr × Value}, KNs K H kvs xs → xs[j]? = some en → ∃ r v, kvs[j]? = some (r, v) ∧ Dp K H (.ref en.2.1) (rwD r)
  | _, _, 0, _, .cons h t, e => by
    cases e
    exact ⟨_, _, rfl, h.2.1⟩
  | _, _, j + 1, _, .cons h t, e => KNs.at (j := j) t e
  | _, _, _, _, .nil, e => by simp at e
theorem setR_at {rs : List Rw} {j : Nat} {r : Rw} {v : V} (h : (setR rs)[j]? = some (r, v)) : rs[j]? = some r := by
  unfold setR at h
  rw [List.getElem?_map] at h
  cases q : rs[j]? with
  | none => rw [q] at h; cases h
  | some x => rw [q] at h; cases h; rfl
/-- what stands for a dict is no tuple -/
theorem Tk.upd {H : Hp} {a : Addr} {o : HO} (h : ∀ xs, ¬ Rd H a (.tup xs)) : Tk H (upd H a o) := fun b xs r => by
  have hb : b ≠ a := fun z => h xs (z ▸ r)
  rcases r with r | ⟨o', r⟩
  · exact .inl ((upd_ne hb).trans r)
  · exact .inr ⟨o', (upd_ne hb).trans r⟩
theorem no_tupN {H : Hp} {a : Addr} {od : Obj} {ys : List (NestedKey × Addr × Value)} (h : H a = some (.frz od (dN a ys))) : ∀ xs, ¬ Rd H a (.tup xs) := fun xs r => by
  rcases r with r | ⟨o', r⟩
  · rw [h] at r; cases r
  · rw [h] at r; cases r
theorem no_tupU {H : Hp} {a : Addr} {od : Obj} {u : HO} (h : H a = some (.frz od u)) (hu : ∀ xs, u ≠ .tup xs) : ∀ xs, ¬ Rd H a (.tup xs) := fun xs r => by
  rcases r with r | ⟨o', r⟩
  · rw [h] at r; cases r
  · rw [h] at r
    injection r with r
    injection r with _ r
    exact hu xs r
theorem thaw1 {H H' : Hp} {a : Addr} {od : Obj} {u : HO} (h : H a = some u) (s : Same (upd H a (.frz od u)) H') : Same H (upd H' a u) := fun b o e => by
  by_cases z : b = a
  · rw [z, upd_same, ← h, ← z]
    exact e
  · rw [upd_ne z]
    exact s b o ((upd_ne z).trans e)
end EL
namespace EL
open PySem PySem.Spec PyProof.Rows L2 He TL
/-! ### x is True, x any object or a bool -/
def rIsB : R2 := fun x y H Q => ∃ b : Bool, y = .bl b ∧ ((∃ p, x = .ref p ∧ Q (.bl false) H) ∨ ∃ a : Bool, x = .bl a ∧ Q (.bl (decide (a = b))) H)
theorem op_isB {X : Cx} : OpR X (compareOp .Is) rIsB := by
  intro pins s σ H x y v u Q I rx ry h
  obtain ⟨b, rfl, ⟨p, rfl, q⟩ | ⟨a, rfl, q⟩⟩ := h
  · cases (show v = Value.ref p from rx)
    cases (show u = Value.bool b from ry)
    exact wpAny_is_other rfl (fun z => nomatch z) ⟨.bl false, H, I, rfl, q⟩
  · exact op_is_bl pins s σ H _ _ v u Q I rx ry ⟨a, b, rfl, rfl, q⟩
end EL
namespace EL
open PySem PySem.Spec PyProof.Rows L2 He TL
open AutoSeq1 (wpAny_loadPart')
/-! ### t * 1 is t -/
theorem tuple_mul1 (l : Addr) (items : Array Value) (n : Nat) (dd : Option Addr) (sl : Array (Option Value)) (u : Tok) :
    Meets (Builtin.«tuple.__mul__» ⟨[.ref l, .int 1 u], []⟩) (fun _ R s => s.heap.get? l = some { cls := .type "tuple", dict := dd, data := .seq items n, slots := sl } ∧ R (.ok (.ret (Value.ref l))) s) :=
  .of_wp fun prog w A R s h => by
    obtain ⟨hp, g, d, tk, os⟩ := s
    obtain ⟨hl, h⟩ := h
    have f1 := AutoSeq1.idx_int
    wp_walk using wpAny_loadPart' hl
    exact ⟨_, rfl, h⟩
def rRepA (K : PySem.W.Frag) : R2 := fun x y H Q => ∃ l k xs, x = .ref l ∧ y = .int k ∧ SqT K H l xs ∧ xs ≠ [] ∧ 1 ≤ k ∧ k ≤ 1000 ∧ xs.length ≤ 1000 ∧ ∀ p H', Same H H' → SqT K H' p (List.replicate k.toNat xs).flatten → Q (.ref p) H'
theorem op_repA {X : Cx} : OpR X (binaryOp .Mult) (rRepA X.K) := by
  intro pins s σ H x y v u Q I rx ry h
  obtain ⟨l, k, xs, rfl, rfl, hT, hne, h1, h2, hz, q⟩ := h
  by_cases hk : k = 1
  · subst hk
    cases rx
    obtain ⟨t, rfl⟩ := ry
    obtain ⟨its, r, ⟨⟨cls, dd, data, sl⟩, ho, hc, n, hd⟩, hs⟩ := I.tuple hT
    simp only at hc hd
    subst hc hd
    refine wpAny_binaryOp_repeat_ref (T := "tuple") (U := "int") (by decide) ⟨_, ho, rfl⟩ (fun s' => typeIs_int s' 1 t) noFill_tuple_mul F.fills_int_mul F.slot_int_rmul repeat_tuple F.slot_int_index.lookup
      (call_meets F.slot_int_rmul (typeIs_int s 1 t) F.entry_int_rmul (F.args_int_rmul_2 _ _) (int_rmul_tuple 1 t l its.toArray n dd sl)
        ⟨ho, rfl, ⟨_, ho, rfl⟩, call_meets F.slot_tuple_mul ⟨_, ho, rfl⟩ F.entry_tuple_mul (F.args_tuple_mul_2 _ _) (tuple_mul1 l its.toArray n dd sl t) ⟨ho, ?_⟩⟩)
    refine ⟨.ref l, H, I, rfl, q l H (.refl _) ?_⟩
    show SqT X.K H l (List.replicate 1 xs).flatten
    rw [List.replicate_one, List.flatten_singleton]
    exact hT
  · exact op_repT pins s σ H _ _ v u Q I rx ry ⟨l, k, xs, rfl, rfl, hT, hne, by omega, h2, hz, fun p np => q p _ (same_upd np) (SqT.of upd_same)⟩
end EL
namespace EL
open PySem PySem.W
/-! the end by the kit's word k_head: what its hook says holds the written objects -/
theorem inK_of {K : Params → Frag} {as : List Addr} {e} {w : World} {h : Heap} (Y : (kHook K as e).says w h) : (K w.params).In h := Y
theorem says_of {K : Frag} {h : Heap} (_ : K.In h) (fa : List He.Fa) (fn : List DefE) (xn : List DefX) (ex : Frag → Bool) (c : obsX fa fn xn ex K = valX fn xn) : SaysX fa fn xn ex K := c
end EL
namespace K10
open PySem PySem.Spec PyProof.Rows L2 He TL EL
def topS (i : Nat) : Stmt := PySem.Challenge.pw_endlessasks_k10_whole_tables_as_sets.main.body.getD i (.Pass ⟨0, 0, 0, 0⟩)
abbrev s_NoTable___init__ : Stmt := (inClass (topS 6) 0)
def xw_NoTable : EL.DefX := ⟨"NoTable", "name", s_NoTable___init__, false⟩
theorem xwok_NoTable : EL.XW xw_NoTable := ⟨⟨fun _ _ _ _ _ _ _ _ _ _ _ => rfl, ⟨_, rfl, rfl⟩, rfl, rfl, rfl, rfl, rfl, by decide +kernel, rfl, rfl, by decide +kernel, by decide +kernel⟩, ⟨_, _, _, _, _, _, _, _, _, _, rfl, by decide, ⟨_, _, _, rfl⟩⟩⟩
abbrev s_NoRow___init__ : Stmt := (inClass (topS 7) 0)
def xw_NoRow : EL.DefX := ⟨"NoRow", "index", s_NoRow___init__, false⟩
theorem xwok_NoRow : EL.XW xw_NoRow := ⟨⟨fun _ _ _ _ _ _ _ _ _ _ _ => rfl, ⟨_, rfl, rfl⟩, rfl, rfl, rfl, rfl, rfl, by decide +kernel, rfl, rfl, by decide +kernel, by decide +kernel⟩, ⟨_, _, _, _, _, _, _, _, _, _, rfl, by decide, ⟨_, _, _, rfl⟩⟩⟩
abbrev s_BadRow___init__ : Stmt := (inClass (topS 8) 0)
def xw_BadRow : EL.DefX := ⟨"BadRow", "index", s_BadRow___init__, false⟩
theorem xwok_BadRow : EL.XW xw_BadRow := ⟨⟨fun _ _ _ _ _ _ _ _ _ _ _ => rfl, ⟨_, rfl, rfl⟩, rfl, rfl, rfl, rfl, rfl, by decide +kernel, rfl, rfl, by decide +kernel, by decide +kernel⟩, ⟨_, _, _, _, _, _, _, _, _, _, rfl, by decide, ⟨_, _, _, rfl⟩⟩⟩
abbrev s__wall : Stmt := (topS 0)
abbrev s_is_whole : Stmt := (topS 13)
abbrev s_is_word : Stmt := (topS 14)
abbrev s_common_divisor : Stmt := (topS 15)
abbrev s_is_value : Stmt := (topS 16)
abbrev s_less : Stmt := (topS 17)
abbrev s_stands : Stmt := (topS 18)
abbrev s_is_term : Stmt := (topS 22)
abbrev s_is_atom : Stmt := (topS 23)
abbrev s_value_at : Stmt := (topS 24)
abbrev s_Conditions___init__ : Stmt := (inClass (topS 25) 0)
abbrev s_Conditions_atoms : Stmt := (inClass (topS 25) 1)
abbrev s_Conditions___eq__ : Stmt := (inClass (topS 25) 3)
abbrev s_Conditions___and__ : Stmt := (inClass (topS 25) 5)
abbrev s_Conditions___iand__ : Stmt := (inClass (topS 25) 6)
abbrev s_Conditions_hold : Stmt := (inClass (topS 25) 8)
abbrev s_is_column_count : Stmt := (topS 27)
abbrev s_is_row : Stmt := (topS 28)
abbrev s_names_cells : Stmt := (topS 29)
abbrev s_are_row_rules : Stmt := (topS 30)
abbrev s_Schema___init__ : Stmt := (inClass (topS 31) 0)
abbrev s_Schema___len__ : Stmt := (inClass (topS 31) 1)
abbrev s_Schema___contains__ : Stmt := (inClass (topS 31) 3)
abbrev s_Schema___eq__ : Stmt := (inClass (topS 31) 4)
abbrev s_Schema_names : Stmt := (inClass (topS 31) 5)
abbrev s_Schema_add : Stmt := (inClass (topS 31) 6)
abbrev s_Schema_columns : Stmt := (inClass (topS 31) 7)
abbrev s_Schema_rules : Stmt := (inClass (topS 31) 8)
abbrev s_Schema_narrow : Stmt := (inClass (topS 31) 9)
abbrev s_Schema_keeps_rules : Stmt := (inClass (topS 31) 10)
abbrev s_Schema_twin : Stmt := (inClass (topS 31) 11)
abbrev s_Tables___init__ : Stmt := (inClass (topS 32) 0)
abbrev s_Tables_look : Stmt := (inClass (topS 32) 1)
abbrev s_Tables_must_know : Stmt := (inClass (topS 32) 2)
abbrev s_Tables_names : Stmt := (inClass (topS 32) 3)
abbrev s_Tables___len__ : Stmt := (inClass (topS 32) 5)
abbrev s_Tables___eq__ : Stmt := (inClass (topS 32) 6)
abbrev s_Tables___getitem__ : Stmt := (inClass (topS 32) 7)
abbrev s_Tables___setitem__ : Stmt := (inClass (topS 32) 8)
abbrev s_Tables_put : Stmt := (inClass (topS 32) 9)
abbrev s_Tables_has : Stmt := (inClass (topS 32) 10)
abbrev s_Tables_twin : Stmt := (inClass (topS 32) 13)
abbrev s_Tables___or__ : Stmt := (inClass (topS 32) 14)
abbrev s__law_begin : Stmt := (topS 34)
abbrev s__law_draw : Stmt := (topS 35)
abbrev s__law_value : Stmt := (topS 36)
abbrev s__law_stands : Stmt := (topS 37)
abbrev s__law_side : Stmt := (topS 38)
abbrev s__law_keeps : Stmt := (topS 39)
abbrev s__law_form : Stmt := (topS 40)
abbrev s__law_row : Stmt := (topS 41)
abbrev s__law_put : Stmt := (topS 42)
abbrev s__law_set : Stmt := (topS 43)
abbrev s__law_once : Stmt := (topS 44)
abbrev s__law_due : Stmt := (topS 45)
abbrev s__law_deed : Stmt := (topS 46)
abbrev s__law_refuses : Stmt := (topS 47)
abbrev s__law_is : Stmt := (topS 48)
abbrev s__law_same : Stmt := (topS 49)
abbrev s__law_join : Stmt := (topS 50)
abbrev s__law_apart : Stmt := (topS 51)
abbrev s_law : Stmt := (topS 52)
theorem sc__wall : FnScope ["k"] ["k"] (defScope s__wall) := ⟨rfl, rfl, rfl, by decide +kernel, rfl, by decide +kernel, by decide +kernel⟩
theorem sc_is_whole : FnScope ["thing"] ["thing"] (defScope s_is_whole) := ⟨rfl, rfl, rfl, by decide +kernel, rfl, by decide +kernel, by decide +kernel⟩
theorem sc_is_word : FnScope ["thing", "letter"] ["thing"] (defScope s_is_word) := ⟨rfl, rfl, rfl, by decide +kernel, rfl, by decide +kernel, by decide +kernel⟩
theorem sc_common_divisor : FnScope ["one", "other"] ["one", "other"] (defScope s_common_divisor) := ⟨rfl, rfl, rfl, by decide +kernel, rfl, by decide +kernel, by decide +kernel⟩
theorem sc_is_value : FnScope ["thing"] ["thing"] (defScope s_is_value) := ⟨rfl, rfl, rfl, by decide +kernel, rfl, by decide +kernel, by decide +kernel⟩
theorem sc_less : FnScope ["one", "other"] ["one", "other"] (defScope s_less) := ⟨rfl, rfl, rfl, by decide +kernel, rfl, by decide +kernel, by decide +kernel⟩
theorem sc_stands : FnScope ["sign", "left", "right"] ["sign", "left", "right"] (defScope s_stands) := ⟨rfl, rfl, rfl, by decide +kernel, rfl, by decide +kernel, by decide +kernel⟩
theorem sc_is_term : FnScope ["thing"] ["thing"] (defScope s_is_term) := ⟨rfl, rfl, rfl, by decide +kernel, rfl, by decide +kernel, by decide +kernel⟩
theorem sc_is_atom : FnScope ["thing"] ["thing"] (defScope s_is_atom) := ⟨rfl, rfl, rfl, by decide +kernel, rfl, by decide +kernel, by decide +kernel⟩
theorem sc_value_at : FnScope ["term", "rows", "row"] ["term", "rows"] (defScope s_value_at) := ⟨rfl, rfl, rfl, by decide +kernel, rfl, by decide +kernel, by decide +kernel⟩
theorem sc_Conditions___init__ : FnScope ["self", "atoms", "kept", "atom"] ["self", "atoms"] (defScope s_Conditions___init__) := ⟨rfl, rfl, rfl, by decide +kernel, rfl, by decide +kernel, by decide +kernel⟩
theorem sc_Conditions_atoms : FnScope ["self"] ["self"] (defScope s_Conditions_atoms) := ⟨rfl, rfl, rfl, by decide +kernel, rfl, by decide +kernel, by decide +kernel⟩
theorem sc_Conditions___eq__ : FnScope ["self", "other"] ["self", "other"] (defScope s_Conditions___eq__) := ⟨rfl, rfl, rfl, by decide +kernel, rfl, by decide +kernel, by decide +kernel⟩
theorem sc_Conditions___and__ : FnScope ["self", "other"] ["self", "other"] (defScope s_Conditions___and__) := ⟨rfl, rfl, rfl, by decide +kernel, rfl, by decide +kernel, by decide +kernel⟩
theorem sc_Conditions___iand__ : FnScope ["self", "other"] ["self", "other"] (defScope s_Conditions___iand__) := ⟨rfl, rfl, rfl, by decide +kernel, rfl, by decide +kernel, by decide +kernel⟩
theorem sc_Conditions_hold : FnScope ["self", "old", "first", "second", "rows", "pairs", "sign", "left", "right"] ["self", "old", "first", "second"] (defScope s_Conditions_hold) := ⟨rfl, rfl, rfl, by decide +kernel, rfl, by decide +kernel, by decide +kernel⟩
theorem sc_is_column_count : FnScope ["thing"] ["thing"] (defScope s_is_column_count) := ⟨rfl, rfl, rfl, by decide +kernel, rfl, by decide +kernel, by decide +kernel⟩
theorem sc_is_row : FnScope ["thing", "columns", "item"] ["thing", "columns"] (defScope s_is_row) := ⟨rfl, rfl, rfl, by decide +kernel, rfl, by decide +kernel, by decide +kernel⟩
theorem sc_names_cells : FnScope ["conditions", "places", "sign", "left", "right", "term"] ["conditions", "places"] (defScope s_names_cells) := ⟨rfl, rfl, rfl, by decide +kernel, rfl, by decide +kernel, by decide +kernel⟩
theorem sc_are_row_rules : FnScope ["thing", "columns"] ["thing", "columns"] (defScope s_are_row_rules) := ⟨rfl, rfl, rfl, by decide +kernel, rfl, by decide +kernel, by decide +kernel⟩
theorem sc_Schema___init__ : FnScope ["self", "widths", "limits"] ["self", "widths", "limits"] (defScope s_Schema___init__) := ⟨rfl, rfl, rfl, by decide +kernel, rfl, by decide +kernel, by decide +kernel⟩
theorem sc_Schema___len__ : FnScope ["self"] ["self"] (defScope s_Schema___len__) := ⟨rfl, rfl, rfl, by decide +kernel, rfl, by decide +kernel, by decide +kernel⟩
theorem sc_Schema___contains__ : FnScope ["self", "thing"] ["self", "thing"] (defScope s_Schema___contains__) := ⟨rfl, rfl, rfl, by decide +kernel, rfl, by decide +kernel, by decide +kernel⟩
theorem sc_Schema___eq__ : FnScope ["self", "other", "name"] ["self", "other"] (defScope s_Schema___eq__) := ⟨rfl, rfl, rfl, by decide +kernel, rfl, by decide +kernel, by decide +kernel⟩
theorem sc_Schema_names : FnScope ["self"] ["self"] (defScope s_Schema_names) := ⟨rfl, rfl, rfl, by decide +kernel, rfl, by decide +kernel, by decide +kernel⟩
theorem sc_Schema_add : FnScope ["self", "name", "columns", "rules"] ["self", "name", "columns", "rules"] (defScope s_Schema_add) := ⟨rfl, rfl, rfl, by decide +kernel, rfl, by decide +kernel, by decide +kernel⟩
theorem sc_Schema_columns : FnScope ["self", "name"] ["self", "name"] (defScope s_Schema_columns) := ⟨rfl, rfl, rfl, by decide +kernel, rfl, by decide +kernel, by decide +kernel⟩
theorem sc_Schema_rules : FnScope ["self", "name"] ["self", "name"] (defScope s_Schema_rules) := ⟨rfl, rfl, rfl, by decide +kernel, rfl, by decide +kernel, by decide +kernel⟩
theorem sc_Schema_narrow : FnScope ["self", "name", "rules", "columns"] ["self", "name", "rules"] (defScope s_Schema_narrow) := ⟨rfl, rfl, rfl, by decide +kernel, rfl, by decide +kernel, by decide +kernel⟩
theorem sc_Schema_keeps_rules : FnScope ["self", "name", "row"] ["self", "name", "row"] (defScope s_Schema_keeps_rules) := ⟨rfl, rfl, rfl, by decide +kernel, rfl, by decide +kernel, by decide +kernel⟩
theorem sc_Schema_twin : FnScope ["self"] ["self"] (defScope s_Schema_twin) := ⟨rfl, rfl, rfl, by decide +kernel, rfl, by decide +kernel, by decide +kernel⟩
theorem sc_Tables___init__ : FnScope ["self", "schema", "places", "name"] ["self", "schema", "places"] (defScope s_Tables___init__) := ⟨rfl, rfl, rfl, by decide +kernel, rfl, by decide +kernel, by decide +kernel⟩
theorem sc_Tables_look : FnScope ["self", "name", "row", "index"] ["self", "name", "row", "index"] (defScope s_Tables_look) := ⟨rfl, rfl, rfl, by decide +kernel, rfl, by decide +kernel, by decide +kernel⟩
theorem sc_Tables_must_know : FnScope ["self", "name"] ["self", "name"] (defScope s_Tables_must_know) := ⟨rfl, rfl, rfl, by decide +kernel, rfl, by decide +kernel, by decide +kernel⟩
theorem sc_Tables_names : FnScope ["self"] ["self"] (defScope s_Tables_names) := ⟨rfl, rfl, rfl, by decide +kernel, rfl, by decide +kernel, by decide +kernel⟩
theorem sc_Tables___len__ : FnScope ["self", "rows", "row"] ["self"] (defScope s_Tables___len__) := ⟨rfl, rfl, rfl, by decide +kernel, rfl, by decide +kernel, by decide +kernel⟩
theorem sc_Tables___eq__ : FnScope ["self", "other"] ["self", "other"] (defScope s_Tables___eq__) := ⟨rfl, rfl, rfl, by decide +kernel, rfl, by decide +kernel, by decide +kernel⟩
theorem sc_Tables___getitem__ : FnScope ["self", "name"] ["self", "name"] (defScope s_Tables___getitem__) := ⟨rfl, rfl, rfl, by decide +kernel, rfl, by decide +kernel, by decide +kernel⟩
theorem sc_Tables___setitem__ : FnScope ["self", "name", "rows", "kept", "index", "row"] ["self", "name", "rows"] (defScope s_Tables___setitem__) := ⟨rfl, rfl, rfl, by decide +kernel, rfl, by decide +kernel, by decide +kernel⟩
theorem sc_Tables_put : FnScope ["self", "name", "row"] ["self", "name", "row"] (defScope s_Tables_put) := ⟨rfl, rfl, rfl, by decide +kernel, rfl, by decide +kernel, by decide +kernel⟩
theorem sc_Tables_has : FnScope ["self", "name", "row"] ["self", "name", "row"] (defScope s_Tables_has) := ⟨rfl, rfl, rfl, by decide +kernel, rfl, by decide +kernel, by decide +kernel⟩
theorem sc_Tables_twin : FnScope ["self", "row", "name", "rows"] ["self"] (defScope s_Tables_twin) := ⟨rfl, rfl, rfl, by decide +kernel, rfl, by decide +kernel, by decide +kernel⟩
theorem sc_Tables___or__ : FnScope ["self", "other", "mine", "more", "row", "name"] ["self", "other"] (defScope s_Tables___or__) := ⟨rfl, rfl, rfl, by decide +kernel, rfl, by decide +kernel, by decide +kernel⟩
theorem sc__law_begin : FnScope ["_law_script"] ["_law_script"] (defScope s__law_begin) := ⟨rfl, rfl, rfl, by decide +kernel, rfl, by decide +kernel, by decide +kernel⟩
theorem sc__law_draw : FnScope ["_law_source", "_law_limit", "_law_cell", "_law_digit"] ["_law_source", "_law_limit"] (defScope s__law_draw) := ⟨rfl, rfl, rfl, by decide +kernel, rfl, by decide +kernel, by decide +kernel⟩
theorem sc__law_value : FnScope ["_law_source", "_law_kind"] ["_law_source"] (defScope s__law_value) := ⟨rfl, rfl, rfl, by decide +kernel, rfl, by decide +kernel, by decide +kernel⟩
theorem sc__law_stands : FnScope ["_law_sign", "_law_one", "_law_other", "_law_left", "_law_right"] ["_law_sign", "_law_one", "_law_other"] (defScope s__law_stands) := ⟨rfl, rfl, rfl, by decide +kernel, rfl, by decide +kernel, by decide +kernel⟩
theorem sc__law_side : FnScope ["_law_term", "_law_row_here"] ["_law_term", "_law_row_here"] (defScope s__law_side) := ⟨rfl, rfl, rfl, by decide +kernel, rfl, by decide +kernel, by decide +kernel⟩
theorem sc__law_keeps : FnScope ["_law_form_here", "_law_row_here", "_law_atom"] ["_law_form_here", "_law_row_here"] (defScope s__law_keeps) := ⟨rfl, rfl, rfl, by decide +kernel, rfl, by decide +kernel, by decide +kernel⟩
theorem sc__law_form : FnScope ["_law_source", "_law_schema", "_law_name", "_law_columns", "_law_atoms", "_law_turn", "_law_sign", "_law_right"] ["_law_source", "_law_schema", "_law_name"] (defScope s__law_form) := ⟨rfl, rfl, rfl, by decide +kernel, rfl, by decide +kernel, by decide +kernel⟩
theorem sc__law_row : FnScope ["_law_source", "_law_form_here", "_law_row_here", "_law_turn", "_law_kind", "_law_cell"] ["_law_source", "_law_form_here"] (defScope s__law_row) := ⟨rfl, rfl, rfl, by decide +kernel, rfl, by decide +kernel, by decide +kernel⟩
theorem sc__law_put : FnScope ["_law_tables", "_law_name", "_law_row_here", "_law_new", "e"] ["_law_tables", "_law_name", "_law_row_here"] (defScope s__law_put) := ⟨rfl, rfl, rfl, by decide +kernel, rfl, by decide +kernel, by decide +kernel⟩
theorem sc__law_set : FnScope ["_law_tables", "_law_name", "_law_rows", "e"] ["_law_tables", "_law_name", "_law_rows"] (defScope s__law_set) := ⟨rfl, rfl, rfl, by decide +kernel, rfl, by decide +kernel, by decide +kernel⟩
theorem sc__law_once : FnScope ["_law_rows", "_law_found", "_law_row_here"] ["_law_rows"] (defScope s__law_once) := ⟨rfl, rfl, rfl, by decide +kernel, rfl, by decide +kernel, by decide +kernel⟩
theorem sc__law_due : FnScope ["_law_drawn", "_law_at"] ["_law_drawn"] (defScope s__law_due) := ⟨rfl, rfl, rfl, by decide +kernel, rfl, by decide +kernel, by decide +kernel⟩
theorem sc__law_deed : FnScope ["_law_source", "_law_tables", "_law_state", "_law_forms", "_law_at", "_law_name", "_law_due_here", "_law_drawn", "_law_odd", "_law_turn", "_law_rows", "_law_row_here", "_law_actual"] ["_law_source", "_law_tables", "_law_state", "_law_forms"] (defScope s__law_deed) := ⟨rfl, rfl, rfl, by decide +kernel, rfl, by decide +kernel, by decide +kernel⟩
theorem sc__law_refuses : FnScope ["_law_tables", "_law_name", "_law_refused", "e"] ["_law_tables", "_law_name"] (defScope s__law_refuses) := ⟨rfl, rfl, rfl, by decide +kernel, rfl, by decide +kernel, by decide +kernel⟩
theorem sc__law_is : FnScope ["_law_tables", "_law_state", "_law_forms", "_law_form_here", "_law_at", "_law_rows", "_law_row_here", "_law_odd"] ["_law_tables", "_law_state", "_law_forms"] (defScope s__law_is) := ⟨rfl, rfl, rfl, by decide +kernel, rfl, by decide +kernel, by decide +kernel⟩
theorem sc__law_same : FnScope ["_law_one", "_law_other", "_law_row_here"] ["_law_one", "_law_other"] (defScope s__law_same) := ⟨rfl, rfl, rfl, by decide +kernel, rfl, by decide +kernel, by decide +kernel⟩
theorem sc__law_join : FnScope ["_law_both", "_law_states", "_law_forms", "_law_union", "_law_at", "_law_row_here", "_law_backwards", "_law_form_here", "_law_rows"] ["_law_both", "_law_states", "_law_forms"] (defScope s__law_join) := ⟨rfl, rfl, rfl, by decide +kernel, rfl, by decide +kernel, by decide +kernel⟩
theorem sc__law_apart : FnScope ["_law_tables", "_law_other", "_law_refused", "_law_one", "_law_two", "e"] ["_law_tables", "_law_other"] (defScope s__law_apart) := ⟨rfl, rfl, rfl, by decide +kernel, rfl, by decide +kernel, by decide +kernel⟩
theorem sc_law : FnScope ["_law_script", "_law_source", "_law_schema", "_law_forms", "_law_both", "_law_states", "_law_parting", "_law_turn", "_law_at", "_law_equal", "_law_due_here"] ["_law_script"] (defScope s_law) := ⟨rfl, rfl, rfl, by decide +kernel, rfl, by decide +kernel, by decide +kernel⟩
structure Txt (K : PySem.W.Frag) (mg : Str → Option Value) : Prop where
  g__wall : mg "_wall" = some (.ref (ga K "_wall"))
  g_is_whole : mg "is_whole" = some (.ref (ga K "is_whole"))
  g_is_word : mg "is_word" = some (.ref (ga K "is_word"))
  g_common_divisor : mg "common_divisor" = some (.ref (ga K "common_divisor"))
  g_is_value : mg "is_value" = some (.ref (ga K "is_value"))
  g_less : mg "less" = some (.ref (ga K "less"))
  g_stands : mg "stands" = some (.ref (ga K "stands"))
  g_is_term : mg "is_term" = some (.ref (ga K "is_term"))
  g_is_atom : mg "is_atom" = some (.ref (ga K "is_atom"))
  g_value_at : mg "value_at" = some (.ref (ga K "value_at"))
  g_is_column_count : mg "is_column_count" = some (.ref (ga K "is_column_count"))
  g_is_row : mg "is_row" = some (.ref (ga K "is_row"))
  g_names_cells : mg "names_cells" = some (.ref (ga K "names_cells"))
  g_are_row_rules : mg "are_row_rules" = some (.ref (ga K "are_row_rules"))
  g__law_begin : mg "_law_begin" = some (.ref (ga K "_law_begin"))
  g__law_draw : mg "_law_draw" = some (.ref (ga K "_law_draw"))
  g__law_value : mg "_law_value" = some (.ref (ga K "_law_value"))
  g__law_stands : mg "_law_stands" = some (.ref (ga K "_law_stands"))
  g__law_side : mg "_law_side" = some (.ref (ga K "_law_side"))
  g__law_keeps : mg "_law_keeps" = some (.ref (ga K "_law_keeps"))
  g__law_form : mg "_law_form" = some (.ref (ga K "_law_form"))
  g__law_row : mg "_law_row" = some (.ref (ga K "_law_row"))
  g__law_put : mg "_law_put" = some (.ref (ga K "_law_put"))
  g__law_set : mg "_law_set" = some (.ref (ga K "_law_set"))
  g__law_once : mg "_law_once" = some (.ref (ga K "_law_once"))
  g__law_due : mg "_law_due" = some (.ref (ga K "_law_due"))
  g__law_deed : mg "_law_deed" = some (.ref (ga K "_law_deed"))
  g__law_refuses : mg "_law_refuses" = some (.ref (ga K "_law_refuses"))
  g__law_is : mg "_law_is" = some (.ref (ga K "_law_is"))
  g__law_same : mg "_law_same" = some (.ref (ga K "_law_same"))
  g__law_join : mg "_law_join" = some (.ref (ga K "_law_join"))
  g__law_apart : mg "_law_apart" = some (.ref (ga K "_law_apart"))
  g_law : mg "law" = some (.ref (ga K "law"))
  g_NotSingle : mg "NotSingle" = some (.ref (ga K "NotSingle"))
  g_NoTable : mg "NoTable" = some (.ref (ga K "NoTable"))
  g_NoRow : mg "NoRow" = some (.ref (ga K "NoRow"))
  g_BadRow : mg "BadRow" = some (.ref (ga K "BadRow"))
  g_Conditions : mg "Conditions" = some (.ref (ga K "Conditions"))
  g_Schema : mg "Schema" = some (.ref (ga K "Schema"))
  g_Tables : mg "Tables" = some (.ref (ga K "Tables"))
  x_AskError : XC K mg "AskError"
  x_NoCell : XC K mg "NoCell"
  x_NoCondition : XC K mg "NoCondition"
  g_LETTERS : ∃ u, mg "LETTERS" = some u ∧ RelV (.str "abcdefghijklmnopqrstuvwxyz") u
  g_SIGNS : mg "SIGNS" = some (.ref (ga K "SIGNS"))
  g_NEGATED : mg "NEGATED" = some (.ref (ga K "NEGATED"))
  g_PLACES : mg "PLACES" = some (.ref (ga K "PLACES"))
  g_MOST_COLUMNS : ∃ u, mg "MOST_COLUMNS" = some u ∧ RelV (.int 3) u
  z_ValueError : mg "ValueError" = none
  z_super : mg "super" = none
  z_isinstance : mg "isinstance" = none
  z_int : mg "int" = none
  z_bool : mg "bool" = none
  z_str : mg "str" = none
  z_len : mg "len" = none
  z_abs : mg "abs" = none
  z_tuple : mg "tuple" = none
  z_list : mg "list" = none
  z_iter : mg "iter" = none
  z_dict : mg "dict" = none
  z_all : mg "all" = none
  z_enumerate : mg "enumerate" = none
  z_range : mg "range" = none
  e_NoTable_NoTable : PySem.W.exmOne K (.ref (ga K "NoTable")) (.ref (ga K "NoTable")) = some true
  e_NoRow_NoTable : PySem.W.exmOne K (.ref (ga K "NoRow")) (.ref (ga K "NoTable")) = some false
  e_NoRow_NoRow : PySem.W.exmOne K (.ref (ga K "NoRow")) (.ref (ga K "NoRow")) = some true
  e_BadRow_NoTable : PySem.W.exmOne K (.ref (ga K "BadRow")) (.ref (ga K "NoTable")) = some false
  e_BadRow_NoRow : PySem.W.exmOne K (.ref (ga K "BadRow")) (.ref (ga K "NoRow")) = some false
  e_BadRow_BadRow : PySem.W.exmOne K (.ref (ga K "BadRow")) (.ref (ga K "BadRow")) = some true
  m_Conditions : Mk K (ga K "Conditions") (ma K (ga K "Conditions") "__init__")
  h_Conditions_atoms : Meth K (ga K "Conditions") "atoms" (ma K (ga K "Conditions") "atoms")
  h_Conditions___eq__ : Meth K (ga K "Conditions") "__eq__" (ma K (ga K "Conditions") "__eq__")
  h_Conditions___and__ : Meth K (ga K "Conditions") "__and__" (ma K (ga K "Conditions") "__and__")
  h_Conditions___iand__ : Meth K (ga K "Conditions") "__iand__" (ma K (ga K "Conditions") "__iand__")
  h_Conditions_hold : Meth K (ga K "Conditions") "hold" (ma K (ga K "Conditions") "hold")
  m_Schema : Mk K (ga K "Schema") (ma K (ga K "Schema") "__init__")
  h_Schema___len__ : Meth K (ga K "Schema") "__len__" (ma K (ga K "Schema") "__len__")
  h_Schema___contains__ : Meth K (ga K "Schema") "__contains__" (ma K (ga K "Schema") "__contains__")
  h_Schema___eq__ : Meth K (ga K "Schema") "__eq__" (ma K (ga K "Schema") "__eq__")
  h_Schema_names : Meth K (ga K "Schema") "names" (ma K (ga K "Schema") "names")
  h_Schema_add : Meth K (ga K "Schema") "add" (ma K (ga K "Schema") "add")
  h_Schema_columns : Meth K (ga K "Schema") "columns" (ma K (ga K "Schema") "columns")
  h_Schema_rules : Meth K (ga K "Schema") "rules" (ma K (ga K "Schema") "rules")
  h_Schema_narrow : Meth K (ga K "Schema") "narrow" (ma K (ga K "Schema") "narrow")
  h_Schema_keeps_rules : Meth K (ga K "Schema") "keeps_rules" (ma K (ga K "Schema") "keeps_rules")
  h_Schema_twin : Meth K (ga K "Schema") "twin" (ma K (ga K "Schema") "twin")
  m_Tables : Mk K (ga K "Tables") (ma K (ga K "Tables") "__init__")
  h_Tables_look : Meth K (ga K "Tables") "look" (ma K (ga K "Tables") "look")
  h_Tables_must_know : Meth K (ga K "Tables") "must_know" (ma K (ga K "Tables") "must_know")
  h_Tables_names : Meth K (ga K "Tables") "names" (ma K (ga K "Tables") "names")
  h_Tables___len__ : Meth K (ga K "Tables") "__len__" (ma K (ga K "Tables") "__len__")
  h_Tables___eq__ : Meth K (ga K "Tables") "__eq__" (ma K (ga K "Tables") "__eq__")
  h_Tables___getitem__ : Meth K (ga K "Tables") "__getitem__" (ma K (ga K "Tables") "__getitem__")
  h_Tables___setitem__ : Meth K (ga K "Tables") "__setitem__" (ma K (ga K "Tables") "__setitem__")
  h_Tables_put : Meth K (ga K "Tables") "put" (ma K (ga K "Tables") "put")
  h_Tables_has : Meth K (ga K "Tables") "has" (ma K (ga K "Tables") "has")
  h_Tables_twin : Meth K (ga K "Tables") "twin" (ma K (ga K "Tables") "twin")
  h_Tables___or__ : Meth K (ga K "Tables") "__or__" (ma K (ga K "Tables") "__or__")
  n_Conditions_kept_atoms : NoAttr K (ga K "Conditions") "kept_atoms"
  n_Schema_widths : NoAttr K (ga K "Schema") "widths"
  n_Schema_limits : NoAttr K (ga K "Schema") "limits"
  n_Tables_form : NoAttr K (ga K "Tables") "form"
  n_Tables_places : NoAttr K (ga K "Tables") "places"
  f__wall : ∃ fd, FunD K "_wall" "_wall" (defArgs s__wall) (defBody s__wall) (defScope s__wall) ([] : List V) [] (ga K "_wall") fd
  f_is_whole : ∃ fd, FunD K "is_whole" "is_whole" (defArgs s_is_whole) (defBody s_is_whole) (defScope s_is_whole) ([] : List V) [] (ga K "is_whole") fd
  f_is_word : ∃ fd, FunD K "is_word" "is_word" (defArgs s_is_word) (defBody s_is_word) (defScope s_is_word) ([] : List V) [] (ga K "is_word") fd
  f_common_divisor : ∃ fd, FunD K "common_divisor" "common_divisor" (defArgs s_common_divisor) (defBody s_common_divisor) (defScope s_common_divisor) ([] : List V) [] (ga K "common_divisor") fd
  f_is_value : ∃ fd, FunD K "is_value" "is_value" (defArgs s_is_value) (defBody s_is_value) (defScope s_is_value) ([] : List V) [] (ga K "is_value") fd
  f_less : ∃ fd, FunD K "less" "less" (defArgs s_less) (defBody s_less) (defScope s_less) ([] : List V) [] (ga K "less") fd
  f_stands : ∃ fd, FunD K "stands" "stands" (defArgs s_stands) (defBody s_stands) (defScope s_stands) ([] : List V) [] (ga K "stands") fd
  f_is_term : ∃ fd, FunD K "is_term" "is_term" (defArgs s_is_term) (defBody s_is_term) (defScope s_is_term) ([] : List V) [] (ga K "is_term") fd
  f_is_atom : ∃ fd, FunD K "is_atom" "is_atom" (defArgs s_is_atom) (defBody s_is_atom) (defScope s_is_atom) ([] : List V) [] (ga K "is_atom") fd
  f_value_at : ∃ fd, FunD K "value_at" "value_at" (defArgs s_value_at) (defBody s_value_at) (defScope s_value_at) ([] : List V) [] (ga K "value_at") fd
  f_Conditions___init__ : ∃ fd, FunD K "__init__" "Conditions.__init__" (defArgs s_Conditions___init__) (defBody s_Conditions___init__) (defScope s_Conditions___init__) ([.ref (dflAt ("Conditions", some "__init__") 0 K)] : List V) [] (ma K (ga K "Conditions") "__init__") fd
  f_Conditions_atoms : ∃ fd, FunD K "atoms" "Conditions.atoms" (defArgs s_Conditions_atoms) (defBody s_Conditions_atoms) (defScope s_Conditions_atoms) ([] : List V) [] (ma K (ga K "Conditions") "atoms") fd
  f_Conditions___eq__ : ∃ fd, FunD K "__eq__" "Conditions.__eq__" (defArgs s_Conditions___eq__) (defBody s_Conditions___eq__) (defScope s_Conditions___eq__) ([] : List V) [] (ma K (ga K "Conditions") "__eq__") fd
  f_Conditions___and__ : ∃ fd, FunD K "__and__" "Conditions.__and__" (defArgs s_Conditions___and__) (defBody s_Conditions___and__) (defScope s_Conditions___and__) ([] : List V) [] (ma K (ga K "Conditions") "__and__") fd
  f_Conditions___iand__ : ∃ fd, FunD K "__iand__" "Conditions.__iand__" (defArgs s_Conditions___iand__) (defBody s_Conditions___iand__) (defScope s_Conditions___iand__) ([] : List V) [] (ma K (ga K "Conditions") "__iand__") fd
  f_Conditions_hold : ∃ fd, FunD K "hold" "Conditions.hold" (defArgs s_Conditions_hold) (defBody s_Conditions_hold) (defScope s_Conditions_hold) ([] : List V) [] (ma K (ga K "Conditions") "hold") fd
  f_is_column_count : ∃ fd, FunD K "is_column_count" "is_column_count" (defArgs s_is_column_count) (defBody s_is_column_count) (defScope s_is_column_count) ([] : List V) [] (ga K "is_column_count") fd
  f_is_row : ∃ fd, FunD K "is_row" "is_row" (defArgs s_is_row) (defBody s_is_row) (defScope s_is_row) ([] : List V) [] (ga K "is_row") fd
  f_names_cells : ∃ fd, FunD K "names_cells" "names_cells" (defArgs s_names_cells) (defBody s_names_cells) (defScope s_names_cells) ([] : List V) [] (ga K "names_cells") fd
  f_are_row_rules : ∃ fd, FunD K "are_row_rules" "are_row_rules" (defArgs s_are_row_rules) (defBody s_are_row_rules) (defScope s_are_row_rules) ([] : List V) [] (ga K "are_row_rules") fd
  f_Schema___init__ : ∃ fd, FunD K "__init__" "Schema.__init__" (defArgs s_Schema___init__) (defBody s_Schema___init__) (defScope s_Schema___init__) ([.non, .non] : List V) [] (ma K (ga K "Schema") "__init__") fd
  f_Schema___len__ : ∃ fd, FunD K "__len__" "Schema.__len__" (defArgs s_Schema___len__) (defBody s_Schema___len__) (defScope s_Schema___len__) ([] : List V) [] (ma K (ga K "Schema") "__len__") fd
  f_Schema___contains__ : ∃ fd, FunD K "__contains__" "Schema.__contains__" (defArgs s_Schema___contains__) (defBody s_Schema___contains__) (defScope s_Schema___contains__) ([] : List V) [] (ma K (ga K "Schema") "__contains__") fd
  f_Schema___eq__ : ∃ fd, FunD K "__eq__" "Schema.__eq__" (defArgs s_Schema___eq__) (defBody s_Schema___eq__) (defScope s_Schema___eq__) ([] : List V) [] (ma K (ga K "Schema") "__eq__") fd
  f_Schema_names : ∃ fd, FunD K "names" "Schema.names" (defArgs s_Schema_names) (defBody s_Schema_names) (defScope s_Schema_names) ([] : List V) [] (ma K (ga K "Schema") "names") fd
  f_Schema_add : ∃ fd, FunD K "add" "Schema.add" (defArgs s_Schema_add) (defBody s_Schema_add) (defScope s_Schema_add) ([.non] : List V) [] (ma K (ga K "Schema") "add") fd
  f_Schema_columns : ∃ fd, FunD K "columns" "Schema.columns" (defArgs s_Schema_columns) (defBody s_Schema_columns) (defScope s_Schema_columns) ([] : List V) [] (ma K (ga K "Schema") "columns") fd
  f_Schema_rules : ∃ fd, FunD K "rules" "Schema.rules" (defArgs s_Schema_rules) (defBody s_Schema_rules) (defScope s_Schema_rules) ([] : List V) [] (ma K (ga K "Schema") "rules") fd
  f_Schema_narrow : ∃ fd, FunD K "narrow" "Schema.narrow" (defArgs s_Schema_narrow) (defBody s_Schema_narrow) (defScope s_Schema_narrow) ([] : List V) [] (ma K (ga K "Schema") "narrow") fd
  f_Schema_keeps_rules : ∃ fd, FunD K "keeps_rules" "Schema.keeps_rules" (defArgs s_Schema_keeps_rules) (defBody s_Schema_keeps_rules) (defScope s_Schema_keeps_rules) ([] : List V) [] (ma K (ga K "Schema") "keeps_rules") fd
  f_Schema_twin : ∃ fd, FunD K "twin" "Schema.twin" (defArgs s_Schema_twin) (defBody s_Schema_twin) (defScope s_Schema_twin) ([] : List V) [] (ma K (ga K "Schema") "twin") fd
  f_Tables___init__ : ∃ fd, FunD K "__init__" "Tables.__init__" (defArgs s_Tables___init__) (defBody s_Tables___init__) (defScope s_Tables___init__) ([.non] : List V) [] (ma K (ga K "Tables") "__init__") fd
  f_Tables_look : ∃ fd, FunD K "look" "Tables.look" (defArgs s_Tables_look) (defBody s_Tables_look) (defScope s_Tables_look) ([] : List V) [] (ma K (ga K "Tables") "look") fd
  f_Tables_must_know : ∃ fd, FunD K "must_know" "Tables.must_know" (defArgs s_Tables_must_know) (defBody s_Tables_must_know) (defScope s_Tables_must_know) ([] : List V) [] (ma K (ga K "Tables") "must_know") fd
  f_Tables_names : ∃ fd, FunD K "names" "Tables.names" (defArgs s_Tables_names) (defBody s_Tables_names) (defScope s_Tables_names) ([] : List V) [] (ma K (ga K "Tables") "names") fd
  f_Tables___len__ : ∃ fd, FunD K "__len__" "Tables.__len__" (defArgs s_Tables___len__) (defBody s_Tables___len__) (defScope s_Tables___len__) ([] : List V) [] (ma K (ga K "Tables") "__len__") fd
  f_Tables___eq__ : ∃ fd, FunD K "__eq__" "Tables.__eq__" (defArgs s_Tables___eq__) (defBody s_Tables___eq__) (defScope s_Tables___eq__) ([] : List V) [] (ma K (ga K "Tables") "__eq__") fd
  f_Tables___getitem__ : ∃ fd, FunD K "__getitem__" "Tables.__getitem__" (defArgs s_Tables___getitem__) (defBody s_Tables___getitem__) (defScope s_Tables___getitem__) ([] : List V) [] (ma K (ga K "Tables") "__getitem__") fd
  f_Tables___setitem__ : ∃ fd, FunD K "__setitem__" "Tables.__setitem__" (defArgs s_Tables___setitem__) (defBody s_Tables___setitem__) (defScope s_Tables___setitem__) ([] : List V) [] (ma K (ga K "Tables") "__setitem__") fd
  f_Tables_put : ∃ fd, FunD K "put" "Tables.put" (defArgs s_Tables_put) (defBody s_Tables_put) (defScope s_Tables_put) ([] : List V) [] (ma K (ga K "Tables") "put") fd
  f_Tables_has : ∃ fd, FunD K "has" "Tables.has" (defArgs s_Tables_has) (defBody s_Tables_has) (defScope s_Tables_has) ([] : List V) [] (ma K (ga K "Tables") "has") fd
  f_Tables_twin : ∃ fd, FunD K "twin" "Tables.twin" (defArgs s_Tables_twin) (defBody s_Tables_twin) (defScope s_Tables_twin) ([] : List V) [] (ma K (ga K "Tables") "twin") fd
  f_Tables___or__ : ∃ fd, FunD K "__or__" "Tables.__or__" (defArgs s_Tables___or__) (defBody s_Tables___or__) (defScope s_Tables___or__) ([] : List V) [] (ma K (ga K "Tables") "__or__") fd
  f__law_begin : ∃ fd, FunD K "_law_begin" "_law_begin" (defArgs s__law_begin) (defBody s__law_begin) (defScope s__law_begin) ([] : List V) [] (ga K "_law_begin") fd
  f__law_draw : ∃ fd, FunD K "_law_draw" "_law_draw" (defArgs s__law_draw) (defBody s__law_draw) (defScope s__law_draw) ([] : List V) [] (ga K "_law_draw") fd
  f__law_value : ∃ fd, FunD K "_law_value" "_law_value" (defArgs s__law_value) (defBody s__law_value) (defScope s__law_value) ([] : List V) [] (ga K "_law_value") fd
  f__law_stands : ∃ fd, FunD K "_law_stands" "_law_stands" (defArgs s__law_stands) (defBody s__law_stands) (defScope s__law_stands) ([] : List V) [] (ga K "_law_stands") fd
  f__law_side : ∃ fd, FunD K "_law_side" "_law_side" (defArgs s__law_side) (defBody s__law_side) (defScope s__law_side) ([] : List V) [] (ga K "_law_side") fd
  f__law_keeps : ∃ fd, FunD K "_law_keeps" "_law_keeps" (defArgs s__law_keeps) (defBody s__law_keeps) (defScope s__law_keeps) ([] : List V) [] (ga K "_law_keeps") fd
  f__law_form : ∃ fd, FunD K "_law_form" "_law_form" (defArgs s__law_form) (defBody s__law_form) (defScope s__law_form) ([] : List V) [] (ga K "_law_form") fd
  f__law_row : ∃ fd, FunD K "_law_row" "_law_row" (defArgs s__law_row) (defBody s__law_row) (defScope s__law_row) ([] : List V) [] (ga K "_law_row") fd
  f__law_put : ∃ fd, FunD K "_law_put" "_law_put" (defArgs s__law_put) (defBody s__law_put) (defScope s__law_put) ([] : List V) [] (ga K "_law_put") fd
  f__law_set : ∃ fd, FunD K "_law_set" "_law_set" (defArgs s__law_set) (defBody s__law_set) (defScope s__law_set) ([] : List V) [] (ga K "_law_set") fd
  f__law_once : ∃ fd, FunD K "_law_once" "_law_once" (defArgs s__law_once) (defBody s__law_once) (defScope s__law_once) ([] : List V) [] (ga K "_law_once") fd
  f__law_due : ∃ fd, FunD K "_law_due" "_law_due" (defArgs s__law_due) (defBody s__law_due) (defScope s__law_due) ([] : List V) [] (ga K "_law_due") fd
  f__law_deed : ∃ fd, FunD K "_law_deed" "_law_deed" (defArgs s__law_deed) (defBody s__law_deed) (defScope s__law_deed) ([] : List V) [] (ga K "_law_deed") fd
  f__law_refuses : ∃ fd, FunD K "_law_refuses" "_law_refuses" (defArgs s__law_refuses) (defBody s__law_refuses) (defScope s__law_refuses) ([] : List V) [] (ga K "_law_refuses") fd
  f__law_is : ∃ fd, FunD K "_law_is" "_law_is" (defArgs s__law_is) (defBody s__law_is) (defScope s__law_is) ([] : List V) [] (ga K "_law_is") fd
  f__law_same : ∃ fd, FunD K "_law_same" "_law_same" (defArgs s__law_same) (defBody s__law_same) (defScope s__law_same) ([] : List V) [] (ga K "_law_same") fd
  f__law_join : ∃ fd, FunD K "_law_join" "_law_join" (defArgs s__law_join) (defBody s__law_join) (defScope s__law_join) ([] : List V) [] (ga K "_law_join") fd
  f__law_apart : ∃ fd, FunD K "_law_apart" "_law_apart" (defArgs s__law_apart) (defBody s__law_apart) (defScope s__law_apart) ([] : List V) [] (ga K "_law_apart") fd
  f_law : ∃ fd, FunD K "law" "law" (defArgs s_law) (defBody s_law) (defScope s_law) ([] : List V) [] (ga K "law") fd
  dc0 : ∀ H : Hp, SqT K H (dflAt ("Conditions", some "__init__") 0 K) []
  ne_Schema : PySem.W.findIn K (.ref (ga K "Schema")) "__ne__" = some (some (.builtin "object.__ne__"))
  nl_Tables : PySem.W.notFirst K (ga K "Tables") (.type "list") = true
  gi_Tables : PySem.W.fnIn K (ma K (ga K "Tables") "__getitem__") = true
  ns_Tables : PySem.W.noSeq K (ga K "Tables") = true
  c_NoTable : ExcC K (ga K "NoTable")
  c_NoRow : ExcC K (ga K "NoRow")
  c_BadRow : ExcC K (ga K "BadRow")
  k_NoTable_AskError : PySem.W.kitOne K (.ref (ga K "NoTable")) (.ref (ga K "AskError")) = some true
  k_NoRow_BadRow : PySem.W.kitOne K (.ref (ga K "NoRow")) (.ref (ga K "BadRow")) = some false
  k_BadRow_NoRow : PySem.W.kitOne K (.ref (ga K "BadRow")) (.ref (ga K "NoRow")) = some false
  o_Conditions : OC K (ga K "Conditions")
  o_Schema : OC K (ga K "Schema")
  o_Tables : OC K (ga K "Tables")
  u_Conditions___eq__ : PySem.W.findIn K (.ref (ga K "Conditions")) "__eq__" = some (some (.ref (ma K (ga K "Conditions") "__eq__"))) ∧ PySem.W.isFn K (.ref (ma K (ga K "Conditions") "__eq__")) = true
  u_Conditions___and__ : PySem.W.findIn K (.ref (ga K "Conditions")) "__and__" = some (some (.ref (ma K (ga K "Conditions") "__and__"))) ∧ PySem.W.isFn K (.ref (ma K (ga K "Conditions") "__and__")) = true
  u_Conditions___iand__ : PySem.W.findIn K (.ref (ga K "Conditions")) "__iand__" = some (some (.ref (ma K (ga K "Conditions") "__iand__"))) ∧ PySem.W.isFn K (.ref (ma K (ga K "Conditions") "__iand__")) = true
  u_Schema___eq__ : PySem.W.findIn K (.ref (ga K "Schema")) "__eq__" = some (some (.ref (ma K (ga K "Schema") "__eq__"))) ∧ PySem.W.isFn K (.ref (ma K (ga K "Schema") "__eq__")) = true
  u_Tables___eq__ : PySem.W.findIn K (.ref (ga K "Tables")) "__eq__" = some (some (.ref (ma K (ga K "Tables") "__eq__"))) ∧ PySem.W.isFn K (.ref (ma K (ga K "Tables") "__eq__")) = true
  u_Tables___or__ : PySem.W.findIn K (.ref (ga K "Tables")) "__or__" = some (some (.ref (ma K (ga K "Tables") "__or__"))) ∧ PySem.W.isFn K (.ref (ma K (ga K "Tables") "__or__")) = true
  sf_Conditions : PySem.W.selfFirst K (ga K "Conditions") = true
  sf_Tables : PySem.W.selfFirst K (ga K "Tables") = true
  nf_Conditions : PySem.W.notFirst K (ga K "Conditions") (.ref (ga K "Conditions")) = true
  nf_Schema : PySem.W.notFirst K (ga K "Schema") (.ref (ga K "Schema")) = true
  nf_Tables : PySem.W.notFirst K (ga K "Tables") (.ref (ga K "Tables")) = true
  t_PLACES : ∀ H : Hp, SqT K H (ga K "PLACES") [.str "old", .str "first", .str "second"]
  t_SIGNS : ∀ H : Hp, SqT K H (ga K "SIGNS") [.str "<", .str "<=", .str "=", .str "!="]
  y_NoTable : XT K mg "NoTable" "name" "/claim/cut.py" ∧ XfC K (ga K "NoTable") ∧ PySem.W.findIn K (.ref (ga K "NoTable")) "name" = some none
  y_NoRow : XT K mg "NoRow" "index" "/claim/cut.py" ∧ XfC K (ga K "NoRow") ∧ PySem.W.findIn K (.ref (ga K "NoRow")) "index" = some none
  y_BadRow : XT K mg "BadRow" "index" "/claim/cut.py" ∧ XfC K (ga K "BadRow") ∧ PySem.W.findIn K (.ref (ga K "BadRow")) "index" = some none
end K10
namespace K10
open PySem PySem.Spec PyProof.Rows L2 He TL EL
def dd__wall : EL.DefE := ⟨fun K => (ga K "_wall"), "_wall", "_wall", defArgs s__wall, defBody s__wall, defScope s__wall, [], []⟩
def dd_is_whole : EL.DefE := ⟨fun K => (ga K "is_whole"), "is_whole", "is_whole", defArgs s_is_whole, defBody s_is_whole, defScope s_is_whole, [], []⟩
def dd_is_word : EL.DefE := ⟨fun K => (ga K "is_word"), "is_word", "is_word", defArgs s_is_word, defBody s_is_word, defScope s_is_word, [], []⟩
def dd_common_divisor : EL.DefE := ⟨fun K => (ga K "common_divisor"), "common_divisor", "common_divisor", defArgs s_common_divisor, defBody s_common_divisor, defScope s_common_divisor, [], []⟩
def dd_is_value : EL.DefE := ⟨fun K => (ga K "is_value"), "is_value", "is_value", defArgs s_is_value, defBody s_is_value, defScope s_is_value, [], []⟩
def dd_less : EL.DefE := ⟨fun K => (ga K "less"), "less", "less", defArgs s_less, defBody s_less, defScope s_less, [], []⟩
def dd_stands : EL.DefE := ⟨fun K => (ga K "stands"), "stands", "stands", defArgs s_stands, defBody s_stands, defScope s_stands, [], []⟩
def dd_is_term : EL.DefE := ⟨fun K => (ga K "is_term"), "is_term", "is_term", defArgs s_is_term, defBody s_is_term, defScope s_is_term, [], []⟩
def dd_is_atom : EL.DefE := ⟨fun K => (ga K "is_atom"), "is_atom", "is_atom", defArgs s_is_atom, defBody s_is_atom, defScope s_is_atom, [], []⟩
def dd_value_at : EL.DefE := ⟨fun K => (ga K "value_at"), "value_at", "value_at", defArgs s_value_at, defBody s_value_at, defScope s_value_at, [], []⟩
def dd_Conditions___init__ : EL.DefE := ⟨fun K => (ma K (ga K "Conditions") "__init__"), "__init__", "Conditions.__init__", defArgs s_Conditions___init__, defBody s_Conditions___init__, defScope s_Conditions___init__, [.adr (dflAt ("Conditions", some "__init__") 0)], []⟩
def dd_Conditions_atoms : EL.DefE := ⟨fun K => (ma K (ga K "Conditions") "atoms"), "atoms", "Conditions.atoms", defArgs s_Conditions_atoms, defBody s_Conditions_atoms, defScope s_Conditions_atoms, [], []⟩
def dd_Conditions___eq__ : EL.DefE := ⟨fun K => (ma K (ga K "Conditions") "__eq__"), "__eq__", "Conditions.__eq__", defArgs s_Conditions___eq__, defBody s_Conditions___eq__, defScope s_Conditions___eq__, [], []⟩
def dd_Conditions___and__ : EL.DefE := ⟨fun K => (ma K (ga K "Conditions") "__and__"), "__and__", "Conditions.__and__", defArgs s_Conditions___and__, defBody s_Conditions___and__, defScope s_Conditions___and__, [], []⟩
def dd_Conditions___iand__ : EL.DefE := ⟨fun K => (ma K (ga K "Conditions") "__iand__"), "__iand__", "Conditions.__iand__", defArgs s_Conditions___iand__, defBody s_Conditions___iand__, defScope s_Conditions___iand__, [], []⟩
def dd_Conditions_hold : EL.DefE := ⟨fun K => (ma K (ga K "Conditions") "hold"), "hold", "Conditions.hold", defArgs s_Conditions_hold, defBody s_Conditions_hold, defScope s_Conditions_hold, [], []⟩
def dd_is_column_count : EL.DefE := ⟨fun K => (ga K "is_column_count"), "is_column_count", "is_column_count", defArgs s_is_column_count, defBody s_is_column_count, defScope s_is_column_count, [], []⟩
def dd_is_row : EL.DefE := ⟨fun K => (ga K "is_row"), "is_row", "is_row", defArgs s_is_row, defBody s_is_row, defScope s_is_row, [], []⟩
def dd_names_cells : EL.DefE := ⟨fun K => (ga K "names_cells"), "names_cells", "names_cells", defArgs s_names_cells, defBody s_names_cells, defScope s_names_cells, [], []⟩
def dd_are_row_rules : EL.DefE := ⟨fun K => (ga K "are_row_rules"), "are_row_rules", "are_row_rules", defArgs s_are_row_rules, defBody s_are_row_rules, defScope s_are_row_rules, [], []⟩
def dd_Schema___init__ : EL.DefE := ⟨fun K => (ma K (ga K "Schema") "__init__"), "__init__", "Schema.__init__", defArgs s_Schema___init__, defBody s_Schema___init__, defScope s_Schema___init__, [.non, .non], []⟩
def dd_Schema___len__ : EL.DefE := ⟨fun K => (ma K (ga K "Schema") "__len__"), "__len__", "Schema.__len__", defArgs s_Schema___len__, defBody s_Schema___len__, defScope s_Schema___len__, [], []⟩
def dd_Schema___contains__ : EL.DefE := ⟨fun K => (ma K (ga K "Schema") "__contains__"), "__contains__", "Schema.__contains__", defArgs s_Schema___contains__, defBody s_Schema___contains__, defScope s_Schema___contains__, [], []⟩
def dd_Schema___eq__ : EL.DefE := ⟨fun K => (ma K (ga K "Schema") "__eq__"), "__eq__", "Schema.__eq__", defArgs s_Schema___eq__, defBody s_Schema___eq__, defScope s_Schema___eq__, [], []⟩
def dd_Schema_names : EL.DefE := ⟨fun K => (ma K (ga K "Schema") "names"), "names", "Schema.names", defArgs s_Schema_names, defBody s_Schema_names, defScope s_Schema_names, [], []⟩
def dd_Schema_add : EL.DefE := ⟨fun K => (ma K (ga K "Schema") "add"), "add", "Schema.add", defArgs s_Schema_add, defBody s_Schema_add, defScope s_Schema_add, [.non], []⟩
def dd_Schema_columns : EL.DefE := ⟨fun K => (ma K (ga K "Schema") "columns"), "columns", "Schema.columns", defArgs s_Schema_columns, defBody s_Schema_columns, defScope s_Schema_columns, [], []⟩
def dd_Schema_rules : EL.DefE := ⟨fun K => (ma K (ga K "Schema") "rules"), "rules", "Schema.rules", defArgs s_Schema_rules, defBody s_Schema_rules, defScope s_Schema_rules, [], []⟩
def dd_Schema_narrow : EL.DefE := ⟨fun K => (ma K (ga K "Schema") "narrow"), "narrow", "Schema.narrow", defArgs s_Schema_narrow, defBody s_Schema_narrow, defScope s_Schema_narrow, [], []⟩
def dd_Schema_keeps_rules : EL.DefE := ⟨fun K => (ma K (ga K "Schema") "keeps_rules"), "keeps_rules", "Schema.keeps_rules", defArgs s_Schema_keeps_rules, defBody s_Schema_keeps_rules, defScope s_Schema_keeps_rules, [], []⟩
def dd_Schema_twin : EL.DefE := ⟨fun K => (ma K (ga K "Schema") "twin"), "twin", "Schema.twin", defArgs s_Schema_twin, defBody s_Schema_twin, defScope s_Schema_twin, [], []⟩
def dd_Tables___init__ : EL.DefE := ⟨fun K => (ma K (ga K "Tables") "__init__"), "__init__", "Tables.__init__", defArgs s_Tables___init__, defBody s_Tables___init__, defScope s_Tables___init__, [.non], []⟩
def dd_Tables_look : EL.DefE := ⟨fun K => (ma K (ga K "Tables") "look"), "look", "Tables.look", defArgs s_Tables_look, defBody s_Tables_look, defScope s_Tables_look, [], []⟩
def dd_Tables_must_know : EL.DefE := ⟨fun K => (ma K (ga K "Tables") "must_know"), "must_know", "Tables.must_know", defArgs s_Tables_must_know, defBody s_Tables_must_know, defScope s_Tables_must_know, [], []⟩
def dd_Tables_names : EL.DefE := ⟨fun K => (ma K (ga K "Tables") "names"), "names", "Tables.names", defArgs s_Tables_names, defBody s_Tables_names, defScope s_Tables_names, [], []⟩
def dd_Tables___len__ : EL.DefE := ⟨fun K => (ma K (ga K "Tables") "__len__"), "__len__", "Tables.__len__", defArgs s_Tables___len__, defBody s_Tables___len__, defScope s_Tables___len__, [], []⟩
def dd_Tables___eq__ : EL.DefE := ⟨fun K => (ma K (ga K "Tables") "__eq__"), "__eq__", "Tables.__eq__", defArgs s_Tables___eq__, defBody s_Tables___eq__, defScope s_Tables___eq__, [], []⟩
def dd_Tables___getitem__ : EL.DefE := ⟨fun K => (ma K (ga K "Tables") "__getitem__"), "__getitem__", "Tables.__getitem__", defArgs s_Tables___getitem__, defBody s_Tables___getitem__, defScope s_Tables___getitem__, [], []⟩
def dd_Tables___setitem__ : EL.DefE := ⟨fun K => (ma K (ga K "Tables") "__setitem__"), "__setitem__", "Tables.__setitem__", defArgs s_Tables___setitem__, defBody s_Tables___setitem__, defScope s_Tables___setitem__, [], []⟩
def dd_Tables_put : EL.DefE := ⟨fun K => (ma K (ga K "Tables") "put"), "put", "Tables.put", defArgs s_Tables_put, defBody s_Tables_put, defScope s_Tables_put, [], []⟩
def dd_Tables_has : EL.DefE := ⟨fun K => (ma K (ga K "Tables") "has"), "has", "Tables.has", defArgs s_Tables_has, defBody s_Tables_has, defScope s_Tables_has, [], []⟩
def dd_Tables_twin : EL.DefE := ⟨fun K => (ma K (ga K "Tables") "twin"), "twin", "Tables.twin", defArgs s_Tables_twin, defBody s_Tables_twin, defScope s_Tables_twin, [], []⟩
def dd_Tables___or__ : EL.DefE := ⟨fun K => (ma K (ga K "Tables") "__or__"), "__or__", "Tables.__or__", defArgs s_Tables___or__, defBody s_Tables___or__, defScope s_Tables___or__, [], []⟩
def dd__law_begin : EL.DefE := ⟨fun K => (ga K "_law_begin"), "_law_begin", "_law_begin", defArgs s__law_begin, defBody s__law_begin, defScope s__law_begin, [], []⟩
def dd__law_draw : EL.DefE := ⟨fun K => (ga K "_law_draw"), "_law_draw", "_law_draw", defArgs s__law_draw, defBody s__law_draw, defScope s__law_draw, [], []⟩
def dd__law_value : EL.DefE := ⟨fun K => (ga K "_law_value"), "_law_value", "_law_value", defArgs s__law_value, defBody s__law_value, defScope s__law_value, [], []⟩
def dd__law_stands : EL.DefE := ⟨fun K => (ga K "_law_stands"), "_law_stands", "_law_stands", defArgs s__law_stands, defBody s__law_stands, defScope s__law_stands, [], []⟩
def dd__law_side : EL.DefE := ⟨fun K => (ga K "_law_side"), "_law_side", "_law_side", defArgs s__law_side, defBody s__law_side, defScope s__law_side, [], []⟩
def dd__law_keeps : EL.DefE := ⟨fun K => (ga K "_law_keeps"), "_law_keeps", "_law_keeps", defArgs s__law_keeps, defBody s__law_keeps, defScope s__law_keeps, [], []⟩
def dd__law_form : EL.DefE := ⟨fun K => (ga K "_law_form"), "_law_form", "_law_form", defArgs s__law_form, defBody s__law_form, defScope s__law_form, [], []⟩
def dd__law_row : EL.DefE := ⟨fun K => (ga K "_law_row"), "_law_row", "_law_row", defArgs s__law_row, defBody s__law_row, defScope s__law_row, [], []⟩
def dd__law_put : EL.DefE := ⟨fun K => (ga K "_law_put"), "_law_put", "_law_put", defArgs s__law_put, defBody s__law_put, defScope s__law_put, [], []⟩
def dd__law_set : EL.DefE := ⟨fun K => (ga K "_law_set"), "_law_set", "_law_set", defArgs s__law_set, defBody s__law_set, defScope s__law_set, [], []⟩
def dd__law_once : EL.DefE := ⟨fun K => (ga K "_law_once"), "_law_once", "_law_once", defArgs s__law_once, defBody s__law_once, defScope s__law_once, [], []⟩
def dd__law_due : EL.DefE := ⟨fun K => (ga K "_law_due"), "_law_due", "_law_due", defArgs s__law_due, defBody s__law_due, defScope s__law_due, [], []⟩
def dd__law_deed : EL.DefE := ⟨fun K => (ga K "_law_deed"), "_law_deed", "_law_deed", defArgs s__law_deed, defBody s__law_deed, defScope s__law_deed, [], []⟩
def dd__law_refuses : EL.DefE := ⟨fun K => (ga K "_law_refuses"), "_law_refuses", "_law_refuses", defArgs s__law_refuses, defBody s__law_refuses, defScope s__law_refuses, [], []⟩
def dd__law_is : EL.DefE := ⟨fun K => (ga K "_law_is"), "_law_is", "_law_is", defArgs s__law_is, defBody s__law_is, defScope s__law_is, [], []⟩
def dd__law_same : EL.DefE := ⟨fun K => (ga K "_law_same"), "_law_same", "_law_same", defArgs s__law_same, defBody s__law_same, defScope s__law_same, [], []⟩
def dd__law_join : EL.DefE := ⟨fun K => (ga K "_law_join"), "_law_join", "_law_join", defArgs s__law_join, defBody s__law_join, defScope s__law_join, [], []⟩
def dd__law_apart : EL.DefE := ⟨fun K => (ga K "_law_apart"), "_law_apart", "_law_apart", defArgs s__law_apart, defBody s__law_apart, defScope s__law_apart, [], []⟩
def dd_law : EL.DefE := ⟨fun K => (ga K "law"), "law", "law", defArgs s_law, defBody s_law, defScope s_law, [], []⟩
def fn : List EL.DefE := [dd__wall, dd_is_whole, dd_is_word, dd_common_divisor, dd_is_value, dd_less, dd_stands, dd_is_term, dd_is_atom, dd_value_at, dd_Conditions___init__, dd_Conditions_atoms, dd_Conditions___eq__, dd_Conditions___and__, dd_Conditions___iand__, dd_Conditions_hold, dd_is_column_count, dd_is_row, dd_names_cells, dd_are_row_rules, dd_Schema___init__, dd_Schema___len__, dd_Schema___contains__, dd_Schema___eq__, dd_Schema_names, dd_Schema_add, dd_Schema_columns, dd_Schema_rules, dd_Schema_narrow, dd_Schema_keeps_rules, dd_Schema_twin, dd_Tables___init__, dd_Tables_look, dd_Tables_must_know, dd_Tables_names, dd_Tables___len__, dd_Tables___eq__, dd_Tables___getitem__, dd_Tables___setitem__, dd_Tables_put, dd_Tables_has, dd_Tables_twin, dd_Tables___or__, dd__law_begin, dd__law_draw, dd__law_value, dd__law_stands, dd__law_side, dd__law_keeps, dd__law_form, dd__law_row, dd__law_put, dd__law_set, dd__law_once, dd__law_due, dd__law_deed, dd__law_refuses, dd__law_is, dd__law_same, dd__law_join, dd__law_apart, dd_law]
def fa : List He.Fa := [.glo "_wall", .glo "is_whole", .glo "is_word", .glo "common_divisor", .glo "is_value", .glo "less", .glo "stands", .glo "is_term", .glo "is_atom", .glo "value_at", .glo "is_column_count", .glo "is_row", .glo "names_cells", .glo "are_row_rules", .glo "_law_begin", .glo "_law_draw", .glo "_law_value", .glo "_law_stands", .glo "_law_side", .glo "_law_keeps", .glo "_law_form", .glo "_law_row", .glo "_law_put", .glo "_law_set", .glo "_law_once", .glo "_law_due", .glo "_law_deed", .glo "_law_refuses", .glo "_law_is", .glo "_law_same", .glo "_law_join", .glo "_law_apart", .glo "law", .glo "NotSingle", .glo "NoTable", .glo "NoRow", .glo "BadRow", .glo "Conditions", .glo "Schema", .glo "Tables", .glo "AskError", .exc "AskError", .glo "NoCell", .exc "NoCell", .glo "NoCondition", .exc "NoCondition", .str "LETTERS" "abcdefghijklmnopqrstuvwxyz", .glo "SIGNS", .glo "NEGATED", .glo "PLACES", .int "MOST_COLUMNS" 3, .free "ValueError", .free "super", .free "isinstance", .free "int", .free "bool", .free "str", .free "len", .free "abs", .free "tuple", .free "list", .free "iter", .free "dict", .free "all", .free "enumerate", .free "range", .exm "NoTable" "NoTable" true, .exm "NoRow" "NoTable" false, .exm "NoRow" "NoRow" true, .exm "BadRow" "NoTable" false, .exm "BadRow" "NoRow" false, .exm "BadRow" "BadRow" true, .mkr "Conditions", .meth "Conditions" "atoms", .meth "Conditions" "__eq__", .meth "Conditions" "__and__", .meth "Conditions" "__iand__", .meth "Conditions" "hold", .mkr "Schema", .meth "Schema" "__len__", .meth "Schema" "__contains__", .meth "Schema" "__eq__", .meth "Schema" "names", .meth "Schema" "add", .meth "Schema" "columns", .meth "Schema" "rules", .meth "Schema" "narrow", .meth "Schema" "keeps_rules", .meth "Schema" "twin", .mkr "Tables", .meth "Tables" "look", .meth "Tables" "must_know", .meth "Tables" "names", .meth "Tables" "__len__", .meth "Tables" "__eq__", .meth "Tables" "__getitem__", .meth "Tables" "__setitem__", .meth "Tables" "put", .meth "Tables" "has", .meth "Tables" "twin", .meth "Tables" "__or__", .noat "Conditions" "kept_atoms", .noat "Schema" "widths", .noat "Schema" "limits", .noat "Tables" "form", .noat "Tables" "places"]
def xn : List EL.DefX := [xw_NoTable, xw_NoRow, xw_BadRow]
def exL (K : PySem.W.Frag) : List Bool := [tupAB K (dflAt ("Conditions", some "__init__") 0 K), eqO (PySem.W.findIn K (.ref (ga K "Schema")) "__ne__") (some (some (.builtin "object.__ne__"))), PySem.W.notFirst K (ga K "Tables") (.type "list"), PySem.W.fnIn K (ma K (ga K "Tables") "__getitem__"), PySem.W.noSeq K (ga K "Tables"), excCB K (ga K "NoTable"), excCB K (ga K "NoRow"), excCB K (ga K "BadRow"), decide (PySem.W.kitOne K (.ref (ga K "NoTable")) (.ref (ga K "AskError")) = some true), decide (PySem.W.kitOne K (.ref (ga K "NoRow")) (.ref (ga K "BadRow")) = some false), decide (PySem.W.kitOne K (.ref (ga K "BadRow")) (.ref (ga K "NoRow")) = some false), ocB K (ga K "Conditions"), ocB K (ga K "Schema"), ocB K (ga K "Tables"), dunB K (ga K "Conditions") "__eq__", dunB K (ga K "Conditions") "__and__", dunB K (ga K "Conditions") "__iand__", dunB K (ga K "Schema") "__eq__", dunB K (ga K "Tables") "__eq__", dunB K (ga K "Tables") "__or__", PySem.W.selfFirst K (ga K "Conditions"), PySem.W.selfFirst K (ga K "Tables"), PySem.W.notFirst K (ga K "Conditions") (.ref (ga K "Conditions")), PySem.W.notFirst K (ga K "Schema") (.ref (ga K "Schema")), PySem.W.notFirst K (ga K "Tables") (.ref (ga K "Tables")), tupB K "PLACES" [.str "old", .str "first", .str "second"], tupB K "SIGNS" [.str "<", .str "<=", .str "=", .str "!="], xtB K "NoTable" "name" "/claim/cut.py", xtB K "NoRow" "index" "/claim/cut.py", xtB K "BadRow" "index" "/claim/cut.py"]
def ex (K : PySem.W.Frag) : Bool := (exL K).all id
theorem txt_of {K : PySem.W.Frag} {h : Heap} {mg : Str → Option Value} (X : K.In h) (G : h.Ns mainGlobals mg) (cx : EL.SaysX fa fn xn ex K) : Txt K mg := by
  have c := cx.e
  have m := c.ex_
  exact ⟨He.glo_ok X G (c.fact 0 (by rfl)),
    He.glo_ok X G (c.fact 1 (by rfl)),
    He.glo_ok X G (c.fact 2 (by rfl)),
    He.glo_ok X G (c.fact 3 (by rfl)),
    He.glo_ok X G (c.fact 4 (by rfl)),
    He.glo_ok X G (c.fact 5 (by rfl)),
    He.glo_ok X G (c.fact 6 (by rfl)),
    He.glo_ok X G (c.fact 7 (by rfl)),
    He.glo_ok X G (c.fact 8 (by rfl)),
    He.glo_ok X G (c.fact 9 (by rfl)),
    He.glo_ok X G (c.fact 10 (by rfl)),
    He.glo_ok X G (c.fact 11 (by rfl)),
    He.glo_ok X G (c.fact 12 (by rfl)),
    He.glo_ok X G (c.fact 13 (by rfl)),
    He.glo_ok X G (c.fact 14 (by rfl)),
    He.glo_ok X G (c.fact 15 (by rfl)),
    He.glo_ok X G (c.fact 16 (by rfl)),
    He.glo_ok X G (c.fact 17 (by rfl)),
    He.glo_ok X G (c.fact 18 (by rfl)),
    He.glo_ok X G (c.fact 19 (by rfl)),
    He.glo_ok X G (c.fact 20 (by rfl)),
    He.glo_ok X G (c.fact 21 (by rfl)),
    He.glo_ok X G (c.fact 22 (by rfl)),
    He.glo_ok X G (c.fact 23 (by rfl)),
    He.glo_ok X G (c.fact 24 (by rfl)),
    He.glo_ok X G (c.fact 25 (by rfl)),
    He.glo_ok X G (c.fact 26 (by rfl)),
    He.glo_ok X G (c.fact 27 (by rfl)),
    He.glo_ok X G (c.fact 28 (by rfl)),
    He.glo_ok X G (c.fact 29 (by rfl)),
    He.glo_ok X G (c.fact 30 (by rfl)),
    He.glo_ok X G (c.fact 31 (by rfl)),
    He.glo_ok X G (c.fact 32 (by rfl)),
    He.glo_ok X G (c.fact 33 (by rfl)),
    He.glo_ok X G (c.fact 34 (by rfl)),
    He.glo_ok X G (c.fact 35 (by rfl)),
    He.glo_ok X G (c.fact 36 (by rfl)),
    He.glo_ok X G (c.fact 37 (by rfl)),
    He.glo_ok X G (c.fact 38 (by rfl)),
    He.glo_ok X G (c.fact 39 (by rfl)),
    xc_of (He.glo_ok X G (c.fact 40 (by rfl))) (He.exc_ok (c.fact 41 (by rfl))),
    xc_of (He.glo_ok X G (c.fact 42 (by rfl))) (He.exc_ok (c.fact 43 (by rfl))),
    xc_of (He.glo_ok X G (c.fact 44 (by rfl))) (He.exc_ok (c.fact 45 (by rfl))),
    gv_str (He.str_ok X G (c.fact 46 (by rfl))),
    He.glo_ok X G (c.fact 47 (by rfl)),
    He.glo_ok X G (c.fact 48 (by rfl)),
    He.glo_ok X G (c.fact 49 (by rfl)),
    gv_int (He.int_ok X G (c.fact 50 (by rfl))),
    He.free_ok X G (c.fact 51 (by rfl)),
    He.free_ok X G (c.fact 52 (by rfl)),
    He.free_ok X G (c.fact 53 (by rfl)),
    He.free_ok X G (c.fact 54 (by rfl)),
    He.free_ok X G (c.fact 55 (by rfl)),
    He.free_ok X G (c.fact 56 (by rfl)),
    He.free_ok X G (c.fact 57 (by rfl)),
    He.free_ok X G (c.fact 58 (by rfl)),
    He.free_ok X G (c.fact 59 (by rfl)),
    He.free_ok X G (c.fact 60 (by rfl)),
    He.free_ok X G (c.fact 61 (by rfl)),
    He.free_ok X G (c.fact 62 (by rfl)),
    He.free_ok X G (c.fact 63 (by rfl)),
    He.free_ok X G (c.fact 64 (by rfl)),
    He.free_ok X G (c.fact 65 (by rfl)),
    He.exm_ok (c.fact 66 (by rfl)),
    He.exm_ok (c.fact 67 (by rfl)),
    He.exm_ok (c.fact 68 (by rfl)),
    He.exm_ok (c.fact 69 (by rfl)),
    He.exm_ok (c.fact 70 (by rfl)),
    He.exm_ok (c.fact 71 (by rfl)),
    He.mkr_ok (c.fact 72 (by rfl)),
    He.meth_ok (c.fact 73 (by rfl)),
    He.meth_ok (c.fact 74 (by rfl)),
    He.meth_ok (c.fact 75 (by rfl)),
    He.meth_ok (c.fact 76 (by rfl)),
    He.meth_ok (c.fact 77 (by rfl)),
    He.mkr_ok (c.fact 78 (by rfl)),
    He.meth_ok (c.fact 79 (by rfl)),
    He.meth_ok (c.fact 80 (by rfl)),
    He.meth_ok (c.fact 81 (by rfl)),
    He.meth_ok (c.fact 82 (by rfl)),
    He.meth_ok (c.fact 83 (by rfl)),
    He.meth_ok (c.fact 84 (by rfl)),
    He.meth_ok (c.fact 85 (by rfl)),
    He.meth_ok (c.fact 86 (by rfl)),
    He.meth_ok (c.fact 87 (by rfl)),
    He.meth_ok (c.fact 88 (by rfl)),
    He.mkr_ok (c.fact 89 (by rfl)),
    He.meth_ok (c.fact 90 (by rfl)),
    He.meth_ok (c.fact 91 (by rfl)),
    He.meth_ok (c.fact 92 (by rfl)),
    He.meth_ok (c.fact 93 (by rfl)),
    He.meth_ok (c.fact 94 (by rfl)),
    He.meth_ok (c.fact 95 (by rfl)),
    He.meth_ok (c.fact 96 (by rfl)),
    He.meth_ok (c.fact 97 (by rfl)),
    He.meth_ok (c.fact 98 (by rfl)),
    He.meth_ok (c.fact 99 (by rfl)),
    He.meth_ok (c.fact 100 (by rfl)),
    He.noat_ok (c.fact 101 (by rfl)),
    He.noat_ok (c.fact 102 (by rfl)),
    He.noat_ok (c.fact 103 (by rfl)),
    He.noat_ok (c.fact 104 (by rfl)),
    He.noat_ok (c.fact 105 (by rfl)),
    c.def_ 0 (d := dd__wall) rfl,
    c.def_ 1 (d := dd_is_whole) rfl,
    c.def_ 2 (d := dd_is_word) rfl,
    c.def_ 3 (d := dd_common_divisor) rfl,
    c.def_ 4 (d := dd_is_value) rfl,
    c.def_ 5 (d := dd_less) rfl,
    c.def_ 6 (d := dd_stands) rfl,
    c.def_ 7 (d := dd_is_term) rfl,
    c.def_ 8 (d := dd_is_atom) rfl,
    c.def_ 9 (d := dd_value_at) rfl,
    c.def_ 10 (d := dd_Conditions___init__) rfl,
    c.def_ 11 (d := dd_Conditions_atoms) rfl,
    c.def_ 12 (d := dd_Conditions___eq__) rfl,
    c.def_ 13 (d := dd_Conditions___and__) rfl,
    c.def_ 14 (d := dd_Conditions___iand__) rfl,
    c.def_ 15 (d := dd_Conditions_hold) rfl,
    c.def_ 16 (d := dd_is_column_count) rfl,
    c.def_ 17 (d := dd_is_row) rfl,
    c.def_ 18 (d := dd_names_cells) rfl,
    c.def_ 19 (d := dd_are_row_rules) rfl,
    c.def_ 20 (d := dd_Schema___init__) rfl,
    c.def_ 21 (d := dd_Schema___len__) rfl,
    c.def_ 22 (d := dd_Schema___contains__) rfl,
    c.def_ 23 (d := dd_Schema___eq__) rfl,
    c.def_ 24 (d := dd_Schema_names) rfl,
    c.def_ 25 (d := dd_Schema_add) rfl,
    c.def_ 26 (d := dd_Schema_columns) rfl,
    c.def_ 27 (d := dd_Schema_rules) rfl,
    c.def_ 28 (d := dd_Schema_narrow) rfl,
    c.def_ 29 (d := dd_Schema_keeps_rules) rfl,
    c.def_ 30 (d := dd_Schema_twin) rfl,
    c.def_ 31 (d := dd_Tables___init__) rfl,
    c.def_ 32 (d := dd_Tables_look) rfl,
    c.def_ 33 (d := dd_Tables_must_know) rfl,
    c.def_ 34 (d := dd_Tables_names) rfl,
    c.def_ 35 (d := dd_Tables___len__) rfl,
    c.def_ 36 (d := dd_Tables___eq__) rfl,
    c.def_ 37 (d := dd_Tables___getitem__) rfl,
    c.def_ 38 (d := dd_Tables___setitem__) rfl,
    c.def_ 39 (d := dd_Tables_put) rfl,
    c.def_ 40 (d := dd_Tables_has) rfl,
    c.def_ 41 (d := dd_Tables_twin) rfl,
    c.def_ 42 (d := dd_Tables___or__) rfl,
    c.def_ 43 (d := dd__law_begin) rfl,
    c.def_ 44 (d := dd__law_draw) rfl,
    c.def_ 45 (d := dd__law_value) rfl,
    c.def_ 46 (d := dd__law_stands) rfl,
    c.def_ 47 (d := dd__law_side) rfl,
    c.def_ 48 (d := dd__law_keeps) rfl,
    c.def_ 49 (d := dd__law_form) rfl,
    c.def_ 50 (d := dd__law_row) rfl,
    c.def_ 51 (d := dd__law_put) rfl,
    c.def_ 52 (d := dd__law_set) rfl,
    c.def_ 53 (d := dd__law_once) rfl,
    c.def_ 54 (d := dd__law_due) rfl,
    c.def_ 55 (d := dd__law_deed) rfl,
    c.def_ 56 (d := dd__law_refuses) rfl,
    c.def_ 57 (d := dd__law_is) rfl,
    c.def_ 58 (d := dd__law_same) rfl,
    c.def_ 59 (d := dd__law_join) rfl,
    c.def_ 60 (d := dd__law_apart) rfl,
    c.def_ 61 (d := dd_law) rfl,
    fun H => tupAB_ok (exG m 0 (by rfl)) H,
    eqO_ok (exG m 1 (by rfl)),
    (exG m 2 (by rfl)),
    (exG m 3 (by rfl)),
    (exG m 4 (by rfl)),
    excCB_ok (exG m 5 (by rfl)),
    excCB_ok (exG m 6 (by rfl)),
    excCB_ok (exG m 7 (by rfl)),
    of_decide_eq_true (exG m 8 (by rfl)),
    of_decide_eq_true (exG m 9 (by rfl)),
    of_decide_eq_true (exG m 10 (by rfl)),
    ocB_ok (exG m 11 (by rfl)),
    ocB_ok (exG m 12 (by rfl)),
    ocB_ok (exG m 13 (by rfl)),
    dunB_ok (exG m 14 (by rfl)),
    dunB_ok (exG m 15 (by rfl)),
    dunB_ok (exG m 16 (by rfl)),
    dunB_ok (exG m 17 (by rfl)),
    dunB_ok (exG m 18 (by rfl)),
    dunB_ok (exG m 19 (by rfl)),
    (exG m 20 (by rfl)),
    (exG m 21 (by rfl)),
    (exG m 22 (by rfl)),
    (exG m 23 (by rfl)),
    (exG m 24 (by rfl)),
    fun H => tupB_ok (exG m 25 (by rfl)) H,
    fun H => tupB_ok (exG m 26 (by rfl)) H,
    xt_of xwok_NoTable (cx.xd 0 (by rfl)) (He.glo_ok X G (c.fact 34 (by rfl))) (He.free_ok X G (c.fact 52 (by rfl))) (exG m 27 (by rfl)),
    xt_of xwok_NoRow (cx.xd 1 (by rfl)) (He.glo_ok X G (c.fact 35 (by rfl))) (He.free_ok X G (c.fact 52 (by rfl))) (exG m 28 (by rfl)),
    xt_of xwok_BadRow (cx.xd 2 (by rfl)) (He.glo_ok X G (c.fact 36 (by rfl))) (He.free_ok X G (c.fact 52 (by rfl))) (exG m 29 (by rfl))⟩
def loose : List Str := [("_wall" : Str), ("AskError" : Str), ("NoCell" : Str), ("NoCondition" : Str), ("NotSingle" : Str), ("NoTable" : Str), ("NoRow" : Str), ("BadRow" : Str), ("LETTERS" : Str), ("SIGNS" : Str), ("NEGATED" : Str), ("is_whole" : Str), ("is_word" : Str), ("common_divisor" : Str), ("is_value" : Str), ("less" : Str), ("stands" : Str), ("PLACES" : Str), ("MOST_COLUMNS" : Str), ("is_term" : Str), ("is_atom" : Str), ("value_at" : Str), ("Conditions" : Str), ("is_column_count" : Str), ("is_row" : Str), ("names_cells" : Str), ("are_row_rules" : Str), ("Schema" : Str), ("Tables" : Str), ("_law_begin" : Str), ("_law_draw" : Str), ("_law_value" : Str), ("_law_stands" : Str), ("_law_side" : Str), ("_law_keeps" : Str), ("_law_form" : Str), ("_law_row" : Str), ("_law_put" : Str), ("_law_set" : Str), ("_law_once" : Str), ("_law_due" : Str), ("_law_deed" : Str), ("_law_refuses" : Str), ("_law_is" : Str), ("_law_same" : Str), ("_law_join" : Str), ("_law_apart" : Str)]
end K10
namespace K10
open PySem PySem.Spec PyProof.Rows L2 He TL EL
section
variable {P : Program} {w : World} {K : PySem.W.Frag} {mg : Str → Option Value} {base : Heap}
/-! is_whole -/
def spIsWhole (K : PySem.W.Frag) : Sp := fun vs H Q _ => ∃ v th, vs = [v] ∧ ThOk K H v th ∧ Q (.bl (isWholeT th)) H
theorem d_is_whole (T : Txt K mg) : Dn P w K mg base CX0 1 "is_whole" (spIsWhole K) := by
  obtain ⟨fd, F⟩ := T.f_is_whole
  refine dnN T.g_is_whole F (fun _ _ _ _ _ _ us hl => match us, hl with | [_], _ => rfl) sc_is_whole (fun vs H Q E h => ?_) (fun cdv A outer s H vs Q E hr h => ?_)
  · obtain ⟨v, th, rfl, _⟩ := h
    rfl
  · obtain ⟨v, th, rfl, ht, q⟩ := h
    obtain ⟨t, ty, ki⟩ := ht.ty
    refine ⟨_, PSs.nox (pss_one (ps_ret (pe_and (pe_callB call_isi (by rfl) T.z_isinstance (by decide +kernel) (pa_cons (pv 0) (pa_cons (pe_bltn (v := .ty "int") (by rfl) T.z_int (by decide +kernel) rfl) pa_nil))) (pe_one (pe_not (pe_callB call_isi (by rfl) T.z_isinstance (by decide +kernel) (pa_cons (pv 0) (pa_cons (pe_bltn (v := .ty "bool") (by rfl) T.z_bool (by decide +kernel) rfl) pa_nil)))))))), ?_⟩
    refine ⟨_, rfl, _, _, t, _, _, rfl, .ty _, ty, ki .int, _, rfl, ie (fun h1 => ?_) (fun h1 => ?_)⟩
    · refine ⟨_, rfl, _, _, t, _, _, rfl, .ty _, ty, ki .bl, _, rfl, ?_⟩
      have e : isWholeT th = !th.is .bl := by unfold isWholeT; rw [h1]; rfl
      rw [e] at q
      exact q
    · have e : isWholeT th = false := by unfold isWholeT; rw [h1]; rfl
      rw [e] at q
      exact q
/-! common_divisor -/
def spCD : Sp := fun vs H Q _ => ∃ a b : Int, vs = [.int a, .int b] ∧ Q (.int (cd a b)) H
theorem d_common_divisor (T : Txt K mg) : Dn P w K mg base CX0 1 "common_divisor" spCD := by
  obtain ⟨fd, F⟩ := T.f_common_divisor
  refine dnN T.g_common_divisor F (fun _ _ _ _ _ _ us hl => match us, hl with | [_, _], _ => rfl) sc_common_divisor (fun vs H Q E h => ?_) (fun cdv A outer s H vs Q E hr h => ?_)
  · obtain ⟨a, b, rfl, _⟩ := h
    rfl
  · obtain ⟨a, b, rfl, q⟩ := h
    refine ⟨_, PSs.nox (pss_cons (ps_par (i := 0) (j := 1) (by rfl) sc_common_divisor.nd rfl rfl (by decide) rfl rfl (pa_cons (pe_callB call_abs (by rfl) T.z_abs (by decide +kernel) (pa_cons (pv 0) pa_nil)) (pa_cons (pe_callB call_abs (by rfl) T.z_abs (by decide +kernel) (pa_cons (pv 1) pa_nil)) pa_nil)) (by rfl))
      (pss_cons (ps_while PassesOwn.never (pt_cmpR op_gt (pv 1) pe_int (nomark _))
      (pss_one (ps_par (i := 0) (j := 1) (by rfl) sc_common_divisor.nd rfl rfl (by decide) rfl rfl (pa_cons (pv 1) (pa_cons (pe_op op_mod (pv 0) (pv 1)) pa_nil)) (by rfl))))
      (pss_one (ps_ret (pv 0))))), ?_⟩
    refine ⟨_, rfl, _, rfl, _, rfl, _, rfl, _, _, rfl, ?_⟩
    refine ⟨fun m σ H' => ∃ x y : Nat, m = y ∧ σ = [some (.int x), some (.int y)] ∧ H' = H ∧ Nat.gcd x y = Nat.gcd a.natAbs b.natAbs, ⟨b.natAbs, a.natAbs, b.natAbs, rfl, ?_, rfl, rfl⟩, ?_⟩
    · have e : ∀ z : Int, (if z < 0 then -z else z) = (z.natAbs : Int) := fun z => by split <;> omega
      show [some (V.int _), some (V.int _)] = _
      rw [e, e]
    · rintro m σ H' ⟨x, y, em, rfl, rfl, hg⟩
      subst m
      refine ⟨_, rfl, _, _, rfl, rfl, _, rfl, ie (fun h1 => ?_) (fun h1 => ?_)⟩
      · have hy : 0 < y := by
          have := of_decide_eq_true h1
          omega
        refine ⟨_, fun σ' H2 hN => hN, _, rfl, _, rfl, _, rfl, _, _, rfl, rfl, (by show (0 : Int) < (y : Int); omega), _, _, rfl, ?_⟩
        exact ⟨x % y, Nat.mod_lt _ hy, y, x % y, rfl, rfl, rfl, by rw [← hg, Nat.gcd_comm x y, Nat.gcd_rec y x, Nat.gcd_comm]⟩
      · have hy : y = 0 := by
          have := of_decide_eq_false h1
          omega
        refine ⟨_, rfl, ?_⟩
        subst hy
        rw [Nat.gcd_zero_right] at hg
        unfold cd at q
        rw [← hg] at q
        exact q
/-! is_value -/
def spIsValue (K : PySem.W.Frag) : Sp := fun vs H Q _ => ∃ v th, vs = [v] ∧ ThOk K H v th ∧ Q (.bl (isValT th)) H
theorem d_is_value (T : Txt K mg) : Dn P w K mg base CX0 2 "is_value" (spIsValue K) := by
  obtain ⟨fd, F⟩ := T.f_is_value
  have D_is_whole := d_is_whole (P := P) (w := w) (base := base) T
  have D_common_divisor := d_common_divisor (P := P) (w := w) (base := base) T
  refine dnN T.g_is_value F (fun _ _ _ _ _ _ us hl => match us, hl with | [_], _ => rfl) sc_is_value (fun vs H Q E h => ?_) (fun cdv A outer s H vs Q E hr h => ?_)
  · obtain ⟨v, th, rfl, _⟩ := h
    rfl
  · obtain ⟨v, th, rfl, ht, q⟩ := h
    obtain ⟨t, ty, ki⟩ := ht.ty
    refine ⟨_, PSs.nox (pss_cons (ps_if (PW.pt (pw_or (pt_not (pt_val (pe_callB call_isi (by rfl) T.z_isinstance (by decide +kernel) (pa_cons (pv 0) (pa_cons (pe_bltn (v := .ty "tuple") (by rfl) T.z_tuple (by decide +kernel) rfl) pa_nil))))) (pw_or1 (pt_cmpR op_ne (pe_callB call_len_seq (by rfl) T.z_len (by decide +kernel) (pa_cons (pv 0) pa_nil)) pe_int (nomark _))))) (pss_one (ps_ret pe_bl)) pss_nil)
      (pss_cons (ps_if (PW.pt (pw_or (pt_not (pt_val (cl D_is_whole (hr.mono (by decide)) (pa_cons (pe_ix ix_tup (pv 0) pe_int (fun _ _ => rfl)) pa_nil)))) (pw_or (pt_not (pt_val (cl D_is_whole (hr.mono (by decide)) (pa_cons (pe_ix ix_tup (pv 0) pe_int (fun _ _ => rfl)) pa_nil)))) (pw_or1 (pt_cmpR op_lt (pe_ix ix_tup (pv 0) pe_int (fun _ _ => rfl)) pe_int (nomark _)))))) (pss_one (ps_ret pe_bl)) pss_nil)
      (pss_one (ps_ret (pe_cmpR op_eq (cl D_common_divisor (hr.mono (by decide)) (pa_cons (pe_ix ix_tup (pv 0) pe_int (fun _ _ => rfl)) (pa_cons (pe_ix ix_tup (pv 0) pe_int (fun _ _ => rfl)) pa_nil))) pe_int (nomark _)))))), ?_⟩
    refine ⟨_, rfl, _, _, t, _, _, rfl, .ty _, ty, ki .tup, _, rfl, ?_⟩
    by_cases hn : ∃ ds, th = .d (.tuple ds)
    · obtain ⟨ds, rfl⟩ := hn
      refine iteF ?_
      cases ht with
      | @tup a xs _ hS hA =>
      refine ⟨_, rfl, _, _, rfl, .inr hS, rfl, _, rfl, ?_⟩
      by_cases hl : xs.length = 2
      · match xs, hl with
        | [v0, v1], _ =>
        match ds, hA with
        | [d0, d1], .cons h0 (.cons h1 .nil) =>
        refine iteF ?_
        -- is_whole(thing[0])
        refine ⟨_, rfl, _, _, 0, v0, rfl, rfl, hS, atI_nat (j := 0) rfl, v0, .d d0, rfl, h0, _, rfl, ?_⟩
        rw [isWholeT_d]
        by_cases w0 : ∃ a, d0 = .int a
        · obtain ⟨a0, rfl⟩ := w0
          refine iteF ?_
          refine ⟨_, rfl, _, _, 1, v1, rfl, rfl, hS, atI_nat (j := 1) rfl, v1, .d d1, rfl, h1, _, rfl, ?_⟩
          rw [isWholeT_d]
          by_cases w1 : ∃ b, d1 = .int b
          · obtain ⟨b0, rfl⟩ := w1
            refine iteF ?_
            cases h0
            cases h1
            refine ⟨_, rfl, _, _, 1, _, rfl, rfl, hS, atI_nat (j := 1) rfl, _, _, rfl, rfl, _, rfl, ie (fun c => ?_) (fun c => ?_)⟩
            · have e : isValT (.d (.tuple [.int a0, .int b0])) = false := by
                show (!decide (b0 < 1) && decide (cd a0 b0 = 1)) = false
                rw [c]
                rfl
              rw [e] at q
              exact q
            · have e : isValT (.d (.tuple [.int a0, .int b0])) = decide (V.int (cd a0 b0) = V.int 1) := by
                show (!decide (b0 < 1) && decide (cd a0 b0 = 1)) = decide (V.int (cd a0 b0) = V.int 1)
                rw [c]
                simp
              rw [e] at q
              exact ⟨_, rfl, _, _, 0, _, rfl, rfl, hS, atI_nat (j := 0) rfl, _, rfl, _, _, 1, _, rfl, rfl, hS, atI_nat (j := 1) rfl, _, _, rfl, rfl, q⟩
          · have e2 : isWholeD d1 = false := by
              cases d1 <;> first | rfl | exact absurd ⟨_, rfl⟩ w1
            rw [e2]
            have e : isValT (.d (.tuple [.int a0, d1])) = false := by
              cases d1 <;> first | rfl | exact absurd ⟨_, rfl⟩ w1
            rw [e] at q
            exact q
        · have e2 : isWholeD d0 = false := by
            cases d0 <;> first | rfl | exact absurd ⟨_, rfl⟩ w0
          rw [e2]
          have e : isValT (.d (.tuple [d0, d1])) = false := by
            cases d0 <;> first | rfl | exact absurd ⟨_, rfl⟩ w0
          rw [e] at q
          exact q
      · have e2 : decide (V.int (xs.length : Int) = V.int 2) = false := decide_eq_false fun z => hl (by injection z; omega)
        rw [e2]
        have hdl : ds.length ≠ 2 := by
          rw [← DpAll.length hA]
          exact hl
        have e : isValT (.d (.tuple ds)) = false := by
          match ds, hdl with
          | [], _ => rfl
          | [_], _ => simp [isValT, isValD]
          | [_, _], h => exact absurd rfl h
          | _ :: _ :: _ :: _, _ => simp [isValT, isValD]
        rw [e] at q
        exact q
    · have e1 : th.is .tup = false := by
        cases th with
        | o => rfl
        | d d => cases d <;> first | rfl | exact absurd ⟨_, rfl⟩ hn
      rw [e1]
      have e : isValT th = false := by
        cases th with
        | o => rfl
        | d d => cases d <;> first | rfl | exact absurd ⟨_, rfl⟩ hn
      rw [e] at q
      exact q
/-! _law_begin -/
def spBegin (K : PySem.W.Frag) : Sp := fun vs H Q _ => ∃ (a : Addr) (ns : List Int), vs = [.ref a] ∧ SqL K H a (ns.map V.int) ∧ ∀ p l H', H p = none → H l = none → Same H H' → Src H' p l → Q (.ref p) H'
theorem cut_map (ns : List Int) (lo hi : Option Int) : ∃ ms : List Int, cutV (ns.map V.int) lo hi = ms.map V.int := by
  unfold cutV
  rw [← List.map_drop, ← List.map_take]
  exact ⟨_, rfl⟩
theorem d_begin (T : Txt K mg) : Dn P w K mg base CX0 1 "_law_begin" (spBegin K) := by
  obtain ⟨fd, F⟩ := T.f__law_begin
  refine dnN T.g__law_begin F (fun _ _ _ _ _ _ us hl => match us, hl with | [_], _ => rfl) sc__law_begin (fun vs H Q E h => ?_) (fun cdv A outer s H vs Q E hr h => ?_)
  · obtain ⟨a, ns, rfl, _⟩ := h
    rfl
  · obtain ⟨a, ns, rfl, hS, q⟩ := h
    refine ⟨_, PSs.nox (pss_one (ps_ret (pe_lst (pa_cons (pe_callTy call_list_of (by rfl) T.z_list (by decide +kernel) (pa_cons (pe_slice sl_list (pv 0) po_none (po_some pe_int)) pa_nil)) (pa_cons pe_int (pa_cons pe_int (pa_cons pe_int pa_nil))))))), ?_⟩
    obtain ⟨ms, hm⟩ := cut_map ns none (some 63)
    refine ⟨_, rfl, _, rfl, _, _, rfl, hS, fun c nc => ?_⟩
    rw [hm]
    generalize eH1 : upd H c _ = H1
    have s1 : Same H H1 := eH1 ▸ same_upd nc
    have h1 : H1 c = some _ := eH1 ▸ upd_same
    refine ⟨_, _, rfl, .inl (SqL.of h1), fun l nl => ?_⟩
    generalize eH2 : upd H1 l _ = H2
    have s2 : Same H1 H2 := eH2 ▸ same_upd nl
    have h2 : H2 l = some _ := eH2 ▸ upd_same
    refine ⟨(by show 4 ≤ sizeLine; decide), fun p np => ?_⟩
    generalize eH3 : upd H2 p _ = H3
    have s3 : Same H2 H3 := eH3 ▸ same_upd np
    have h3 : H3 p = some _ := eH3 ▸ upd_same
    exact q p l H3 (s1.free (s2.free np)) (s1.free nl) (s1.trans (s2.trans s3)) ⟨ms, 0, 0, 7, h3, s3 _ _ h2, by omega, by omega, by omega⟩
/-! _law_draw -/
def spDraw : Sp := fun vs H Q _ => ∃ (p l : Addr) (L : Int), vs = [.ref p, .int L] ∧ 0 < L ∧ L ≤ 1000000000000000000 ∧ Src H p l ∧ ∀ (n : Int) (H' : Hp), 0 ≤ n → n < L → Src H' p l → But p H H' → Q (.int n) H'
theorem mulok {i j : Int} {a : Nat} (h1 : i.natAbs < 2 ^ 200) (h2 : j.natAbs < 2 ^ 200) : CMulW i j := wide_mul h1 h2 (by decide) (by decide) (by decide)
theorem pow18 : ((10 : Int) ^ (18 : Int).toNat) = 1000000000000000000 := by decide +kernel
theorem d_draw (T : Txt K mg) : Dn P w K mg base CX0 1 "_law_draw" spDraw := by
  obtain ⟨fd, F⟩ := T.f__law_draw
  refine dnN T.g__law_draw F (fun _ _ _ _ _ _ us hl => match us, hl with | [_, _], _ => rfl) sc__law_draw (fun vs H Q E h => ?_) (fun cdv A outer s H vs Q E hr h => ?_)
  · obtain ⟨p, l, L, rfl, _⟩ := h
    rfl
  · obtain ⟨p, l, L, rfl, hL0, hL1, hS, q⟩ := h
    obtain ⟨ns, i, c, r, h1, h2, hc, hr0, hr1⟩ := id hS
    have npl : l ≠ p := hS.ne
    have hpw : CPow 10 18 := ⟨by decide, by decide, by decide⟩
    refine ⟨_, PSs.nox (pss_mid (ps_if (PW.pt (pw_and (pt_cmpR op_lt (pe_ix ix_list (pv 0) pe_int (fun _ _ => rfl)) (pe_op op_pow pe_int pe_int) (nomark _)) (pw_and1 (pt_cmpR op_lt (pe_ix ix_list (pv 0) pe_int (fun _ _ => rfl)) (pe_callB call_len_seq (by rfl) T.z_len (by decide +kernel) (pa_cons (pe_ix ix_list (pv 0) pe_int (fun _ _ => rfl)) pa_nil)) (nomark _))))) (pss_cons (ps_set (i := 2) sc__law_draw.nd rfl (.inl rfl) (pe_callTy call_int1 (by rfl) T.z_int (by decide +kernel) (pa_cons (pe_ix ix_list (pe_ix ix_list (pv 0) pe_int (fun _ _ => rfl)) (pe_ix ix_list (pv 0) pe_int (fun _ _ => rfl)) (fun _ _ => rfl)) pa_nil)))
      (pss_cons (ps_asg (pe_op op_add (pe_ix ix_list (pv 0) pe_int (fun _ _ => rfl)) pe_int) (pg_sub (pv 0) pe_int set_list))
      (pss_cons (ps_asg pe_int (pg_sub (pv 0) pe_int set_list))
      (pss_mid (ps_if (pt_cmpR op_ge (pv 2) (pe_op op_pow pe_int pe_int) (nomark _)) (pss_one (ps_asg (pv 2) (pg_sub (pv 0) pe_int set_list))) pss_nil)
      (pss_one (ps_asg (pe_op op_mod (pe_op op_add (pe_op op_add (pe_op op_mulW (pe_ix ix_list (pv 0) pe_int (fun _ _ => rfl)) pe_int) (pe_op op_mod (pv 2) pe_int)) pe_int) pe_int) (pg_sub (pv 0) pe_int set_list))))))) pss_nil)
      (pss_cons (ps_if (pt_cmpR op_ge (pe_ix ix_list (pv 0) pe_int (fun _ _ => rfl)) (pe_op op_pow pe_int pe_int) (nomark _)) (pss_cons (ps_set (i := 3) sc__law_draw.nd rfl (.inl rfl) (pe_op op_mod (pe_ix ix_list (pv 0) pe_int (fun _ _ => rfl)) (pv 1)))
      (pss_cons (ps_asg (pe_op op_fdivW (pe_ix ix_list (pv 0) pe_int (fun _ _ => rfl)) (pv 1)) (pg_sub (pv 0) pe_int set_list))
      (pss_one (ps_ret (pv 3))))) pss_nil)
      (pss_cons (ps_asg (pe_op op_mod (pe_op op_add (pe_op op_mulW (pe_ix ix_list (pv 0) pe_int (fun _ _ => rfl)) pe_int) pe_int) pe_int) (pg_sub (pv 0) pe_int set_list))
      (pss_one (ps_ret (pe_op op_mod (pe_op op_fdivW (pe_ix ix_list (pv 0) pe_int (fun _ _ => rfl)) pe_int) (pv 1))))))), ?_⟩
    refine ⟨fun σ' H' => ∃ v2, σ' = [some (.ref p), some (.int L), v2, none] ∧ Src H' p l ∧ But p H H', ?_, ?_⟩
    · -- the first test
      refine ⟨_, rfl, _, _, 2, _, rfl, rfl, SqL.of h1, atI_nat (j := 2) rfl, _, _, rfl, rfl, hpw, _, _, rfl, rfl, _, rfl, ie (fun c1 => ?_) (fun c1 => ?_)⟩
      · refine ⟨_, rfl, _, _, 1, _, rfl, rfl, SqL.of h1, atI_nat (j := 1) rfl, _, rfl, _, _, 0, _, rfl, rfl, SqL.of h1, atI_nat (j := 0) rfl, _, _, rfl, .inl (SqL.of h2), _, _, rfl, rfl, _, rfl, ie (fun c2 => ?_) (fun c2 => ?_)⟩
        · have c2 := of_decide_eq_true c2
          rw [List.length_map] at c2
          have hi : i < ns.length := by omega
          have hg : (ns.map V.int)[i]? = some (.int ns[i]) := by
            rw [List.getElem?_map, List.getElem?_eq_getElem hi]
            rfl
          generalize ns[i] = z at hg
          -- _law_cell = int(_law_source[0][_law_source[1]])
          refine ⟨_, rfl, _, _, 0, _, rfl, rfl, SqL.of h1, atI_nat (j := 0) rfl, _, rfl, _, _, 1, _, rfl, rfl, SqL.of h1, atI_nat (j := 1) rfl, _, _, _, _, rfl, rfl, SqL.of h2, atI_nat hg, .inl ⟨_, rfl, ?_⟩⟩
          -- _law_source[1] = _law_source[1] + 1
          refine ⟨_, rfl, _, _, 1, _, rfl, rfl, SqL.of h1, atI_nat (j := 1) rfl, _, _, rfl, rfl, _, rfl, p, _, 1, 1, rfl, rfl, h1, rfl, ?_⟩
          generalize e3 : upd H p _ = H3
          have b3 : But p H H3 := e3 ▸ but_upd
          have h3 : H3 p = some (.lst [.ref l, .int (i + 1), .int c, .int r]) := e3 ▸ upd_same
          -- _law_source[2] = 0
          refine ⟨_, rfl, p, _, 2, 2, rfl, rfl, h3, rfl, ?_⟩
          generalize e4 : upd H3 p _ = H4
          have b4 : But p H3 H4 := e4 ▸ but_upd
          have h4 : H4 p = some (.lst [.ref l, .int (i + 1), .int 0, .int r]) := e4 ▸ upd_same
          -- if _law_cell >= 10 ** 18: _law_source[2] = _law_cell
          refine ⟨fun σ' H' => ∃ c' : Int, 0 ≤ c' ∧ σ' = [some (.ref p), some (.int L), some (.int z), none] ∧ But p H H' ∧ H' p = some (.lst [.ref l, .int (i + 1), .int c', .int r]), ?_, ?_⟩
          · refine ⟨_, rfl, _, _, rfl, rfl, hpw, _, _, rfl, rfl, _, rfl, ie (fun c3 => ?_) (fun c3 => ?_)⟩
            · have c3 := of_decide_eq_true c3
              rw [pow18] at c3
              refine ⟨_, rfl, _, rfl, p, _, 2, 2, rfl, rfl, h4, rfl, ?_⟩
              exact ⟨z, by omega, rfl, b3.trans (b4.trans but_upd), upd_same⟩
            · exact ⟨0, by omega, rfl, b3.trans b4, h4⟩
          · rintro σ' H5 ⟨c', hc', rfl, b5, h5⟩
            have hm : CMulW r 48271 := mulok (a := 0) (by omega) (by decide)
            have hmod : 0 ≤ (r * 48271 + z % 2147483629 + 11) % 2147483647 ∧ (r * 48271 + z % 2147483629 + 11) % 2147483647 < 2147483647 := ⟨Int.emod_nonneg _ (by decide), Int.emod_lt_of_pos _ (by decide)⟩
            refine ⟨_, rfl, _, _, 3, _, rfl, rfl, SqL.of h5, atI_nat (j := 3) rfl, _, _, rfl, rfl, hm, _, rfl, _, _, rfl, rfl, (by show (0 : Int) < 2147483629; decide), _, _, rfl, rfl, _, _, rfl, rfl, _, _, rfl, rfl, (by show (0 : Int) < 2147483647; decide), _, rfl, p, _, 3, 3, rfl, rfl, h5, rfl, ?_⟩
            exact ⟨_, rfl, ⟨ns, i + 1, c', _, upd_same, by rw [upd_ne npl]; exact b5 _ _ h2 npl, hc', hmod.1, hmod.2⟩, b5.trans but_upd⟩
        · exact ⟨none, rfl, hS, .refl _ _⟩
      · exact ⟨none, rfl, hS, .refl _ _⟩
    · rintro σ' H1 ⟨v2, rfl, hS1, b1⟩
      clear h1 h2 hc hr0 hr1 npl
      obtain ⟨ns, i, c, r, h1, h2, hc, hr0, hr1⟩ := id hS1
      have npl : l ≠ p := hS1.ne
      refine ⟨_, rfl, _, _, 2, _, rfl, rfl, SqL.of h1, atI_nat (j := 2) rfl, _, _, rfl, rfl, hpw, _, _, rfl, rfl, _, rfl, ie (fun c1 => ?_) (fun c1 => ?_)⟩
      · refine ⟨_, rfl, _, _, 2, _, rfl, rfl, SqL.of h1, atI_nat (j := 2) rfl, _, rfl, _, _, rfl, rfl, hL0, ?_⟩
        have hdv : CDivW c L := wide_div hL0 (b := 64) (by omega) (by decide) (by decide)
        refine ⟨_, rfl, _, _, 2, _, rfl, rfl, SqL.of h1, atI_nat (j := 2) rfl, _, rfl, _, _, rfl, rfl, hdv, _, rfl, p, _, 2, 2, rfl, rfl, h1, rfl, ?_⟩
        refine ⟨_, rfl, ?_⟩
        refine q (c % L) _ (Int.emod_nonneg _ (by omega)) (Int.emod_lt_of_pos _ hL0) ⟨ns, i, c / L, r, upd_same, by rw [upd_ne npl]; exact h2, Int.ediv_nonneg hc (by omega), hr0, hr1⟩ (b1.trans but_upd)
      · have hm : CMulW r 39373 := mulok (a := 0) (by omega) (by decide)
        have hmod : 0 ≤ (r * 39373 + 12820163) % 2147483647 ∧ (r * 39373 + 12820163) % 2147483647 < 2147483647 := ⟨Int.emod_nonneg _ (by decide), Int.emod_lt_of_pos _ (by decide)⟩
        refine ⟨_, rfl, _, _, 3, _, rfl, rfl, SqL.of h1, atI_nat (j := 3) rfl, _, _, rfl, rfl, hm, _, _, rfl, rfl, _, _, rfl, rfl, (by show (0 : Int) < 2147483647; decide), _, rfl, p, _, 3, 3, rfl, rfl, h1, rfl, ?_⟩
        generalize e3 : upd H1 p _ = H3
        have b3 : But p H1 H3 := e3 ▸ but_upd
        have h3 : H3 p = some (.lst [.ref l, .int i, .int c, .int ((r * 39373 + 12820163) % 2147483647)]) := e3 ▸ upd_same
        generalize (r * 39373 + 12820163) % 2147483647 = r2 at *
        have hdv : CDivW r2 16 := ⟨by decide, by decide⟩
        refine ⟨_, rfl, _, _, 3, _, rfl, rfl, SqL.of h3, atI_nat (j := 3) rfl, _, _, rfl, rfl, hdv, _, rfl, _, _, rfl, rfl, hL0, ?_⟩
        exact q (r2 / 16 % L) _ (Int.emod_nonneg _ (by omega)) (Int.emod_lt_of_pos _ hL0) ⟨ns, i, c, r2, h3, b3 _ _ h2 npl, hc, hmod.1, hmod.2⟩ (b1.trans b3)
/-! is_term -/
def plV : List V := [.str "old", .str "first", .str "second"]
def sgV : List V := [.str "<", .str "<=", .str "=", .str "!="]
def colD : PyData → Bool
  | .int i => decide (0 ≤ i) && decide (i < 3)
  | _ => false
def termD (z : Str) (d : PyData) : Bool := if decide (V.str z = V.str "value") = true then isValD d else inV (.str z) plV && colD d
def isTermD : PyData → Bool
  | .tuple [.str z, d] => termD z d
  | _ => false
def isTermT : Th → Bool
  | Th.d x => isTermD x
  | Th.o => false
def spIsTerm (K : PySem.W.Frag) : Sp := fun vs H Q _ => ∃ v th, vs = [v] ∧ ThOk K H v th ∧ Q (.bl (isTermT th)) H
theorem d_is_term (T : Txt K mg) : Dn P w K mg base CX0 3 "is_term" (spIsTerm K) := by
  obtain ⟨fd, F⟩ := T.f_is_term
  have D_is_whole := d_is_whole (P := P) (w := w) (base := base) T
  have D_is_value := d_is_value (P := P) (w := w) (base := base) T
  refine dnN T.g_is_term F (fun _ _ _ _ _ _ us hl => match us, hl with | [_], _ => rfl) sc_is_term (fun vs H Q E h => ?_) (fun cdv A outer s H vs Q E hr h => ?_)
  · obtain ⟨v, th, rfl, _⟩ := h
    rfl
  · obtain ⟨v, th, rfl, ht, q⟩ := h
    obtain ⟨t, ty, ki⟩ := ht.ty
    refine ⟨_, PSs.nox (pss_cons (ps_if (PW.pt (pw_or (pt_not (pt_val (pe_callB call_isi (by rfl) T.z_isinstance (by decide +kernel) (pa_cons (pv 0) (pa_cons (pe_bltn (v := .ty "tuple") (by rfl) T.z_tuple (by decide +kernel) rfl) pa_nil))))) (pw_or (pt_cmpR op_ne (pe_callB call_len_seq (by rfl) T.z_len (by decide +kernel) (pa_cons (pv 0) pa_nil)) pe_int (nomark _)) (pw_or1 (pt_not (pt_val (pe_callB call_isi (by rfl) T.z_isinstance (by decide +kernel) (pa_cons (pe_ix ix_tup (pv 0) pe_int (fun _ _ => rfl)) (pa_cons (pe_bltn (v := .ty "str") (by rfl) T.z_str (by decide +kernel) rfl) pa_nil))))))))) (pss_one (ps_ret pe_bl)) pss_nil)
      (pss_cons (ps_if (pt_cmpR op_eq (pe_ix ix_tup (pv 0) pe_int (fun _ _ => rfl)) pe_str (nomark _)) (pss_one (ps_ret (cl D_is_value (hr.mono (by decide)) (pa_cons (pe_ix ix_tup (pv 0) pe_int (fun _ _ => rfl)) pa_nil)))) pss_nil)
      (pss_one (ps_ret (pe_and (pe_cmpR op_in_seq (pe_ix ix_tup (pv 0) pe_int (fun _ _ => rfl)) (pe_glob (v := .ref (ga K "PLACES")) (by rfl) T.g_PLACES rfl) (by rfl)) (pe_and (cl D_is_whole (hr.mono (by decide)) (pa_cons (pe_ix ix_tup (pv 0) pe_int (fun _ _ => rfl)) pa_nil)) (pe_one (pe_chain op_le op_lt pe_int (pe_ix ix_tup (pv 0) pe_int (fun _ _ => rfl)) (pe_gv T.g_MOST_COLUMNS))))))))), ?_⟩
    refine ⟨_, rfl, _, _, t, _, _, rfl, .ty _, ty, ki .tup, _, rfl, ?_⟩
    by_cases hn : ∃ ds, th = .d (.tuple ds)
    · obtain ⟨ds, rfl⟩ := hn
      refine iteF ?_
      cases ht with
      | @tup a xs _ hS hA =>
      refine ⟨_, rfl, _, _, rfl, .inr hS, rfl, _, rfl, ?_⟩
      by_cases hl : xs.length = 2
      · match xs, hl with
        | [v0, v1], _ =>
        match ds, hA with
        | [d0, d1], .cons h0 (.cons h1 .nil) =>
        refine iteF ?_
        refine ⟨_, rfl, _, _, 0, v0, rfl, rfl, hS, atI_nat (j := 0) rfl, _, _, _, _, _, rfl, .ty _, Dp.ty h0, kit_d K .str d0, _, rfl, ?_⟩
        by_cases w0 : ∃ z, d0 = .str z
        · obtain ⟨z, rfl⟩ := w0
          cases h0
          refine iteF ?_
          have e : isTermT (.d (.tuple [.str z, d1])) = termD z d1 := rfl
          rw [e] at q
          unfold termD at q
          refine ⟨_, rfl, _, _, 0, _, rfl, rfl, hS, atI_nat (j := 0) rfl, rfl, _, rfl, ie (fun c => ?_) (fun c => ?_)⟩
          · rw [if_pos c] at q
            exact ⟨_, rfl, _, _, 1, _, rfl, rfl, hS, atI_nat (j := 1) rfl, v1, .d d1, rfl, h1, q⟩
          · rw [c, if_neg Bool.false_ne_true] at q
            refine ⟨_, rfl, _, _, 0, _, rfl, rfl, hS, atI_nat (j := 0) rfl, _, _, rfl, .inr (T.t_PLACES _), rfl, rfl, _, rfl, ie (fun c1 => ?_) (fun c1 => ?_)⟩
            · have c1' : inV (.str z) plV = true := c1
              rw [c1', Bool.true_and] at q
              refine ⟨_, rfl, _, _, 1, _, rfl, rfl, hS, atI_nat (j := 1) rfl, v1, .d d1, rfl, h1, _, rfl, ?_⟩
              rw [isWholeT_d]
              by_cases w1 : ∃ b, d1 = .int b
              · obtain ⟨b, rfl⟩ := w1
                cases h1
                refine iteT ?_
                have q : Q (.bl (decide (0 ≤ b) && decide (b < 3))) H := q
                refine ⟨_, rfl, _, _, 1, _, rfl, rfl, hS, atI_nat (j := 1) rfl, _, _, rfl, rfl, _, rfl, ie (fun c2 => ?_) (fun c2 => ?_)⟩
                · rw [c2, Bool.true_and] at q
                  exact ⟨_, _, rfl, rfl, q⟩
                · rw [c2] at q
                  exact q
              · have e2 : isWholeD d1 = false := by
                  cases d1 <;> first | rfl | exact absurd ⟨_, rfl⟩ w1
                rw [e2]
                have e3 : colD d1 = false := by
                  cases d1 <;> first | rfl | exact absurd ⟨_, rfl⟩ w1
                rw [e3] at q
                exact q
            · have c1' : inV (.str z) plV = false := c1
              rw [c1', Bool.false_and] at q
              exact q
        · have e2 : isTy .str d0 = false := by
            cases d0 <;> first | rfl | exact absurd ⟨_, rfl⟩ w0
          rw [e2]
          have e : isTermT (.d (.tuple [d0, d1])) = false := by
            cases d0 <;> first | rfl | exact absurd ⟨_, rfl⟩ w0
          rw [e] at q
          exact q
      · have e2 : decide (V.int (xs.length : Int) = V.int 2) = false := decide_eq_false fun z => hl (by injection z; omega)
        rw [e2]
        have hdl : ds.length ≠ 2 := by
          rw [← DpAll.length hA]
          exact hl
        have e : isTermT (.d (.tuple ds)) = false := by
          match ds, hdl with
          | [], _ => rfl
          | [_], _ => simp [isTermT, isTermD]
          | [_, _], h => exact absurd rfl h
          | _ :: _ :: _ :: _, _ => simp [isTermT, isTermD]
        rw [e] at q
        exact q
    · have e1 : th.is .tup = false := by
        cases th with
        | o => rfl
        | d d => cases d <;> first | rfl | exact absurd ⟨_, rfl⟩ hn
      rw [e1]
      have e : isTermT th = false := by
        cases th with
        | o => rfl
        | d d => cases d <;> first | rfl | exact absurd ⟨_, rfl⟩ hn
      rw [e] at q
      exact q
/-! is_atom -/
def isAtomD : PyData → Bool
  | .tuple [.str z, d1, d2] => inV (.str z) sgV && (isTermD d1 && isTermD d2)
  | _ => false
def isAtomT : Th → Bool
  | Th.d x => isAtomD x
  | Th.o => false
def spIsAtom (K : PySem.W.Frag) : Sp := fun vs H Q _ => ∃ v th, vs = [v] ∧ ThOk K H v th ∧ Q (.bl (isAtomT th)) H
theorem d_is_atom (T : Txt K mg) : Dn P w K mg base CX0 4 "is_atom" (spIsAtom K) := by
  obtain ⟨fd, F⟩ := T.f_is_atom
  have D_is_term := d_is_term (P := P) (w := w) (base := base) T
  refine dnN T.g_is_atom F (fun _ _ _ _ _ _ us hl => match us, hl with | [_], _ => rfl) sc_is_atom (fun vs H Q E h => ?_) (fun cdv A outer s H vs Q E hr h => ?_)
  · obtain ⟨v, th, rfl, _⟩ := h
    rfl
  · obtain ⟨v, th, rfl, ht, q⟩ := h
    obtain ⟨t, ty, ki⟩ := ht.ty
    refine ⟨_, PSs.nox (pss_cons (ps_if (PW.pt (pw_or (pt_not (pt_val (pe_callB call_isi (by rfl) T.z_isinstance (by decide +kernel) (pa_cons (pv 0) (pa_cons (pe_bltn (v := .ty "tuple") (by rfl) T.z_tuple (by decide +kernel) rfl) pa_nil))))) (pw_or (pt_cmpR op_ne (pe_callB call_len_seq (by rfl) T.z_len (by decide +kernel) (pa_cons (pv 0) pa_nil)) pe_int (nomark _)) (pw_or1 (pt_not (pt_val (pe_callB call_isi (by rfl) T.z_isinstance (by decide +kernel) (pa_cons (pe_ix ix_tup (pv 0) pe_int (fun _ _ => rfl)) (pa_cons (pe_bltn (v := .ty "str") (by rfl) T.z_str (by decide +kernel) rfl) pa_nil))))))))) (pss_one (ps_ret pe_bl)) pss_nil)
      (pss_one (ps_ret (pe_and (pe_cmpR op_in_seq (pe_ix ix_tup (pv 0) pe_int (fun _ _ => rfl)) (pe_glob (v := .ref (ga K "SIGNS")) (by rfl) T.g_SIGNS rfl) (by rfl)) (pe_and (cl D_is_term (hr.mono (by decide)) (pa_cons (pe_ix ix_tup (pv 0) pe_int (fun _ _ => rfl)) pa_nil)) (pe_one (cl D_is_term (hr.mono (by decide)) (pa_cons (pe_ix ix_tup (pv 0) pe_int (fun _ _ => rfl)) pa_nil)))))))), ?_⟩
    refine ⟨_, rfl, _, _, t, _, _, rfl, .ty _, ty, ki .tup, _, rfl, ?_⟩
    by_cases hn : ∃ ds, th = .d (.tuple ds)
    · obtain ⟨ds, rfl⟩ := hn
      refine iteF ?_
      cases ht with
      | @tup a xs _ hS hA =>
      refine ⟨_, rfl, _, _, rfl, .inr hS, rfl, _, rfl, ?_⟩
      by_cases hl : xs.length = 3
      · match xs, hl with
        | [v0, v1, v2], _ =>
        match ds, hA with
        | [d0, d1, d2], .cons h0 (.cons h1 (.cons h2 .nil)) =>
        refine iteF ?_
        refine ⟨_, rfl, _, _, 0, v0, rfl, rfl, hS, atI_nat (j := 0) rfl, _, _, _, _, _, rfl, .ty _, Dp.ty h0, kit_d K .str d0, _, rfl, ?_⟩
        by_cases w0 : ∃ z, d0 = .str z
        · obtain ⟨z, rfl⟩ := w0
          cases h0
          refine iteF ?_
          have e : isAtomT (.d (.tuple [.str z, d1, d2])) = (inV (.str z) sgV && (isTermD d1 && isTermD d2)) := rfl
          rw [e] at q
          refine ⟨_, rfl, _, _, 0, _, rfl, rfl, hS, atI_nat (j := 0) rfl, _, _, rfl, .inr (T.t_SIGNS _), rfl, rfl, _, rfl, ie (fun c1 => ?_) (fun c1 => ?_)⟩
          · have c1' : inV (.str z) sgV = true := c1
            rw [c1', Bool.true_and] at q
            refine ⟨_, rfl, _, _, 1, _, rfl, rfl, hS, atI_nat (j := 1) rfl, v1, .d d1, rfl, h1, _, rfl, ie (fun c2 => ?_) (fun c2 => ?_)⟩
            · have c2' : isTermD d1 = true := c2
              rw [c2', Bool.true_and] at q
              exact ⟨_, rfl, _, _, 2, _, rfl, rfl, hS, atI_nat (j := 2) rfl, v2, .d d2, rfl, h2, q⟩
            · have c2' : isTermD d1 = false := c2
              rw [c2', Bool.false_and] at q
              exact q
          · have c1' : inV (.str z) sgV = false := c1
            rw [c1', Bool.false_and] at q
            exact q
        · have e2 : isTy .str d0 = false := by
            cases d0 <;> first | rfl | exact absurd ⟨_, rfl⟩ w0
          rw [e2]
          have e : isAtomT (.d (.tuple [d0, d1, d2])) = false := by
            cases d0 <;> first | rfl | exact absurd ⟨_, rfl⟩ w0
          rw [e] at q
          exact q
      · have e2 : decide (V.int (xs.length : Int) = V.int 3) = false := decide_eq_false fun z => hl (by injection z; omega)
        rw [e2]
        have hdl : ds.length ≠ 3 := by
          rw [← DpAll.length hA]
          exact hl
        have e : isAtomT (.d (.tuple ds)) = false := by
          match ds, hdl with
          | [], _ => rfl
          | [_], _ => simp [isAtomT, isAtomD]
          | [_, _], _ => simp [isAtomT, isAtomD]
          | [_, _, _], h => exact absurd rfl h
          | _ :: _ :: _ :: _ :: _, _ => simp [isAtomT, isAtomD]
        rw [e] at q
        exact q
    · have e1 : th.is .tup = false := by
        cases th with
        | o => rfl
        | d d => cases d <;> first | rfl | exact absurd ⟨_, rfl⟩ hn
      rw [e1]
      have e : isAtomT th = false := by
        cases th with
        | o => rfl
        | d d => cases d <;> first | rfl | exact absurd ⟨_, rfl⟩ hn
      rw [e] at q
      exact q
/-! is_word -/
def ltL : List Nat := (List.range 26).map (· + 97)
def wordS (z : Str) : Bool := (decide (1 ≤ (tl z).length) && decide ((tl z).length ≤ 8)) && (tl z).all fun c => decide (c ∈ ltL)
def isWordD : PyData → Bool
  | .str z => wordS z
  | _ => false
theorem tl_letters : tl ("abcdefghijklmnopqrstuvwxyz" : Str) = ltL := by decide +kernel
theorem mem_letters (c : Nat) : decide (c ∈ tl ("abcdefghijklmnopqrstuvwxyz" : Str)) = decide (c ∈ ltL) := by rw [tl_letters]
def spWord (K : PySem.W.Frag) : Sp := fun vs H Q _ => ∃ v d, vs = [v] ∧ Dp K H v d ∧ (∀ z, d = .str z → z.length ≤ 100000) ∧ Q (.bl (isWordD d)) H
theorem d_is_word (T : Txt K mg) : Dn P w K mg base CX0 1 "is_word" (spWord K) := by
  obtain ⟨fd, F⟩ := T.f_is_word
  refine dnN T.g_is_word F (fun _ _ _ _ _ _ us hl => match us, hl with | [_], _ => rfl) sc_is_word (fun vs H Q E h => ?_) (fun cdv A outer s H vs Q E hr h => ?_)
  · obtain ⟨v, d, rfl, _⟩ := h
    rfl
  · obtain ⟨v, d, rfl, hd, hlz, q⟩ := h
    refine ⟨_, PSs.nox (pss_cons (ps_if (PW.pt (pw_or (pt_not (pt_val (pe_callB call_isi (by rfl) T.z_isinstance (by decide +kernel) (pa_cons (pv 0) (pa_cons (pe_bltn (v := .ty "str") (by rfl) T.z_str (by decide +kernel) rfl) pa_nil))))) (pw_or1 (pt_not (pt_chain op_le op_le pe_int (pe_callB call_len_str (by rfl) T.z_len (by decide +kernel) (pa_cons (pv 0) pa_nil)) pe_int))))) (pss_one (ps_ret pe_bl)) pss_nil)
      (pss_cons (ps_for PassesOwn.never rfl (pi_str (pv 0)) (pg_name (i := 1) sc_is_word.nd rfl (.inl rfl))
      (pss_one (ps_if (pt_cmpR op_notIn_sign (pv 1) (pe_gv T.g_LETTERS) (by rfl)) (pss_one (ps_ret pe_bl)) pss_nil)))
      (pss_one (ps_ret pe_bl)))), ?_⟩
    refine ⟨_, rfl, _, _, _, _, _, rfl, .ty _, Dp.ty hd, kit_d K .str d, _, rfl, ?_⟩
    by_cases w0 : ∃ z, d = .str z
    · obtain ⟨z, rfl⟩ := w0
      cases hd
      refine iteF ?_
      have hz' : z.length ≤ sizeLine := small40 (hlz z rfl)
      have hlt := len_tl z
      have qf : isWordD (.str z) = false → Q (.bl false) H := fun e => by rw [e] at q; exact q
      refine ⟨_, rfl, _, rfl, hz', _, _, rfl, rfl, _, rfl, ?_⟩
      cases c1 : decide ((1 : Int) ≤ (z.length : Nat)) with
      | false =>
        have := of_decide_eq_false c1
        refine iteF ⟨_, rfl, iteT ?_⟩
        refine qf ?_
        show ((decide (1 ≤ (tl z).length) && decide ((tl z).length ≤ 8)) && _) = false
        rw [decide_eq_false (by omega)]
        rfl
      | true =>
        have := of_decide_eq_true c1
        refine iteT ⟨_, _, rfl, rfl, _, rfl, ?_⟩
        cases c2 : decide (((z.length : Nat) : Int) ≤ 8) with
        | false =>
          have := of_decide_eq_false c2
          refine iteT ?_
          refine qf ?_
          show ((decide (1 ≤ (tl z).length) && decide ((tl z).length ≤ 8)) && _) = false
          rw [decide_eq_false (show ¬ (tl z).length ≤ 8 by omega), Bool.and_false]
          rfl
        | true =>
          have := of_decide_eq_true c2
          refine iteF ?_
          have eW : isWordD (.str z) = (tl z).all fun c => decide (c ∈ ltL) := by
            show ((decide (1 ≤ (tl z).length) && decide ((tl z).length ≤ 8)) && _) = _
            rw [decide_eq_true (by omega), decide_eq_true (by omega)]
            rfl
          refine ⟨_, rfl, _, rfl, for_it walk_str (fun i σ H' => ∃ v, σ = [some (.str z), v] ∧ H' = H ∧ ((tl z).take i).all (fun c => decide (c ∈ ltL)) = true) ⟨none, rfl, rfl, rfl⟩ (fun _ _ _ _ _ => trivial) ?_ ?_⟩
          · rintro i x σ H1 H2 hi ⟨v, rfl, rfl, ha⟩ ⟨rfl, c, hc, rfl⟩
            have hc' : (tl z)[i]? = some c := by rw [← hc]; simp
            obtain ⟨u, hu1, hu2⟩ := T.g_LETTERS
            refine ⟨_, rfl, _, _, rfl, rfl, _, rfl, ?_⟩
            rw [mem_letters]
            cases hd : decide (c ∈ ltL) with
            | true =>
              refine iteF ⟨_, rfl, rfl, ?_⟩
              rw [List.take_add_one, hc', List.all_append, ha]
              simp [of_decide_eq_true hd]
            | false =>
              refine iteT ?_
              refine qf ?_
              rw [eW, Bool.eq_false_iff]
              intro h
              have := List.all_eq_true.mp h c (List.mem_of_getElem? hc')
              rw [hd] at this
              cases this
          · rintro σ H1 ⟨v, rfl, rfl, ha⟩
            have ha' : (tl z).all (fun c => decide (c ∈ ltL)) = true := by
              have e : z.cps.size = (tl z).length := by simp
              rw [e, List.take_length] at ha
              exact ha
            rw [eW, ha'] at q
            exact q
    · have e2 : isTy .str d = false := by
        cases d <;> first | rfl | exact absurd ⟨_, rfl⟩ w0
      rw [e2]
      refine iteT ?_
      have e : isWordD d = false := by
        cases d <;> first | rfl | exact absurd ⟨_, rfl⟩ w0
      rw [e] at q
      exact q
/-! less -/
def spLess (K : PySem.W.Frag) : Sp := fun vs H Q _ => ∃ (p q : Addr) (a b c d : Int), vs = [.ref p, .ref q] ∧ SqT K H p [.int a, .int b] ∧ SqT K H q [.int c, .int d] ∧ CMulW a d ∧ CMulW c b ∧ Q (.bl (decide (a * d < c * b))) H
theorem d_less (T : Txt K mg) : Dn P w K mg base CX0 1 "less" (spLess K) := by
  obtain ⟨fd, F⟩ := T.f_less
  refine dnN T.g_less F (fun _ _ _ _ _ _ us hl => match us, hl with | [_, _], _ => rfl) sc_less (fun vs H Q E h => ?_) (fun cdv A outer s H vs Q E hr h => ?_)
  · obtain ⟨p, q, a, b, c, d, rfl, _⟩ := h
    rfl
  · obtain ⟨p, q, a, b, c, d, rfl, h1, h2, m1, m2, hq⟩ := h
    refine ⟨_, PSs.nox (pss_one (ps_ret (pe_cmpR op_lt (pe_op op_mulW (pe_ix ix_tup (pv 0) pe_int (fun _ _ => rfl)) (pe_ix ix_tup (pv 1) pe_int (fun _ _ => rfl))) (pe_op op_mulW (pe_ix ix_tup (pv 1) pe_int (fun _ _ => rfl)) (pe_ix ix_tup (pv 0) pe_int (fun _ _ => rfl))) (nomark _)))), ?_⟩
    exact ⟨_, rfl, _, _, 0, _, rfl, rfl, h1, atI_nat (j := 0) rfl, _, rfl, _, _, 1, _, rfl, rfl, h2, atI_nat (j := 1) rfl, _, _, rfl, rfl, m1,
      _, rfl, _, _, 0, _, rfl, rfl, h2, atI_nat (j := 0) rfl, _, rfl, _, _, 1, _, rfl, rfl, h1, atI_nat (j := 1) rfl, _, _, rfl, rfl, m2, _, _, rfl, rfl, hq⟩

end
/-! terms, atoms and rows, as the law and the program have them -/
inductive Pl where
  | old | first | second
  deriving DecidableEq
def Pl.s : Pl → Str
  | .old => "old"
  | .first => "first"
  | .second => "second"
inductive Tm where
  | cell (p : Pl) (c : Nat)
  | val (a b : Int)
  deriving DecidableEq
inductive Sg where
  | lt | le | eq | ne
  deriving DecidableEq
def Sg.s : Sg → Str
  | .lt => "<"
  | .le => "<="
  | .eq => "="
  | .ne => "!="
structure At where
  s : Sg
  l : Tm
  r : Tm
  deriving DecidableEq
def valD (x : Int × Int) : PyData := .tuple [.int x.1, .int x.2]
def Tm.d : Tm → PyData
  | .cell p c => .tuple [.str p.s, .int (c : Nat)]
  | .val a b => .tuple [.str "value", valD (a, b)]
def At.d (a : At) : PyData := .tuple [.str a.s.s, a.l.d, a.r.d]
abbrev Row := Option (List (Int × Int))
def rowD : Row → PyData
  | none => .none
  | some l => .tuple (l.map valD)
/-- a value: lowest terms, not too great -/
structure Vl (x : Int × Int) : Prop where
  low : Low x.1 x.2
  top : x.1.natAbs < 2 ^ 200
  bot : x.2.natAbs < 2 ^ 200
def Tm.ok : Tm → Prop
  | .cell _ c => c < 3
  | .val a b => Vl (a, b)
def At.ok (a : At) : Prop := a.l.ok ∧ a.r.ok
def rowOk (r : Row) : Prop := ∀ l, r = some l → (l.length ≤ 3 ∧ ∀ x ∈ l, Vl x)
def Tm.at (r : Pl → Row) : Tm → Option (Int × Int)
  | .val a b => some (a, b)
  | .cell p c => (r p).bind fun l => l[c]?
def Sg.holds : Sg → Int × Int → Int × Int → Bool
  | .lt, x, y => decide (x.1 * y.2 < y.1 * x.2)
  | .le, x, y => !decide (y.1 * x.2 < x.1 * y.2)
  | .eq, x, y => decide (x = y)
  | .ne, x, y => !decide (x = y)
def At.at (r : Pl → Row) (a : At) : Option Bool := match a.l.at r, a.r.at r with
  | some x, some y => some (a.s.holds x y)
  | _, _ => none
def holdO (r : Pl → Row) (as : List At) : Option Bool := if (as.any fun a => (a.at r).isNone) = true then none else some (as.all fun a => decide (a.at r = some true))
theorem Pl.ne_value (p : Pl) : decide (V.str p.s = V.str "value") = false := by cases p <;> decide +kernel
theorem Pl.inj {p q : Pl} : (p.s == q.s) = decide (p = q) := by cases p <;> cases q <;> decide +kernel
theorem Sg.inj {p q : Sg} : (p.s == q.s) = decide (p = q) := by cases p <;> cases q <;> decide +kernel
theorem isVal_of {x : Int × Int} (h : Low x.1 x.2) : isValD (valD x) = true := by
  show (!decide (x.2 < 1) && decide (cd x.1 x.2 = 1)) = true
  rw [decide_eq_false (by have := h.1; omega), decide_eq_true h.2]
  rfl
theorem Tm.isTerm {t : Tm} (h : t.ok) : isTermD t.d = true := by
  cases t with
  | cell p c =>
    show termD p.s (.int (c : Nat)) = true
    unfold termD
    rw [Pl.ne_value, if_neg Bool.false_ne_true]
    have h' : c < 3 := h
    have e1 : inV (.str p.s) plV = true := by cases p <;> decide +kernel
    rw [e1]
    show (decide ((0 : Int) ≤ (c : Nat)) && decide (((c : Nat) : Int) < 3)) = true
    rw [decide_eq_true (by omega), decide_eq_true (by omega)]
    rfl
  | val a b =>
    show termD "value" (valD (a, b)) = true
    unfold termD
    rw [if_pos (by decide +kernel)]
    exact isVal_of (x := (a, b)) h.low
theorem At.isAtom {a : At} (h : a.ok) : isAtomD a.d = true := by
  show (inV (.str a.s.s) sgV && (isTermD a.l.d && isTermD a.r.d)) = true
  have e1 : inV (.str a.s.s) sgV = true := by cases a.s <;> decide +kernel
  rw [e1, Tm.isTerm h.1, Tm.isTerm h.2]
  rfl
theorem eqv_int (i j : Int) : PyData.eqv (.int i) (.int j) = decide (i = j) := by
  show (i == j) = _
  by_cases h : i = j
  · subst h; simp
  · rw [decide_eq_false h, beq_eq_false_iff_ne.mpr h]
theorem eqv_valD (x y : Int × Int) : PyData.eqv (valD x) (valD y) = decide (x = y) := by
  show (PyData.eqv (.int x.1) (.int y.1) && (PyData.eqv (.int x.2) (.int y.2) && true)) = _
  rw [eqv_int, eqv_int, Bool.and_true, ← Bool.decide_and]
  exact decide_eq_decide.mpr ⟨fun h => Prod.ext h.1 h.2, fun h => by subst h; exact ⟨rfl, rfl⟩⟩
theorem eqv_tm (x y : Tm) : PyData.eqv x.d y.d = decide (x = y) := by
  cases x with
  | cell p c =>
    cases y with
    | cell q e =>
      show ((p.s == q.s) && (PyData.eqv (.int (c : Nat)) (.int (e : Nat)) && true)) = _
      rw [Pl.inj, eqv_int, Bool.and_true, ← Bool.decide_and]
      refine decide_eq_decide.mpr ⟨fun h => ?_, fun h => by cases h; exact ⟨rfl, rfl⟩⟩
      obtain ⟨rfl, h2⟩ := h
      have : c = e := by omega
      subst this
      rfl
    | val a b =>
      show ((p.s == "value") && (PyData.eqv (.int (c : Nat)) (valD (a, b)) && true)) = _
      rw [show (p.s == ("value" : Str)) = false by cases p <;> decide +kernel, decide_eq_false (by intro h; cases h)]
      rfl
  | val a b =>
    cases y with
    | cell q e =>
      show ((("value" : Str) == q.s) && (PyData.eqv (valD (a, b)) (.int (e : Nat)) && true)) = _
      rw [show (("value" : Str) == q.s) = false by cases q <;> decide +kernel, decide_eq_false (by intro h; cases h)]
      rfl
    | val c d =>
      show ((("value" : Str) == "value") && (PyData.eqv (valD (a, b)) (valD (c, d)) && true)) = _
      rw [eqv_valD, show (("value" : Str) == "value") = true by decide +kernel, Bool.true_and, Bool.and_true]
      exact decide_eq_decide.mpr ⟨fun h => by cases h; rfl, fun h => by cases h; rfl⟩
theorem eqv_at (x y : At) : PyData.eqv x.d y.d = decide (x = y) := by
  show ((x.s.s == y.s.s) && (PyData.eqv x.l.d y.l.d && (PyData.eqv x.r.d y.r.d && true))) = _
  rw [Sg.inj, eqv_tm, eqv_tm, Bool.and_true, ← Bool.decide_and, ← Bool.decide_and]
  refine decide_eq_decide.mpr ⟨fun h => ?_, fun h => by subst h; exact ⟨rfl, rfl, rfl⟩⟩
  obtain ⟨xs, xl, xr⟩ := x
  obtain ⟨ys, yl, yr⟩ := y
  obtain ⟨h1, h2, h3⟩ := h
  dsimp only at h1 h2 h3
  subst h1 h2 h3
  rfl
theorem Pd.valD (x : Int × Int) : Pd (valD x) := ⟨rfl, rfl, by show 1 ≤ 16; decide⟩
theorem Tm.pd (t : Tm) : Pd t.d ∧ t.d.depth ≤ 2 := by
  cases t with
  | cell p c => exact ⟨⟨rfl, (show (PyData.strOk p.s && (true && true)) = true from by cases p <;> decide +kernel), by show 1 ≤ 16; decide⟩, by show 1 ≤ 2; decide⟩
  | val a b => exact ⟨⟨rfl, (show (PyData.strOk "value" && ((true && (true && true)) && true)) = true from by decide +kernel), by show 2 ≤ 16; decide⟩, by show 2 ≤ 2; decide⟩
theorem At.pd (a : At) : Pd a.d := by
  obtain ⟨h1, e1⟩ := Tm.pd a.l
  obtain ⟨h2, e2⟩ := Tm.pd a.r
  refine ⟨?_, ?_, ?_⟩
  · show (true && (noL a.l.d && (noL a.r.d && true))) = true
    rw [h1.nl, h2.nl]; rfl
  · show (PyData.strOk a.s.s && (a.l.d.canLay0 && (a.r.d.canLay0 && true))) = true
    rw [h1.cl, h2.cl, show PyData.strOk a.s.s = true by cases a.s <;> decide +kernel]; rfl
  · show max 0 (max a.l.d.depth (max a.r.d.depth 0)) + 1 ≤ 16
    omega
theorem rowD_pd (r : Row) : Pd (rowD r) := by
  cases r with
  | none => exact ⟨rfl, rfl, by decide⟩
  | some l =>
    have h : Pds (l.map valD) ∧ PyData.depthAll (l.map valD) ≤ 1 := by
      refine ⟨fun d hd => ?_, ?_⟩
      · obtain ⟨x, _, rfl⟩ := List.mem_map.mp hd
        exact Pd.valD x
      · induction l with
        | nil => exact Nat.zero_le _
        | cons x r ih => exact Nat.max_le.mpr ⟨Nat.le_refl 1, ih⟩
    exact ⟨h.1.nl, h.1.cl, by show PyData.depthAll (l.map valD) + 1 ≤ 16; have := h.2; omega⟩

section
variable {P : Program} {w : World} {K : PySem.W.Frag} {mg : Str → Option Value} {base : Heap}
/-! Conditions.__init__ -/
abbrev aCd (K : PySem.W.Frag) : Addr := ga K "Conditions"
def cdF (l : Addr) : List (Str × V) := putF "kept_atoms" (.ref l) []
theorem cdF_at {l : Addr} : (cdF l).lookup ("kept_atoms" : Str) = some (.ref l) := by
  unfold cdF
  rw [lookup_putF, if_pos rfl]
theorem cdF_no {l : Addr} {m : Str} (h : m ≠ "kept_atoms") : (cdF l).lookup m = none := by
  unfold cdF
  rw [lookup_putF, if_neg h]
  rfl
/-- each atom once -/
def ddS (acc : List At) (a : At) : List At := if (acc.any fun z => decide (z = a)) = true then acc else acc ++ [a]
def dd (as : List At) : List At := as.foldl ddS []
theorem dd_snoc (as : List At) (a : At) : dd (as ++ [a]) = ddS (dd as) a := by
  unfold dd
  rw [List.foldl_append]
  rfl
theorem dd_len (as : List At) : (dd as).length ≤ as.length := by
  have h : ∀ (l acc : List At), (l.foldl ddS acc).length ≤ acc.length + l.length := by
    intro l
    induction l with
    | nil => intro acc; exact Nat.le_refl _
    | cons a r ih =>
      intro acc
      have h1 := ih (ddS acc a)
      have h2 : (ddS acc a).length ≤ acc.length + 1 := by
        unfold ddS
        split
        · omega
        · rw [List.length_append]; exact Nat.le_refl _
      show (r.foldl ddS (ddS acc a)).length ≤ acc.length + (r.length + 1)
      omega
  have := h as []
  simpa [dd] using this
theorem dd_mem (as : List At) (a : At) : a ∈ dd as ↔ a ∈ as := by
  have h : ∀ (l acc : List At), a ∈ l.foldl ddS acc ↔ a ∈ acc ∨ a ∈ l := by
    intro l
    induction l with
    | nil => intro acc; simp
    | cons b r ih =>
      intro acc
      show a ∈ r.foldl ddS (ddS acc b) ↔ _
      rw [ih]
      have h2 : a ∈ ddS acc b ↔ a ∈ acc ∨ a = b := by
        unfold ddS
        split
        · rename_i hc
          obtain ⟨z, hz, e⟩ := List.any_eq_true.mp hc
          have e' := of_decide_eq_true e
          subst e'
          exact ⟨.inl, fun h => h.elim id (fun e => by rw [e]; exact hz)⟩
        · simp
      rw [h2, List.mem_cons]
      constructor
      · rintro ((h | h) | h)
        · exact .inl h
        · exact .inr (.inl h)
        · exact .inr (.inr h)
      · rintro (h | h | h)
        · exact .inl (.inl h)
        · exact .inl (.inr h)
        · exact .inr h
  have := h as []
  simpa [dd] using this
theorem any_eqv (as : List At) (a : At) : ((as.map At.d).any fun z => PyData.eqv z a.d) = as.any fun z => decide (z = a) := by
  rw [List.any_map]
  congr 1
  funext z
  exact eqv_at z a
theorem pds_at (as : List At) : Pds (as.map At.d) := fun d hd => by
  obtain ⟨a, _, rfl⟩ := List.mem_map.mp hd
  exact At.pd a
def spCd (K : PySem.W.Frag) : Sp := fun args H Q _ => ∃ x dx a vs as, args = [.ref x, .ref a] ∧ H x = some (.ins (aCd K) dx []) ∧ (SqL K H a vs ∨ SqT K H a vs) ∧ DpAll K H vs (as.map At.d) ∧ (∀ a ∈ as, At.ok a) ∧ as.length ≤ 1000 ∧
  ∀ l us H', Md [x] H H' → H l = none → H' x = some (.ins (aCd K) dx (cdF l)) → H' l = some (.lst us) → DpAll K H' us ((dd as).map At.d) → Q .non H'
theorem ok_cd (T : Txt K mg) : ∃ fd, FunD K "__init__" "Conditions.__init__" (defArgs s_Conditions___init__) (defBody s_Conditions___init__) (defScope s_Conditions___init__) ([.ref (dflAt ("Conditions", some "__init__") 0 K)] : List V) [] (ma K (ga K "Conditions") "__init__") fd ∧
    FnOk P w K mg base (L2.CX P w) 5 (ma K (ga K "Conditions") "__init__") fd ["self", "atoms"] (spCd K) := by
  obtain ⟨fd, F⟩ := T.f_Conditions___init__
  have D_is_atom := d_is_atom (P := P) (w := w) (base := base) T
  refine ⟨fd, F, F.ok sc_Conditions___init__ (fun vs H Q E h => ?_) (fun cdv A outer s H vs Q E hr h => ?_)⟩
  · obtain ⟨x, dx, a, vs, as, rfl, _⟩ := h
    rfl
  · obtain ⟨x, dx, a, vs, as, rfl, hx, ha, hA, hok, hl, hQ⟩ := h
    refine ⟨_, (pss_cons (ps_if (pt_not (pt_val (pe_callB call_isiT (by rfl) T.z_isinstance (by decide +kernel) (pa_cons (pv 1) (pa_cons (pe_tup (pa_cons (pe_bltn (v := .ty "list") (by rfl) T.z_list (by decide +kernel) rfl) (pa_cons (pe_bltn (v := .ty "tuple") (by rfl) T.z_tuple (by decide +kernel) rfl) pa_nil))) pa_nil))))) (pss_one (EL.rs (by rfl) (takes_of rfl rfl rfl rfl) T.x_NoCondition (by rfl))) pss_nil)
      (pss_cons (ps_set (i := 2) sc_Conditions___init__.nd rfl (.inl rfl) (pe_lst pa_nil))
      (pss_cons (ps_for (passes_of rfl) rfl (PI.or_ (pi_list (pv 1)) (pi_tup (pv 1))) (pg_name (i := 3) sc_Conditions___init__.nd rfl (.inl rfl))
      (pss_cons (ps_if (pt_not (pt_val (cl D_is_atom (hr.mono (by decide)) (pa_cons (pv 3) pa_nil)))) (pss_one (EL.rs (by rfl) (takes_of rfl rfl rfl rfl) T.x_NoCondition (by rfl))) pss_nil)
      (pss_one (ps_if (pt_cmpR (op_notInD (u65 hr)) (pv 3) (pv 2) (by rfl)) (pss_one (ps_expr (pe_bm PySem.F.plainAttrs_list PySem.F.slot_list_append PySem.F.type_list_append mt_append (pv 2) (pa_cons (pv 3) pa_nil)))) pss_nil))))
      (pss_one (ps_fld (pv 0) (pv 2) rfl))))), ?_⟩
    refine ⟨_, rfl, (by show 2 ≤ sizeLine; decide), fun tp ntp => ?_⟩
    generalize eH1 : upd H tp _ = H1
    have s1 : Same H H1 := eH1 ▸ same_upd ntp
    have e1 : H1 tp = some _ := eH1 ▸ upd_same
    have lv : vs.length = as.length := by rw [DpAll.length hA, List.length_map]
    have tyA : ∃ t, TyX K H1 (.ref a) t ∧ PySem.W.kitAny K t [.type "list", .type "tuple"] = some true := by
      rcases ha with ha | ha
      · exact ⟨_, SqL.ty (s1.seq ha), kit_any2 K .lst .tup (.list [])⟩
      · exact ⟨_, SqT.ty (Same.seqT s1 ha), kit_any2 K .lst .tup (.tuple [])⟩
    obtain ⟨t, ty, ki⟩ := tyA
    refine ⟨_, tp, _, t, _, true, rfl, e1, .cons (.ty _) (.cons (.ty _) .nil), ty, ki, _, rfl, iteF ?_⟩
    refine ⟨(by show 0 ≤ sizeLine; decide), fun kl nkl => ?_⟩
    generalize eH2 : upd H1 kl _ = H2
    have s2 : Same H1 H2 := eH2 ▸ same_upd nkl
    have e2 : H2 kl = some _ := eH2 ▸ upd_same
    have s12 := s1.trans s2
    have nk0 : H kl = none := s1.free nkl
    have hx2 := s12 _ _ hx
    have nkx : kl ≠ x := fun z => by rw [z, hx] at nk0; cases nk0
    have step : ∀ (i : Nat) (xv : V) (σ : L2.St) (H' : Hp), vs[i]? = some xv → (∃ o, σ = [some (.ref x), some (.ref a), some (.ref kl), o]) → (∃ us, H' kl = some (.lst us) ∧ DpAll K H' us ((dd (as.take i)).map At.d) ∧ Md [kl] H2 H') → ∃ at_, as[i]? = some at_ ∧ Dp K H' xv at_.d := by
      rintro i xv σ H' hg _ ⟨us, _, _, m⟩
      obtain ⟨d, hd, hdp⟩ := DpAll.get hA hg
      rw [List.getElem?_map] at hd
      cases he : as[i]? with
      | none => rw [he] at hd; cases hd
      | some at_ =>
        rw [he] at hd
        have e : at_.d = d := Option.some.inj hd
        subst e
        exact ⟨at_, rfl, m.dp (At.pd at_).nl (Dp.same s12 hdp)⟩
    have fin : ∀ H', (∃ us, H' kl = some (.lst us) ∧ DpAll K H' us ((dd (as.take as.length)).map At.d) ∧ Md [kl] H2 H') → Q .non (upd H' x (.ins (aCd K) dx (putF "kept_atoms" (.ref kl) []))) := by
      rintro H' ⟨us, eu, au, m⟩
      rw [List.take_length] at au
      have hx' := m.out _ _ hx2 (by simp; exact Ne.symm nkx)
      have mx : Md [x] H' (upd H' x (.ins (aCd K) dx (putF "kept_atoms" (.ref kl) []))) := Md.upd hx' rfl (by simp)
      have m0 : Md [x] H H' := Md.mono (S := []) (Md.newM (S := []) (m) (Md.of s12) nk0) (by simp)
      exact hQ kl us _ (m0.trans mx) nk0 upd_same (by rw [upd_ne nkx]; exact eu) (mx.dpAll (pds_at _).nl au)
    have body : ∀ (i : Nat) (xv : V) (σ : L2.St) (H' : Hp) (NX : L2.St → Hp → Prop), vs[i]? = some xv → (∃ o, σ = [some (.ref x), some (.ref a), some (.ref kl), o]) ∧ (∃ us, H' kl = some (.lst us) ∧ DpAll K H' us ((dd (as.take i)).map At.d) ∧ Md [kl] H2 H') →
        (∀ σ' H'', (∃ o, σ' = [some (.ref x), some (.ref a), some (.ref kl), o]) ∧ (∃ us, H'' kl = some (.lst us) ∧ DpAll K H'' us ((dd (as.take (i + 1))).map At.d) ∧ Md [kl] H2 H'') → NX σ' H'') →
        (∃ at_ us, Dp K H' xv (At.d at_) ∧ At.ok at_ ∧ H' kl = some (.lst us) ∧ us.length < sizeLine ∧ DpAll K H' us ((dd (as.take i)).map At.d) ∧ ((((dd (as.take i)).map At.d).any fun z => PyData.eqv z at_.d) = true → NX [some (.ref x), some (.ref a), some (.ref kl), some xv] H') ∧
          ((((dd (as.take i)).map At.d).any fun z => PyData.eqv z at_.d) = false → NX [some (.ref x), some (.ref a), some (.ref kl), some xv] (upd H' kl (.lst (us ++ [xv]))))) := by
      rintro i xv σ H' NX hg ⟨ho, us, eu, au, m⟩ hN
      obtain ⟨at_, hat, hdp⟩ := step i xv σ H' hg ho ⟨us, eu, au, m⟩
      have tk1 : as.take (i + 1) = as.take i ++ [at_] := by rw [List.take_add_one, hat]; rfl
      have hlu : us.length < sizeLine := by
        rw [DpAll.length au, List.length_map]
        have h1 := dd_len (as.take i)
        rw [List.length_take] at h1
        exact Nat.lt_of_le_of_lt (Nat.le_trans h1 (Nat.le_trans (Nat.min_le_right _ _) hl)) (by decide)
      refine ⟨at_, us, hdp, hok _ (List.mem_of_getElem? hat), eu, hlu, au, fun c => ?_, fun c => ?_⟩
      · refine hN _ _ ⟨⟨_, rfl⟩, us, eu, ?_, m⟩
        rw [any_eqv] at c
        rw [tk1, dd_snoc, ddS, if_pos c]
        exact au
      · have mu : Md [kl] H' (upd H' kl (.lst (us ++ [xv]))) := Md.upd eu rfl (by simp)
        refine hN _ _ ⟨⟨_, rfl⟩, _, upd_same, ?_, m.trans mu⟩
        rw [any_eqv] at c
        rw [tk1, dd_snoc, ddS, if_neg (by rw [c]; exact Bool.false_ne_true), List.map_append]
        exact DpAll.snoc (mu.dp (At.pd at_).nl hdp) (mu.dpAll (pds_at _).nl au)
    have start : (∃ o : Option V, ([some (.ref x), some (.ref a), some (.ref kl), none] : L2.St) = [some (.ref x), some (.ref a), some (.ref kl), o]) ∧ ∃ us, H2 kl = some (.lst us) ∧ DpAll K H2 us ((dd (as.take 0)).map At.d) ∧ Md [kl] H2 H2 := ⟨⟨none, rfl⟩, [], e2, .nil, .refl _ _⟩
    rcases ha with ha | ha
    · refine .inl ⟨_, rfl, a, rfl, ⟨_, s12.seq ha⟩, for_list (K := K) (a := a) (xs := vs) (fun i σ H' => (∃ o, σ = [some (.ref x), some (.ref a), some (.ref kl), o]) ∧ ∃ us, H' kl = some (.lst us) ∧ DpAll K H' us ((dd (as.take i)).map At.d) ∧ Md [kl] H2 H') start (fun i σ H' _ h => ?_) ?_ ?_⟩
      · obtain ⟨_, us, _, _, m⟩ := h
        exact SqL.new ha (Md.newM (S := []) m (Md.of s12) nk0) (by simp)
      · rintro i xv σ H' hg h
        obtain ⟨at_, us, hdp, hao, eu, hlu, au, h1, h2⟩ := body i xv σ H' _ hg h (fun _ _ z => z)
        obtain ⟨⟨o, rfl⟩, _⟩ := h
        refine ⟨_, rfl, xv, .d at_.d, rfl, hdp, _, rfl, ?_⟩
        rw [show isAtomT (.d at_.d) = true from At.isAtom hao]
        refine iteF ?_
        refine ⟨_, rfl, _, rfl, at_.d, _, hdp, .lst (SqL.of eu) au, (At.pd at_).shaped, (pds_at _).shaped, _, rfl, ie (fun c => ?_) (fun c => ?_)⟩
        · have c' : (((dd (as.take i)).map At.d).any fun z => PyData.eqv z at_.d) = false := by
            cases hb : (((dd (as.take i)).map At.d).any fun z => PyData.eqv z at_.d) with
            | false => rfl
            | true => rw [hb] at c; cases c
          exact ⟨_, rfl, .inl ⟨rfl, _, SqL.of eu⟩, _, rfl, kl, _, _, rfl, rfl, eu, hlu, h2 c'⟩
        · have c' : (((dd (as.take i)).map At.d).any fun z => PyData.eqv z at_.d) = true := by
            cases hb : (((dd (as.take i)).map At.d).any fun z => PyData.eqv z at_.d) with
            | true => rfl
            | false => rw [hb] at c; cases c
          exact h1 c'
      · rintro σ H' ⟨⟨o, rfl⟩, h⟩
        have h' : ∃ us, H' kl = some (.lst us) ∧ DpAll K H' us ((dd (as.take as.length)).map At.d) ∧ Md [kl] H2 H' := by rw [← lv]; exact h
        obtain ⟨us, eu, au, m⟩ := id h'
        exact ⟨_, rfl, _, rfl, _, _, _, _, rfl, m.out _ _ hx2 (by simp; exact Ne.symm nkx), T.o_Conditions.cl, T.n_Conditions_kept_atoms, (by show 0 < 1000; decide), fin H' h'⟩
    · refine .inr ⟨_, rfl, a, rfl, ⟨_, Same.seqT s12 ha⟩, for_tup (K := K) (a := a) (xs := vs) (fun i σ H' => (∃ o, σ = [some (.ref x), some (.ref a), some (.ref kl), o]) ∧ ∃ us, H' kl = some (.lst us) ∧ DpAll K H' us ((dd (as.take i)).map At.d) ∧ Md [kl] H2 H') start (fun i σ H' _ h => ?_) ?_ ?_⟩
      · obtain ⟨_, us, _, _, m⟩ := h
        exact m.sqT (Same.seqT s12 ha)
      · rintro i xv σ H' hg h
        obtain ⟨at_, us, hdp, hao, eu, hlu, au, h1, h2⟩ := body i xv σ H' _ hg h (fun _ _ z => z)
        obtain ⟨⟨o, rfl⟩, _⟩ := h
        refine ⟨_, rfl, xv, .d at_.d, rfl, hdp, _, rfl, ?_⟩
        rw [show isAtomT (.d at_.d) = true from At.isAtom hao]
        refine iteF ?_
        refine ⟨_, rfl, _, rfl, at_.d, _, hdp, .lst (SqL.of eu) au, (At.pd at_).shaped, (pds_at _).shaped, _, rfl, ie (fun c => ?_) (fun c => ?_)⟩
        · have c' : (((dd (as.take i)).map At.d).any fun z => PyData.eqv z at_.d) = false := by
            cases hb : (((dd (as.take i)).map At.d).any fun z => PyData.eqv z at_.d) with
            | false => rfl
            | true => rw [hb] at c; cases c
          exact ⟨_, rfl, .inl ⟨rfl, _, SqL.of eu⟩, _, rfl, kl, _, _, rfl, rfl, eu, hlu, h2 c'⟩
        · have c' : (((dd (as.take i)).map At.d).any fun z => PyData.eqv z at_.d) = true := by
            cases hb : (((dd (as.take i)).map At.d).any fun z => PyData.eqv z at_.d) with
            | true => rfl
            | false => rw [hb] at c; cases c
          exact h1 c'
      · rintro σ H' ⟨⟨o, rfl⟩, h⟩
        have h' : ∃ us, H' kl = some (.lst us) ∧ DpAll K H' us ((dd (as.take as.length)).map At.d) ∧ Md [kl] H2 H' := by rw [← lv]; exact h
        obtain ⟨us, eu, au, m⟩ := id h'
        exact ⟨_, rfl, _, rfl, _, _, _, _, rfl, m.out _ _ hx2 (by simp; exact Ne.symm nkx), T.o_Conditions.cl, T.n_Conditions_kept_atoms, (by show 0 < 1000; decide), fin H' h'⟩
/-! Conditions objects -/
structure CdAt (K : PySem.W.Frag) (H : Hp) (x dx l : Addr) (as : List At) : Prop where
  hx : H x = some (.ins (aCd K) dx (cdF l))
  hl : ∃ vs, H l = some (.lst vs) ∧ DpAll K H vs (as.map At.d)
  ok : ∀ a ∈ as, At.ok a
theorem CdAt.md {H H' : Hp} {x dx l : Addr} {as : List At} {S : List Addr} (C : CdAt K H x dx l as) (m : Md S H H') (h1 : x ∉ S) (h2 : l ∉ S) : CdAt K H' x dx l as := by
  obtain ⟨hx, ⟨vs, e, a⟩, ok⟩ := C
  exact ⟨m.out _ _ hx h1, ⟨vs, m.out _ _ e h2, m.dpAll (pds_at as).nl a⟩, ok⟩
theorem CdAt.same {H H' : Hp} {x dx l : Addr} {as : List At} (C : CdAt K H x dx l as) (s : Same H H') : CdAt K H' x dx l as := C.md (S := []) (.of s) (by simp) (by simp)
theorem at_tup {H : Hp} {v : V} {a : At} (h : Dp K H v a.d) : ∃ t v1 v2, v = .ref t ∧ SqT K H t [.str a.s.s, v1, v2] ∧ Dp K H v1 a.l.d ∧ Dp K H v2 a.r.d := by
  cases h with
  | tup hS hA =>
    cases hA with
    | cons h1 hA =>
      cases hA with
      | cons h2 hA =>
        cases hA with
        | cons h3 hA =>
          cases hA
          cases h1
          exact ⟨_, _, _, rfl, hS, h2, h3⟩
theorem getM {α β : Type} {f : α → β} {l : List α} {i : Nat} {d : β} (h : (l.map f)[i]? = some d) : ∃ a, l[i]? = some a ∧ f a = d := by
  rw [List.getElem?_map] at h
  cases e : l[i]? with
  | none => rw [e] at h; cases h
  | some a => rw [e] at h; exact ⟨a, rfl, Option.some.inj h⟩
theorem tk1 {α : Type} {l : List α} {i : Nat} {a : α} (h : l[i]? = some a) : l.take (i + 1) = l.take i ++ [a] := by
  rw [List.take_add_one, h]
  rfl
theorem DpAll.app {H : Hp} : ∀ {ds es : List PyData} {vs us : List V}, DpAll K H vs ds → DpAll K H us es → DpAll K H (vs ++ us) (ds ++ es)
  | _, _, _, _, .nil, h => h
  | _, _, _, _, .cons a b, h => .cons a (DpAll.app b h)
/-! making Conditions -/
theorem mkCd {H : Hp} {a : Addr} {vs : List V} {as : List At} {Q : Addr → Hp → Prop} {E : XK} (ha : SqL K H a vs ∨ SqT K H a vs) (hA : DpAll K H vs (as.map At.d)) (hok : ∀ a ∈ as, At.ok a) (hl : as.length ≤ 1000)
    (hQ : ∀ z dz n H', Same H H' → H z = none → H n = none → z ≠ n → CdAt K H' z dz n (dd as) → Q z H') :
    ∀ x dx, H x = none → H dx = none → dx ≠ x → spCd K [.ref x, .ref a] (upd (upd H dx (.own x)) x (.ins (aCd K) dx [])) (fun v H2 => v = .non ∧ Q x H2) E := by
  intro x dx nx ndx hne
  generalize eH1 : upd (upd H dx _) x _ = H1
  have s1 : Same H H1 := eH1 ▸ (same_upd ndx).trans (same_upd (by rw [upd_ne (Ne.symm hne)]; exact nx))
  have x1 : H1 x = some (.ins (aCd K) dx []) := eH1 ▸ upd_same
  refine ⟨x, dx, a, vs, as, rfl, x1, ha.elim (fun z => .inl (s1.seq z)) (fun z => .inr (Same.seqT s1 z)), DpAll.same s1 hA, hok, hl, fun l us H' m nl hx hu hd => ⟨rfl, ?_⟩⟩
  have sH : Same H H' := fun b o hb => m.out _ _ (s1 _ _ hb) (by simp; exact ne_of_none hb nx)
  have nl0 : H l = none := s1.free nl
  have nxl : x ≠ l := fun z => by rw [← z, x1] at nl; cases nl
  exact hQ x dx l H' sH nx nl0 nxl ⟨hx, ⟨us, hu, hd⟩, fun a ha => hok a ((dd_mem as a).mp ha)⟩
theorem d_cd1 (T : Txt K mg) : FnR P w K mg base (L2.CX P w) 5 (ma K (ga K "Conditions") "__init__") (spCd K) := by
  obtain ⟨fd, F, ok⟩ := ok_cd (P := P) (w := w) (base := base) T
  have := fnD F ok 2 1 (by simp) rfl (fun _ _ _ _ _ _ _ us its h1 h2 => match us, its, h1, h2 with | [_, _], [_], _, _ => ⟨_, rfl, rfl⟩)
  exact this.imp fun vs H Q E h => by
    rw [show ([V.ref (dflAt ("Conditions", some "__init__") 0 K)] : List V).drop 1 = [] from rfl, List.append_nil]
    exact h
theorem d_cd0 (T : Txt K mg) : FnR P w K mg base (L2.CX P w) 5 (ma K (ga K "Conditions") "__init__") (fun vs H Q E => spCd K (vs ++ [.ref (dflAt ("Conditions", some "__init__") 0 K)]) H Q E) := by
  obtain ⟨fd, F, ok⟩ := ok_cd (P := P) (w := w) (base := base) T
  exact fnD F ok 1 0 (by simp) rfl (fun _ _ _ _ _ _ _ us its h1 h2 => match us, its, h1, h2 with | [_], [_], _, _ => ⟨_, rfl, rfl⟩)
/-! & and ~ -/
def spAnd (K : PySem.W.Frag) : Sp := fun vs H Q _ => ∃ x dx l as y dy m bs, vs = [.ref x, .ref y] ∧ CdAt K H x dx l as ∧ CdAt K H y dy m bs ∧ as.length ≤ 400 ∧ bs.length ≤ 400 ∧ ∀ z dz n H', Same H H' → H z = none → H n = none → z ≠ n → CdAt K H' z dz n (dd (as ++ bs)) → Q (.ref z) H'
theorem d_and (T : Txt K mg) : FnR P w K mg base CX0 7 (ma K (ga K "Conditions") "__and__") (spAnd K) := by
  obtain ⟨fd, F⟩ := T.f_Conditions___and__
  have D_cd := d_cd1 (P := P) (w := w) (base := base) T
  refine fnN F (fun _ _ _ _ _ _ us hl => match us, hl with | [_, _], _ => rfl) sc_Conditions___and__ (fun vs H Q E h => ?_) (fun cdv A outer s H vs Q E hr h => ?_)
  · obtain ⟨x, dx, l, as, y, dy, m, bs, rfl, _⟩ := h
    rfl
  · obtain ⟨x, dx, l, as, y, dy, m, bs, rfl, C, D, h1, h2, hQ⟩ := h
    refine ⟨_, PSs.nox (pss_cons (ps_if (pt_not (pt_val (pe_callB call_isi (by rfl) T.z_isinstance (by decide +kernel) (pa_cons (pv 1) (pa_cons (pe_glob (v := .ref (ga K "Conditions")) (by rfl) T.g_Conditions rfl) pa_nil))))) (pss_one ps_never) pss_nil)
      (pss_one (ps_ret (pe_makeE T.m_Conditions D_cd hr T.g_Conditions pxq (pa_cons (pe_op op_cat (pe_fld (pv 0) rfl) (pe_fld (pv 1) rfl)) pa_nil))))), ?_⟩
    obtain ⟨v1, e1, a1⟩ := C.hl
    obtain ⟨v2, e2, a2⟩ := D.hl
    have l1 : v1.length = as.length := by rw [DpAll.length a1, List.length_map]
    have l2 : v2.length = bs.length := by rw [DpAll.length a2, List.length_map]
    refine ⟨_, rfl, _, _, _, _, _, rfl, .own _, T.o_Conditions.ty D.hx, T.o_Conditions.self, _, rfl, iteF ?_⟩
    refine ⟨_, rfl, _, _, _, _, _, rfl, C.hx, T.o_Conditions.cl, T.n_Conditions_kept_atoms, cdF_at, _, rfl, _, _, _, _, _, rfl, D.hx, T.o_Conditions.cl, T.n_Conditions_kept_atoms, cdF_at, l, m, _, _, rfl, rfl, e1, e2, (by rw [l1, l2]; exact Nat.le_trans (Nat.add_le_add h1 h2) (by decide)), fun p np => ?_⟩
    generalize eH1 : upd H p _ = H1
    have s1 : Same H H1 := eH1 ▸ same_upd np
    have e3 : H1 p = some _ := eH1 ▸ upd_same
    refine mkCd (Q := fun z H' => Q (.ref z) H') (as := as ++ bs) (.inl (SqL.of e3)) ?_ ?_ (by rw [List.length_append]; omega) fun z dz n H' sH nz nn hzn CD => ?_
    · rw [List.map_append]
      exact DpAll.app (DpAll.same s1 a1) (DpAll.same s1 a2)
    · exact fun a ha => (List.mem_append.mp ha).elim (C.ok a) (D.ok a)
    · exact hQ z dz n H' (s1.trans sH) (s1.free nz) (s1.free nn) hzn CD

end
end K10
namespace K10
open PySem PySem.Spec PyProof.Rows L2 He TL EL
section
variable {P : Program} {w : World} {K : PySem.W.Frag} {mg : Str → Option Value} {base : Heap}
/-! Conditions.atoms, __eq__, __iand__ -/
def spAtoms (K : PySem.W.Frag) : Sp := fun vs H Q _ => ∃ x dx l as, vs = [.ref x] ∧ CdAt K H x dx l as ∧ ∀ p us H', H p = none → Same H H' → H' p = some (.lst us) → DpAll K H' us (as.map At.d) → Q (.ref p) H'
theorem d_atoms (T : Txt K mg) : FnR P w K mg base CX0 1 (ma K (ga K "Conditions") "atoms") (spAtoms K) := by
  obtain ⟨fd, F⟩ := T.f_Conditions_atoms
  refine fnN F (fun _ _ _ _ _ _ us hl => match us, hl with | [_], _ => rfl) sc_Conditions_atoms (fun vs H Q E h => ?_) (fun cdv A outer s H vs Q E hr h => ?_)
  · obtain ⟨x, dx, l, as, rfl, _⟩ := h
    rfl
  · obtain ⟨x, dx, l, as, rfl, C, hQ⟩ := h
    obtain ⟨v1, e1, a1⟩ := C.hl
    refine ⟨_, PSs.nox (pss_one (ps_ret (pe_callTy call_list_of (by rfl) T.z_list (by decide +kernel) (pa_cons (pe_fld (pv 0) rfl) pa_nil)))), ?_⟩
    refine ⟨_, rfl, _, _, _, _, _, rfl, C.hx, T.o_Conditions.cl, T.n_Conditions_kept_atoms, cdF_at, _, _, rfl, .inl (SqL.of e1), fun p np => ?_⟩
    generalize eH1 : upd H p _ = H1
    have s1 : Same H H1 := eH1 ▸ same_upd np
    have h1 : H1 p = some _ := eH1 ▸ upd_same
    exact hQ p v1 H1 np s1 h1 (DpAll.same s1 a1)
theorem eqv_ats : ∀ as bs : List At, PyData.eqv (.list (as.map At.d)) (.list (bs.map At.d)) = decide (as = bs)
  | [], [] => rfl
  | [], _ :: _ => rfl
  | _ :: _, [] => rfl
  | t :: ts, u :: us => by
    show (PyData.eqv t.d u.d && PyData.eqv (.list (ts.map At.d)) (.list (us.map At.d))) = _
    rw [eqv_at, eqv_ats ts us, ← Bool.decide_and]
    exact decide_eq_decide.mpr ⟨fun h => by rw [h.1, h.2], fun h => by cases h; exact ⟨rfl, rfl⟩⟩
def spCdEq (K : PySem.W.Frag) : Sp := fun vs H Q _ => ∃ x dx l as y dy m bs, vs = [.ref x, .ref y] ∧ CdAt K H x dx l as ∧ CdAt K H y dy m bs ∧ Q (.bl (decide (as = bs))) H
theorem d_cd_eq (T : Txt K mg) : FnR P w K mg base CX0 1 (ma K (ga K "Conditions") "__eq__") (spCdEq K) := by
  obtain ⟨fd, F⟩ := T.f_Conditions___eq__
  refine fnN F (fun _ _ _ _ _ _ us hl => match us, hl with | [_, _], _ => rfl) sc_Conditions___eq__ (fun vs H Q E h => ?_) (fun cdv A outer s H vs Q E hr h => ?_)
  · obtain ⟨x, dx, l, as, y, dy, m, bs, rfl, _⟩ := h
    rfl
  · obtain ⟨x, dx, l, as, y, dy, m, bs, rfl, C, D, q⟩ := h
    obtain ⟨v1, e1, a1⟩ := C.hl
    obtain ⟨v2, e2, a2⟩ := D.hl
    refine ⟨_, PSs.nox (pss_one (ps_ret (pe_and (pe_callB call_isi (by rfl) T.z_isinstance (by decide +kernel) (pa_cons (pv 1) (pa_cons (pe_glob (v := .ref (ga K "Conditions")) (by rfl) T.g_Conditions rfl) pa_nil))) (pe_one (pe_cmpR (op_eqD hr.units) (pe_fld (pv 0) rfl) (pe_fld (pv 1) rfl) (nomark _)))))), ?_⟩
    refine ⟨_, rfl, _, _, _, _, _, rfl, .own _, T.o_Conditions.ty D.hx, T.o_Conditions.self, _, rfl, iteT ?_⟩
    refine ⟨_, rfl, _, _, _, _, _, rfl, C.hx, T.o_Conditions.cl, T.n_Conditions_kept_atoms, cdF_at, _, rfl, _, _, _, _, _, rfl, D.hx, T.o_Conditions.cl, T.n_Conditions_kept_atoms, cdF_at, _, _, .lst (SqL.of e1) a1, .lst (SqL.of e2) a2, (pds_at as).shaped, (pds_at bs).shaped, ?_⟩
    rw [eqv_ats]
    exact q
def spIand (K : PySem.W.Frag) : Sp := fun vs H Q _ => ∃ x dx l as y dy m bs, vs = [.ref x, .ref y] ∧ CdAt K H x dx l as ∧ CdAt K H y dy m bs ∧ as.length ≤ 400 ∧ bs.length ≤ 400 ∧ ∀ n H', Md [x] H H' → H n = none → CdAt K H' x dx n (dd (as ++ bs)) → Q (.ref x) H'
theorem d_iand (T : Txt K mg) : FnR P w K mg base CX0 7 (ma K (ga K "Conditions") "__iand__") (spIand K) := by
  obtain ⟨fd, F⟩ := T.f_Conditions___iand__
  have D_cd := d_cd1 (P := P) (w := w) (base := base) T
  refine fnN F (fun _ _ _ _ _ _ us hl => match us, hl with | [_, _], _ => rfl) sc_Conditions___iand__ (fun vs H Q E h => ?_) (fun cdv A outer s H vs Q E hr h => ?_)
  · obtain ⟨x, dx, l, as, y, dy, m, bs, rfl, _⟩ := h
    rfl
  · obtain ⟨x, dx, l, as, y, dy, m, bs, rfl, C, D, h1, h2, hQ⟩ := h
    refine ⟨_, PSs.nox (pss_cons (ps_if (pt_not (pt_val (pe_callB call_isi (by rfl) T.z_isinstance (by decide +kernel) (pa_cons (pv 1) (pa_cons (pe_glob (v := .ref (ga K "Conditions")) (by rfl) T.g_Conditions rfl) pa_nil))))) (pss_one ps_never) pss_nil)
      (pss_cons (ps_fld (pv 0) (pe_fld (pe_makeE T.m_Conditions D_cd hr T.g_Conditions pxq (pa_cons (pe_op op_cat (pe_fld (pv 0) rfl) (pe_fld (pv 1) rfl)) pa_nil)) rfl) rfl)
      (pss_one (ps_ret (pv 0))))), ?_⟩
    obtain ⟨v1, e1, a1⟩ := C.hl
    obtain ⟨v2, e2, a2⟩ := D.hl
    have l1 : v1.length = as.length := by rw [DpAll.length a1, List.length_map]
    have l2 : v2.length = bs.length := by rw [DpAll.length a2, List.length_map]
    refine ⟨_, rfl, _, _, _, _, _, rfl, .own _, T.o_Conditions.ty D.hx, T.o_Conditions.self, _, rfl, iteF ?_⟩
    refine ⟨_, rfl, _, _, _, _, _, rfl, C.hx, T.o_Conditions.cl, T.n_Conditions_kept_atoms, cdF_at, _, rfl, _, _, _, _, _, rfl, D.hx, T.o_Conditions.cl, T.n_Conditions_kept_atoms, cdF_at, l, m, _, _, rfl, rfl, e1, e2, (by rw [l1, l2]; exact Nat.le_trans (Nat.add_le_add h1 h2) (by decide)), fun p np => ?_⟩
    generalize eH1 : upd H p _ = H1
    have s1 : Same H H1 := eH1 ▸ same_upd np
    have e3 : H1 p = some _ := eH1 ▸ upd_same
    refine mkCd (as := as ++ bs) (.inl (SqL.of e3)) ?_ ?_ (by rw [List.length_append]; omega) fun z dz n H2 s2 nz nn hzn CD => ?_
    · rw [List.map_append]
      exact DpAll.app (DpAll.same s1 a1) (DpAll.same s1 a2)
    · exact fun a ha => (List.mem_append.mp ha).elim (C.ok a) (D.ok a)
    · have s02 := s1.trans s2
      have hx2 := s02 _ _ C.hx
      refine ⟨_, _, _, _, _, rfl, CD.hx, T.o_Conditions.cl, T.n_Conditions_kept_atoms, cdF_at, _, rfl, _, _, _, _, rfl, hx2, T.o_Conditions.cl, T.n_Conditions_kept_atoms, (by show 1 < 1000; decide), _, rfl, ?_⟩
      have mx : Md [x] H2 (upd H2 x (.ins (aCd K) dx (putF "kept_atoms" (.ref n) (cdF l)))) := Md.upd hx2 rfl (by simp)
      obtain ⟨v3, e4, a4⟩ := CD.hl
      have nx : n ≠ x := fun z => by rw [z] at nn; rw [s1 _ _ C.hx] at nn; cases nn
      have ef : putF "kept_atoms" (.ref n) (cdF l) = cdF n := by
        show (if ("kept_atoms" : Str) = "kept_atoms" then [(("kept_atoms" : Str), V.ref n)] else _) = _
        rw [if_pos rfl]
        rfl
      refine hQ n _ ((Md.of s02).trans mx) (s1.free nn) ⟨by rw [upd_same, ef], ⟨v3, by rw [upd_ne nx]; exact e4, mx.dpAll (pds_at _).nl a4⟩, CD.ok⟩

end
end K10
namespace K10
open PySem PySem.Spec PyProof.Rows L2 He TL EL
section
variable {P : Program} {w : World} {K : PySem.W.Frag} {mg : Str → Option Value} {base : Heap}
/-! what stands for a term -/
theorem tm_cell {H : Hp} {v : V} {p : Pl} {c : Nat} (h : Dp K H v (Tm.cell p c).d) : ∃ a, v = .ref a ∧ SqT K H a [.str p.s, .int (c : Nat)] := by
  cases h with
  | tup hS hA =>
    cases hA with
    | cons h1 hA =>
      cases hA with
      | cons h2 hA =>
        cases hA
        cases h1
        cases h2
        exact ⟨_, rfl, hS⟩
theorem tm_val {H : Hp} {v : V} {a b : Int} (h : Dp K H v (Tm.val a b).d) : ∃ q r, v = .ref q ∧ SqT K H q [.str "value", r] ∧ Dp K H r (valD (a, b)) := by
  cases h with
  | tup hS hA =>
    cases hA with
    | cons h1 hA =>
      cases hA with
      | cons h2 hA =>
        cases hA
        cases h1
        exact ⟨_, _, rfl, hS, h2⟩
theorem dp_val {H : Hp} {v : V} {x : Int × Int} (h : Dp K H v (valD x)) : ∃ q, v = .ref q ∧ SqT K H q [.int x.1, .int x.2] := by
  cases h with
  | tup hS hA =>
    cases hA with
    | cons h1 hA =>
      cases hA with
      | cons h2 hA =>
        cases hA
        cases h1
        cases h2
        exact ⟨_, rfl, hS⟩
theorem DpAll.at {H : Hp} : ∀ {ds : List PyData} {vs : List V} {i : Nat} {d : PyData}, DpAll K H vs ds → ds[i]? = some d → ∃ v, vs[i]? = some v ∧ Dp K H v d
  | _, _, 0, _, .cons a b, e => by cases e; exact ⟨_, rfl, a⟩
  | _, _, i + 1, _, .cons a b, e => DpAll.at (i := i) b e
theorem vl_mul {x y : Int × Int} (h1 : Vl x) (h2 : Vl y) : CMulW x.1 y.2 := wide_mul h1.top h2.bot (by decide) (by decide) (by decide)
/-! is_column_count, names_cells, are_row_rules -/
def colOk : PyData → Bool
  | .int i => decide (1 ≤ i) && decide (i ≤ 3)
  | _ => false
def spCol (K : PySem.W.Frag) : Sp := fun vs H Q _ => ∃ v d, vs = [v] ∧ Dp K H v d ∧ Q (.bl (colOk d)) H
theorem d_col (T : Txt K mg) : Dn P w K mg base CX0 2 "is_column_count" (spCol K) := by
  obtain ⟨fd, F⟩ := T.f_is_column_count
  have D_is_whole := d_is_whole (P := P) (w := w) (base := base) T
  refine dnN T.g_is_column_count F (fun _ _ _ _ _ _ us hl => match us, hl with | [_], _ => rfl) sc_is_column_count (fun vs H Q E h => ?_) (fun cdv A outer s H vs Q E hr h => ?_)
  · obtain ⟨v, d, rfl, _⟩ := h
    rfl
  · obtain ⟨v, d, rfl, hd, q⟩ := h
    refine ⟨_, PSs.nox (pss_one (ps_ret (pe_and (cl D_is_whole (hr.mono (by decide)) (pa_cons (pv 0) pa_nil)) (pe_one (pe_chain op_le op_le pe_int (pv 0) (pe_gv T.g_MOST_COLUMNS)))))), ?_⟩
    refine ⟨_, rfl, v, .d d, rfl, hd, _, rfl, ?_⟩
    rw [isWholeT_d]
    by_cases w0 : ∃ i, d = .int i
    · obtain ⟨i, rfl⟩ := w0
      cases hd
      refine iteT ?_
      refine ⟨_, rfl, _, _, rfl, rfl, _, rfl, ?_⟩
      have e : colOk (.int i) = (decide (1 ≤ i) && decide (i ≤ 3)) := rfl
      rw [e] at q
      cases c : decide (1 ≤ i) with
      | true =>
        rw [c, Bool.true_and] at q
        exact iteT ⟨_, _, rfl, rfl, q⟩
      | false =>
        rw [c, Bool.false_and] at q
        exact iteF q
    · have e2 : isWholeD d = false := by
        cases d <;> first | rfl | exact absurd ⟨_, rfl⟩ w0
      rw [e2]
      have e3 : colOk d = false := by
        cases d <;> first | rfl | exact absurd ⟨_, rfl⟩ w0
      rw [e3] at q
      exact iteF q
def Tm.fits (pn : Pl → Nat) : Tm → Bool
  | .cell p c => decide (c < pn p)
  | .val _ _ => true
def At.fits (pn : Pl → Nat) (a : At) : Bool := a.l.fits pn && a.r.fits pn
def PlcAt (H : Hp) (pd : Addr) (pn : Pl → Nat) : Prop := ∃ kvs, H pd = some (.dK kvs) ∧ ∀ p : Pl, (valV kvs (.inr p.s)).getD (.int 0) = .int (pn p : Nat)
theorem PlcAt.same {H H' : Hp} {pd : Addr} {pn : Pl → Nat} (h : PlcAt H pd pn) (s : Same H H') : PlcAt H' pd pn := by
  obtain ⟨kvs, e, k⟩ := h
  exact ⟨kvs, s _ _ e, k⟩
def spNames (K : PySem.W.Frag) : Sp := fun vs H Q _ => ∃ x dx l as pd pn, vs = [.ref x, .ref pd] ∧ CdAt K H x dx l as ∧ PlcAt H pd pn ∧ ∀ H', Same H H' → Q (.bl (as.all (At.fits pn))) H'
theorem d_names (T : Txt K mg) : Dn P w K mg base CX0 2 "names_cells" (spNames K) := by
  obtain ⟨fd, F⟩ := T.f_names_cells
  have D_atoms := d_atoms (P := P) (w := w) (base := base) T
  refine dnN T.g_names_cells F (fun _ _ _ _ _ _ us hl => match us, hl with | [_, _], _ => rfl) sc_names_cells (fun vs H Q E h => ?_) (fun cdv A outer s H vs Q E hr h => ?_)
  · obtain ⟨x, dx, l, as, pd, pn, rfl, _⟩ := h
    rfl
  · obtain ⟨x, dx, l, as, pd, pn, rfl, C, hp, hQ⟩ := h
    refine ⟨_, PSs.nox (pss_cons (ps_for PassesOwn.never rfl (pi_list (pe_methE0 (pv 0) T.o_Conditions.cl T.h_Conditions_atoms D_atoms hr px0)) (pg_tup rfl (pgs_cons (pg_name (i := 2) sc_names_cells.nd rfl (.inl rfl)) (pgs_cons (pg_name (i := 3) sc_names_cells.nd rfl (.inl rfl)) (pgs_cons (pg_name (i := 4) sc_names_cells.nd rfl (.inl rfl)) pgs_nil))))
      (pss_one (ps_for PassesOwn.never rfl (pi_tup (pe_tup (pa_cons (pv 3) (pa_cons (pv 4) pa_nil)))) (pg_name (i := 5) sc_names_cells.nd rfl (.inl rfl))
      (pss_one (ps_if (PW.pt (pw_and (pt_cmpR op_ne (pe_ix ix_tup (pv 5) pe_int (fun _ _ => rfl)) pe_str (nomark _)) (pw_and1 (pt_cmpR op_ge (pe_ix ix_tup (pv 5) pe_int (fun _ _ => rfl)) (pe_dget2 (hu_of hr) (pv 1) (pe_ix ix_tup (pv 5) pe_int (fun _ _ => rfl)) pe_int ⟨by rfl, by rfl, by rfl, by rfl⟩) (nomark _))))) (pss_one (ps_ret pe_bl)) pss_nil)))))
      (pss_one (ps_ret pe_bl))), ?_⟩
    refine ⟨_, rfl, _, _, _, rfl, C.hx, cdF_no (by decide), x, dx, l, as, rfl, C, fun q us H1 nq s1 e1 a1 => ?_⟩
    have lu : us.length = as.length := by rw [DpAll.length a1, List.length_map]
    refine ⟨q, rfl, ⟨_, SqL.of e1⟩, for_list (K := K) (a := q) (xs := us) (fun i σ H' => Same H1 H' ∧ (∃ o2 o3 o4 o5, σ = [some (.ref x), some (.ref pd), o2, o3, o4, o5]) ∧ (as.take i).all (At.fits pn) = true) ⟨.refl _, ⟨none, none, none, none, rfl⟩, rfl⟩ (fun i σ H' _ h => SqL.of (h.1 _ _ e1)) ?_ ?_⟩
    · rintro i xv σ H' hg ⟨s', ⟨o2, o3, o4, o5, rfl⟩, hall⟩
      obtain ⟨d, hd, hdp⟩ := DpAll.get a1 hg
      obtain ⟨a, ha, rfl⟩ := getM hd
      obtain ⟨t, v1, v2, rfl, ht, h1, h2⟩ := at_tup (Dp.same s' hdp)
      refine ⟨t, _, rfl, ht, rfl, _, _, rfl, _, _, rfl, _, _, rfl, rfl, ?_⟩
      refine ⟨_, rfl, _, rfl, (by show 2 ≤ sizeLine; decide), fun tp ntp => ?_⟩
      generalize eH2 : upd H' tp _ = H2
      have s2 : Same H' H2 := eH2 ▸ same_upd ntp
      have e2 : H2 tp = some _ := eH2 ▸ upd_same
      have s12 := s'.trans s2
      have hp2 := hp.same (s1.trans s12)
      have bad : ∀ b : Tm, (b = a.l ∨ b = a.r) → b.fits pn = false → as.all (At.fits pn) = false := fun b hb hf => by
        rw [Bool.eq_false_iff]
        intro z
        have := List.all_eq_true.mp z a (List.mem_of_getElem? ha)
        unfold At.fits at this
        rw [Bool.and_eq_true] at this
        rcases hb with rfl | rfl
        · rw [this.1] at hf; cases hf
        · rw [this.2] at hf; cases hf
      refine ⟨tp, rfl, ⟨_, SqT.of e2⟩, for_tup (K := K) (a := tp) (xs := [v1, v2]) (fun j σ H'' => H2 = H'' ∧ (∃ o5, σ = [some (.ref x), some (.ref pd), some (.str a.s.s), some v1, some v2, o5]) ∧ (1 ≤ j → a.l.fits pn = true) ∧ (2 ≤ j → a.r.fits pn = true)) ⟨rfl, ⟨_, rfl⟩, fun z => absurd z (by decide), fun z => absurd z (by decide)⟩ (fun j σ H'' _ h => by rw [← h.1]; exact SqT.of e2) ?_ ?_⟩
      · rintro j yv σ H'' hgy ⟨rfl, ⟨o5, rfl⟩, g1, g2⟩
        have key : ∃ b : Tm, Dp K H2 yv b.d ∧ (b = a.l ∨ b = a.r) ∧ (b.fits pn = true → (1 ≤ j + 1 → a.l.fits pn = true) ∧ (2 ≤ j + 1 → a.r.fits pn = true)) := by
          match j, hgy with
          | 0, hgy =>
            cases hgy
            exact ⟨a.l, Dp.same s2 h1, .inl rfl, fun z => ⟨fun _ => z, fun z => absurd z (by decide)⟩⟩
          | 1, hgy =>
            cases hgy
            exact ⟨a.r, Dp.same s2 h2, .inr rfl, fun z => ⟨fun _ => g1 (by decide), fun _ => z⟩⟩
        obtain ⟨b, hb, hor, good⟩ := key
        cases b with
        | val x1 x2 =>
          obtain ⟨q1, y1, rfl, hq1, _⟩ := tm_val hb
          refine ⟨_, rfl, _, _, 0, _, rfl, rfl, hq1, atI_nat (j := 0) rfl, rfl, _, rfl, iteF ?_⟩
          obtain ⟨k1, k2⟩ := good rfl
          exact ⟨rfl, ⟨_, rfl⟩, k1, k2⟩
        | cell pl c =>
          obtain ⟨q1, rfl, hq1⟩ := tm_cell hb
          refine ⟨_, rfl, _, _, 0, _, rfl, rfl, hq1, atI_nat (j := 0) rfl, rfl, _, rfl, if_pos_of (by show (!decide (V.str pl.s = V.str "value")) = true; rw [Pl.ne_value]; rfl) ?_⟩
          obtain ⟨kvs, ek, hk⟩ := hp2
          refine ⟨_, rfl, _, _, 1, _, rfl, rfl, hq1, atI_nat (j := 1) rfl, _, rfl, pd, rfl, .inl ⟨kvs, .of ek⟩, _, rfl, _, _, 0, _, rfl, rfl, hq1, atI_nat (j := 0) rfl, _, DGet.k (k := .inr pl.s) ek, ?_⟩
          rw [hk pl]
          refine ⟨_, _, rfl, rfl, _, rfl, ?_⟩
          cases cc : decide (((c : Nat) : Int) ≥ ((pn pl : Nat) : Int)) with
          | true =>
            have := of_decide_eq_true cc
            refine iteT ?_
            have e := hQ H2 (s1.trans s12)
            rw [bad (.cell pl c) hor (decide_eq_false (by omega))] at e
            exact e
          | false =>
            have := of_decide_eq_false cc
            refine iteF ?_
            obtain ⟨k1, k2⟩ := good (decide_eq_true (by omega))
            exact ⟨rfl, ⟨_, rfl⟩, k1, k2⟩
      · rintro σ H'' ⟨rfl, ⟨o5, rfl⟩, g1, g2⟩
        refine ⟨s12, ⟨_, _, _, _, rfl⟩, ?_⟩
        rw [tk1 ha, List.all_append, hall]
        have e : At.fits pn a = true := by
          unfold At.fits
          rw [g1 (by show 1 ≤ 2; decide), g2 (by show 2 ≤ 2; decide)]
          rfl
        simp [e]
    · rintro σ H' ⟨s', ⟨o2, o3, o4, o5, rfl⟩, hall⟩
      rw [lu, List.take_length] at hall
      have e := hQ H' (s1.trans s')
      rw [hall] at e
      exact e
def pn1 (n : Nat) : Pl → Nat
  | .first => n
  | _ => 0
def spRowRules (K : PySem.W.Frag) : Sp := fun vs H Q _ => ∃ x dx l as n, vs = [.ref x, .int (n : Nat)] ∧ CdAt K H x dx l as ∧ ∀ H', Same H H' → Q (.bl (as.all (At.fits (pn1 n)))) H'
theorem d_rowrules (T : Txt K mg) : Dn P w K mg base CX0 3 "are_row_rules" (spRowRules K) := by
  obtain ⟨fd, F⟩ := T.f_are_row_rules
  have D_names_cells := d_names (P := P) (w := w) (base := base) T
  refine dnN T.g_are_row_rules F (fun _ _ _ _ _ _ us hl => match us, hl with | [_, _], _ => rfl) sc_are_row_rules (fun vs H Q E h => ?_) (fun cdv A outer s H vs Q E hr h => ?_)
  · obtain ⟨x, dx, l, as, n, rfl, _⟩ := h
    rfl
  · obtain ⟨x, dx, l, as, n, rfl, C, hQ⟩ := h
    refine ⟨_, PSs.nox (pss_one (ps_ret (pe_and (pe_callB call_isi (by rfl) T.z_isinstance (by decide +kernel) (pa_cons (pv 0) (pa_cons (pe_glob (v := .ref (ga K "Conditions")) (by rfl) T.g_Conditions rfl) pa_nil))) (pe_one (cl D_names_cells (hr.mono (by decide)) (pa_cons (pv 0) (pa_cons (pe_disp (pps_cons pe_str (pv 1) pps_nil) rfl rfl (by simp) (by decide)) pa_nil))))))), ?_⟩
    refine ⟨_, rfl, _, _, _, _, _, rfl, .own _, T.o_Conditions.ty C.hx, T.o_Conditions.self, _, rfl, iteT ?_⟩
    refine ⟨_, rfl, fun pd npd => ?_⟩
    refine ⟨_, rfl, upd_same, [(.inr "first", .int (n : Nat))], rfl, (by show 1 ≤ 15; decide), ?_⟩
    rw [upd_upd, show mergeK [] [((.inr "first" : Key), V.int (n : Nat))] = [((.inr "first" : Key), V.int (n : Nat))] from (putK_new (kvs := ([] : List (Key × V))) (k := (Sum.inr "first" : Key)) (V.int (n : Nat)) rfl)]
    generalize eH1 : upd H pd _ = H1
    have s1 : Same H H1 := eH1 ▸ same_upd npd
    have e1 : H1 pd = some _ := eH1 ▸ upd_same
    refine ⟨x, dx, l, as, pd, pn1 n, rfl, C.same s1, ⟨_, e1, fun p => ?_⟩, fun H' s' => hQ H' (s1.trans s')⟩
    cases p with
    | first =>
      have e : valV [((Sum.inr "first" : Key), V.int (n : Nat))] (.inr (Pl.s .first)) = some (.int (n : Nat)) := valV_pos rfl
      rw [e]
      rfl
    | old =>
      have e : valV [((Sum.inr "first" : Key), V.int (n : Nat))] (.inr (Pl.s .old)) = none := valV_neg (by intro z; exact absurd (Sum.inr.inj z) (by decide +kernel))
      rw [e]
      rfl
    | second =>
      have e : valV [((Sum.inr "first" : Key), V.int (n : Nat))] (.inr (Pl.s .second)) = none := valV_neg (by intro z; exact absurd (Sum.inr.inj z) (by decide +kernel))
      rw [e]
      rfl

end
end K10
namespace K10
open PySem PySem.Spec PyProof.Rows L2 He TL EL
section
variable {P : Program} {w : World} {K : PySem.W.Frag} {mg : Str → Option Value} {base : Heap}
/-! Schema -/
structure Sch where
  nm : Str
  n : Nat
  c : Addr
  dc : Addr
  l : Addr
  as : List At
abbrev aSc (K : PySem.W.Frag) : Addr := ga K "Schema"
def scF (a b : Addr) : List (Str × V) := putF "limits" (.ref b) (putF "widths" (.ref a) [])
theorem scF_widths {a b : Addr} : (scF a b).lookup ("widths" : Str) = some (.ref a) := by
  unfold scF
  rw [lookup_putF, if_neg (by decide +kernel), lookup_putF, if_pos rfl]
theorem scF_limits {a b : Addr} : (scF a b).lookup ("limits" : Str) = some (.ref b) := by
  unfold scF
  rw [lookup_putF, if_pos rfl]
theorem scF_no {a b : Addr} {m : Str} (h1 : m ≠ "widths") (h2 : m ≠ "limits") : (scF a b).lookup m = none := by
  unfold scF
  rw [lookup_putF, if_neg h2, lookup_putF, if_neg h1]
  rfl
def wI (rs : List Sch) : List (Key × Int) := rs.map fun s => (.inr s.nm, (s.n : Int))
def lK (rs : List Sch) : List (Key × V) := rs.map fun s => (.inr s.nm, .ref s.c)
def findS (rs : List Sch) (z : Str) : Option Sch := rs.find? fun s => decide (s.nm = z)
theorem val_w (rs : List Sch) (z : Str) : valV (dI (wI rs)) (.inr z) = (findS rs z).map fun s => V.int (s.n : Nat) := by
  induction rs with
  | nil => rfl
  | cons s r ih =>
    by_cases e : s.nm = z
    · have h1 : valV (dI (wI (s :: r))) (.inr z) = some (.int (s.n : Nat)) := valV_pos (by show (Sum.inr s.nm : Key) = .inr z; rw [e])
      have h2 : findS (s :: r) z = some s := by unfold findS; rw [List.find?_cons]; simp [e]
      rw [h1, h2]
      rfl
    · have h1 : valV (dI (wI (s :: r))) (.inr z) = valV (dI (wI r)) (.inr z) := valV_neg (fun h => e (Sum.inr.inj h))
      have h2 : findS (s :: r) z = findS r z := by unfold findS; rw [List.find?_cons]; simp [e]
      rw [h1, h2, ih]
theorem val_l (rs : List Sch) (z : Str) : valV (lK rs) (.inr z) = (findS rs z).map fun s => V.ref s.c := by
  induction rs with
  | nil => rfl
  | cons s r ih =>
    by_cases e : s.nm = z
    · have h1 : valV (lK (s :: r)) (.inr z) = some (.ref s.c) := valV_pos (by show (Sum.inr s.nm : Key) = .inr z; rw [e])
      have h2 : findS (s :: r) z = some s := by unfold findS; rw [List.find?_cons]; simp [e]
      rw [h1, h2]
      rfl
    · have h1 : valV (lK (s :: r)) (.inr z) = valV (lK r) (.inr z) := valV_neg (fun h => e (Sum.inr.inj h))
      have h2 : findS (s :: r) z = findS r z := by unfold findS; rw [List.find?_cons]; simp [e]
      rw [h1, h2, ih]
theorem findS_mem {rs : List Sch} {z : Str} {s : Sch} (h : findS rs z = some s) : s ∈ rs ∧ s.nm = z := by
  refine ⟨List.mem_of_find?_eq_some h, ?_⟩
  have := List.find?_some h
  exact of_decide_eq_true this
structure ScAt (K : PySem.W.Frag) (H : Hp) (x dx dw dl : Addr) (rs : List Sch) : Prop where
  hx : H x = some (.ins (aSc K) dx (scF dw dl))
  hw : H dw = some (.dK (dI (wI rs)))
  hl : H dl = some (.dK (lK rs))
  hc : ∀ s ∈ rs, CdAt K H s.c s.dc s.l s.as
theorem ScAt.md {H H' : Hp} {x dx dw dl : Addr} {rs : List Sch} {S : List Addr} (C : ScAt K H x dx dw dl rs) (m : Md S H H') (h1 : x ∉ S) (h2 : dw ∉ S) (h3 : dl ∉ S) (h4 : ∀ s ∈ rs, s.c ∉ S ∧ s.l ∉ S) : ScAt K H' x dx dw dl rs :=
  ⟨m.out _ _ C.hx h1, m.out _ _ C.hw h2, m.out _ _ C.hl h3, fun s hs => (C.hc s hs).md m (h4 s hs).1 (h4 s hs).2⟩
theorem ScAt.same {H H' : Hp} {x dx dw dl : Addr} {rs : List Sch} (C : ScAt K H x dx dw dl rs) (s : Same H H') : ScAt K H' x dx dw dl rs := C.md (S := []) (.of s) (by simp) (by simp) (by simp) (fun _ _ => ⟨by simp, by simp⟩)
/-! __init__, twin -/
def DctV (H : Hp) (v : V) (kvs : List (Key × V)) : Prop := (v = .non ∧ kvs = []) ∨ ∃ d, v = .ref d ∧ H d = some (.dK kvs)
def spSc (K : PySem.W.Frag) : Sp := fun vs H Q _ => ∃ x dx v1 v2 ks ls, vs = [.ref x, v1, v2] ∧ H x = some (.ins (aSc K) dx []) ∧ DctV H v1 ks ∧ DctV H v2 ls ∧
  ∀ dw dl H', Md [x] H H' → H dw = none → H dl = none → dw ≠ dl → H' x = some (.ins (aSc K) dx (scF dw dl)) → H' dw = some (.dK ks) → H' dl = some (.dK ls) → Q .non H'
theorem ok_sc (T : Txt K mg) : ∃ fd, FunD K "__init__" "Schema.__init__" (defArgs s_Schema___init__) (defBody s_Schema___init__) (defScope s_Schema___init__) ([.non, .non] : List V) [] (ma K (ga K "Schema") "__init__") fd ∧
    FnOk P w K mg base CX0 1 (ma K (ga K "Schema") "__init__") fd ["self", "widths", "limits"] (spSc K) := by
  obtain ⟨fd, F⟩ := T.f_Schema___init__
  refine ⟨fd, F, F.ok sc_Schema___init__ (fun vs H Q E h => ?_) (fun cdv A outer s H vs Q E hr h => ?_)⟩
  · obtain ⟨x, dx, v1, v2, ks, ls, rfl, _⟩ := h
    rfl
  · obtain ⟨x, dx, v1, v2, ks, ls, rfl, hx, h1, h2, hQ⟩ := h
    refine ⟨_, PSs.nox (pss_cons (ps_fld (pv 0) (pe_ifExp (pt_cmpR op_isN (pv 1) pe_non (nomark _)) pe_dnewK (pe_callTy call_dictD (by rfl) T.z_dict (by decide +kernel) (pa_cons (pv 1) pa_nil))) rfl)
      (pss_one (ps_fld (pv 0) (pe_ifExp (pt_cmpR op_isN (pv 2) pe_non (nomark _)) pe_dnewK (pe_callTy call_dictD (by rfl) T.z_dict (by decide +kernel) (pa_cons (pv 2) pa_nil))) rfl))), ?_⟩
    -- the second dict
    have two : ∀ (dw : Addr) (H2 : Hp), Md [x] H H2 → H dw = none → H2 dw = some (.dK ks) → H2 x = some (.ins (aSc K) dx (putF "widths" (.ref dw) [])) → ∀ (dl : Addr) (H3 : Hp), H2 dl = none → Same H2 H3 → H3 dl = some (.dK ls) → Q .non (upd H3 x (.ins (aSc K) dx (putF "limits" (.ref dl) (putF "widths" (.ref dw) [])))) := fun dw H2 m2 nw e2 x2 dl H3 nl s3 e3 => by
      have nl0 : H dl = none := by
        cases hh : H dl with
        | none => rfl
        | some o =>
          by_cases z : dl = x
          · rw [z, x2] at nl; cases nl
          · rw [m2.out _ _ hh (by simp [z])] at nl; cases nl
      have nwx : dw ≠ x := fun z => by rw [z, hx] at nw; cases nw
      have nlx : dl ≠ x := fun z => by rw [z, hx] at nl0; cases nl0
      have nwl : dw ≠ dl := fun z => by rw [← z, e2] at nl; cases nl
      have mx : Md [x] H3 (upd H3 x (.ins (aSc K) dx (putF "limits" (.ref dl) (putF "widths" (.ref dw) [])))) := Md.upd (s3 _ _ x2) rfl (by simp)
      exact hQ dw dl _ (m2.trans ((Md.of s3).trans mx)) nw nl0 nwl upd_same (by rw [upd_ne nwx]; exact s3 _ _ e2) (by rw [upd_ne nlx]; exact e3)
    have h2' : ∀ {H2 : Hp}, Md [x] H H2 → DctV H2 v2 ls := fun {H2} m2 => by
      rcases h2 with ⟨rfl, rfl⟩ | ⟨d, rfl, hd⟩
      · exact .inl ⟨rfl, rfl⟩
      · exact .inr ⟨d, rfl, m2.out _ _ hd (by simp; exact ne_of hd hx (by intro z; cases z))⟩
    have fin : ∀ (dw : Addr) (H1 : Hp), H dw = none → Same H H1 → H1 dw = some (.dK ks) → ∃ m2 : Md [x] H (upd H1 x (.ins (aSc K) dx (putF "widths" (.ref dw) []))), upd H1 x (.ins (aSc K) dx (putF "widths" (.ref dw) [])) dw = some (.dK ks) := fun dw H1 nw s1 e1 => by
      have nwx : dw ≠ x := fun z => by rw [z, hx] at nw; cases nw
      exact ⟨(Md.of s1).trans (Md.upd (s1 _ _ hx) rfl (by simp)), by rw [upd_ne nwx]; exact e1⟩
    have rest : ∀ (dw : Addr) (H2 : Hp), Md [x] H H2 → H dw = none → H2 dw = some (.dK ks) → H2 x = some (.ins (aSc K) dx (putF "widths" (.ref dw) [])) → ((v2 = .non ∧ ls = []) ∨ ∃ d, v2 = .ref d ∧ H2 d = some (.dK ls)) := fun dw H2 m2 _ _ _ => h2' m2
    rcases h1 with ⟨rfl, rfl⟩ | ⟨d1, rfl, hd1⟩
    · refine ⟨_, rfl, rfl, _, rfl, iteT ?_⟩
      intro dw nw
      generalize eH1 : upd H dw _ = H1
      have s1 : Same H H1 := eH1 ▸ same_upd nw
      have e1 : H1 dw = some _ := eH1 ▸ upd_same
      refine ⟨_, rfl, _, _, _, _, rfl, s1 _ _ hx, T.o_Schema.cl, T.n_Schema_widths, (by decide), ?_⟩
      obtain ⟨m2, e2⟩ := fin dw H1 nw s1 e1
      have x2 : upd H1 x (.ins (aSc K) dx (putF "widths" (.ref dw) [])) x = some (.ins (aSc K) dx (putF "widths" (.ref dw) [])) := upd_same
      generalize upd H1 x _ = H2 at m2 e2 x2 ⊢
      rcases rest dw H2 m2 nw e2 x2 with ⟨rfl, rfl⟩ | ⟨d2, rfl, hd2⟩
      · refine ⟨_, rfl, rfl, _, rfl, iteT ?_⟩
        intro dl nl
        have s3 : Same H2 (upd H2 dl (.dK [])) := same_upd nl
        refine ⟨_, rfl, _, _, _, _, rfl, s3 _ _ x2, T.o_Schema.cl, T.n_Schema_limits, (by show 1 < 1000; decide), ?_⟩
        exact two dw H2 m2 nw e2 x2 dl _ nl s3 upd_same
      · refine ⟨_, rfl, rfl, _, rfl, iteF ?_⟩
        refine ⟨_, rfl, _, _, rfl, .of hd2, fun dl nl => ?_⟩
        have s3 : Same H2 (upd H2 dl (.dK ls)) := same_upd nl
        refine ⟨_, rfl, _, _, _, _, rfl, s3 _ _ x2, T.o_Schema.cl, T.n_Schema_limits, (by show 1 < 1000; decide), ?_⟩
        exact two dw H2 m2 nw e2 x2 dl _ nl s3 upd_same
    · refine ⟨_, rfl, rfl, _, rfl, iteF ?_⟩
      refine ⟨_, rfl, _, _, rfl, .of hd1, fun dw nw => ?_⟩
      generalize eH1 : upd H dw _ = H1
      have s1 : Same H H1 := eH1 ▸ same_upd nw
      have e1 : H1 dw = some _ := eH1 ▸ upd_same
      refine ⟨_, rfl, _, _, _, _, rfl, s1 _ _ hx, T.o_Schema.cl, T.n_Schema_widths, (by decide), ?_⟩
      obtain ⟨m2, e2⟩ := fin dw H1 nw s1 e1
      have x2 : upd H1 x (.ins (aSc K) dx (putF "widths" (.ref dw) [])) x = some (.ins (aSc K) dx (putF "widths" (.ref dw) [])) := upd_same
      generalize upd H1 x _ = H2 at m2 e2 x2 ⊢
      rcases rest dw H2 m2 nw e2 x2 with ⟨rfl, rfl⟩ | ⟨d2, rfl, hd2⟩
      · refine ⟨_, rfl, rfl, _, rfl, iteT ?_⟩
        intro dl nl
        have s3 : Same H2 (upd H2 dl (.dK [])) := same_upd nl
        refine ⟨_, rfl, _, _, _, _, rfl, s3 _ _ x2, T.o_Schema.cl, T.n_Schema_limits, (by show 1 < 1000; decide), ?_⟩
        exact two dw H2 m2 nw e2 x2 dl _ nl s3 upd_same
      · refine ⟨_, rfl, rfl, _, rfl, iteF ?_⟩
        refine ⟨_, rfl, _, _, rfl, .of hd2, fun dl nl => ?_⟩
        have s3 : Same H2 (upd H2 dl (.dK ls)) := same_upd nl
        refine ⟨_, rfl, _, _, _, _, rfl, s3 _ _ x2, T.o_Schema.cl, T.n_Schema_limits, (by show 1 < 1000; decide), ?_⟩
        exact two dw H2 m2 nw e2 x2 dl _ nl s3 upd_same
theorem d_sc2 (T : Txt K mg) : FnR P w K mg base CX0 1 (ma K (ga K "Schema") "__init__") (spSc K) := by
  obtain ⟨fd, F, ok⟩ := ok_sc (P := P) (w := w) (base := base) T
  have := fnD F ok 3 2 (by simp) rfl (fun _ _ _ _ _ _ _ us its h1 h2 => match us, its, h1, h2 with | [_, _, _], [_, _], _, _ => ⟨_, rfl, rfl⟩)
  exact this.imp fun vs H Q E h => by
    rw [show ([.non, .non] : List V).drop 2 = [] from rfl, List.append_nil]
    exact h
theorem d_sc0 (T : Txt K mg) : FnR P w K mg base CX0 1 (ma K (ga K "Schema") "__init__") (fun vs H Q E => spSc K (vs ++ [.non, .non]) H Q E) := by
  obtain ⟨fd, F, ok⟩ := ok_sc (P := P) (w := w) (base := base) T
  exact fnD F ok 1 0 (by simp) rfl (fun _ _ _ _ _ _ _ us its h1 h2 => match us, its, h1, h2 with | [_], [_, _], _, _ => ⟨_, rfl, rfl⟩)
theorem mkSc {H : Hp} {v1 v2 : V} {ks ls : List (Key × V)} {Q : Addr → Hp → Prop} {E : XK} (h1 : DctV H v1 ks) (h2 : DctV H v2 ls)
    (hQ : ∀ x dx dw dl H', Same H H' → H x = none → H dw = none → H dl = none → dw ≠ dl → H' x = some (.ins (aSc K) dx (scF dw dl)) → H' dw = some (.dK ks) → H' dl = some (.dK ls) → Q x H') :
    ∀ x dx, H x = none → H dx = none → dx ≠ x → spSc K [.ref x, v1, v2] (upd (upd H dx (.own x)) x (.ins (aSc K) dx [])) (fun v H2 => v = .non ∧ Q x H2) E := by
  intro x dx nx ndx hne
  generalize eH1 : upd (upd H dx _) x _ = H1
  have s1 : Same H H1 := eH1 ▸ (same_upd ndx).trans (same_upd (by rw [upd_ne (Ne.symm hne)]; exact nx))
  have x1 : H1 x = some (.ins (aSc K) dx []) := eH1 ▸ upd_same
  have up : ∀ {v : V} {k : List (Key × V)}, DctV H v k → DctV H1 v k := fun h => h.elim .inl (fun ⟨d, e, k⟩ => .inr ⟨d, e, s1 _ _ k⟩)
  refine ⟨x, dx, v1, v2, ks, ls, rfl, x1, up h1, up h2, fun dw dl H' m nw nl hn hx hw hl => ⟨rfl, ?_⟩⟩
  have sH : Same H H' := fun b o hb => m.out _ _ (s1 _ _ hb) (by simp; exact ne_of_none hb nx)
  exact hQ x dx dw dl H' sH nx (s1.free nw) (s1.free nl) hn hx hw hl
def spScTwin (K : PySem.W.Frag) : Sp := fun vs H Q _ => ∃ x dx dw dl rs, vs = [.ref x] ∧ ScAt K H x dx dw dl rs ∧ ∀ x' dx' dw' dl' H', Same H H' → H x' = none → H dw' = none → H dl' = none → dw' ≠ dl' → ScAt K H' x' dx' dw' dl' rs → Q (.ref x') H'
theorem d_sc_twin (T : Txt K mg) : FnR P w K mg base CX0 3 (ma K (ga K "Schema") "twin") (spScTwin K) := by
  obtain ⟨fd, F⟩ := T.f_Schema_twin
  have D_sc := d_sc2 (P := P) (w := w) (base := base) T
  refine fnN F (fun _ _ _ _ _ _ us hl => match us, hl with | [_], _ => rfl) sc_Schema_twin (fun vs H Q E h => ?_) (fun cdv A outer s H vs Q E hr h => ?_)
  · obtain ⟨x, dx, dw, dl, rs, rfl, _⟩ := h
    rfl
  · obtain ⟨x, dx, dw, dl, rs, rfl, C, hQ⟩ := h
    refine ⟨_, PSs.nox (pss_one (ps_ret (pe_makeE T.m_Schema D_sc hr T.g_Schema px0 (pa_cons (pe_fld (pv 0) rfl) (pa_cons (pe_fld (pv 0) rfl) pa_nil))))), ?_⟩
    refine ⟨_, rfl, _, _, _, _, _, rfl, C.hx, T.o_Schema.cl, T.n_Schema_widths, scF_widths, _, rfl, _, _, _, _, _, rfl, C.hx, T.o_Schema.cl, T.n_Schema_limits, scF_limits, ?_⟩
    refine mkSc (Q := fun z H' => Q (.ref z) H') (.inr ⟨dw, rfl, C.hw⟩) (.inr ⟨dl, rfl, C.hl⟩) fun x' dx' dw' dl' H' s' n1 n2 n3 hn hx hw hl => ?_
    exact hQ x' dx' dw' dl' H' s' n1 n2 n3 hn ⟨hx, hw, hl, fun s hs => (C.hc s hs).same s'⟩

end
end K10
namespace K10
open PySem PySem.Spec PyProof.Rows L2 He TL EL
section
variable {P : Program} {w : World} {K : PySem.W.Frag} {mg : Str → Option Value} {base : Heap}
/-! Schema's methods -/
abbrev xName (v : V) : HO := .xd [("name", v)]
def spScLen (K : PySem.W.Frag) : Sp := fun vs H Q _ => ∃ x dx dw dl rs, vs = [.ref x] ∧ ScAt K H x dx dw dl rs ∧ Q (.int (rs.length : Nat)) H
theorem d_sc_len (T : Txt K mg) : FnR P w K mg base CX0 1 (ma K (ga K "Schema") "__len__") (spScLen K) := by
  obtain ⟨fd, F⟩ := T.f_Schema___len__
  refine fnN F (fun _ _ _ _ _ _ us hl => match us, hl with | [_], _ => rfl) sc_Schema___len__ (fun vs H Q E h => ?_) (fun cdv A outer s H vs Q E hr h => ?_)
  · obtain ⟨x, dx, dw, dl, rs, rfl, _⟩ := h
    rfl
  · obtain ⟨x, dx, dw, dl, rs, rfl, C, q⟩ := h
    refine ⟨_, PSs.nox (pss_one (ps_ret (pe_callB call_lenD (by rfl) T.z_len (by decide +kernel) (pa_cons (pe_fld (pv 0) rfl) pa_nil)))), ?_⟩
    refine ⟨_, rfl, _, _, _, _, _, rfl, C.hx, T.o_Schema.cl, T.n_Schema_widths, scF_widths, _, _, rfl, C.hw, ?_⟩
    rw [show (dI (wI rs)).length = rs.length by rw [List.length_map]; unfold wI; rw [List.length_map]]
    exact q
def spScNames (K : PySem.W.Frag) : Sp := fun vs H Q _ => ∃ x dx dw dl rs, vs = [.ref x] ∧ ScAt K H x dx dw dl rs ∧ ∀ p H', H p = none → Same H H' → H' p = some (.lst (rs.map fun s => V.str s.nm)) → Q (.ref p) H'
theorem keys_w (rs : List Sch) : (dI (wI rs)).map (fun kv => kV kv.1) = rs.map fun s => V.str s.nm := by
  unfold wI dI
  rw [List.map_map, List.map_map]
  rfl
theorem d_sc_names (T : Txt K mg) : FnR P w K mg base CX0 1 (ma K (ga K "Schema") "names") (spScNames K) := by
  obtain ⟨fd, F⟩ := T.f_Schema_names
  refine fnN F (fun _ _ _ _ _ _ us hl => match us, hl with | [_], _ => rfl) sc_Schema_names (fun vs H Q E h => ?_) (fun cdv A outer s H vs Q E hr h => ?_)
  · obtain ⟨x, dx, dw, dl, rs, rfl, _⟩ := h
    rfl
  · obtain ⟨x, dx, dw, dl, rs, rfl, C, hQ⟩ := h
    refine ⟨_, PSs.nox (pss_one (ps_ret (pe_callTy (call_list_dK rfl) (by rfl) T.z_list (by decide +kernel) (pa_cons (pe_fld (pv 0) rfl) pa_nil)))), ?_⟩
    refine ⟨_, rfl, _, _, _, _, _, rfl, C.hx, T.o_Schema.cl, T.n_Schema_widths, scF_widths, _, _, rfl, C.hw, fun p np => ?_⟩
    rw [keys_w]
    generalize eH1 : upd H p _ = H1
    have s1 : Same H H1 := eH1 ▸ same_upd np
    have e1 : H1 p = some _ := eH1 ▸ upd_same
    exact hQ p H1 np s1 e1
def inS (rs : List Sch) : PyData → Bool
  | .str z => (findS rs z).isSome
  | _ => false
def spScIn (K : PySem.W.Frag) : Sp := fun vs H Q _ => ∃ x dx dw dl rs v d, vs = [.ref x, v] ∧ ScAt K H x dx dw dl rs ∧ Dp K H v d ∧ Q (.bl (inS rs d)) H
theorem d_sc_in (T : Txt K mg) : FnR P w K mg base CX0 1 (ma K (ga K "Schema") "__contains__") (spScIn K) := by
  obtain ⟨fd, F⟩ := T.f_Schema___contains__
  refine fnN F (fun _ _ _ _ _ _ us hl => match us, hl with | [_, _], _ => rfl) sc_Schema___contains__ (fun vs H Q E h => ?_) (fun cdv A outer s H vs Q E hr h => ?_)
  · obtain ⟨x, dx, dw, dl, rs, v, d, rfl, _⟩ := h
    rfl
  · obtain ⟨x, dx, dw, dl, rs, v, d, rfl, C, hd, q⟩ := h
    refine ⟨_, PSs.nox (pss_one (ps_ret (pe_and (pe_callB call_isi (by rfl) T.z_isinstance (by decide +kernel) (pa_cons (pv 1) (pa_cons (pe_bltn (v := .ty "str") (by rfl) T.z_str (by decide +kernel) rfl) pa_nil))) (pe_one (pe_cmp (pc_din (hu_of hr) (pv 1) (pe_fld (pv 0) rfl)) rfl))))), ?_⟩
    refine ⟨_, rfl, _, _, _, _, _, rfl, .ty _, Dp.ty hd, kit_d K .str d, _, rfl, ?_⟩
    by_cases w0 : ∃ z, d = .str z
    · obtain ⟨z, rfl⟩ := w0
      cases hd
      refine iteT ?_
      refine ⟨_, rfl, _, rfl, _, _, _, _, _, rfl, C.hx, T.o_Schema.cl, T.n_Schema_widths, scF_widths, _, _, rfl, DGet.k (k := .inr z) C.hw, ?_⟩
      rw [val_w, Option.isSome_map]
      exact q
    · have e2 : isTy .str d = false := by
        cases d <;> first | rfl | exact absurd ⟨_, rfl⟩ w0
      rw [e2]
      have e : inS rs d = false := by
        cases d <;> first | rfl | exact absurd ⟨_, rfl⟩ w0
      rw [e] at q
      exact iteF q
/-! columns, rules -/
def spScCol (K : PySem.W.Frag) : Sp := fun vs H Q E => ∃ x dx dw dl rs v d, vs = [.ref x, v] ∧ ScAt K H x dx dw dl rs ∧ Dp K H v d ∧ (inS rs d = false → ∀ dd H', Same H H' → H' dd = some (xName v) → E (.ref (ga K "NoTable")) (some dd) H') ∧
  ∀ z s, d = .str z → findS rs z = some s → Q (.int (s.n : Nat)) H
theorem d_sc_col (hP : PF P "/claim/cut.py") (T : Txt K mg) : FnR P w K mg base (L2.CX P w) 1 (ma K (ga K "Schema") "columns") (spScCol K) := by
  obtain ⟨fd, F⟩ := T.f_Schema_columns
  refine fnN F (fun _ _ _ _ _ _ us hl => match us, hl with | [_, _], _ => rfl) sc_Schema_columns (fun vs H Q E h => ?_) (fun cdv A outer s H vs Q E hr h => ?_)
  · obtain ⟨x, dx, dw, dl, rs, v, d, rfl, _⟩ := h
    rfl
  · obtain ⟨x, dx, dw, dl, rs, v, d, rfl, C, hd, hE, hQ⟩ := h
    refine ⟨_, (pss_cons (ps_if (PW.pt (pw_or (pt_not (pt_val (pe_callB call_isi (by rfl) T.z_isinstance (by decide +kernel) (pa_cons (pv 1) (pa_cons (pe_bltn (v := .ty "str") (by rfl) T.z_str (by decide +kernel) rfl) pa_nil))))) (pw_or1 (pt_cmp (pc_dnotin (hu_of hr) (pv 1) (pe_fld (pv 0) rfl)))))) (pss_one (rsx (by rfl) (takes_of rfl rfl rfl rfl) hP T.y_NoTable.1 hr (pa_cons (pv 1) pa_nil))) pss_nil)
      (pss_one (ps_ret (pe_dget (hu_of hr) (pe_fld (pv 0) rfl) (pv 1) (fun _ _ => rfl))))), ?_⟩
    refine ⟨_, rfl, _, _, _, _, _, rfl, .ty _, Dp.ty hd, kit_d K .str d, _, rfl, ?_⟩
    by_cases w0 : ∃ z, d = .str z
    · obtain ⟨z, rfl⟩ := w0
      cases hd
      refine iteF ?_
      have hg := DGet.k (k := .inr z) C.hw
      rw [val_w] at hg
      refine ⟨_, rfl, _, rfl, _, _, _, _, _, rfl, C.hx, T.o_Schema.cl, T.n_Schema_widths, scF_widths, _, _, rfl, hg, _, rfl, ?_⟩
      cases hf : findS rs z with
      | none =>
        refine iteT ?_
        exact ⟨_, rfl, _, rfl, fun dd nd => hE (by show (findS rs z).isSome = false; rw [hf]; rfl) dd _ (same_upd nd) upd_same⟩
      | some s =>
        rw [hf] at hg
        refine iteF ?_
        exact ⟨_, rfl, _, _, _, _, _, rfl, C.hx, T.o_Schema.cl, T.n_Schema_widths, scF_widths, _, rfl, _, _, rfl, hg, hQ z s rfl hf⟩
    · have e2 : isTy .str d = false := by
        cases d <;> first | rfl | exact absurd ⟨_, rfl⟩ w0
      rw [e2]
      refine iteT ?_
      exact ⟨_, rfl, _, rfl, fun dd nd => hE (by cases d <;> first | rfl | exact absurd ⟨_, rfl⟩ w0) dd _ (same_upd nd) upd_same⟩
def spScRules (K : PySem.W.Frag) : Sp := fun vs H Q E => ∃ x dx dw dl rs v d, vs = [.ref x, v] ∧ ScAt K H x dx dw dl rs ∧ Dp K H v d ∧ (inS rs d = false → ∀ dd H', Same H H' → H' dd = some (xName v) → E (.ref (ga K "NoTable")) (some dd) H') ∧
  ∀ z s, d = .str z → findS rs z = some s → s.as.length ≤ 1000 ∧ ∀ y dy n H', Same H H' → H y = none → H n = none → y ≠ n → CdAt K H' y dy n (dd s.as) → Q (.ref y) H'
theorem d_sc_rules (hP : PF P "/claim/cut.py") (T : Txt K mg) : FnR P w K mg base (L2.CX P w) 7 (ma K (ga K "Schema") "rules") (spScRules K) := by
  obtain ⟨fd, F⟩ := T.f_Schema_rules
  have D_cd := d_cd1 (P := P) (w := w) (base := base) T
  have D_atoms := d_atoms (P := P) (w := w) (base := base) T
  refine fnN F (fun _ _ _ _ _ _ us hl => match us, hl with | [_, _], _ => rfl) sc_Schema_rules (fun vs H Q E h => ?_) (fun cdv A outer s H vs Q E hr h => ?_)
  · obtain ⟨x, dx, dw, dl, rs, v, d, rfl, _⟩ := h
    rfl
  · obtain ⟨x, dx, dw, dl, rs, v, d, rfl, C, hd, hE, hQ⟩ := h
    refine ⟨_, (pss_cons (ps_if (PW.pt (pw_or (pt_not (pt_val (pe_callB call_isi (by rfl) T.z_isinstance (by decide +kernel) (pa_cons (pv 1) (pa_cons (pe_bltn (v := .ty "str") (by rfl) T.z_str (by decide +kernel) rfl) pa_nil))))) (pw_or1 (pt_cmp (pc_dnotin (hu_of hr) (pv 1) (pe_fld (pv 0) rfl)))))) (pss_one (rsx (by rfl) (takes_of rfl rfl rfl rfl) hP T.y_NoTable.1 hr (pa_cons (pv 1) pa_nil))) pss_nil)
      (pss_one (ps_ret (pe_makeE T.m_Conditions D_cd hr T.g_Conditions pxq (pa_cons (pe_methE0 (pe_dget (hu_of hr) (pe_fld (pv 0) rfl) (pv 1) (fun _ _ => rfl)) T.o_Conditions.cl T.h_Conditions_atoms D_atoms (hr.mono (by decide)) (fun _ _ _ _ _ _ _ h => h.elim : ∀ σ, PassesAt CX0 _ σ ((fun _ => E0) σ))) pa_nil))))), ?_⟩
    refine ⟨_, rfl, _, _, _, _, _, rfl, .ty _, Dp.ty hd, kit_d K .str d, _, rfl, ?_⟩
    by_cases w0 : ∃ z, d = .str z
    · obtain ⟨z, rfl⟩ := w0
      cases hd
      refine iteF ?_
      have hg := DGet.k (k := .inr z) C.hw
      rw [val_w] at hg
      refine ⟨_, rfl, _, rfl, _, _, _, _, _, rfl, C.hx, T.o_Schema.cl, T.n_Schema_widths, scF_widths, _, _, rfl, hg, _, rfl, ?_⟩
      cases hf : findS rs z with
      | none =>
        refine iteT ?_
        exact ⟨_, rfl, _, rfl, fun dd nd => hE (by show (findS rs z).isSome = false; rw [hf]; rfl) dd _ (same_upd nd) upd_same⟩
      | some s =>
        have hg2 := DGet.k (k := .inr z) C.hl
        rw [val_l, hf] at hg2
        obtain ⟨hlen, hQ⟩ := hQ z s rfl hf
        have Cs := C.hc s (findS_mem hf).1
        refine iteF ?_
        refine ⟨_, rfl, _, _, _, _, _, rfl, C.hx, T.o_Schema.cl, T.n_Schema_limits, scF_limits, _, rfl, _, _, rfl, hg2, _, _, _, rfl, Cs.hx, cdF_no (by decide), s.c, s.dc, s.l, s.as, rfl, Cs, fun p us H1 np s1 e1 a1 => ?_⟩
        refine mkCd (Q := fun z H' => Q (.ref z) H') (as := s.as) (.inl (SqL.of e1)) a1 Cs.ok hlen fun y dy n H' s' ny nn hyn CD => ?_
        exact hQ y dy n H' (s1.trans s') (s1.free ny) (s1.free nn) hyn CD
    · have e2 : isTy .str d = false := by
        cases d <;> first | rfl | exact absurd ⟨_, rfl⟩ w0
      rw [e2]
      refine iteT ?_
      exact ⟨_, rfl, _, rfl, fun dd nd => hE (by cases d <;> first | rfl | exact absurd ⟨_, rfl⟩ w0) dd _ (same_upd nd) upd_same⟩

end
end K10
namespace K10
open PySem PySem.Spec PyProof.Rows L2 He TL EL
section
variable {P : Program} {w : World} {K : PySem.W.Frag} {mg : Str → Option Value} {base : Heap}
/-! Schema.add -/
def addOk (rs : List Sch) (d c : PyData) : Bool := isWordD d && (!inS rs d && colOk c)
def RulV (K : PySem.W.Frag) (H : Hp) (v : V) (as : List At) : Prop := (v = .non ∧ as = []) ∨ ∃ y dy m, v = .ref y ∧ CdAt K H y dy m as
def colN : PyData → Nat
  | .int i => i.toNat
  | _ => 0
def spAdd (K : PySem.W.Frag) : Sp := fun vs H Q E => ∃ x dx dw dl rs vn vc vr d c as, vs = [.ref x, vn, vc, vr] ∧ ScAt K H x dx dw dl rs ∧ Dp K H vn d ∧ Dp K H vc c ∧ (∀ z, d = .str z → z.length ≤ 100000) ∧ RulV K H vr as ∧ rs.length ≤ 1000 ∧ as.length ≤ 1000 ∧ dw ≠ dl ∧
  (addOk rs d c = false → ∀ dd H', Same H H' → H' dd = some (xName vn) → E (.ref (ga K "NoTable")) (some dd) H') ∧
  (addOk rs d c = true → as.all (At.fits (pn1 (colN c))) = false → ∀ H', Same H H' → E (.ref (ga K "NoCondition")) none H') ∧
  (∀ z, d = .str z → addOk rs d c = true → as.all (At.fits (pn1 (colN c))) = true → ∀ y dy l H', Md [dw, dl] H H' → H y = none → H l = none → y ≠ l → ScAt K H' x dx dw dl (rs ++ [⟨z, colN c, y, dy, l, dd as⟩]) → Q .non H')
theorem sc_ne {H : Hp} {x dx dw dl : Addr} {rs : List Sch} (C : ScAt K H x dx dw dl rs) : x ≠ dw ∧ x ≠ dl ∧ ∀ s ∈ rs, s.c ∉ [dw, dl] ∧ s.l ∉ [dw, dl] := by
  refine ⟨ne_of C.hx C.hw (by intro z; cases z), ne_of C.hx C.hl (by intro z; cases z), fun s hs => ?_⟩
  obtain ⟨v, e, _⟩ := (C.hc s hs).hl
  have h1 := (C.hc s hs).hx
  have a1 : s.c ≠ dw := ne_of h1 C.hw (by intro z; cases z)
  have a2 : s.c ≠ dl := ne_of h1 C.hl (by intro z; cases z)
  have a3 : s.l ≠ dw := ne_of e C.hw (by intro z; cases z)
  have a4 : s.l ≠ dl := ne_of e C.hl (by intro z; cases z)
  exact ⟨by simp [a1, a2], by simp [a3, a4]⟩
theorem d_sc_add (hP : PF P "/claim/cut.py") (T : Txt K mg) : ∃ fd, FunD K "add" "Schema.add" (defArgs s_Schema_add) (defBody s_Schema_add) (defScope s_Schema_add) ([.non] : List V) [] (ma K (ga K "Schema") "add") fd ∧
    FnOk P w K mg base (L2.CX P w) 7 (ma K (ga K "Schema") "add") fd ["self", "name", "columns", "rules"] (spAdd K) := by
  obtain ⟨fd, F⟩ := T.f_Schema_add
  have D_is_word := d_is_word (P := P) (w := w) (base := base) T
  have D_is_column_count := d_col (P := P) (w := w) (base := base) T
  have D_are_row_rules := d_rowrules (P := P) (w := w) (base := base) T
  have D_cd := d_cd1 (P := P) (w := w) (base := base) T
  have D_cd0 := d_cd0 (P := P) (w := w) (base := base) T
  have D_atoms := d_atoms (P := P) (w := w) (base := base) T
  refine ⟨fd, F, F.ok sc_Schema_add (fun vs H Q E h => ?_) (fun cdv A outer s H vs Q E hr h => ?_)⟩
  · obtain ⟨x, dx, dw, dl, rs, vn, vc, vr, d, c, as, rfl, _⟩ := h
    rfl
  · obtain ⟨x, dx, dw, dl, rs, vn, vc, vr, d, c, as, rfl, C, hd, hc, hlz, hrv, hrl, hal, hne, hE1, hE2, hQ⟩ := h
    refine ⟨_, (pss_cons (ps_if (PW.pt (pw_or (pt_not (pt_val (cl D_is_word (hr.mono (by decide)) (pa_cons (pv 1) pa_nil)))) (pw_or (pt_cmp (pc_din (hu_of hr) (pv 1) (pe_fld (pv 0) rfl))) (pw_or1 (pt_not (pt_val (cl D_is_column_count (hr.mono (by decide)) (pa_cons (pv 2) pa_nil)))))))) (pss_one (rsx (by rfl) (takes_of rfl rfl rfl rfl) hP T.y_NoTable.1 hr (pa_cons (pv 1) pa_nil))) pss_nil)
      (pss_mid (ps_if (pt_cmpR op_isN (pv 3) pe_non (nomark _)) (pss_one (ps_set (i := 3) sc_Schema_add.nd rfl (.inl rfl) (pe_makeE0 T.m_Conditions D_cd0 hr T.g_Conditions pxq))) pss_nil)
      (pss_cons (ps_if (pt_not (pt_val (cl D_are_row_rules (hr.mono (by decide)) (pa_cons (pv 3) (pa_cons (pv 2) pa_nil))))) (pss_one (EL.rs (by rfl) (takes_of rfl rfl rfl rfl) T.x_NoCondition (by rfl))) pss_nil)
      (pss_cons (ps_dput (hu_of hr) (pe_fld (pv 0) rfl) (pv 1) (pv 2) rfl)
      (pss_one (ps_dput (hu_of hr) (pe_fld (pv 0) rfl) (pv 1) (pe_makeE T.m_Conditions D_cd hr T.g_Conditions pxq (pa_cons (pe_methE0 (pv 3) T.o_Conditions.cl T.h_Conditions_atoms D_atoms (hr.mono (by decide)) px0) pa_nil)) rfl)))))), ?_⟩
    have bad : addOk rs d c = false → ∀ dd, H dd = none → E (.ref (ga K "NoTable")) (some dd) (upd H dd (xName vn)) := fun z dd nd => hE1 z dd _ (same_upd nd) upd_same
    refine ⟨_, rfl, vn, d, rfl, hd, hlz, _, rfl, ?_⟩
    cases hw : isWordD d with
    | false =>
      refine iteT ?_
      exact ⟨_, rfl, _, rfl, fun dd nd => bad (by unfold addOk; rw [hw]; rfl) dd nd⟩
    | true =>
      refine iteF ?_
      obtain ⟨z, rfl⟩ : ∃ z, d = .str z := by cases d <;> first | exact ⟨_, rfl⟩ | cases hw
      cases hd
      have hg := DGet.k (k := .inr z) C.hw
      rw [val_w] at hg
      refine ⟨_, rfl, _, rfl, _, _, _, _, _, rfl, C.hx, T.o_Schema.cl, T.n_Schema_widths, scF_widths, _, _, rfl, hg, _, rfl, ?_⟩
      rw [Option.isSome_map]
      cases hi : (findS rs z).isSome with
      | true =>
        refine iteT ?_
        exact ⟨_, rfl, _, rfl, fun dd nd => bad (by unfold addOk; rw [hw, show inS rs (.str z) = true from hi]; rfl) dd nd⟩
      | false =>
        refine iteF ?_
        refine ⟨_, rfl, vc, c, rfl, hc, _, rfl, ?_⟩
        cases hco : colOk c with
        | false =>
          refine iteT ?_
          exact ⟨_, rfl, _, rfl, fun dd nd => bad (by unfold addOk; rw [hw, hco, Bool.and_false]; rfl) dd nd⟩
        | true =>
          refine iteF ?_
          have hA : addOk rs (.str z) c = true := by unfold addOk; rw [hw, show inS rs (.str z) = false from hi, hco]; rfl
          obtain ⟨ci, rfl⟩ : ∃ ci, c = .int ci := by cases c <;> first | exact ⟨_, rfl⟩ | cases hco
          cases hc
          have hci : 1 ≤ ci ∧ ci ≤ 3 := by
            have h : (decide (1 ≤ ci) && decide (ci ≤ 3)) = true := hco
            rw [Bool.and_eq_true, decide_eq_true_eq, decide_eq_true_eq] at h
            exact h
          have ecn : ci = (colN (.int ci) : Nat) := by show ci = ((ci.toNat : Nat) : Int); omega
          refine ⟨fun σ' H' => ∃ y dy m, σ' = [some (.ref x), some (.str z), some (.int ci), some (.ref y)] ∧ Same H H' ∧ CdAt K H' y dy m as, ?_, ?_⟩
          · rcases hrv with ⟨rfl, rfl⟩ | ⟨y, dy, m, rfl, Cy⟩
            · refine ⟨_, rfl, rfl, _, rfl, iteT ?_⟩
              refine mkCd (a := dflAt ("Conditions", some "__init__") 0 K) (vs := []) (as := []) (.inr (T.dc0 _)) .nil (fun t ht => by cases ht) (by decide) fun bz bdz bn HI sI _ _ _ CI => ?_
              exact ⟨bz, bdz, bn, rfl, sI, CI⟩
            · refine ⟨_, rfl, rfl, _, rfl, iteF ?_⟩
              exact ⟨y, dy, m, rfl, .refl _, Cy⟩
          · rintro σ' H1 ⟨y, dy, m, rfl, s1, Cy⟩
            rw [ecn]
            refine ⟨_, rfl, _, rfl, y, dy, m, as, colN (.int ci), rfl, Cy, fun H2 s2 => ?_⟩
            have s12 := s1.trans s2
            refine ⟨_, rfl, ?_⟩
            cases hf : as.all (At.fits (pn1 (colN (.int ci)))) with
            | false =>
              refine iteT ?_
              exact hE2 hA hf H2 s12
            | true =>
              refine iteF ?_
              have C2 := C.same s12
              obtain ⟨nx1, nx2, nss⟩ := sc_ne C2
              have hz : findS rs z = none := by
                cases hh : findS rs z with
                | none => rfl
                | some s => rw [hh] at hi; cases hi
              have lw : (dI (wI rs)).length = rs.length := by rw [List.length_map]; unfold wI; rw [List.length_map]
              have ll : (lK rs).length = rs.length := by unfold lK; rw [List.length_map]
              refine ⟨_, rfl, _, rfl, _, _, _, _, _, rfl, C2.hx, T.o_Schema.cl, T.n_Schema_widths, scF_widths, _, rfl, _, _, rfl, DPut.k (k := .inr z) C2.hw (by rw [lw]; exact Nat.lt_of_le_of_lt hrl (by decide)), ?_⟩
              rw [putK_new _ (by rw [val_w, hz]; rfl)]
              generalize eH3 : upd H2 dw _ = H3
              have m3 : Md [dw, dl] H2 H3 := eH3 ▸ Md.upd C2.hw rfl (by simp)
              have w3 : H3 dw = _ := eH3 ▸ upd_same
              have hx3 := m3.out _ _ C2.hx (by simp [nx1, nx2])
              have l3 : H3 dl = some (.dK (lK rs)) := by rw [← eH3, upd_ne (Ne.symm hne)]; exact C2.hl
              have hcy2 := Cy.same s2
              have nyw : y ≠ dw := ne_of hcy2.hx C2.hw (by intro z; cases z)
              have nmw : m ≠ dw := by obtain ⟨vv, e, _⟩ := hcy2.hl; exact ne_of e C2.hw (by intro z; cases z)
              have m3' : Md [dw] H2 H3 := eH3 ▸ Md.upd C2.hw rfl (by simp)
              have hcy3 : CdAt K H3 y dy m as := hcy2.md m3' (by simp [nyw]) (by simp [nmw])
              refine ⟨_, rfl, _, _, _, rfl, hcy3.hx, cdF_no (by decide), y, dy, m, as, rfl, hcy3, fun p us H4 np s4 e4 a4 => ?_⟩
              refine mkCd (as := as) (.inl (SqL.of e4)) a4 hcy3.ok hal fun q dq n H5 s5 nq nn hqn CD => ?_
              have s35 := s4.trans s5
              have l5 := s35 _ _ l3
              refine ⟨_, rfl, _, _, _, _, _, rfl, s35 _ _ hx3, T.o_Schema.cl, T.n_Schema_limits, scF_limits, _, rfl, _, _, rfl, DPut.k (k := .inr z) l5 (by rw [ll]; exact Nat.lt_of_le_of_lt hrl (by decide)), ?_⟩
              rw [putK_new _ (by rw [val_l, hz]; rfl)]
              generalize eH6 : upd H5 dl _ = H6
              have m6 : Md [dw, dl] H5 H6 := eH6 ▸ Md.upd l5 rfl (by simp)
              have l6 : H6 dl = _ := eH6 ▸ upd_same
              have mm : Md [dw, dl] H H6 := (Md.of s12).trans (m3.trans ((Md.of s35).trans m6))
              have fr : ∀ {b : Addr}, H4 b = none → H b = none := fun {b} hb => by
                cases hh : H b with
                | none => rfl
                | some ob =>
                  by_cases e1 : b = dw
                  · rw [e1, s4 _ _ w3] at hb; cases hb
                  · rw [s4 _ _ (m3'.out _ _ (s12 _ _ hh) (by simp [e1]))] at hb; cases hb
              have nq' : q ∉ [dw, dl] := by
                have h1 : q ≠ dw := fun z => by rw [z, s4 _ _ w3] at nq; cases nq
                have h2 : q ≠ dl := fun z => by rw [z, s4 _ _ l3] at nq; cases nq
                simp [h1, h2]
              have nn' : n ∉ [dw, dl] := by
                have h1 : n ≠ dw := fun z => by rw [z, s4 _ _ w3] at nn; cases nn
                have h2 : n ≠ dl := fun z => by rw [z, s4 _ _ l3] at nn; cases nn
                simp [h1, h2]
              refine hQ z rfl hA hf q dq n H6 mm (fr nq) (fr nn) hqn ⟨m6.out _ _ (s35 _ _ hx3) (by simp [nx1, nx2]), ?_, ?_, fun t ht => ?_⟩
              · rw [← eH6, upd_ne hne, s35 _ _ w3]
                unfold wI dI
                rw [List.map_append, List.map_append]
                rfl
              · rw [l6]
                unfold lK
                rw [List.map_append]
                rfl
              · rcases List.mem_append.mp ht with ht | ht
                · exact (((C2.hc t ht).md m3 (nss t ht).1 (nss t ht).2).same s35).md m6 (nss t ht).1 (nss t ht).2
                · cases List.mem_singleton.mp ht
                  exact CD.md m6 nq' nn'

end
end K10
namespace K10
open PySem PySem.Spec PyProof.Rows L2 He TL EL
section
variable {P : Program} {w : World} {K : PySem.W.Frag} {mg : Str → Option Value} {base : Heap}
/-! Schema.narrow -/
def setS (rs : List Sch) (z : Str) (q dq n : Addr) (as : List At) : List Sch := rs.map fun s => if s.nm = z then ⟨s.nm, s.n, q, dq, n, as⟩ else s
theorem wI_set (rs : List Sch) (z : Str) (q dq n : Addr) (as : List At) : wI (setS rs z q dq n as) = wI rs := by
  unfold wI setS
  rw [List.map_map]
  refine List.map_congr_left fun s _ => ?_
  show (Sum.inr (if s.nm = z then (⟨s.nm, s.n, q, dq, n, as⟩ : Sch) else s).nm, ((if s.nm = z then (⟨s.nm, s.n, q, dq, n, as⟩ : Sch) else s).n : Int)) = _
  split <;> rfl
theorem lK_set (rs : List Sch) (z : Str) (q dq n : Addr) (as : List At) (h : (findS rs z).isSome = true) : putK (lK rs) (.inr z) (.ref q) = lK (setS rs z q dq n as) := by
  unfold putK
  rw [valV_any, val_l, Option.isSome_map, h, if_pos rfl]
  unfold lK setS
  rw [List.map_map, List.map_map]
  refine List.map_congr_left fun s _ => ?_
  show (if (Sum.inr s.nm : Key) = .inr z then ((Sum.inr s.nm : Key), V.ref q) else (Sum.inr s.nm, V.ref s.c)) = (Sum.inr (if s.nm = z then (⟨s.nm, s.n, q, dq, n, as⟩ : Sch) else s).nm, V.ref (if s.nm = z then (⟨s.nm, s.n, q, dq, n, as⟩ : Sch) else s).c)
  by_cases e : s.nm = z
  · rw [if_pos e, if_pos (by rw [e])]
  · rw [if_neg e, if_neg (fun h => e (Sum.inr.inj h))]
def spNarrow (K : PySem.W.Frag) : Sp := fun vs H Q E => ∃ x dx dw dl rs vn d y dy m as, vs = [.ref x, vn, .ref y] ∧ ScAt K H x dx dw dl rs ∧ Dp K H vn d ∧ CdAt K H y dy m as ∧ rs.length ≤ 1000 ∧ as.length ≤ 400 ∧ dw ≠ dl ∧
  (inS rs d = false → ∀ dd H', Same H H' → H' dd = some (xName vn) → E (.ref (ga K "NoTable")) (some dd) H') ∧
  (∀ z s, d = .str z → findS rs z = some s → s.as.length ≤ 400 ∧
    (as.all (At.fits (pn1 s.n)) = false → ∀ H', Same H H' → E (.ref (ga K "NoCondition")) none H') ∧
    (as.all (At.fits (pn1 s.n)) = true → ∀ q dq l H', Md [dl] H H' → H q = none → H l = none → q ≠ l → ScAt K H' x dx dw dl (setS rs z q dq l (dd (s.as ++ as))) → Q .non H'))
theorem d_sc_narrow (hP : PF P "/claim/cut.py") (T : Txt K mg) : FnR P w K mg base (L2.CX P w) 8 (ma K (ga K "Schema") "narrow") (spNarrow K) := by
  obtain ⟨fd, F⟩ := T.f_Schema_narrow
  have D_col := d_sc_col (P := P) (w := w) (base := base) hP T
  have D_are_row_rules := d_rowrules (P := P) (w := w) (base := base) T
  have D_and := d_and (P := P) (w := w) (base := base) T
  refine fnN F (fun _ _ _ _ _ _ us hl => match us, hl with | [_, _, _], _ => rfl) sc_Schema_narrow (fun vs H Q E h => ?_) (fun cdv A outer s H vs Q E hr h => ?_)
  · obtain ⟨x, dx, dw, dl, rs, vn, d, y, dy, m, as, rfl, _⟩ := h
    rfl
  · obtain ⟨x, dx, dw, dl, rs, vn, d, y, dy, m, as, rfl, C, hd, Cy, hrl, hal, hne, hE1, hQ⟩ := h
    refine ⟨_, (pss_cons (ps_set (i := 3) sc_Schema_narrow.nd rfl (.inl rfl) (pe_methE (pv 0) T.o_Schema.cl T.h_Schema_columns D_col (hr.mono (by decide)) (pxx (takes_of rfl rfl rfl rfl)) (pa_cons (pv 1) pa_nil)))
      (pss_cons (ps_if (pt_not (pt_val (cl D_are_row_rules (hr.mono (by decide)) (pa_cons (pv 2) (pa_cons (pv 3) pa_nil))))) (pss_one (EL.rs (by rfl) (takes_of rfl rfl rfl rfl) T.x_NoCondition (by rfl))) pss_nil)
      (pss_one (ps_dput (hu_of hr) (pe_fld (pv 0) rfl) (pv 1) (pe_op (op_binO T.sf_Conditions T.u_Conditions___and__.1 T.u_Conditions___and__.2 D_and hr pass0) (pe_dget (hu_of hr) (pe_fld (pv 0) rfl) (pv 1) (fun _ _ => rfl)) (pv 2)) rfl)))), ?_⟩
    refine ⟨_, rfl, _, _, _, rfl, C.hx, scF_no (by decide) (by decide), _, rfl, x, dx, dw, dl, rs, vn, d, rfl, C, hd, fun hi dd H' s' e' => hE1 hi dd H' s' e', fun z sc ez hf => ?_⟩
    obtain ⟨hl, hE2, hQ2⟩ := hQ z sc ez hf
    cases ez
    cases hd
    refine ⟨_, rfl, _, rfl, y, dy, m, as, sc.n, rfl, Cy, fun H2 s2 => ?_⟩
    refine ⟨_, rfl, ?_⟩
    cases hfit : as.all (At.fits (pn1 sc.n)) with
    | false =>
      refine iteT ?_
      exact hE2 hfit H2 s2
    | true =>
      refine iteF ?_
      have C2 := C.same s2
      have Cy2 := Cy.same s2
      obtain ⟨nx1, nx2, nss⟩ := sc_ne C2
      have hg2 := DGet.k (k := .inr z) C2.hl
      rw [val_l, hf] at hg2
      have Cs := C2.hc sc (findS_mem hf).1
      have ll : (lK rs).length = rs.length := by unfold lK; rw [List.length_map]
      refine ⟨_, rfl, _, _, _, _, _, rfl, C2.hx, T.o_Schema.cl, T.n_Schema_limits, scF_limits, _, rfl, _, _, rfl, hg2, _, rfl, _, _, _, _, _, _, rfl, rfl, Cs.hx, Cy2.hx, _, _, _, _, _, _, _, _, rfl, Cs, Cy2, hl, hal, fun q dq n H3 s3 nq nn hqn CD => ?_⟩
      have C3 := C2.same s3
      refine ⟨_, rfl, _, _, _, _, _, rfl, C3.hx, T.o_Schema.cl, T.n_Schema_limits, scF_limits, _, rfl, _, _, rfl, DPut.k (k := .inr z) C3.hl (by rw [ll]; exact Nat.lt_of_le_of_lt hrl (by decide)), ?_⟩
      have hsm : (findS rs z).isSome = true := by rw [hf]; rfl
      rw [lK_set rs z q dq n (dd (sc.as ++ as)) hsm]
      generalize eH4 : upd H3 dl _ = H4
      have m4 : Md [dl] H3 H4 := eH4 ▸ Md.upd C3.hl rfl (by simp)
      have l4 : H4 dl = _ := eH4 ▸ upd_same
      have s23 := s2.trans s3
      have nql : q ≠ dl := fun z => by rw [z, C2.hl] at nq; cases nq
      have nnl : n ≠ dl := fun z => by rw [z, C2.hl] at nn; cases nn
      refine hQ2 hfit q dq n H4 ((Md.of s23).trans m4) (s2.free nq) (s2.free nn) hqn ⟨m4.out _ _ C3.hx (by simp [nx2]), ?_, l4, fun t ht => ?_⟩
      · rw [wI_set]
        exact m4.out _ _ C3.hw (by simp [hne])
      · unfold setS at ht
        obtain ⟨u, hu, rfl⟩ := List.mem_map.mp ht
        by_cases e : u.nm = z
        · rw [if_pos e]
          exact CD.md m4 (by simp [nql]) (by simp [nnl])
        · rw [if_neg e]
          have k1 : u.c ≠ dl := fun h => (nss u hu).1 (by simp [h])
          have k2 : u.l ≠ dl := fun h => (nss u hu).2 (by simp [h])
          exact (C3.hc u hu).md m4 (by simp [k1]) (by simp [k2])

end
end K10
namespace K10
open PySem PySem.Spec PyProof.Rows L2 He TL EL
section
variable {P : Program} {w : World} {K : PySem.W.Frag} {mg : Str → Option Value} {base : Heap}
/-! Schema.__eq__ -/
def keyS (s : Sch) : Str × Nat × List At := (s.nm, s.n, s.as)
def nmS (rs : List Sch) : List Str := rs.map Sch.nm
theorem findS_of {ss : List Sch} (nd : (nmS ss).Nodup) {t : Sch} (h : t ∈ ss) : findS ss t.nm = some t := by
  induction ss with
  | nil => cases h
  | cons s r ih =>
    obtain ⟨n1, n2⟩ := List.nodup_cons.mp nd
    unfold findS
    rw [List.find?_cons]
    rcases List.mem_cons.mp h with rfl | h
    · simp
    · have e : s.nm ≠ t.nm := fun z => n1 (by show s.nm ∈ r.map Sch.nm; rw [z]; exact List.mem_map_of_mem h)
      simp only [e, decide_false]
      exact ih n2 h
theorem nm_get {rs ss : List Sch} (e : nmS rs = nmS ss) {i : Nat} {s : Sch} (h : rs[i]? = some s) : ∃ t, ss[i]? = some t ∧ t.nm = s.nm := by
  have h1 : (nmS rs)[i]? = some s.nm := by unfold nmS; rw [List.getElem?_map, h]; rfl
  rw [e] at h1
  exact getM h1
def bsL (rs ss : List Sch) : List Bool := (rs.zip ss).map fun p => decide (p.1.as = p.2.as)
def nsB (rs ss : List Sch) : Bool := (rs.zip ss).all fun p => decide (p.1.n = p.2.n)
theorem bsL_get {rs ss : List Sch} {i : Nat} {s t : Sch} (h1 : rs[i]? = some s) (h2 : ss[i]? = some t) : (bsL rs ss)[i]? = some (decide (s.as = t.as)) := by
  unfold bsL
  rw [List.getElem?_map, (List.getElem?_zip_eq_some (z := (s, t))).mpr ⟨h1, h2⟩]
  rfl
theorem eqDI_all {ss : List Sch} : ∀ {rs' ss' : List Sch}, nmS rs' = nmS ss' → (∀ t ∈ ss', findS ss t.nm = some t) → eqDI (wI rs') (wI ss) = nsB rs' ss'
  | [], [], _, _ => rfl
  | [], _ :: _, e, _ => by cases e
  | _ :: _, [], e, _ => by cases e
  | s :: r, t :: u, e, h => by
    obtain ⟨e1, e2⟩ := List.cons_eq_cons.mp (show s.nm :: nmS r = t.nm :: nmS u from e)
    have ih := eqDI_all (ss := ss) e2 fun t ht => h t (by simp [ht])
    show (decide (valV (dI (wI ss)) (.inr s.nm) = some (.int (s.n : Nat))) && eqDI (wI r) (wI ss)) = (decide (s.n = t.n) && nsB r u)
    rw [ih, val_w, e1, h t (by simp)]
    congr 1
    exact decide_eq_decide.mpr ⟨fun z => by have := Option.some.inj z; have := V.int.inj this; omega, fun z => by rw [z]; rfl⟩
theorem keyS_eq : ∀ {rs ss : List Sch}, nmS rs = nmS ss → decide (rs.map keyS = ss.map keyS) = (nsB rs ss && (bsL rs ss).all id)
  | [], [], _ => rfl
  | [], _ :: _, e => by cases e
  | _ :: _, [], e => by cases e
  | s :: r, t :: u, e => by
    obtain ⟨e1, e2⟩ := List.cons_eq_cons.mp (show s.nm :: nmS r = t.nm :: nmS u from e)
    have ih := keyS_eq e2
    have h1 : nsB (s :: r) (t :: u) = (decide (s.n = t.n) && nsB r u) := rfl
    have h2 : (bsL (s :: r) (t :: u)).all id = (decide (s.as = t.as) && (bsL r u).all id) := rfl
    have h3 : decide ((s :: r).map keyS = (t :: u).map keyS) = (decide (s.n = t.n) && (decide (s.as = t.as) && decide (r.map keyS = u.map keyS))) := by
      rw [← Bool.decide_and, ← Bool.decide_and]
      refine decide_eq_decide.mpr ⟨fun z => ?_, fun z => ?_⟩
      · obtain ⟨a, b⟩ := List.cons_eq_cons.mp (show keyS s :: r.map keyS = keyS t :: u.map keyS from z)
        unfold keyS at a
        injection a with _ a
        injection a with a1 a2
        exact ⟨a1, a2, b⟩
      · show keyS s :: r.map keyS = keyS t :: u.map keyS
        rw [z.2.2]
        unfold keyS
        rw [e1, z.1, z.2.1]
    rw [h3, h1, h2, ih]
    cases decide (s.n = t.n) <;> cases decide (s.as = t.as) <;> cases nsB r u <;> rfl
theorem keyS_nm {rs ss : List Sch} (e : ¬ nmS rs = nmS ss) : decide (rs.map keyS = ss.map keyS) = false := by
  refine decide_eq_false fun z => e ?_
  have := congrArg (List.map Prod.fst) z
  rw [List.map_map, List.map_map] at this
  exact this
theorem pds_str {ns : List Str} (h : ∀ z ∈ ns, PyData.strOk z = true) : Pds (ns.map PyData.str) := fun d hd => by
  obtain ⟨a, ha, rfl⟩ := List.mem_map.mp hd
  exact ⟨rfl, h a ha, by show 0 ≤ 16; decide⟩
theorem dp_str {H : Hp} : ∀ ns : List Str, DpAll K H (ns.map V.str) (ns.map PyData.str)
  | [] => .nil
  | _ :: r => .cons (.str _) (dp_str r)
theorem eqv_strs : ∀ as bs : List Str, PyData.eqv (.list (as.map PyData.str)) (.list (bs.map PyData.str)) = decide (as = bs)
  | [], [] => rfl
  | [], _ :: _ => rfl
  | _ :: _, [] => rfl
  | t :: ts, u :: us => by
    show ((t == u) && PyData.eqv (.list (ts.map PyData.str)) (.list (us.map PyData.str))) = _
    rw [eqv_strs ts us, show (t == u) = decide (t = u) from rfl, ← Bool.decide_and]
    exact decide_eq_decide.mpr ⟨fun h => by rw [h.1, h.2], fun h => by cases h; exact ⟨rfl, rfl⟩⟩
theorem nmS_map (rs : List Sch) : (rs.map fun s => V.str s.nm) = (nmS rs).map V.str := by
  unfold nmS
  rw [List.map_map]
  rfl
def spScEq (K : PySem.W.Frag) : Sp := fun vs H Q _ => ∃ x dx dw dl rs y dy ew el ss, vs = [.ref x, .ref y] ∧ ScAt K H x dx dw dl rs ∧ ScAt K H y dy ew el ss ∧ (nmS rs).Nodup ∧ (nmS ss).Nodup ∧ (∀ z ∈ nmS rs, PyData.strOk z = true) ∧ (∀ z ∈ nmS ss, PyData.strOk z = true) ∧ dw ≠ dl ∧ dw ≠ el ∧ rs.length ≤ 1000 ∧ ∀ H', Same H H' → Q (.bl (decide (rs.map keyS = ss.map keyS))) H'
theorem d_sc_eq (T : Txt K mg) : FnR P w K mg base CX0 3 (ma K (ga K "Schema") "__eq__") (spScEq K) := by
  obtain ⟨fd, F⟩ := T.f_Schema___eq__
  have D_cdeq := d_cd_eq (P := P) (w := w) (base := base) T
  refine fnN F (fun _ _ _ _ _ _ us hl => match us, hl with | [_, _], _ => rfl) sc_Schema___eq__ (fun vs H Q E h => ?_) (fun cdv A outer s H vs Q E hr h => ?_)
  · obtain ⟨x, dx, dw, dl, rs, y, dy, ew, el, ss, rfl, _⟩ := h
    rfl
  · obtain ⟨x, dx, dw, dl, rs, y, dy, ew, el, ss, rfl, C, D, nd1, nd2, ok1, ok2, hne, hne2, hrl, hQ⟩ := h
    refine ⟨_, PSs.nox (pss_cons (ps_if (PW.pt (pw_or (pt_not (pt_val (pe_callB call_isi (by rfl) T.z_isinstance (by decide +kernel) (pa_cons (pv 1) (pa_cons (pe_glob (v := .ref (ga K "Schema")) (by rfl) T.g_Schema rfl) pa_nil))))) (pw_or1 (pt_cmpR (op_neD hr.units) (pe_callTy (call_list_dK rfl) (by rfl) T.z_list (by decide +kernel) (pa_cons (pe_fld (pv 0) rfl) pa_nil)) (pe_callTy (call_list_dK rfl) (by rfl) T.z_list (by decide +kernel) (pa_cons (pe_fld (pv 1) rfl) pa_nil)) (nomark _))))) (pss_one (ps_ret pe_bl)) pss_nil)
      (pss_one (ps_ret (pe_and (pe_cmpR (op_eqDI hr.units0) (pe_fld (pv 0) rfl) (pe_fld (pv 1) rfl) (nomark _)) (pe_one (pe_callB (cr_all rfl) (by rfl) T.z_all (by decide +kernel) (pa_cons (pe_lock (pe_lc (own := [("name", 2)]) (tt := tYes) (by rfl) sc_Schema___eq__.nd (pi_keys (pe_fld (pv 0) rfl)) (blkOk_by (own := [("name", 2)]) (N := ["self", "other", "name"]) (sc := defScope s_Schema___eq__) (by decide +kernel)) (fun _ _ _ _ _ => (pg_name (i := 2) sc_Schema___eq__.nd rfl (.inl rfl))) (fun _ _ _ _ _ => pts_nil) (fun _ _ _ _ _ => (pe_cmpR (show OpR _ (compareOp .Eq) (rCmpO K (ga K "Conditions") (spCdEq K) E0) from op_cmpO (fun _ _ => rfl) T.u_Conditions___eq__.1 T.u_Conditions___eq__.2 D_cdeq (hr.mono (by decide)) pass0) (pe_dget (hu_of hr) (show PE _ _ (tFld K _ "limits") from pe_fld (pv 0) rfl) (pv 2) (fun _ _ => rfl)) (pe_dget (hu_of hr) (show PE _ _ (tFld K _ "limits") from pe_fld (pv 1) rfl) (pv 2) (fun _ _ => rfl)) (nomark _))))) pa_nil))))))), ?_⟩
    refine ⟨_, rfl, _, _, _, _, _, rfl, .own _, T.o_Schema.ty D.hx, T.o_Schema.self, _, rfl, iteF ?_⟩
    refine ⟨_, rfl, _, _, _, _, _, rfl, C.hx, T.o_Schema.cl, T.n_Schema_widths, scF_widths, _, _, rfl, C.hw, fun p np => ?_⟩
    rw [keys_w, nmS_map]
    generalize eH1 : upd H p _ = H1
    have s1 : Same H H1 := eH1 ▸ same_upd np
    have e1 : H1 p = some _ := eH1 ▸ upd_same
    have D1 := D.same s1
    refine ⟨_, rfl, _, _, _, _, _, rfl, D1.hx, T.o_Schema.cl, T.n_Schema_widths, scF_widths, _, _, rfl, D1.hw, fun q nq => ?_⟩
    rw [keys_w, nmS_map]
    generalize eH2 : upd H1 q _ = H2
    have s2 : Same H1 H2 := eH2 ▸ same_upd nq
    have e2 : H2 q = some _ := eH2 ▸ upd_same
    refine ⟨_, _, .lst (SqL.of (s2 _ _ e1)) (dp_str _), .lst (SqL.of e2) (dp_str _), (pds_str ok1).shaped, (pds_str ok2).shaped, ?_⟩
    rw [eqv_strs]
    have s02 := s1.trans s2
    have C2 := C.same s02
    have D2 := D.same s02
    by_cases en : nmS rs = nmS ss
    · rw [decide_eq_true en]
      refine ⟨_, rfl, iteF ?_⟩
      have el0 : rs.length = ss.length := by
        have := congrArg List.length en
        unfold nmS at this
        rw [List.length_map, List.length_map] at this
        exact this
      have ek := keyS_eq en
      have lw : (wI rs).length = (wI ss).length := by unfold wI; rw [List.length_map, List.length_map, el0]
      refine ⟨_, rfl, _, _, _, _, _, rfl, C2.hx, T.o_Schema.cl, T.n_Schema_widths, scF_widths, _, rfl, _, _, _, _, _, rfl, D2.hx, T.o_Schema.cl, T.n_Schema_widths, scF_widths, _, _, _, _, rfl, rfl, C2.hw, D2.hw, ?_⟩
      rw [decide_eq_true lw, Bool.true_and, eqDI_all (ss := ss) en (fun t ht => findS_of nd2 ht)]
      cases hns : nsB rs ss with
      | false =>
        rw [hns, Bool.false_and] at ek
        refine ⟨_, rfl, iteF ?_⟩
        exact ek ▸ hQ H2 s02
      | true =>
        rw [hns, Bool.true_and] at ek
        refine ⟨_, rfl, iteT ?_⟩
        refine ⟨dw, _, C2.hw, trivial, fun od => ?_⟩
        generalize eH3 : upd H2 dw _ = H3
        have k3 : H3 dw = some (.frz od (.dK (dI (wI rs)))) := eH3 ▸ upd_same
        have m3 : Md [dw] H2 H3 := eH3 ▸ Md.upd C2.hw rfl (by simp)
        obtain ⟨nx1, nx2, nss⟩ := sc_ne C2
        have nyw : y ≠ dw := ne_of D2.hx C2.hw (by intro z; cases z)
        refine ⟨_, rfl, _, _, _, _, _, rfl, m3.out _ _ C2.hx (by simp [nx1]), T.o_Schema.cl, T.n_Schema_widths, scF_widths, _, _, rfl, .inl ⟨_, k3, fun L nL => ?_⟩⟩
        have nL2 : H2 L = none := by
          rw [← eH3] at nL
          by_cases z : L = dw
          · rw [z, upd_same] at nL; cases nL
          · rw [upd_ne z] at nL; exact nL
        have nLd : dw ≠ L := fun z => by rw [← z, C2.hw] at nL2; cases nL2
        have lz : (bsL rs ss).length = rs.length := by
          unfold bsL
          rw [List.length_map, List.length_zip, ← el0, Nat.min_self]
        have lwr : (dI (wI rs)).length = rs.length := by rw [List.length_map]; unfold wI; rw [List.length_map]
        refine lc_it walk_keys (fun i H' => H' = upd H3 L (.lst (((bsL rs ss).take i).map V.bl))) rfl (fun i H' _ e => by rw [e, upd_ne nLd]; exact k3) ?_ ?_
        · rintro i xv H' H'' hi e ⟨e', k, v, hg, rfl⟩
          subst e' e
          have sL : Same H3 (upd H3 L (.lst (((bsL rs ss).take i).map V.bl))) := same_upd nL
          obtain ⟨kv, hg, ekv⟩ := getM hg
          obtain ⟨r, hr0, rfl⟩ := getM (show (rs.map fun s => ((Sum.inr s.nm : Key), (s.n : Int)))[i]? = some kv from hg)
          cases ekv
          obtain ⟨t, ht, etn⟩ := nm_get en hr0
          have hfr : findS rs r.nm = some r := findS_of nd1 (List.mem_of_getElem? hr0)
          have hft : findS ss r.nm = some t := etn ▸ findS_of nd2 (List.mem_of_getElem? ht)
          have fit : ∀ {S : Addr} {o : HO}, H2 S = some o → S ≠ dw → upd H3 L (.lst (((bsL rs ss).take i).map V.bl)) S = some o := fun h n => sL _ _ (m3.out _ _ h (by simp [n]))
          have g1 := DGet.k (k := .inr r.nm) (fit C2.hl (Ne.symm hne))
          have g2 := DGet.k (k := .inr r.nm) (fit D2.hl (Ne.symm hne2))
          rw [val_l, hfr] at g1
          rw [val_l, hft] at g2
          have c1 := C2.hc r (List.mem_of_getElem? hr0)
          have c2 := D2.hc t (List.mem_of_getElem? ht)
          have nc : ∀ {c dc l : Addr} {as : List At}, CdAt K H2 c dc l as → c ∉ [dw] ∧ l ∉ [dw] := fun {c dc l as} h => by
            have a1 : c ≠ dw := ne_of h.hx C2.hw (by intro z; cases z)
            obtain ⟨vv, e, _⟩ := h.hl
            have a2 : l ≠ dw := ne_of e C2.hw (by intro z; cases z)
            exact ⟨by simp [a1], by simp [a2]⟩
          have c1' := (c1.md m3 (nc c1).1 (nc c1).2).same sL
          have c2' := (c2.md m3 (nc c2).1 (nc c2).2).same sL
          refine ⟨rfl, tYes_of ?_⟩
          refine ⟨_, rfl, _, _, _, _, _, rfl, fit C2.hx nx1, T.o_Schema.cl, T.n_Schema_limits, scF_limits, _, rfl, _, _, rfl, g1, _, rfl, _, _, _, _, _, rfl, fit D2.hx nyw, T.o_Schema.cl, T.n_Schema_limits, scF_limits, _, rfl, _, _, rfl, g2, _, _, _, _, rfl, c1'.hx, T.o_Conditions.ty c2'.hx, T.nf_Conditions, _, _, _, _, _, _, _, _, rfl, c1', c2', _, upd_same, ?_, ?_⟩
          · rw [List.length_map, List.length_take]
            exact Nat.lt_of_le_of_lt (Nat.min_le_right _ _) (by rw [lz]; exact Nat.lt_of_le_of_lt hrl (by decide))
          · rw [upd_upd, tk1 (bsL_get hr0 ht), List.map_append]
            rfl
        · rintro H' e
          subst e
          rw [lwr, ← lz, List.take_length]
          refine ⟨by rw [upd_ne nLd]; exact k3, ?_⟩
          have e6 : upd (upd H3 L (.lst ((bsL rs ss).map V.bl))) dw (.dK (dI (wI rs))) = upd H2 L (.lst ((bsL rs ss).map V.bl)) := by
            rw [← eH3]
            funext b
            unfold L2.upd
            by_cases z1 : b = dw
            · rw [if_pos z1, if_neg (by rw [z1]; exact nLd), z1, C2.hw]
            · rw [if_neg z1]
              by_cases z2 : b = L
              · rw [if_pos z2, if_pos z2]
              · rw [if_neg z2, if_neg z2, if_neg z1]
          rw [e6]
          have s6 : Same H2 (upd H2 L (.lst ((bsL rs ss).map V.bl))) := same_upd nL2
          refine ⟨_, _, rfl, SqL.of upd_same, ?_⟩
          rw [← ek]
          exact hQ _ (s02.trans s6)
    · rw [decide_eq_false en]
      refine ⟨_, rfl, iteT ?_⟩
      exact keyS_nm en ▸ hQ H2 s02

end
end K10
namespace K10
open PySem PySem.Spec PyProof.Rows L2 He TL EL
section
variable {P : Program} {w : World} {K : PySem.W.Frag} {mg : Str → Option Value} {base : Heap}
/-! stands -/
def spStands (K : PySem.W.Frag) : Sp := fun vs H Q _ => ∃ (g : Sg) (v1 v2 : V) (x y : Int × Int), vs = [.str g.s, v1, v2] ∧ Dp K H v1 (valD x) ∧ Dp K H v2 (valD y) ∧ Vl x ∧ Vl y ∧ Q (.bl (g.holds x y)) H
theorem d_stands (T : Txt K mg) : Dn P w K mg base CX0 2 "stands" (spStands K) := by
  obtain ⟨fd, F⟩ := T.f_stands
  have D_less := d_less (P := P) (w := w) (base := base) T
  refine dnN T.g_stands F (fun _ _ _ _ _ _ us hl => match us, hl with | [_, _, _], _ => rfl) sc_stands (fun vs H Q E h => ?_) (fun cdv A outer s H vs Q E hr h => ?_)
  · obtain ⟨g, v1, v2, x, y, rfl, _⟩ := h
    rfl
  · obtain ⟨g, v1, v2, x, y, rfl, h1, h2, l1, l2, hQ⟩ := h
    refine ⟨_, PSs.nox (pss_cons (ps_if (pt_cmpR op_eq (pv 0) pe_str (nomark _)) (pss_one (ps_ret (cl D_less (hr.mono (by decide)) (pa_cons (pv 1) (pa_cons (pv 2) pa_nil))))) pss_nil)
      (pss_cons (ps_if (pt_cmpR op_eq (pv 0) pe_str (nomark _)) (pss_one (ps_ret (pe_not (cl D_less (hr.mono (by decide)) (pa_cons (pv 2) (pa_cons (pv 1) pa_nil)))))) pss_nil)
      (pss_one (ps_ret (pe_cmpR op_eq (pe_cmpR (op_eqD hr.units) (pv 1) (pv 2) (nomark _)) (pe_cmpR op_eq (pv 0) pe_str (nomark _)) (nomark _)))))), ?_⟩
    obtain ⟨p, rfl, hp⟩ := dp_val h1
    obtain ⟨q, rfl, hq⟩ := dp_val h2
    have eqp : ∀ z : Bool, z = decide (x = y) → PyData.eqv (valD x) (valD y) = z := fun z e => by rw [eqv_valD, e]
    cases g with
    | lt =>
      refine ⟨_, rfl, rfl, _, rfl, iteT ?_⟩
      exact ⟨_, rfl, _, rfl, p, q, _, _, _, _, rfl, hp, hq, vl_mul l1 l2, vl_mul l2 l1, hQ⟩
    | le =>
      refine ⟨_, rfl, rfl, _, rfl, if_neg_of (by decide +kernel) ?_⟩
      refine ⟨_, rfl, rfl, _, rfl, iteT ?_⟩
      exact ⟨_, rfl, _, rfl, q, p, _, _, _, _, rfl, hq, hp, vl_mul l2 l1, vl_mul l1 l2, _, rfl, hQ⟩
    | eq =>
      refine ⟨_, rfl, rfl, _, rfl, if_neg_of (by decide +kernel) ?_⟩
      refine ⟨_, rfl, rfl, _, rfl, if_neg_of (by decide +kernel) ?_⟩
      refine ⟨_, rfl, _, rfl, _, _, h1, h2, (Pd.valD x).shaped, (Pd.valD y).shaped, _, rfl, rfl, rfl, ?_⟩
      rw [eqv_valD]
      have e : decide (V.bl (decide (x = y)) = V.bl (decide (V.str (Sg.s .eq) = V.str "="))) = Sg.holds .eq x y := by
        show _ = decide (x = y)
        by_cases h : x = y
        · rw [decide_eq_true h]; decide +kernel
        · rw [decide_eq_false h]; decide +kernel
      show Q (.bl (decide (V.bl (decide (x = y)) = V.bl (decide (V.str (Sg.s .eq) = V.str "="))))) H
      rw [e]
      exact hQ
    | ne =>
      refine ⟨_, rfl, rfl, _, rfl, if_neg_of (by decide +kernel) ?_⟩
      refine ⟨_, rfl, rfl, _, rfl, if_neg_of (by decide +kernel) ?_⟩
      refine ⟨_, rfl, _, rfl, _, _, h1, h2, (Pd.valD x).shaped, (Pd.valD y).shaped, _, rfl, rfl, rfl, ?_⟩
      rw [eqv_valD]
      have e : decide (V.bl (decide (x = y)) = V.bl (decide (V.str (Sg.s .ne) = V.str "="))) = Sg.holds .ne x y := by
        show _ = (!decide (x = y))
        by_cases h : x = y
        · rw [decide_eq_true h]; decide +kernel
        · rw [decide_eq_false h]; decide +kernel
      show Q (.bl (decide (V.bl (decide (x = y)) = V.bl (decide (V.str (Sg.s .ne) = V.str "="))))) H
      rw [e]
      exact hQ
/-! value_at -/
def rowsK (v : Pl → V) : List (Key × V) := [(.inr "old", v .old), (.inr "first", v .first), (.inr "second", v .second)]
theorem rowsK_at (v : Pl → V) (p : Pl) : valV (rowsK v) (.inr p.s) = some (v p) := by
  unfold rowsK
  cases p
  · exact valV_pos rfl
  · rw [valV_neg (by intro z; exact absurd (Sum.inr.inj z) (by decide +kernel))]
    exact valV_pos rfl
  · rw [valV_neg (by intro z; exact absurd (Sum.inr.inj z) (by decide +kernel)), valV_neg (by intro z; exact absurd (Sum.inr.inj z) (by decide +kernel))]
    exact valV_pos rfl
theorem dp_row {H : Hp} {v : V} {l : List (Int × Int)} (h : Dp K H v (rowD (some l))) : ∃ q vs, v = .ref q ∧ SqT K H q vs ∧ DpAll K H vs (l.map valD) := by
  cases h with
  | tup hS hA => exact ⟨_, _, rfl, hS, hA⟩
/-- the rows by their places -/
def Rows3 (K : PySem.W.Frag) (H : Hp) (v : Pl → V) (r : Pl → Row) : Prop := ∀ p, Dp K H (v p) (rowD (r p))
theorem Rows3.same {H H' : Hp} {v : Pl → V} {r : Pl → Row} (h : Rows3 K H v r) (s : Same H H') : Rows3 K H' v r := fun p => Dp.same s (h p)
def spValueAt (K : PySem.W.Frag) : Sp := fun vs H Q E => ∃ vt rd t v r, vs = [vt, .ref rd] ∧ Dp K H vt (Tm.d t) ∧ H rd = some (.dK (rowsK v)) ∧ Rows3 K H v r ∧ (t.at r = none → E (.ref (ga K "NoCell")) none H) ∧ ∀ x y, t.at r = some x → Dp K H y (valD x) → Q y H
theorem d_value_at (T : Txt K mg) : Dn P w K mg base (L2.CX P w) 1 "value_at" (spValueAt K) := by
  obtain ⟨fd, F⟩ := T.f_value_at
  refine dnN T.g_value_at F (fun _ _ _ _ _ _ us hl => match us, hl with | [_, _], _ => rfl) sc_value_at (fun vs H Q E h => ?_) (fun cdv A outer s H vs Q E hr h => ?_)
  · obtain ⟨vt, rd, t, v, r, rfl, _⟩ := h
    rfl
  · obtain ⟨vt, rd, t, v, r, rfl, ht, hd, hR, hE, hQ⟩ := h
    refine ⟨_, (pss_cons (ps_if (pt_cmpR op_eq (pe_ix ix_tup (pv 0) pe_int (fun _ _ => rfl)) pe_str (nomark _)) (pss_one (ps_ret (pe_ix ix_tup (pv 0) pe_int (fun _ _ => rfl)))) pss_nil)
      (pss_cons (ps_set (i := 2) sc_value_at.nd rfl (.inl rfl) (pe_dget (hu_of hr) (pv 1) (pe_ix ix_tup (pv 0) pe_int (fun _ _ => rfl)) (fun _ _ => rfl)))
      (pss_cons (ps_if (PW.pt (pw_or (pt_cmpR op_isN (pv 2) pe_non (nomark _)) (pw_or1 (pt_cmpR op_ge (pe_ix ix_tup (pv 0) pe_int (fun _ _ => rfl)) (pe_callB call_len_seq (by rfl) T.z_len (by decide +kernel) (pa_cons (pv 2) pa_nil)) (nomark _))))) (pss_one (EL.rs (by rfl) (takes_of rfl rfl rfl rfl) T.x_NoCell (by rfl))) pss_nil)
      (pss_one (ps_ret (pe_ix ix_tup (pv 2) (pe_ix ix_tup (pv 0) pe_int (fun _ _ => rfl)) (fun _ _ => rfl))))))), ?_⟩
    cases t with
    | val a b =>
      obtain ⟨q, y, rfl, hq, hy⟩ := tm_val ht
      refine ⟨_, rfl, _, _, 0, _, rfl, rfl, hq, atI_nat (j := 0) rfl, rfl, _, rfl, iteT ?_⟩
      exact ⟨_, rfl, _, _, 1, _, rfl, rfl, hq, atI_nat (j := 1) rfl, hQ (a, b) y rfl hy⟩
    | cell p c =>
      obtain ⟨q, rfl, hq⟩ := tm_cell ht
      refine ⟨_, rfl, _, _, 0, _, rfl, rfl, hq, atI_nat (j := 0) rfl, rfl, _, rfl, ?_⟩
      refine if_neg_of (Pl.ne_value p) ?_
      have hg := DGet.k (k := Sum.inr p.s) hd
      rw [rowsK_at] at hg
      refine ⟨_, rfl, _, rfl, _, _, 0, _, rfl, rfl, hq, atI_nat (j := 0) rfl, _, _, rfl, hg, ?_⟩
      have hp := hR p
      cases hr0 : r p with
      | none =>
        rw [hr0] at hp
        have e : v p = .non := by
          generalize v p = y at hp
          cases hp
          rfl
        rw [e]
        refine ⟨_, rfl, rfl, _, rfl, iteT ?_⟩
        exact hE (by show (r p).bind _ = none; rw [hr0]; rfl)
      | some l =>
        rw [hr0] at hp
        obtain ⟨ra, vs, ev, hra, hA⟩ := dp_row hp
        rw [ev]
        refine ⟨_, rfl, rfl, _, rfl, iteF ?_⟩
        have lv : vs.length = l.length := by rw [DpAll.length hA, List.length_map]
        refine ⟨_, rfl, _, _, 1, _, rfl, rfl, hq, atI_nat (j := 1) rfl, _, rfl, _, _, rfl, .inr hra, _, _, rfl, rfl, _, rfl, ie (fun c1 => ?_) (fun c1 => ?_)⟩
        · have c1' := of_decide_eq_true c1
          refine hE ?_
          show (r p).bind _ = none
          rw [hr0]
          exact List.getElem?_eq_none (by omega)
        · have c1' := of_decide_eq_false c1
          have hlt : c < l.length := by omega
          have hx : (l.map valD)[c]? = some (valD l[c]) := by rw [List.getElem?_map, List.getElem?_eq_getElem hlt]; rfl
          obtain ⟨y, hy, hdy⟩ := DpAll.at hA hx
          refine ⟨_, rfl, _, rfl, _, _, 1, _, rfl, rfl, hq, atI_nat (j := 1) rfl, _, _, _, _, rfl, rfl, hra, atI_nat hy, ?_⟩
          refine hQ l[c] y ?_ hdy
          show (r p).bind _ = _
          rw [hr0]
          exact List.getElem?_eq_getElem hlt
/-! Conditions.hold -/
def optD : Option (Int × Int) → PyData
  | some x => valD x
  | none => .none
def prD (r : Pl → Row) (a : At) : PyData := .tuple [.str a.s.s, optD (a.l.at r), optD (a.r.at r)]
theorem at_vl {r : Pl → Row} (hr : ∀ p, rowOk (r p)) {t : Tm} (h : t.ok) {x : Int × Int} (e : t.at r = some x) : Vl x := by
  cases t with
  | val a b =>
    have e' : some (a, b) = some x := e
    cases e'
    exact h
  | cell p c =>
    have e' : (r p).bind (fun l => l[c]?) = some x := e
    cases hp : r p with
    | none => rw [hp] at e'; cases e'
    | some l =>
      rw [hp] at e'
      exact (hr p l hp).2 x (List.mem_of_getElem? e')
theorem hold_none {r : Pl → Row} {as : List At} {a : At} (h : a ∈ as) (e : a.at r = none) : holdO r as = none := by
  unfold holdO
  rw [if_pos (List.any_eq_true.mpr ⟨a, h, by rw [e]; rfl⟩)]
theorem hold_some {r : Pl → Row} {as : List At} (h : ∀ a ∈ as, ∃ b, a.at r = some b) : holdO r as = some (as.all fun a => decide (a.at r = some true)) := by
  unfold holdO
  rw [if_neg]
  intro z
  obtain ⟨a, ha, e⟩ := List.any_eq_true.mp z
  obtain ⟨b, hb⟩ := h a ha
  rw [hb] at e
  cases e
theorem at_nl {r : Pl → Row} {a : At} (h : a.l.at r = none) : a.at r = none := by unfold At.at; rw [h]
theorem at_nr {r : Pl → Row} {a : At} (h : a.r.at r = none) : a.at r = none := by unfold At.at; rw [h]; cases a.l.at r <;> rfl
theorem at_ss {r : Pl → Row} {a : At} {x y : Int × Int} (h1 : a.l.at r = some x) (h2 : a.r.at r = some y) : a.at r = some (a.s.holds x y) := by unfold At.at; rw [h1, h2]
theorem at_sm {r : Pl → Row} {a : At} {b : Bool} (h : a.at r = some b) : ∃ x y, a.l.at r = some x ∧ a.r.at r = some y ∧ b = a.s.holds x y := by
  unfold At.at at h
  cases h1 : a.l.at r with
  | none => rw [h1] at h; cases h
  | some x =>
    cases h2 : a.r.at r with
    | none => rw [h1, h2] at h; cases h
    | some y => rw [h1, h2] at h; exact ⟨x, y, rfl, rfl, (Option.some.inj h).symm⟩
theorem prD_pd (r : Pl → Row) (a : At) : Pd (prD r a) := by
  have h : ∀ o, Pd (optD o) ∧ (optD o).depth ≤ 1 := fun o => by
    cases o with
    | none => exact ⟨⟨rfl, rfl, by decide⟩, by decide⟩
    | some x => exact ⟨Pd.valD x, by show 1 ≤ 1; decide⟩
  obtain ⟨h1, e1⟩ := h (a.l.at r)
  obtain ⟨h2, e2⟩ := h (a.r.at r)
  refine ⟨?_, ?_, ?_⟩
  · show (true && (noL (optD (a.l.at r)) && (noL (optD (a.r.at r)) && true))) = true
    rw [h1.nl, h2.nl]; rfl
  · show (PyData.strOk a.s.s && ((optD (a.l.at r)).canLay0 && ((optD (a.r.at r)).canLay0 && true))) = true
    rw [h1.cl, h2.cl, show PyData.strOk a.s.s = true by cases a.s <;> decide +kernel]; rfl
  · show max 0 (max (optD (a.l.at r)).depth (max (optD (a.r.at r)).depth 0)) + 1 ≤ 16
    omega
theorem pr_tup {H : Hp} {v : V} {r : Pl → Row} {a : At} (h : Dp K H v (prD r a)) : ∃ t v1 v2, v = .ref t ∧ SqT K H t [.str a.s.s, v1, v2] ∧ Dp K H v1 (optD (a.l.at r)) ∧ Dp K H v2 (optD (a.r.at r)) := by
  cases h with
  | tup hS hA =>
    cases hA with
    | cons h1 hA =>
      cases hA with
      | cons h2 hA =>
        cases hA with
        | cons h3 hA =>
          cases hA
          cases h1
          exact ⟨_, _, _, rfl, hS, h2, h3⟩
theorem merge_rows (v : Pl → V) : mergeK [] [((.inr "old" : Key), v .old), (.inr "first", v .first), (.inr "second", v .second)] = rowsK v := by
  show putK (putK (putK [] (Sum.inr "old" : Key) (v .old)) (Sum.inr "first" : Key) (v .first)) (Sum.inr "second" : Key) (v .second) = _
  have e1 : putK ([] : List (Key × V)) (.inr "old") (v .old) = [(.inr "old", v .old)] := putK_new _ rfl
  have e2 : putK [((.inr "old" : Key), v .old)] (.inr "first") (v .first) = [(.inr "old", v .old), (.inr "first", v .first)] := putK_new _ (valV_neg (by intro z; exact absurd (Sum.inr.inj z) (by decide +kernel)))
  have e3 : putK [((.inr "old" : Key), v .old), (.inr "first", v .first)] (.inr "second") (v .second) = rowsK v := putK_new _ ((valV_neg (by intro z; exact absurd (Sum.inr.inj z) (by decide +kernel))).trans (valV_neg (by intro z; exact absurd (Sum.inr.inj z) (by decide +kernel))))
  rw [e1, e2, e3]
def spHold (K : PySem.W.Frag) : Sp := fun vs H Q E => ∃ x dx l as v r, vs = [.ref x, v Pl.old, v Pl.first, v Pl.second] ∧ CdAt K H x dx l as ∧ as.length ≤ 1000 ∧ Rows3 K H v r ∧ (∀ p, rowOk (r p)) ∧
  (holdO r as = none → ∀ H', Same H H' → E (.ref (ga K "NoCell")) none H') ∧ (∀ b, holdO r as = some b → ∀ H', Same H H' → Q (.bl b) H')
theorem d_hold (T : Txt K mg) : FnR P w K mg base (L2.CX P w) 3 (ma K (ga K "Conditions") "hold") (spHold K) := by
  obtain ⟨fd, F⟩ := T.f_Conditions_hold
  have D_value_at := d_value_at (P := P) (w := w) (base := base) T
  have D_stands := d_stands (P := P) (w := w) (base := base) T
  refine fnN F (fun _ _ _ _ _ _ us hl => match us, hl with | [_, _, _, _], _ => rfl) sc_Conditions_hold (fun vs H Q E h => ?_) (fun cdv A outer s H vs Q E hr h => ?_)
  · obtain ⟨x, dx, l, as, v, r, rfl, _⟩ := h
    rfl
  · obtain ⟨x, dx, l, as, v, r, rfl, C, hlen, hR, hok, hE, hQ⟩ := h
    refine ⟨_, (pss_cons (ps_set (i := 4) sc_Conditions_hold.nd rfl (.inr rfl) (pe_disp (pps_cons pe_str (pv 1) (pps_cons pe_str (pv 2) (pps_cons pe_str (pv 3) pps_nil))) rfl rfl (by simp) (by decide)))
      (pss_cons (ps_setLcX (i := 5) (own := [("sign", 6), ("left", 7), ("right", 8)]) (g := gTup K 3 (gCons (gName 6) (gCons (gName 7) (gCons (gName 8) gNil)))) (tt := tYes) (takes_of rfl rfl rfl rfl) (by rfl) (by rfl) (by rfl) sc_Conditions_hold.nd rfl rfl (sw_true rfl rfl rfl (by decide +kernel)) (pi_list (pe_fld (pv 0) rfl)) (blkOk_by (own := [("sign", 6), ("left", 7), ("right", 8)]) (N := ["self", "old", "first", "second", "rows", "pairs", "sign", "left", "right"]) (sc := defScope s_Conditions_hold) (by decide +kernel)) (fun _ _ _ _ _ => (pg_tup rfl (pgs_cons (pg_name (i := 6) sc_Conditions_hold.nd rfl (.inl rfl) (.inr rfl)) (pgs_cons (pg_name (i := 7) sc_Conditions_hold.nd rfl (.inl rfl) (.inr rfl)) (pgs_cons (pg_name (i := 8) sc_Conditions_hold.nd rfl (.inl rfl) (.inr rfl)) pgs_nil))))) (fun _ _ _ _ _ => pts_nil) (fun _ _ _ _ _ _ _ hx => (pe_tup (pa_cons (pv 6) (pa_cons (clP hx D_value_at (hr.mono (by decide)) (pa_cons (pv 7) (pa_cons (pv 4) pa_nil))) (pa_cons (clP hx D_value_at (hr.mono (by decide)) (pa_cons (pv 8) (pa_cons (pv 4) pa_nil))) pa_nil))))))
      (pss_cons (ps_for (passes_of rfl) rfl (pi_list (pv 5)) (pg_tup rfl (pgs_cons (pg_name (i := 6) sc_Conditions_hold.nd rfl (.inl rfl)) (pgs_cons (pg_name (i := 7) sc_Conditions_hold.nd rfl (.inl rfl)) (pgs_cons (pg_name (i := 8) sc_Conditions_hold.nd rfl (.inl rfl)) pgs_nil))))
      (pss_one (ps_if (pt_not (pt_val (cl D_stands (hr.mono (by decide)) (pa_cons (pv 6) (pa_cons (pv 7) (pa_cons (pv 8) pa_nil)))))) (pss_one (ps_ret pe_bl)) pss_nil)))
      (pss_one (ps_ret pe_bl))))), ?_⟩
    intro rd nrd
    refine ⟨_, rfl, _, rfl, _, rfl, upd_same, [(.inr "old", v .old), (.inr "first", v .first), (.inr "second", v .second)], rfl, (by show 3 ≤ 15; decide), ?_⟩
    rw [upd_upd]
    rw [merge_rows]
    generalize eH1 : upd H rd _ = H1
    have s1 : Same H H1 := eH1 ▸ same_upd nrd
    have e1 : H1 rd = some _ := eH1 ▸ upd_same
    have C1 := C.same s1
    have hR1 := hR.same s1
    obtain ⟨vs, el, al⟩ := C1.hl
    have lv : vs.length = as.length := by rw [DpAll.length al, List.length_map]
    refine ⟨_, rfl, _, _, _, _, _, rfl, C1.hx, T.o_Conditions.cl, T.n_Conditions_kept_atoms, cdF_at, l, rfl, ⟨_, SqL.of el⟩, fun D nD => ?_⟩
    have nDl : D ≠ l := fun z => by rw [z, el] at nD; cases nD
    have nDr : D ≠ rd := fun z => by rw [z, e1] at nD; cases nD
    have sD : Same H1 (upd H1 D (.lst [])) := same_upd nD
    refine lcX_it (walk_list (xs := vs)) (fun i H' => (∀ a ∈ as.take i, ∃ b, a.at r = some b) ∧ ∃ us, H' D = some (.lst us) ∧ DpAll K H' us ((as.take i).map (prD r)) ∧ Md [D] (upd H1 D (.lst [])) H') ⟨fun a ha => (by cases ha), [], upd_same, .nil, .refl _ _⟩ (fun i H' _ h => ?_) ?_ ?_
    · obtain ⟨_, us, _, _, m⟩ := h
      exact SqL.of (m.out _ _ (sD _ _ el) (by simp; exact Ne.symm nDl))
    · rintro i xv H' H'' hi ⟨hg, us, eu, au, m⟩ ⟨rfl, hx⟩
      obtain ⟨d, hd, hdp⟩ := DpAll.get al hx
      obtain ⟨a, ha, rfl⟩ := getM hd
      have hdp' := m.dp (At.pd a).nl (Dp.same sD hdp)
      obtain ⟨t, v1, v2, rfl, ht, h1, h2⟩ := at_tup hdp'
      have rd' := m.out _ _ (sD _ _ e1) (by simp; exact Ne.symm nDr)
      have hR' : Rows3 K H'' v r := fun p => m.dp (rowD_pd (r p)).nl (Dp.same sD (hR1 p))
      have hao := C.ok a (List.mem_of_getElem? ha)
      have sH : Same H H'' := s1.trans (Md.newM (S := []) m (Md.of sD) nD).same
      have mem := List.mem_of_getElem? ha
      have hlu : us.length < sizeLine := by
        rw [DpAll.length au, List.length_map, List.length_take]
        exact Nat.lt_of_le_of_lt (Nat.le_trans (Nat.min_le_right _ _) hlen) (by decide)
      refine ⟨t, _, rfl, ht, rfl, _, _, rfl, _, _, rfl, _, _, rfl, rfl, rfl, tYes_of ?_⟩
      refine ⟨_, rfl, _, rfl, _, rfl, v1, rd, a.l, v, r, rfl, h1, rd', hR', fun z => hE (hold_none mem (at_nl z)) H'' sH, fun p1 y1 z1 d1 => ?_⟩
      refine ⟨_, rfl, _, rfl, v2, rd, a.r, v, r, rfl, h2, rd', hR', fun z => hE (hold_none mem (at_nr z)) H'' sH, fun p2 y2 z2 d2 => ?_⟩
      refine ⟨(by show 3 ≤ sizeLine; decide), fun q nq => ?_⟩
      generalize eH3 : upd H'' q _ = H3
      have s3 : Same H'' H3 := eH3 ▸ same_upd nq
      have e3 : H3 q = some _ := eH3 ▸ upd_same
      refine ⟨us, s3 _ _ eu, hlu, ?_⟩
      have mu : Md [D] H3 (upd H3 D (.lst (us ++ [.ref q]))) := Md.upd (s3 _ _ eu) rfl (by simp)
      refine ⟨fun b hb => ?_, _, upd_same, ?_, m.trans ((Md.of s3).trans mu)⟩
      · rw [tk1 ha] at hb
        rcases List.mem_append.mp hb with hb | hb
        · exact hg b hb
        · cases List.mem_singleton.mp hb
          exact ⟨_, at_ss z1 z2⟩
      · rw [tk1 ha, List.map_append]
        refine DpAll.snoc (mu.dp (prD_pd r a).nl (.tup (SqT.of e3) (.cons (.str _) (.cons ?_ (.cons ?_ .nil))))) (mu.dpAll (Pds.nl (fun d hd => ?_)) (DpAll.same s3 au))
        · rw [z1]; exact Dp.same s3 d1
        · rw [z2]; exact Dp.same s3 d2
        · obtain ⟨b, _, rfl⟩ := List.mem_map.mp hd
          exact prD_pd r b
    · rintro H' ⟨hg, us, eu, au, m⟩
      rw [lv] at hg au
      rw [List.take_length] at hg au
      have sH : Same H H' := s1.trans (Md.newM (S := []) m (Md.of sD) nD).same
      have ho := hold_some hg
      have lu : us.length = as.length := by rw [DpAll.length au, List.length_map]
      refine ⟨_, rfl, D, rfl, ⟨_, SqL.of eu⟩, for_list (K := K) (a := D) (xs := us) (fun i σ H2 => H' = H2 ∧ (∃ o1 o2 o3, σ = [some (.ref x), some (v .old), some (v .first), some (v .second), some (.ref rd), some (.ref D), o1, o2, o3]) ∧ ∀ a ∈ as.take i, a.at r = some true) ⟨rfl, ⟨none, none, none, rfl⟩, fun a ha => by cases ha⟩ (fun i σ H2 _ h => by rw [← h.1]; exact SqL.of eu) ?_ ?_⟩
      · rintro i xv σ H2 hgx ⟨rfl, ⟨o1, o2, o3, rfl⟩, hall⟩
        obtain ⟨d, hd, hdp⟩ := DpAll.get au hgx
        obtain ⟨a, ha, rfl⟩ := getM hd
        obtain ⟨t, y1, y2, rfl, ht, h1, h2⟩ := pr_tup hdp
        have mem := List.mem_of_getElem? ha
        obtain ⟨b, hb⟩ := hg a mem
        obtain ⟨p1, p2, z1, z2, eb⟩ := at_sm hb
        rw [z1] at h1
        rw [z2] at h2
        have hao := C.ok a mem
        refine ⟨t, _, rfl, ht, rfl, _, _, rfl, _, _, rfl, _, _, rfl, rfl, ?_⟩
        refine ⟨_, rfl, _, rfl, _, rfl, a.s, y1, y2, p1, p2, rfl, h1, h2, at_vl hok hao.1 z1, at_vl hok hao.2 z2, _, rfl, ?_⟩
        rw [← eb]
        cases b with
        | true =>
          refine iteF ?_
          refine ⟨rfl, ⟨_, _, _, rfl⟩, fun c hc => ?_⟩
          rw [tk1 ha] at hc
          rcases List.mem_append.mp hc with hc | hc
          · exact hall c hc
          · cases List.mem_singleton.mp hc
            exact hb
        | false =>
          refine iteT ?_
          refine hQ false ?_ H' sH
          rw [ho]
          congr 1
          rw [Bool.eq_false_iff]
          intro z
          have := of_decide_eq_true (List.all_eq_true.mp z a mem)
          rw [hb] at this
          cases this
      · rintro σ H2 ⟨rfl, ⟨o1, o2, o3, rfl⟩, hall⟩
        refine hQ true ?_ H' sH
        rw [lu, List.take_length] at hall
        rw [ho]
        congr 1
        exact List.all_eq_true.mpr fun a ha => decide_eq_true (hall a ha)

end
end K10
namespace K10
open PySem PySem.Spec PyProof.Rows L2 He TL EL
section
variable {P : Program} {w : World} {K : PySem.W.Frag} {mg : Str → Option Value} {base : Heap}
/-! is_row -/
def isRowD (n : Nat) : PyData → Bool
  | .tuple ds => decide (ds.length = n) && ds.all isValD
  | _ => false
def spIsRow (K : PySem.W.Frag) : Sp := fun vs H Q _ => ∃ v d n, vs = [v, .int ((n : Nat) : Int)] ∧ Dp K H v d ∧ Q (.bl (isRowD n d)) H
theorem d_is_row (T : Txt K mg) : Dn P w K mg base CX0 3 "is_row" (spIsRow K) := by
  obtain ⟨fd, F⟩ := T.f_is_row
  have D_is_value := d_is_value (P := P) (w := w) (base := base) T
  refine dnN T.g_is_row F (fun _ _ _ _ _ _ us hl => match us, hl with | [_, _], _ => rfl) sc_is_row (fun vs H Q E h => ?_) (fun cdv A outer s H vs Q E hr h => ?_)
  · obtain ⟨v, d, n, rfl, _⟩ := h
    rfl
  · obtain ⟨v, d, n, rfl, hd, q⟩ := h
    refine ⟨_, PSs.nox (pss_cons (ps_if (PW.pt (pw_or (pt_not (pt_val (pe_callB call_isi (by rfl) T.z_isinstance (by decide +kernel) (pa_cons (pv 0) (pa_cons (pe_bltn (v := .ty "tuple") (by rfl) T.z_tuple (by decide +kernel) rfl) pa_nil))))) (pw_or1 (pt_cmpR op_ne (pe_callB call_len_seq (by rfl) T.z_len (by decide +kernel) (pa_cons (pv 0) pa_nil)) (pv 1) (nomark _))))) (pss_one (ps_ret pe_bl)) pss_nil)
      (pss_cons (ps_for PassesOwn.never rfl (pi_tup (pv 0)) (pg_name (i := 2) sc_is_row.nd rfl (.inl rfl))
      (pss_one (ps_if (pt_not (pt_val (cl D_is_value (hr.mono (by decide)) (pa_cons (pv 2) pa_nil)))) (pss_one (ps_ret pe_bl)) pss_nil)))
      (pss_one (ps_ret pe_bl)))), ?_⟩
    refine ⟨_, rfl, _, _, _, _, _, rfl, .ty _, Dp.ty hd, kit_d K .tup d, _, rfl, ?_⟩
    by_cases hk : ∃ ds, d = .tuple ds
    · obtain ⟨ds, rfl⟩ := hk
      cases hd with
      | tup ha hA =>
        rename_i a vs
        have lv : vs.length = ds.length := DpAll.length hA
        have e0 : isRowD n (.tuple ds) = (decide (ds.length = n) && ds.all isValD) := rfl
        rw [e0] at q
        refine iteF ?_
        refine ⟨_, rfl, _, _, rfl, .inr ha, _, rfl, rfl, _, rfl, ?_⟩
        rw [lv]
        by_cases c1 : ds.length = n
        · rw [decide_eq_true c1, Bool.true_and] at q
          refine if_neg_of (by rw [c1]; simp) ?_
          refine ⟨_, rfl, a, rfl, ⟨_, ha⟩, for_tup (K := K) (a := a) (xs := vs) (fun i σ H' => H' = H ∧ (∃ o, σ = [some (.ref a), some (.int ((n : Nat) : Int)), o]) ∧ (ds.take i).all isValD = true) ⟨rfl, ⟨none, rfl⟩, rfl⟩ (fun i σ H' _ h => ?_) ?_ ?_⟩
          · rw [h.1]
            exact ha
          · rintro i xv σ H' hg ⟨rfl, ⟨o, rfl⟩, al⟩
            obtain ⟨e, he, hdp⟩ := DpAll.get hA hg
            have mem := List.mem_of_getElem? he
            refine ⟨_, rfl, xv, .d e, rfl, hdp, _, rfl, ?_⟩
            show if _ = true then _ else _
            cases ht : isValD e with
            | false =>
              refine if_pos_of (by show (!isValD e) = true; rw [ht]; rfl) ?_
              have : ds.all isValD = false := by
                rw [Bool.eq_false_iff]
                intro z
                rw [List.all_eq_true.mp z e mem] at ht
                cases ht
              rw [this] at q
              exact q
            | true =>
              refine if_neg_of (by show (!isValD e) = false; rw [ht]; rfl) ⟨rfl, ⟨_, rfl⟩, ?_⟩
              rw [tk1 he, List.all_append, al]
              simp [ht]
          · rintro σ H' ⟨rfl, _, al⟩
            rw [lv, List.take_length] at al
            rw [al] at q
            exact q
        · rw [decide_eq_false c1, Bool.false_and] at q
          refine if_pos_of (by simp; omega) ?_
          exact q
    · have e2 : isTy .tup d = false := by
        cases d <;> first | rfl | exact absurd ⟨_, rfl⟩ hk
      rw [e2]
      refine iteT ?_
      have e3 : isRowD n d = false := by
        cases d <;> first | rfl | exact absurd ⟨_, rfl⟩ hk
      rw [e3] at q
      exact q
/-! Schema.keeps_rules -/
def rws (r : Rw) : Pl → Row
  | .first => some r
  | _ => none
def keepsR (as : List At) (r : Rw) : Bool := as.all fun a => decide (a.at (rws r) = some true)
theorem tm_fits {n : Nat} {r : Rw} (hl : r.length = n) {t : Tm} (h : t.fits (pn1 n) = true) : ∃ x, t.at (rws r) = some x := by
  cases t with
  | val a b => exact ⟨_, rfl⟩
  | cell p c =>
    have h : decide (c < pn1 n p) = true := h
    have h := of_decide_eq_true h
    cases p with
    | first => exact ⟨r[c]'(by rw [hl]; exact h), List.getElem?_eq_getElem (by rw [hl]; exact h)⟩
    | old => exact absurd h (Nat.not_lt_zero _)
    | second => exact absurd h (Nat.not_lt_zero _)
theorem fits_hold {n : Nat} {r : Rw} {as : List At} (hl : r.length = n) (h : as.all (At.fits (pn1 n)) = true) : holdO (rws r) as = some (keepsR as r) := hold_some fun a ha => by
  have := List.all_eq_true.mp h a ha
  unfold At.fits at this
  obtain ⟨h1, h2⟩ := Bool.and_eq_true_iff.mp this
  obtain ⟨x, hx⟩ := tm_fits hl h1
  obtain ⟨y, hy⟩ := tm_fits hl h2
  exact ⟨_, at_ss hx hy⟩
theorem rws3 {H : Hp} {v : V} {r : Rw} (h : Dp K H v (rwD r)) : Rows3 K H (fun p => match p with | .first => v | _ => .non) (rws r) := fun p => by
  cases p with
  | first => exact h
  | old => exact .non
  | second => exact .non
def spKeeps (K : PySem.W.Frag) : Sp := fun vs H Q _ => ∃ x dx dw dl rs z s v r, vs = [.ref x, .str z, v] ∧ ScAt K H x dx dw dl rs ∧ findS rs z = some s ∧ Dp K H v (rwD r) ∧ rowOk (some r) ∧ r.length = s.n ∧ s.as.all (At.fits (pn1 s.n)) = true ∧ s.as.length ≤ 1000 ∧
  ∀ H', Same H H' → Q (.bl (keepsR s.as r)) H'
theorem d_sc_keeps (T : Txt K mg) : FnR P w K mg base CX0 4 (ma K (ga K "Schema") "keeps_rules") (spKeeps K) := by
  obtain ⟨fd, F⟩ := T.f_Schema_keeps_rules
  have D_hold := d_hold (P := P) (w := w) (base := base) T
  refine fnN F (fun _ _ _ _ _ _ us hl => match us, hl with | [_, _, _], _ => rfl) sc_Schema_keeps_rules (fun vs H Q E h => ?_) (fun cdv A outer s H vs Q E hr h => ?_)
  · obtain ⟨x, dx, dw, dl, rs, z, s, v, r, rfl, _⟩ := h
    rfl
  · obtain ⟨x, dx, dw, dl, rs, z, sc, v, r, rfl, C, hf, hv, hok, hl, hfit, hln, hQ⟩ := h
    refine ⟨_, PSs.nox (pss_one (ps_ret (pe_methE (pe_dget (hu_of hr) (pe_fld (pv 0) rfl) (pv 1) (fun _ _ => rfl)) T.o_Conditions.cl T.h_Conditions_hold D_hold (hr.mono (by decide)) pxq (pa_cons pe_non (pa_cons (pv 2) (pa_cons pe_non pa_nil)))))), ?_⟩
    have hg := DGet.k (k := .inr z) C.hl
    rw [val_l, hf] at hg
    have Cs := C.hc sc (findS_mem hf).1
    have ho := fits_hold hl hfit
    refine ⟨_, rfl, _, _, _, _, _, rfl, C.hx, T.o_Schema.cl, T.n_Schema_limits, scF_limits, _, rfl, _, _, rfl, hg, ?_⟩
    refine ⟨_, _, _, rfl, Cs.hx, cdF_no (by decide +kernel), _, rfl, _, _, _, _, (fun p => match p with | .first => v | _ => .non), rws r, rfl, Cs, hln, rws3 hv, fun p l e => ?_, fun z => ?_, fun b e H' s' => ?_⟩
    · cases p with
      | first => exact hok l e
      | old => cases e
      | second => cases e
    · rw [ho] at z
      cases z
    · rw [ho] at e
      cases e
      exact hQ H' s'

end
end K10
namespace K10
open PySem PySem.Spec PyProof.Rows L2 He TL EL
section
variable {P : Program} {w : World} {K : PySem.W.Frag} {mg : Str → Option Value} {base : Heap}
/-! Tables: objects -/
abbrev aTb (K : PySem.W.Frag) : Addr := ga K "Tables"
def tbF (f p : Addr) : List (Str × V) := putF "places" (.ref p) (putF "form" (.ref f) [])
theorem tbF_form {f p : Addr} : (tbF f p).lookup ("form" : Str) = some (.ref f) := by
  unfold tbF
  rw [lookup_putF, if_neg (by decide +kernel), lookup_putF, if_pos rfl]
theorem tbF_places {f p : Addr} : (tbF f p).lookup ("places" : Str) = some (.ref p) := by
  unfold tbF
  rw [lookup_putF, if_pos rfl]
theorem tbF_no {f p : Addr} {m : Str} (h1 : m ≠ "form") (h2 : m ≠ "places") : (tbF f p).lookup m = none := by
  unfold tbF
  rw [lookup_putF, if_neg h2, lookup_putF, if_neg h1]
  rfl
/-- a table: its row of the schema, its dict, its rows -/
structure TbE where
  s : Sch
  d : Addr
  rs : List Rw
def plK (es : List TbE) : List (Key × V) := es.map fun e => (.inr e.s.nm, .ref e.d)
def findT (es : List TbE) (z : Str) : Option TbE := es.find? fun e => decide (e.s.nm = z)
theorem val_pl (es : List TbE) (z : Str) : valV (plK es) (.inr z) = (findT es z).map fun e => V.ref e.d := by
  induction es with
  | nil => rfl
  | cons s r ih =>
    by_cases e : s.s.nm = z
    · have h1 : valV (plK (s :: r)) (.inr z) = some (.ref s.d) := valV_pos (by show (Sum.inr s.s.nm : Key) = .inr z; rw [e])
      have h2 : findT (s :: r) z = some s := by unfold findT; rw [List.find?_cons]; simp [e]
      rw [h1, h2]
      rfl
    · have h1 : valV (plK (s :: r)) (.inr z) = valV (plK r) (.inr z) := valV_neg (fun h => e (Sum.inr.inj h))
      have h2 : findT (s :: r) z = findT r z := by unfold findT; rw [List.find?_cons]; simp [e]
      rw [h1, h2, ih]
theorem findS_T (es : List TbE) (z : Str) : findS (es.map TbE.s) z = (findT es z).map TbE.s := by
  induction es with
  | nil => rfl
  | cons s r ih =>
    unfold findS findT at ih ⊢
    rw [List.map_cons, List.find?_cons, List.find?_cons]
    cases decide (s.s.nm = z) with
    | true => rfl
    | false => exact ih
theorem findT_mem {es : List TbE} {z : Str} {e : TbE} (h : findT es z = some e) : e ∈ es ∧ e.s.nm = z := by
  refine ⟨List.mem_of_find?_eq_some h, ?_⟩
  have := List.find?_some h
  exact of_decide_eq_true this
/-- the addresses of a Tables object -/
structure Ta where
  x : Addr
  dx : Addr
  f : Addr
  df : Addr
  dw : Addr
  dl : Addr
  pl : Addr
structure TbAt (K : PySem.W.Frag) (H : Hp) (A : Ta) (es : List TbE) : Prop where
  hx : H A.x = some (.ins (aTb K) A.dx (tbF A.f A.pl))
  hf : ScAt K H A.f A.df A.dw A.dl (es.map TbE.s)
  hp : H A.pl = some (.dK (plK es))
  hd : ∀ e ∈ es, KD K H e.d (setR e.rs)
  nd : (es.map TbE.d).Nodup
  nn : (nmS (es.map TbE.s)).Nodup
  wp : A.dw ≠ A.pl
  lp : A.dl ≠ A.pl
  rn : ∀ e ∈ es, e.rs.Nodup
/-- the objects that it rests on -/
def Ta.all (A : Ta) (es : List TbE) : List Addr := A.x :: A.f :: A.dw :: A.dl :: A.pl :: es.flatMap fun e => [e.d, e.s.c, e.s.l]
theorem Ta.mem_d {A : Ta} {es : List TbE} {e : TbE} (h : e ∈ es) : e.d ∈ A.all es ∧ e.s.c ∈ A.all es ∧ e.s.l ∈ A.all es := by
  have g : ∀ a, a ∈ [e.d, e.s.c, e.s.l] → a ∈ A.all es := fun a ha => by
    unfold Ta.all
    simp only [List.mem_cons]
    exact .inr (.inr (.inr (.inr (.inr (List.mem_flatMap.mpr ⟨e, h, ha⟩)))))
  exact ⟨g _ (by simp), g _ (by simp), g _ (by simp)⟩
theorem TbAt.md {H H' : Hp} {A : Ta} {es : List TbE} {S : List Addr} (h : TbAt K H A es) (m : Md S H H') (n : ∀ a ∈ A.all es, a ∉ S) : TbAt K H' A es := by
  refine ⟨m.out _ _ h.hx (n _ (by simp [Ta.all])), h.hf.md m (n _ (by simp [Ta.all])) (n _ (by simp [Ta.all])) (n _ (by simp [Ta.all])) (fun s hs => ?_), m.out _ _ h.hp (n _ (by simp [Ta.all])), fun e he => (h.hd e he).md m (n _ (Ta.mem_d he).1), h.nd, h.nn, h.wp, h.lp, h.rn⟩
  obtain ⟨e, he, rfl⟩ := List.mem_map.mp hs
  exact ⟨n _ (Ta.mem_d he).2.1, n _ (Ta.mem_d he).2.2⟩
theorem TbAt.same {H H' : Hp} {A : Ta} {es : List TbE} (h : TbAt K H A es) (s : Same H H') : TbAt K H' A es := h.md (S := []) (.of s) (fun _ _ => by simp)
/-- what it rests on stands -/
theorem TbAt.al {H : Hp} {A : Ta} {es : List TbE} (h : TbAt K H A es) : ∀ a ∈ A.all es, ∃ o, H a = some o := fun a ha => by
  unfold Ta.all at ha
  simp only [List.mem_cons] at ha
  rcases ha with rfl | rfl | rfl | rfl | rfl | ha
  · exact ⟨_, h.hx⟩
  · exact ⟨_, h.hf.hx⟩
  · exact ⟨_, h.hf.hw⟩
  · exact ⟨_, h.hf.hl⟩
  · exact ⟨_, h.hp⟩
  · obtain ⟨e, he, ha⟩ := List.mem_flatMap.mp ha
    have C := h.hf.hc e.s (List.mem_map_of_mem he)
    simp only [List.mem_cons, List.not_mem_nil, or_false] at ha
    rcases ha with rfl | rfl | rfl
    · obtain ⟨xs, z, _⟩ := h.hd e he
      exact ⟨_, z⟩
    · exact ⟨_, C.hx⟩
    · obtain ⟨vs, z, _⟩ := C.hl
      exact ⟨_, z⟩
/-- what is of the object's own: new at its making -/
structure TbNew (H : Hp) (A : Ta) : Prop where
  f : H A.f = none
  dw : H A.dw = none
  dl : H A.dl = none
  wl : A.dw ≠ A.dl
theorem ins_ne {H : Hp} {x y C C' d d' : Addr} {fs fs' : List (Str × V)} {n : Str} {v : V} (h : H x = some (.ins C d fs)) (h' : H y = some (.ins C' d' fs')) (e1 : fs.lookup n = some v) (e2 : fs'.lookup n = none) : x ≠ y := fun z => by
  rw [z, h'] at h
  injection h with h
  injection h with _ _ h
  rw [h, e1] at e2
  cases e2
theorem nin1 {a b : Addr} (h : a ≠ b) : a ∉ [b] := by simp [h]
theorem take_nm {rs : List Sch} (nd : (nmS rs).Nodup) {i : Nat} {s : Sch} (h : rs[i]? = some s) : ∀ t ∈ rs.take i, t.nm ≠ s.nm := fun t ht e => by
  obtain ⟨j, hj, hjt⟩ := List.getElem_of_mem ht
  rw [List.length_take] at hj
  have h1 : rs[j]? = some t := by
    rw [List.getElem_take] at hjt
    rw [List.getElem?_eq_getElem (by omega), hjt]
  have g1 : (nmS rs)[j]? = some t.nm := by unfold nmS; rw [List.getElem?_map, h1]; rfl
  have g2 : (nmS rs)[i]? = some s.nm := by unfold nmS; rw [List.getElem?_map, h]; rfl
  have hlt : j < (nmS rs).length := by unfold nmS; rw [List.length_map]; omega
  have : j = i := (List.getElem?_inj hlt nd).mp (g1.trans ((congrArg some e).trans g2.symm))
  omega
theorem findS_take {rs : List Sch} (nd : (nmS rs).Nodup) {i : Nat} {s : Sch} (h : rs[i]? = some s) : findS (rs.take i) s.nm = none := by
  unfold findS
  rw [List.find?_eq_none]
  intro t ht
  rw [decide_eq_true_eq]
  exact take_nm nd h t ht
theorem findT_take {es : List TbE} {rs : List Sch} {i : Nat} (he : es.map TbE.s = rs.take i) (nd : (nmS rs).Nodup) {s : Sch} (h : rs[i]? = some s) : findT es s.nm = none := by
  have := findS_T es s.nm
  rw [he, findS_take nd h] at this
  cases q : findT es s.nm with
  | none => rfl
  | some e => rw [q] at this; cases this
theorem plK_snoc {es : List TbE} {s : Sch} {p : Addr} {l : List Rw} (h : findT es s.nm = none) : putK (plK es) (.inr s.nm) (.ref p) = plK (es ++ [⟨s, p, l⟩]) := by
  rw [putK_new _ (by rw [val_pl, h]; rfl)]
  unfold plK
  rw [List.map_append]
  rfl
theorem nodup_snoc {L : List Addr} {a : Addr} (h : L.Nodup) (n : a ∉ L) : (L ++ [a]).Nodup :=
  List.nodup_append.mpr ⟨h, by simp, fun x hx y hy z => n (by rw [List.mem_singleton.mp hy] at z; exact z ▸ hx)⟩
/-! Tables.__init__ -/
def spTb (K : PySem.W.Frag) : Sp := fun vs H Q _ => ∃ x dx sx sdx sdw sdl rs vp, vs = [.ref x, .ref sx, vp] ∧ H x = some (.ins (aTb K) dx []) ∧ ScAt K H sx sdx sdw sdl rs ∧ (nmS rs).Nodup ∧ rs.length ≤ 1000 ∧
  ((vp = .non ∧ ∀ A es H', A.x = x → A.dx = dx → Md [x] H H' → TbNew H A → H A.pl = none → es.map TbE.s = rs → (∀ e ∈ es, e.rs = [] ∧ H e.d = none) → TbAt K H' A es → Q .non H') ∨
   ∃ pl es, vp = .ref pl ∧ H pl = some (.dK (plK es)) ∧ es.map TbE.s = rs ∧ (∀ e ∈ es, KD K H e.d (setR e.rs)) ∧ (es.map TbE.d).Nodup ∧ (∀ e ∈ es, e.rs.Nodup) ∧ ∀ A H', A.x = x → A.dx = dx → A.pl = pl → Md [x] H H' → TbNew H A → TbAt K H' A es → Q .non H')
theorem ok_tb (T : Txt K mg) : ∃ fd, FunD K "__init__" "Tables.__init__" (defArgs s_Tables___init__) (defBody s_Tables___init__) (defScope s_Tables___init__) ([.non] : List V) [] (ma K (ga K "Tables") "__init__") fd ∧
    FnOk P w K mg base CX0 4 (ma K (ga K "Tables") "__init__") fd ["self", "schema", "places"] (spTb K) := by
  obtain ⟨fd, F⟩ := T.f_Tables___init__
  have D_twin := d_sc_twin (P := P) (w := w) (base := base) T
  have D_names := d_sc_names (P := P) (w := w) (base := base) T
  refine ⟨fd, F, F.ok sc_Tables___init__ (fun vs H Q E h => ?_) (fun cdv A outer s H vs Q E hr h => ?_)⟩
  · obtain ⟨x, dx, sx, sdx, sdw, sdl, rs, vp, rfl, _⟩ := h
    rfl
  · obtain ⟨x, dx, sx, sdx, sdw, sdl, rs, vp, rfl, hx, hs, hnd, hln, h⟩ := h
    refine ⟨_, PSs.nox (pss_cons (ps_fld (pv 0) (pe_methE0 (pv 1) T.o_Schema.cl T.h_Schema_twin D_twin (hr.mono (by decide)) px0) rfl)
      (pss_one (ps_fld (pv 0) (pe_ifExp (pt_cmpR op_isN (pv 2) pe_non (nomark _)) (pe_dcG (own := [("name", 3)]) (tt := tYes) NilD.k hr.units0 (by rfl) sc_Tables___init__.nd (pi_list (pe_methE0 (pe_fld (pv 0) rfl) T.o_Schema.cl T.h_Schema_names D_names (hr.mono (by decide)) px0)) (blkOk_by (own := [("name", 3)]) (N := ["self", "schema", "places", "name"]) (sc := defScope s_Tables___init__) (by decide +kernel)) (fun _ _ _ _ _ => (pg_name (i := 3) sc_Tables___init__.nd rfl (.inl rfl))) (fun _ _ _ _ _ => pts_nil) (fun _ _ _ _ _ => (pv 3)) (fun _ _ _ _ _ => pe_dnewN)) (pv 2)) rfl))), ?_⟩
    refine ⟨_, rfl, _, _, _, rfl, hs.hx, scF_no (by decide +kernel) (by decide +kernel), _, _, _, _, _, rfl, hs, fun f df dw dl H1 s1 nf nw nl hwl C1 => ?_⟩
    have nxf : f ≠ x := fun z => by rw [z, hx] at nf; cases nf
    refine ⟨_, rfl, _, _, _, _, rfl, s1 _ _ hx, T.o_Tables.cl, T.n_Tables_form, (by decide), ?_⟩
    generalize eH2 : upd H1 x (.ins (aTb K) dx (putF "form" (.ref f) [])) = H2
    have m2 : Md [x] H1 H2 := eH2 ▸ Md.upd (s1 _ _ hx) rfl (by simp)
    have x2 : H2 x = some (.ins (aTb K) dx (putF "form" (.ref f) [])) := eH2 ▸ upd_same
    have m02 : Md [x] H H2 := (Md.of s1).trans m2
    have ne1 : ∀ {a : Addr} {o : HO}, H1 a = some o → H1 x ≠ some o → a ≠ x := fun {a o} h n z => n (z ▸ h)
    have hx1 := s1 _ _ hx
    have C2 : ScAt K H2 f df dw dl rs := by
      refine C1.md m2 (nin1 nxf) (nin1 (ne_of C1.hw hx1 (by intro z; cases z))) (nin1 (ne_of C1.hl hx1 (by intro z; cases z))) fun s hs => ?_
      have Cs := C1.hc s hs
      obtain ⟨vs, el, _⟩ := Cs.hl
      exact ⟨nin1 (ins_ne Cs.hx hx1 cdF_at rfl), nin1 (ne_of el hx1 (by intro z; cases z))⟩
    have new : ∀ {a : Addr}, a ≠ x → H2 a = none → H a = none := fun {a} hne h => by
      cases q : H a with
      | none => rfl
      | some o => rw [m02.out _ _ q (by simp; exact hne)] at h; cases h
    -- the end
    have fin : ∀ (pl : Addr) (es : List TbE) (H3 : Hp), Same H2 H3 → es.map TbE.s = rs → H3 pl = some (.dK (plK es)) → (∀ e ∈ es, KD K H3 e.d (setR e.rs)) → (es.map TbE.d).Nodup → (∀ e ∈ es, e.rs.Nodup) → dw ≠ pl → dl ≠ pl →
        ∃ m : Md [x] H (upd H3 x (.ins (aTb K) dx (putF "places" (.ref pl) (putF "form" (.ref f) [])))), TbAt K (upd H3 x (.ins (aTb K) dx (putF "places" (.ref pl) (putF "form" (.ref f) [])))) ⟨x, dx, f, df, dw, dl, pl⟩ es := fun pl es H3 s3 he hp hd nd rn wp lp => by
      have m4 : Md [x] H3 (upd H3 x (.ins (aTb K) dx (putF "places" (.ref pl) (putF "form" (.ref f) [])))) := Md.upd (s3 _ _ x2) rfl (by simp)
      have C3 := C2.same s3
      have hx3 := s3 _ _ x2
      refine ⟨m02.trans ((Md.of s3).trans m4), upd_same, ?_, m4.out _ _ hp (by simp; exact ne_of hp hx3 (by intro z; cases z)), fun e he => (hd e he).md m4 ?_, nd, by rw [he]; exact hnd, wp, lp, rn⟩
      · rw [he]
        refine C3.md m4 (nin1 nxf) (nin1 (ne_of C3.hw hx3 (by intro z; cases z))) (nin1 (ne_of C3.hl hx3 (by intro z; cases z))) fun s hs => ?_
        have Cs := C3.hc s hs
        obtain ⟨vs, el, _⟩ := Cs.hl
        exact ⟨nin1 (ins_ne Cs.hx hx3 cdF_at (by rw [lookup_putF, if_neg (by decide +kernel)]; rfl)), nin1 (ne_of el hx3 (by intro z; cases z))⟩
      · obtain ⟨xs, e, _⟩ := hd e he
        exact nin1 (ne_of e hx3 (by intro z; cases z))
    rcases h with ⟨rfl, hQ⟩ | ⟨pl, es, rfl, hp, he, hd, nd, rn, hQ⟩
    · refine ⟨_, rfl, rfl, _, rfl, iteT ?_⟩
      refine ⟨_, rfl, _, _, _, _, _, rfl, x2, T.o_Tables.cl, T.n_Tables_form, rfl, _, _, _, rfl, C2.hx, scF_no (by decide +kernel) (by decide +kernel), _, _, _, _, _, rfl, C2, fun q H3 nq s3 e3 => ?_⟩
      refine ⟨_, rfl, ⟨_, SqL.of e3⟩, fun D nD => ?_⟩
      have nDq : q ≠ D := fun z => by rw [← z, e3] at nD; cases nD
      have sD : Same H3 (upd H3 D (.dK [])) := same_upd nD
      refine dcG_it (walk_list (xs := rs.map fun s => V.str s.nm)) (fun i H' => ∃ es : List TbE, es.map TbE.s = rs.take i ∧ (∀ e ∈ es, e.rs = [] ∧ H2 e.d = none ∧ KD K H' e.d []) ∧ (es.map TbE.d).Nodup ∧ H' D = some (.dK (plK es)) ∧ Md [D] (upd H3 D (.dK [])) H')
        ⟨[], rfl, (fun e he => by cases he), by simp, upd_same, .refl _ _⟩ (fun i H' _ ⟨_, _, _, _, _, m⟩ => SqL.of (m.out _ _ (sD _ _ e3) (nin1 nDq))) ?_ ?_
      · rintro i xv H' H'' hi ⟨es, he, hk, nd, eD, m⟩ ⟨rfl, hx'⟩
        obtain ⟨s, hs', rfl⟩ := getM hx'
        have sH : Same H2 H'' := s3.trans (Md.newM (S := []) m (Md.of sD) nD).same
        refine ⟨rfl, tYes_of ?_⟩
        refine ⟨_, rfl, fun p np => ?_⟩
        generalize eH5 : upd H'' p _ = H5
        have s5 : Same H'' H5 := eH5 ▸ same_upd np
        have e5 : H5 p = some _ := eH5 ▸ upd_same
        have nDp : p ≠ D := fun z => by rw [z, eD] at np; cases np
        have hln' : (plK es).length ≤ 1000 := by
          have := congrArg List.length he
          rw [List.length_map, List.length_take] at this
          unfold plK
          rw [List.length_map]
          omega
        have hf : findT es s.nm = none := findT_take he hnd hs'
        refine ⟨_, DPut.k (k := .inr s.nm) (s5 _ _ eD) (Nat.lt_of_le_of_lt hln' (by decide)), es ++ [⟨s, p, []⟩], ?_, ?_, ?_, ?_, ?_⟩
        · rw [List.map_append, he, tk1 hs']
          rfl
        · have mu : Md [D] H5 (upd H5 D (.dK (putK (plK es) (.inr s.nm) (.ref p)))) := Md.upd (s5 _ _ eD) rfl (by simp)
          intro e hm
          rcases List.mem_append.mp hm with hm | hm
          · obtain ⟨h1, h2, h3⟩ := hk e hm
            obtain ⟨xs, ex, rx⟩ := h3
            have nd' : e.d ≠ D := ne_of ex eD (by intro z; cases z)
            exact ⟨h1, h2, (KD.md ⟨xs, ex, rx⟩ (Md.of (S := []) s5) (by simp)).md mu (nin1 nd')⟩
          · cases List.mem_singleton.mp hm
            exact ⟨rfl, sH.free np, (KD.new e5).md mu (nin1 nDp)⟩
        · rw [List.map_append]
          refine nodup_snoc nd fun z => ?_
          obtain ⟨e, hm, ee⟩ := List.mem_map.mp z
          obtain ⟨_, _, xs, ex, _⟩ := hk e hm
          rw [ee, np] at ex
          cases ex
        · rw [plK_snoc (l := []) hf]
          exact upd_same
        · exact m.trans ((Md.of s5).trans (Md.upd (s5 _ _ eD) rfl (by simp)))
      · rintro H' ⟨es, he, hk, nd, eD, m⟩
        rw [List.length_map, List.take_length] at he
        have sH : Same H2 H' := s3.trans (Md.newM (S := []) m (Md.of sD) nD).same
        refine ⟨_, rfl, _, _, _, _, rfl, sH _ _ x2, T.o_Tables.cl, T.n_Tables_places, (by show 1 < 1000; decide), ?_⟩
        obtain ⟨m', B⟩ := fin D es H' sH he eD (fun e hm => by obtain ⟨h1, _, h3⟩ := hk e hm; rw [h1]; exact h3) nd (fun e hm => by rw [(hk e hm).1]; exact List.nodup_nil) (fun z => by rw [← z, s3 _ _ C2.hw] at nD; cases nD) (fun z => by rw [← z, s3 _ _ C2.hl] at nD; cases nD)
        have nx' : ∀ {a : Addr}, H2 a = none → H a = none := fun {a} z => new (fun y => by rw [y, x2] at z; cases z) z
        exact hQ _ es _ rfl rfl m' ⟨nf, nw, nl, hwl⟩ (nx' (s3.free nD)) he (fun e hm => ⟨(hk e hm).1, nx' (hk e hm).2.1⟩) B
    · refine ⟨_, rfl, rfl, _, rfl, iteF ?_⟩
      refine ⟨_, rfl, _, rfl, _, _, _, _, rfl, x2, T.o_Tables.cl, T.n_Tables_places, (by show 1 < 1000; decide), ?_⟩
      obtain ⟨m', B⟩ := fin pl es H2 (.refl _) he (m02.out _ _ hp (nin1 (ne_of hp hx (by intro z; cases z)))) (fun e hm => (hd e hm).md m02 (nin1 (by obtain ⟨xs, ex, _⟩ := hd e hm; exact ne_of ex hx (by intro z; cases z)))) nd rn (fun z => by rw [z, hp] at nw; cases nw) (fun z => by rw [z, hp] at nl; cases nl)
      exact hQ _ _ rfl rfl rfl m' ⟨nf, nw, nl, hwl⟩ B

end
end K10
namespace K10
open PySem PySem.Spec PyProof.Rows L2 He TL EL
section
variable {P : Program} {w : World} {K : PySem.W.Frag} {mg : Str → Option Value} {base : Heap}
/-! Tables(..), names, must_know, __getitem__ -/
theorem d_tb2 (T : Txt K mg) : FnR P w K mg base CX0 4 (ma K (ga K "Tables") "__init__") (spTb K) := by
  obtain ⟨fd, F, ok⟩ := ok_tb (P := P) (w := w) (base := base) T
  have := fnD F ok 3 1 (by simp) rfl (fun _ _ _ _ _ _ _ us its h1 h2 => match us, its, h1, h2 with | [_, _, _], [_], _, _ => ⟨_, rfl, rfl⟩)
  exact this.imp fun vs H Q E h => by
    rw [show ([.non] : List V).drop 1 = [] from rfl, List.append_nil]
    exact h
theorem d_tb1 (T : Txt K mg) : FnR P w K mg base CX0 4 (ma K (ga K "Tables") "__init__") (fun vs H Q E => spTb K (vs ++ [.non]) H Q E) := by
  obtain ⟨fd, F, ok⟩ := ok_tb (P := P) (w := w) (base := base) T
  exact fnD F ok 2 0 (by simp) rfl (fun _ _ _ _ _ _ _ us its h1 h2 => match us, its, h1, h2 with | [_, _], [_], _, _ => ⟨_, rfl, rfl⟩)
theorem mkTb1 {H : Hp} {sx sdx sdw sdl : Addr} {rs : List Sch} {Q : Addr → Hp → Prop} {E : XK} (hs : ScAt K H sx sdx sdw sdl rs) (nd : (nmS rs).Nodup) (ln : rs.length ≤ 1000)
    (hQ : ∀ A es H', Same H H' → H A.x = none → TbNew H A → H A.pl = none → es.map TbE.s = rs → (∀ e ∈ es, e.rs = [] ∧ H e.d = none) → TbAt K H' A es → Q A.x H') :
    ∀ x dx, H x = none → H dx = none → dx ≠ x → spTb K [.ref x, .ref sx, .non] (upd (upd H dx (.own x)) x (.ins (aTb K) dx [])) (fun v H2 => v = .non ∧ Q x H2) E := by
  intro x dx nx ndx hne
  generalize eH1 : upd (upd H dx _) x _ = H1
  have s1 : Same H H1 := eH1 ▸ (same_upd ndx).trans (same_upd (by rw [upd_ne (Ne.symm hne)]; exact nx))
  have x1 : H1 x = some (.ins (aTb K) dx []) := eH1 ▸ upd_same
  refine ⟨x, dx, sx, sdx, sdw, sdl, rs, .non, rfl, x1, hs.same s1, nd, ln, .inl ⟨rfl, fun A es H' ex edx m hn np he hk B => ⟨rfl, ?_⟩⟩⟩
  have sH : Same H H' := fun b o hb => m.out _ _ (s1 _ _ hb) (by simp; exact ne_of_none hb nx)
  have := hQ A es H' sH (by rw [ex]; exact nx) ⟨s1.free hn.f, s1.free hn.dw, s1.free hn.dl, hn.wl⟩ (s1.free np) he (fun e h => ⟨(hk e h).1, s1.free (hk e h).2⟩) B
  rw [ex] at this
  exact this
theorem mkTb2 {H : Hp} {sx sdx sdw sdl pl : Addr} {rs : List Sch} {es : List TbE} {Q : Addr → Hp → Prop} {E : XK} (hs : ScAt K H sx sdx sdw sdl rs) (nd : (nmS rs).Nodup) (ln : rs.length ≤ 1000) (hp : H pl = some (.dK (plK es))) (he : es.map TbE.s = rs) (hd : ∀ e ∈ es, KD K H e.d (setR e.rs)) (dn : (es.map TbE.d).Nodup) (rn : ∀ e ∈ es, e.rs.Nodup)
    (hQ : ∀ A H', Same H H' → H A.x = none → A.pl = pl → TbNew H A → TbAt K H' A es → Q A.x H') :
    ∀ x dx, H x = none → H dx = none → dx ≠ x → spTb K [.ref x, .ref sx, .ref pl] (upd (upd H dx (.own x)) x (.ins (aTb K) dx [])) (fun v H2 => v = .non ∧ Q x H2) E := by
  intro x dx nx ndx hne
  generalize eH1 : upd (upd H dx _) x _ = H1
  have s1 : Same H H1 := eH1 ▸ (same_upd ndx).trans (same_upd (by rw [upd_ne (Ne.symm hne)]; exact nx))
  have x1 : H1 x = some (.ins (aTb K) dx []) := eH1 ▸ upd_same
  refine ⟨x, dx, sx, sdx, sdw, sdl, rs, .ref pl, rfl, x1, hs.same s1, nd, ln, .inr ⟨pl, es, rfl, s1 _ _ hp, he, fun e h => (hd e h).md (Md.of (S := []) s1) (by simp), dn, rn, fun A H' ex edx ep m hn B => ⟨rfl, ?_⟩⟩⟩
  have sH : Same H H' := fun b o hb => m.out _ _ (s1 _ _ hb) (by simp; exact ne_of_none hb nx)
  have := hQ A H' sH (by rw [ex]; exact nx) ep ⟨s1.free hn.f, s1.free hn.dw, s1.free hn.dl, hn.wl⟩ B
  rw [ex] at this
  exact this
def spTbNames (K : PySem.W.Frag) : Sp := fun vs H Q _ => ∃ A es, vs = [.ref A.x] ∧ TbAt K H A es ∧ ∀ p H', H p = none → Same H H' → H' p = some (.lst (es.map fun e => V.str e.s.nm)) → Q (.ref p) H'
theorem d_tb_names (T : Txt K mg) : FnR P w K mg base CX0 1 (ma K (ga K "Tables") "names") (spTbNames K) := by
  obtain ⟨fd, F⟩ := T.f_Tables_names
  refine fnN F (fun _ _ _ _ _ _ us hl => match us, hl with | [_], _ => rfl) sc_Tables_names (fun vs H Q E h => ?_) (fun cdv A outer s H vs Q E hr h => ?_)
  · obtain ⟨A, es, rfl, _⟩ := h
    rfl
  · obtain ⟨A, es, rfl, B, hQ⟩ := h
    refine ⟨_, PSs.nox (pss_one (ps_ret (pe_callTy (call_list_dK rfl) (by rfl) T.z_list (by decide +kernel) (pa_cons (pe_fld (pv 0) rfl) pa_nil)))), ?_⟩
    refine ⟨_, rfl, _, _, _, _, _, rfl, B.hx, T.o_Tables.cl, T.n_Tables_places, tbF_places, _, _, rfl, B.hp, fun p np => ?_⟩
    have e : (plK es).map (fun kv => kV kv.1) = es.map fun e => V.str e.s.nm := by
      unfold plK
      rw [List.map_map]
      rfl
    rw [e]
    generalize eH1 : upd H p _ = H1
    have s1 : Same H H1 := eH1 ▸ same_upd np
    have e1 : H1 p = some _ := eH1 ▸ upd_same
    exact hQ p H1 np s1 e1
def inT (es : List TbE) : PyData → Bool
  | .str z => (findT es z).isSome
  | _ => false
def spMust (K : PySem.W.Frag) : Sp := fun vs H Q E => ∃ A es v d, vs = [.ref A.x, v] ∧ TbAt K H A es ∧ Dp K H v d ∧ (inT es d = false → ∀ dd H', Same H H' → H' dd = some (xName v) → E (.ref (ga K "NoTable")) (some dd) H') ∧ (inT es d = true → Q .non H)
theorem d_tb_must (hP : PF P "/claim/cut.py") (T : Txt K mg) : FnR P w K mg base (L2.CX P w) 1 (ma K (ga K "Tables") "must_know") (spMust K) := by
  obtain ⟨fd, F⟩ := T.f_Tables_must_know
  refine fnN F (fun _ _ _ _ _ _ us hl => match us, hl with | [_, _], _ => rfl) sc_Tables_must_know (fun vs H Q E h => ?_) (fun cdv A outer s H vs Q E hr h => ?_)
  · obtain ⟨A, es, v, d, rfl, _⟩ := h
    rfl
  · obtain ⟨A, es, v, d, rfl, B, hd, hE, hQ⟩ := h
    refine ⟨_, (pss_one (ps_if (PW.pt (pw_or (pt_not (pt_val (pe_callB call_isi (by rfl) T.z_isinstance (by decide +kernel) (pa_cons (pv 1) (pa_cons (pe_bltn (v := .ty "str") (by rfl) T.z_str (by decide +kernel) rfl) pa_nil))))) (pw_or1 (pt_cmp (pc_dnotin (hu_of hr) (pv 1) (pe_fld (pv 0) rfl)))))) (pss_one (rsx (by rfl) (takes_of rfl rfl rfl rfl) hP T.y_NoTable.1 hr (pa_cons (pv 1) pa_nil))) pss_nil)), ?_⟩
    refine ⟨_, rfl, _, _, _, _, _, rfl, .ty _, Dp.ty hd, kit_d K .str d, _, rfl, ?_⟩
    by_cases w0 : ∃ z, d = .str z
    · obtain ⟨z, rfl⟩ := w0
      cases hd
      refine iteF ?_
      have hg := DGet.k (k := .inr z) B.hp
      rw [val_pl] at hg
      refine ⟨_, rfl, _, rfl, _, _, _, _, _, rfl, B.hx, T.o_Tables.cl, T.n_Tables_places, tbF_places, _, _, rfl, hg, _, rfl, ?_⟩
      cases hf : findT es z with
      | none =>
        refine iteT ?_
        exact ⟨_, rfl, _, rfl, fun dd nd => hE (by show (findT es z).isSome = false; rw [hf]; rfl) dd _ (same_upd nd) upd_same⟩
      | some s =>
        refine iteF ?_
        exact hQ (by show (findT es z).isSome = true; rw [hf]; rfl)
    · have e2 : isTy .str d = false := by
        cases d <;> first | rfl | exact absurd ⟨_, rfl⟩ w0
      rw [e2]
      refine iteT ?_
      exact ⟨_, rfl, _, rfl, fun dd nd => hE (by cases d <;> first | rfl | exact absurd ⟨_, rfl⟩ w0) dd _ (same_upd nd) upd_same⟩
def spGetT (K : PySem.W.Frag) : Sp := fun vs H Q E => ∃ A es v d, vs = [.ref A.x, v] ∧ TbAt K H A es ∧ Dp K H v d ∧ (inT es d = false → ∀ dd H', Same H H' → H' dd = some (xName v) → E (.ref (ga K "NoTable")) (some dd) H') ∧
  ∀ z e, d = .str z → findT es z = some e → ∀ p us H', H p = none → Same H H' → H' p = some (.lst us) → DpAll K H' us (e.rs.map rwD) → Q (.ref p) H'
theorem d_tb_get (hP : PF P "/claim/cut.py") (T : Txt K mg) : FnR P w K mg base (L2.CX P w) 1 (ma K (ga K "Tables") "__getitem__") (spGetT K) := by
  obtain ⟨fd, F⟩ := T.f_Tables___getitem__
  refine fnN F (fun _ _ _ _ _ _ us hl => match us, hl with | [_, _], _ => rfl) sc_Tables___getitem__ (fun vs H Q E h => ?_) (fun cdv A outer s H vs Q E hr h => ?_)
  · obtain ⟨A, es, v, d, rfl, _⟩ := h
    rfl
  · obtain ⟨A, es, v, d, rfl, B, hd, hE, hQ⟩ := h
    refine ⟨_, (pss_cons (ps_if (PW.pt (pw_or (pt_not (pt_val (pe_callB call_isi (by rfl) T.z_isinstance (by decide +kernel) (pa_cons (pv 1) (pa_cons (pe_bltn (v := .ty "str") (by rfl) T.z_str (by decide +kernel) rfl) pa_nil))))) (pw_or1 (pt_cmp (pc_dnotin (hu_of hr) (pv 1) (pe_fld (pv 0) rfl)))))) (pss_one (rsx (by rfl) (takes_of rfl rfl rfl rfl) hP T.y_NoTable.1 hr (pa_cons (pv 1) pa_nil))) pss_nil)
      (pss_one (ps_ret (pe_callTy (call_list_dN rfl) (by rfl) T.z_list (by decide +kernel) (pa_cons (pe_dget (hu_of hr) (pe_fld (pv 0) rfl) (pv 1) (fun _ _ => rfl)) pa_nil))))), ?_⟩
    refine ⟨_, rfl, _, _, _, _, _, rfl, .ty _, Dp.ty hd, kit_d K .str d, _, rfl, ?_⟩
    by_cases w0 : ∃ z, d = .str z
    · obtain ⟨z, rfl⟩ := w0
      cases hd
      refine iteF ?_
      have hg := DGet.k (k := .inr z) B.hp
      rw [val_pl] at hg
      refine ⟨_, rfl, _, rfl, _, _, _, _, _, rfl, B.hx, T.o_Tables.cl, T.n_Tables_places, tbF_places, _, _, rfl, hg, _, rfl, ?_⟩
      cases hf : findT es z with
      | none =>
        refine iteT ?_
        exact ⟨_, rfl, _, rfl, fun dd nd => hE (by show (findT es z).isSome = false; rw [hf]; rfl) dd _ (same_upd nd) upd_same⟩
      | some e =>
        rw [hf] at hg
        refine iteF ?_
        obtain ⟨xs, ex, rx⟩ := B.hd e (findT_mem hf).1
        refine ⟨_, rfl, _, _, _, _, _, rfl, B.hx, T.o_Tables.cl, T.n_Tables_places, tbF_places, _, rfl, _, _, rfl, hg, _, _, rfl, ex, fun p np => ?_⟩
        generalize eH1 : upd H p _ = H1
        have s1 : Same H H1 := eH1 ▸ same_upd np
        have e1 : H1 p = some _ := eH1 ▸ upd_same
        refine hQ z e rfl hf p _ H1 np s1 e1 ?_
        have := (rx.md (Md.of (S := []) s1)).dps
        unfold setR at this
        rw [List.map_map] at this
        exact this
    · have e2 : isTy .str d = false := by
        cases d <;> first | rfl | exact absurd ⟨_, rfl⟩ w0
      rw [e2]
      refine iteT ?_
      exact ⟨_, rfl, _, rfl, fun dd nd => hE (by cases d <;> first | rfl | exact absurd ⟨_, rfl⟩ w0) dd _ (same_upd nd) upd_same⟩

end
end K10
namespace K10
open PySem PySem.Spec PyProof.Rows L2 He TL EL
section
variable {P : Program} {w : World} {K : PySem.W.Frag} {mg : Str → Option Value} {base : Heap}
/-! Tables.look, put, has -/
def vOf : PyData → Int × Int
  | .tuple [.int a, .int b] => (a, b)
  | _ => (0, 1)
def rowOf : PyData → Rw
  | .tuple ds => ds.map vOf
  | _ => []
theorem rowOf_rwD (r : Rw) : rowOf (rwD r) = r := by
  show (r.map vpD).map vOf = r
  rw [List.map_map]
  have : ∀ l : Rw, l.map (vOf ∘ vpD) = l := fun l => by
    induction l with
    | nil => rfl
    | cons x t ih => rw [List.map_cons, ih]; rfl
  exact this r
theorem isVal_vp {d : PyData} (h : isValD d = true) : d = vpD (vOf d) := by
  unfold isValD at h
  split at h
  · rfl
  · cases h
theorem isRowD_eq {n : Nat} {d : PyData} (h : isRowD n d = true) : d = rwD (rowOf d) ∧ (rowOf d).length = n := by
  unfold isRowD at h
  split at h
  · rename_i ds
    obtain ⟨h1a, h2⟩ := Bool.and_eq_true_iff.mp h
    have h1 := of_decide_eq_true h1a
    refine ⟨?_, by show (ds.map vOf).length = n; rw [List.length_map]; exact h1⟩
    show PyData.tuple ds = .tuple ((ds.map vOf).map vpD)
    congr 1
    rw [List.map_map]
    clear h h1 h1a
    induction ds with
    | nil => rfl
    | cons x t ih =>
      rw [List.all_cons] at h2
      obtain ⟨a, b⟩ := Bool.and_eq_true_iff.mp h2
      rw [List.map_cons, ← ih b]
      congr 1
      exact isVal_vp a
  · cases h
/-- why a thing is no row of a table: false: no row, true: against a rule -/
def lookD (s : Sch) (d : PyData) : Option Bool := if isRowD s.n d = true then (if keepsR s.as (rowOf d) = true then none else some true) else some false
structure SchOk (s : Sch) : Prop where
  fit : s.as.all (At.fits (pn1 s.n)) = true
  len : s.as.length ≤ 400
def rowV (s : Sch) (d : PyData) : Prop := isRowD s.n d = true → rowOk (some (rowOf d))
def xErr : Bool → Str
  | true => "BadRow"
  | false => "NoRow"
abbrev xIdx (i : Int) : HO := .xd [("index", .int i)]
def spLook (K : PySem.W.Frag) : Sp := fun vs H Q E => ∃ A es z e v d i, vs = [.ref A.x, .str z, v, .int i] ∧ TbAt K H A es ∧ findT es z = some e ∧ SchOk e.s ∧ Dp K H v d ∧ rowV e.s d ∧
  (∀ b, lookD e.s d = some b → ∀ dd H', Same H H' → H' dd = some (xIdx i) → E (.ref (ga K (xErr b))) (some dd) H') ∧ (lookD e.s d = none → ∀ H', Same H H' → Q .non H')
theorem d_tb_look (hP : PF P "/claim/cut.py") (T : Txt K mg) : FnR P w K mg base (L2.CX P w) 5 (ma K (ga K "Tables") "look") (spLook K) := by
  obtain ⟨fd, F⟩ := T.f_Tables_look
  have D_is_row := d_is_row (P := P) (w := w) (base := base) T
  have D_col := d_sc_col (P := P) (w := w) (base := base) hP T
  have D_keeps := d_sc_keeps (P := P) (w := w) (base := base) T
  refine fnN F (fun _ _ _ _ _ _ us hl => match us, hl with | [_, _, _, _], _ => rfl) sc_Tables_look (fun vs H Q E h => ?_) (fun cdv A outer s H vs Q E hr h => ?_)
  · obtain ⟨A, es, z, e, v, d, i, rfl, _⟩ := h
    rfl
  · obtain ⟨A, es, z, e, v, d, i, rfl, B, hf, hok, hd, hv, hE, hQ⟩ := h
    refine ⟨_, (pss_cons (ps_if (pt_not (pt_val (cl D_is_row (hr.mono (by decide)) (pa_cons (pv 2) (pa_cons (pe_methE (pe_fld (pv 0) rfl) T.o_Schema.cl T.h_Schema_columns D_col (hr.mono (by decide)) pxq (pa_cons (pv 1) pa_nil)) pa_nil))))) (pss_one (rsx (by rfl) (takes_of rfl rfl rfl rfl) hP T.y_NoRow.1 hr (pa_cons (pv 3) pa_nil))) pss_nil)
      (pss_one (ps_if (pt_not (pt_val (pe_methE (pe_fld (pv 0) rfl) T.o_Schema.cl T.h_Schema_keeps_rules D_keeps (hr.mono (by decide)) px0 (pa_cons (pv 1) (pa_cons (pv 2) pa_nil))))) (pss_one (rsx (by rfl) (takes_of rfl rfl rfl rfl) hP T.y_BadRow.1 hr (pa_cons (pv 3) pa_nil))) pss_nil))), ?_⟩
    have hs : findS (es.map TbE.s) z = some e.s := by rw [findS_T, hf]; rfl
    refine ⟨_, rfl, _, rfl, _, _, _, _, _, rfl, B.hx, T.o_Tables.cl, T.n_Tables_form, tbF_form, _, _, _, rfl, B.hf.hx, scF_no (by decide +kernel) (by decide +kernel), _, rfl, ?_⟩
    refine ⟨_, _, _, _, _, _, _, rfl, B.hf, .str z, (fun z' => ?_), fun z' s' ez hs' => ?_⟩
    · have : inS (es.map TbE.s) (.str z) = true := by show (findS _ z).isSome = true; rw [hs]; rfl
      rw [this] at z'
      cases z'
    cases ez
    rw [hs] at hs'
    cases hs'
    refine ⟨v, d, e.s.n, rfl, hd, _, rfl, ?_⟩
    cases hi : isRowD e.s.n d with
    | false =>
      refine if_pos_of rfl ?_
      have hl : lookD e.s d = some false := by unfold lookD; rw [hi]; rfl
      exact ⟨_, rfl, _, rfl, fun dd nd => hE false hl dd _ (same_upd nd) upd_same⟩
    | true =>
      refine if_neg_of rfl ?_
      obtain ⟨hdr, hn⟩ := isRowD_eq hi
      have hok' := hv hi
      refine ⟨_, rfl, _, _, _, _, _, rfl, B.hx, T.o_Tables.cl, T.n_Tables_form, tbF_form, _, _, _, rfl, B.hf.hx, scF_no (by decide +kernel) (by decide +kernel), _, rfl, _, rfl, ?_⟩
      refine ⟨_, _, _, _, _, z, e.s, v, rowOf d, rfl, B.hf, hs, by rw [← hdr]; exact hd, hok', hn, hok.fit, Nat.le_trans hok.len (by decide), fun H' s' => ⟨_, rfl, ?_⟩⟩
      cases hk : keepsR e.s.as (rowOf d) with
      | false =>
        refine if_pos_of rfl ?_
        have hl : lookD e.s d = some true := by unfold lookD; rw [hi, hk]; rfl
        exact ⟨_, rfl, _, rfl, fun dd nd => hE true hl dd _ (s'.trans (same_upd nd)) upd_same⟩
      | true =>
        refine if_neg_of rfl ?_
        exact hQ (by unfold lookD; rw [hi, hk]; rfl) H' s'
def setT (es : List TbE) (z : Str) (d : Addr) (rs : List Rw) : List TbE := es.map fun e => if e.s.nm = z then ⟨e.s, d, rs⟩ else e
theorem setT_s (es : List TbE) (z : Str) (d : Addr) (rs : List Rw) : (setT es z d rs).map TbE.s = es.map TbE.s := by
  unfold setT
  rw [List.map_map]
  refine List.map_congr_left fun e _ => ?_
  show (if e.s.nm = z then (⟨e.s, d, rs⟩ : TbE) else e).s = e.s
  split <;> rfl
theorem plK_set (es : List TbE) (z : Str) (d : Addr) (rs : List Rw) (h : (findT es z).isSome = true) : putK (plK es) (.inr z) (.ref d) = plK (setT es z d rs) := by
  unfold putK
  rw [valV_any, val_pl, Option.isSome_map, h, if_pos rfl]
  unfold plK setT
  rw [List.map_map, List.map_map]
  refine List.map_congr_left fun s _ => ?_
  show (if (Sum.inr s.s.nm : Key) = .inr z then ((Sum.inr s.s.nm : Key), V.ref d) else (Sum.inr s.s.nm, V.ref s.d)) = (Sum.inr (if s.s.nm = z then (⟨s.s, d, rs⟩ : TbE) else s).s.nm, V.ref (if s.s.nm = z then (⟨s.s, d, rs⟩ : TbE) else s).d)
  by_cases e : s.s.nm = z
  · rw [if_pos e, if_pos (by rw [e])]
  · rw [if_neg e, if_neg (fun h => e (Sum.inr.inj h))]
theorem setT_mem {es : List TbE} {z : Str} {d : Addr} {rs : List Rw} {e : TbE} (h : e ∈ setT es z d rs) : (∃ o ∈ es, o.s.nm = z ∧ e = ⟨o.s, d, rs⟩) ∨ (e ∈ es ∧ e.s.nm ≠ z) := by
  obtain ⟨o, ho, eo⟩ := List.mem_map.mp h
  by_cases q : o.s.nm = z
  · rw [if_pos q] at eo
    exact .inl ⟨o, ho, q, eo.symm⟩
  · rw [if_neg q] at eo
    subst eo
    exact .inr ⟨ho, q⟩
theorem nm_inj {es : List TbE} (nn : (nmS (es.map TbE.s)).Nodup) {a b : TbE} (ha : a ∈ es) (hb : b ∈ es) (e : a.s.nm = b.s.nm) : a = b := by
  unfold nmS at nn
  rw [List.map_map] at nn
  induction es with
  | nil => cases ha
  | cons x t ih =>
    obtain ⟨n1, n2⟩ := List.nodup_cons.mp (show (x.s.nm :: t.map (Sch.nm ∘ TbE.s)).Nodup from nn)
    rcases List.mem_cons.mp ha with ha1 | ha1
    · rcases List.mem_cons.mp hb with hb1 | hb1
      · rw [ha1, hb1]
      · exact absurd (List.mem_map.mpr ⟨b, hb1, e.symm.trans (by rw [ha1])⟩) n1
    · rcases List.mem_cons.mp hb with hb1 | hb1
      · exact absurd (List.mem_map.mpr ⟨a, ha1, e.trans (by rw [hb1])⟩) n1
      · exact ih n2 ha1 hb1
theorem d_inj {es : List TbE} (nd : (es.map TbE.d).Nodup) {a b : TbE} (ha : a ∈ es) (hb : b ∈ es) (e : a.d = b.d) : a = b := by
  induction es with
  | nil => cases ha
  | cons x t ih =>
    obtain ⟨n1, n2⟩ := List.nodup_cons.mp nd
    rcases List.mem_cons.mp ha with ha1 | ha1
    · rcases List.mem_cons.mp hb with hb1 | hb1
      · rw [ha1, hb1]
      · exact absurd (List.mem_map.mpr ⟨b, hb1, e.symm.trans (by rw [ha1])⟩) n1
    · rcases List.mem_cons.mp hb with hb1 | hb1
      · exact absurd (List.mem_map.mpr ⟨a, ha1, e.trans (by rw [hb1])⟩) n1
      · exact ih n2 ha1 hb1
/-- a dict of rows is none of the other objects -/
theorem TbAt.ne_d {H : Hp} {A : Ta} {es : List TbE} (B : TbAt K H A es) {a : Addr} {xs : List (NestedKey × Addr × Value)} (h : H a = some (dN a xs)) : A.x ≠ a ∧ A.f ≠ a ∧ A.dw ≠ a ∧ A.dl ≠ a ∧ A.pl ≠ a ∧ ∀ s ∈ es.map TbE.s, s.c ≠ a ∧ s.l ≠ a := by
  refine ⟨ne_of B.hx h (by intro z; cases z), ne_of B.hf.hx h (by intro z; cases z), ne_of B.hf.hw h (by intro z; cases z), ne_of B.hf.hl h (by intro z; cases z), ne_of B.hp h (by intro z; cases z), fun s hs => ?_⟩
  have C := B.hf.hc s hs
  obtain ⟨vs, el, _⟩ := C.hl
  exact ⟨ne_of C.hx h (by intro z; cases z), ne_of el h (by intro z; cases z)⟩
/-- one table's dict is changed -/
theorem TbAt.put {H H' : Hp} {A : Ta} {es : List TbE} {z : Str} {e : TbE} {rs : List Rw} (B : TbAt K H A es) (hf : findT es z = some e) (m : Md [e.d] H H') (k : KD K H' e.d (setR rs)) (rn : rs.Nodup) : TbAt K H' A (setT es z e.d rs) := by
  obtain ⟨he, hz⟩ := findT_mem hf
  obtain ⟨xs, ex, _⟩ := B.hd e he
  obtain ⟨n1, n2, n3, n4, n5, n6⟩ := B.ne_d ex
  have hpl : plK (setT es z e.d rs) = plK es := by
    unfold plK setT
    rw [List.map_map]
    refine List.map_congr_left fun s hs => ?_
    show (Sum.inr (if s.s.nm = z then (⟨s.s, e.d, rs⟩ : TbE) else s).s.nm, V.ref (if s.s.nm = z then (⟨s.s, e.d, rs⟩ : TbE) else s).d) = ((Sum.inr s.s.nm : Key), V.ref s.d)
    by_cases q : s.s.nm = z
    · rw [if_pos q, nm_inj B.nn hs he (q.trans hz.symm)]
    · rw [if_neg q]
  have hds : (setT es z e.d rs).map TbE.d = es.map TbE.d := by
    unfold setT
    rw [List.map_map]
    refine List.map_congr_left fun s hs => ?_
    show (if s.s.nm = z then (⟨s.s, e.d, rs⟩ : TbE) else s).d = s.d
    by_cases q : s.s.nm = z
    · rw [if_pos q, nm_inj B.nn hs he (q.trans hz.symm)]
    · rw [if_neg q]
  refine ⟨m.out _ _ B.hx (nin1 n1), ?_, ?_, fun o ho => ?_, ?_, ?_, B.wp, B.lp, fun o ho => ?_⟩
  · rw [setT_s]
    exact B.hf.md m (nin1 n2) (nin1 n3) (nin1 n4) fun s hs => ⟨nin1 (n6 s hs).1, nin1 (n6 s hs).2⟩
  · rw [hpl]
    exact m.out _ _ B.hp (nin1 n5)
  · rcases setT_mem ho with ⟨o', _, _, rfl⟩ | ⟨ho', hn⟩
    · exact k
    · exact (B.hd o ho').md m (nin1 fun z' => hn (by rw [d_inj B.nd ho' he z']; exact hz))
  · rw [hds]
    exact B.nd
  · rw [setT_s]
    exact B.nn
  · rcases setT_mem ho with ⟨o', _, _, rfl⟩ | ⟨ho', _⟩
    · exact rn
    · exact B.rn o ho'
theorem nodup_snocR {L : List Rw} {a : Rw} (h : L.Nodup) (n : a ∉ L) : (L ++ [a]).Nodup :=
  List.nodup_append.mpr ⟨h, by simp, fun x hx y hy z => n (by rw [List.mem_singleton.mp hy] at z; exact z ▸ hx)⟩
theorem addR_nd {rs : List Rw} (h : rs.Nodup) (k : Rw) : (addR rs k).Nodup := by
  unfold addR
  split
  · exact h
  · exact nodup_snocR h (by assumption)
def spPut (K : PySem.W.Frag) : Sp := fun vs H Q E => ∃ A es v dn w' d, vs = [.ref A.x, v, w'] ∧ TbAt K H A es ∧ Dp K H v dn ∧ Dp K H w' d ∧
  (inT es dn = false → ∀ dd H', Same H H' → H' dd = some (xName v) → E (.ref (ga K "NoTable")) (some dd) H') ∧
  ∀ z e, dn = .str z → findT es z = some e → SchOk e.s ∧ rowV e.s d ∧ e.rs.length ≤ 1000 ∧
    (∀ b, lookD e.s d = some b → ∀ dd H', Same H H' → H' dd = some (xIdx 0) → E (.ref (ga K (xErr b))) (some dd) H') ∧
    (lookD e.s d = none → rowOf d ∈ e.rs → ∀ H', Same H H' → Q (.bl false) H') ∧
    (lookD e.s d = none → rowOf d ∉ e.rs → ∀ H', Md [e.d] H H' → TbAt K H' A (setT es z e.d (e.rs ++ [rowOf d])) → Q (.bl true) H')
theorem look_row {s : Sch} {d : PyData} (h : lookD s d = none) : isRowD s.n d = true ∧ keepsR s.as (rowOf d) = true := by
  unfold lookD at h
  split at h
  · rename_i h1
    refine ⟨h1, ?_⟩
    split at h
    · assumption
    · cases h
  · cases h
theorem d_tb_put (hP : PF P "/claim/cut.py") (T : Txt K mg) : FnR P w K mg base (L2.CX P w) 6 (ma K (ga K "Tables") "put") (spPut K) := by
  obtain ⟨fd, F⟩ := T.f_Tables_put
  have D_must := d_tb_must (P := P) (w := w) (base := base) hP T
  have D_look := d_tb_look (P := P) (w := w) (base := base) hP T
  refine fnN F (fun _ _ _ _ _ _ us hl => match us, hl with | [_, _, _], _ => rfl) sc_Tables_put (fun vs H Q E h => ?_) (fun cdv A outer s H vs Q E hr h => ?_)
  · obtain ⟨A, es, v, dn, w', d, rfl, _⟩ := h
    rfl
  · obtain ⟨A, es, v, dn, w', d, rfl, B, hv, hw, hE, hQ⟩ := h
    refine ⟨_, (pss_cons (ps_expr (pe_methE (pv 0) T.o_Tables.cl T.h_Tables_must_know D_must (hr.mono (by decide)) (pxx (takes_of rfl rfl rfl rfl)) (pa_cons (pv 1) pa_nil)))
      (pss_cons (ps_expr (pe_methE (pv 0) T.o_Tables.cl T.h_Tables_look D_look (hr.mono (by decide)) (pxx (takes_of rfl rfl rfl rfl)) (pa_cons (pv 1) (pa_cons (pv 2) (pa_cons pe_int pa_nil)))))
      (pss_cons (ps_if (pt_cmp (pc_dinN (hu9 hr) (pv 2) (pe_dget (hu_of hr) (pe_fld (pv 0) rfl) (pv 1) (fun _ _ => rfl)))) (pss_one (ps_ret pe_bl)) pss_nil)
      (pss_cons (ps_dputN (hu9 hr) (pe_dget (hu_of hr) (pe_fld (pv 0) rfl) (pv 1) (fun _ _ => rfl)) (pv 2) pe_bl rfl)
      (pss_one (ps_ret pe_bl)))))), ?_⟩
    have nop : ∀ {f p : Addr}, (tbF f p).lookup ("must_know" : Str) = none ∧ (tbF f p).lookup ("look" : Str) = none := fun {f p} => ⟨tbF_no (by decide +kernel) (by decide +kernel), tbF_no (by decide +kernel) (by decide +kernel)⟩
    refine ⟨_, rfl, _, _, _, rfl, B.hx, nop.1, _, rfl, A, es, v, dn, rfl, B, hv, hE, fun hin => ?_⟩
    obtain ⟨z, e, rfl, hf⟩ : ∃ z e, dn = .str z ∧ findT es z = some e := by
      cases dn with
      | str z => exact ⟨z, _, rfl, (Option.isSome_iff_exists.mp hin).choose_spec⟩
      | _ => cases hin
    cases hv
    obtain ⟨hok, hrv, hlr, hE2, hQ1, hQ2⟩ := hQ z e rfl hf
    refine ⟨_, rfl, _, _, _, rfl, B.hx, nop.2, _, rfl, _, rfl, A, es, z, e, w', d, 0, rfl, B, hf, hok, hw, hrv, hE2, fun hl H1 s1 => ?_⟩
    have B1 := B.same s1
    have hw1 := Dp.same s1 hw
    obtain ⟨hi, hk⟩ := look_row hl
    have hdr := (isRowD_eq hi).1
    rw [hdr] at hw1
    obtain ⟨p, _, rfl, _, _⟩ := dp_row hw1
    have he := (findT_mem hf).1
    obtain ⟨xs, ex, rx⟩ := B1.hd e he
    have hg := DGet.k (k := .inr z) B1.hp
    rw [val_pl, hf] at hg
    refine ⟨_, rfl, _, rfl, _, _, _, _, _, rfl, B1.hx, T.o_Tables.cl, T.n_Tables_places, tbF_places, _, rfl, _, _, rfl, hg, e.d, p, setR e.rs, rowOf d, rfl, rfl, ⟨xs, .inl ex, rx⟩, hw1, _, rfl, ?_⟩
    rw [isSome_setR]
    by_cases hm : rowOf d ∈ e.rs
    · rw [decide_eq_true hm]
      exact iteT (hQ1 hl hm H1 s1)
    · rw [decide_eq_false hm]
      refine iteF ?_
      refine ⟨_, rfl, _, _, _, _, _, rfl, B1.hx, T.o_Tables.cl, T.n_Tables_places, tbF_places, _, rfl, _, _, rfl, hg, _, rfl, e.d, rfl, setR e.rs, xs, rowOf d, p, ex, rx, rfl, hw1, (by unfold setR; rw [List.length_map]; exact Nat.lt_of_le_of_lt hlr (by decide)), fun ys ry => ?_⟩
      rw [putK_setR] at ry
      unfold addR at ry
      rw [if_neg hm] at ry
      have mu : Md [e.d] H1 (upd H1 e.d (dN e.d ys)) := Md.upd ex rfl (by simp)
      exact hQ2 hl hm _ ((Md.of s1).trans mu) (B1.put hf mu ⟨ys, upd_same, ry⟩ (nodup_snocR (B1.rn e he) hm))

end
end K10
namespace K10
open PySem PySem.Spec PyProof.Rows L2 He TL EL
section
variable {P : Program} {w : World} {K : PySem.W.Frag} {mg : Str → Option Value} {base : Heap}
/-! Tables.has, __setitem__ -/
def spHas (K : PySem.W.Frag) : Sp := fun vs H Q E => ∃ A es v dn w' d, vs = [.ref A.x, v, w'] ∧ TbAt K H A es ∧ Dp K H v dn ∧ Dp K H w' d ∧
  (inT es dn = false → ∀ dd H', Same H H' → H' dd = some (xName v) → E (.ref (ga K "NoTable")) (some dd) H') ∧
  ∀ z e, dn = .str z → findT es z = some e → Q (.bl (isRowD e.s.n d && decide (rowOf d ∈ e.rs))) H
theorem d_tb_has (hP : PF P "/claim/cut.py") (T : Txt K mg) : FnR P w K mg base (L2.CX P w) 4 (ma K (ga K "Tables") "has") (spHas K) := by
  obtain ⟨fd, F⟩ := T.f_Tables_has
  have D_must := d_tb_must (P := P) (w := w) (base := base) hP T
  have D_is_row := d_is_row (P := P) (w := w) (base := base) T
  have D_col := d_sc_col (P := P) (w := w) (base := base) hP T
  refine fnN F (fun _ _ _ _ _ _ us hl => match us, hl with | [_, _, _], _ => rfl) sc_Tables_has (fun vs H Q E h => ?_) (fun cdv A outer s H vs Q E hr h => ?_)
  · obtain ⟨A, es, v, dn, w', d, rfl, _⟩ := h
    rfl
  · obtain ⟨A, es, v, dn, w', d, rfl, B, hv, hw, hE, hQ⟩ := h
    refine ⟨_, (pss_cons (ps_expr (pe_methE (pv 0) T.o_Tables.cl T.h_Tables_must_know D_must (hr.mono (by decide)) (pxx (takes_of rfl rfl rfl rfl)) (pa_cons (pv 1) pa_nil)))
      (pss_one (ps_ret (pe_and (cl D_is_row (hr.mono (by decide)) (pa_cons (pv 2) (pa_cons (pe_methE (pe_fld (pv 0) rfl) T.o_Schema.cl T.h_Schema_columns D_col (hr.mono (by decide)) pxq (pa_cons (pv 1) pa_nil)) pa_nil))) (pe_one (pe_cmp (pc_dinN (hu9 hr) (pv 2) (pe_dget (hu_of hr) (pe_fld (pv 0) rfl) (pv 1) (fun _ _ => rfl))) rfl)))))), ?_⟩
    refine ⟨_, rfl, _, _, _, rfl, B.hx, tbF_no (by decide +kernel) (by decide +kernel), _, rfl, A, es, v, dn, rfl, B, hv, hE, fun hin => ?_⟩
    obtain ⟨z, e, rfl, hf⟩ : ∃ z e, dn = .str z ∧ findT es z = some e := by
      cases dn with
      | str z => exact ⟨z, _, rfl, (Option.isSome_iff_exists.mp hin).choose_spec⟩
      | _ => cases hin
    cases hv
    have hQ := hQ z e rfl hf
    have hs : findS (es.map TbE.s) z = some e.s := by rw [findS_T, hf]; rfl
    refine ⟨_, rfl, _, rfl, _, _, _, _, _, rfl, B.hx, T.o_Tables.cl, T.n_Tables_form, tbF_form, _, _, _, rfl, B.hf.hx, scF_no (by decide +kernel) (by decide +kernel), _, rfl, ?_⟩
    refine ⟨_, _, _, _, _, _, _, rfl, B.hf, .str z, (fun z' => ?_), fun z' s' ez hs' => ?_⟩
    · have : inS (es.map TbE.s) (.str z) = true := by show (findS _ z).isSome = true; rw [hs]; rfl
      rw [this] at z'
      cases z'
    cases ez
    rw [hs] at hs'
    cases hs'
    refine ⟨w', d, e.s.n, rfl, hw, ?_⟩
    cases hi : isRowD e.s.n d with
    | false =>
      rw [hi] at hQ
      exact ⟨_, rfl, iteF hQ⟩
    | true =>
      rw [hi, Bool.true_and] at hQ
      refine ⟨_, rfl, iteT ?_⟩
      have hdr := (isRowD_eq hi).1
      rw [hdr] at hw
      obtain ⟨p, _, rfl, _, _⟩ := dp_row hw
      obtain ⟨xs, ex, rx⟩ := B.hd e (findT_mem hf).1
      have hg := DGet.k (k := .inr z) B.hp
      rw [val_pl, hf] at hg
      refine ⟨_, rfl, _, rfl, _, _, _, _, _, rfl, B.hx, T.o_Tables.cl, T.n_Tables_places, tbF_places, _, rfl, _, _, rfl, hg, e.d, p, setR e.rs, rowOf d, rfl, rfl, ⟨xs, .inl ex, rx⟩, hw, ?_⟩
      rw [isSome_setR]
      exact hQ
/-- the first wrong row -/
def FBad (s : Sch) (ds : List PyData) (i : Nat) (b : Bool) : Prop := (∃ d, ds[i]? = some d ∧ lookD s d = some b) ∧ ∀ d ∈ ds.take i, lookD s d = none
def addRs (ds : List PyData) : List Rw := (ds.map rowOf).foldl addR []
theorem addRs_nd (ds : List PyData) : (addRs ds).Nodup := by
  have : ∀ (l acc : List Rw), acc.Nodup → (l.foldl addR acc).Nodup := fun l => by
    induction l with
    | nil => exact fun _ h => h
    | cons x t ih => exact fun acc h => ih _ (addR_nd h x)
  exact this _ _ List.nodup_nil
theorem addRs_snoc (ds : List PyData) (d : PyData) : addRs (ds ++ [d]) = addR (addRs ds) (rowOf d) := by
  unfold addRs
  rw [List.map_append, List.foldl_append]
  rfl
theorem addR_len (rs : List Rw) (k : Rw) : (addR rs k).length ≤ rs.length + 1 := by
  unfold addR
  split
  · omega
  · rw [List.length_append]; exact Nat.le_refl _
theorem addRs_len (ds : List PyData) : (addRs ds).length ≤ ds.length := by
  have : ∀ (l acc : List Rw), (l.foldl addR acc).length ≤ acc.length + l.length := fun l => by
    induction l with
    | nil => intro acc; exact Nat.le_refl _
    | cons x t ih =>
      intro acc
      have h1 := ih (addR acc x)
      have h2 := addR_len acc x
      rw [List.foldl_cons, List.length_cons]
      omega
  have h := this (ds.map rowOf) []
  rw [List.length_map] at h
  unfold addRs
  simpa using h
theorem setT_nd : ∀ {es : List TbE} {z : Str} {D : Addr} {rs : List Rw}, (es.map TbE.d).Nodup → (nmS (es.map TbE.s)).Nodup → D ∉ es.map TbE.d → ((setT es z D rs).map TbE.d).Nodup
  | [], _, _, _, _, _, _ => List.nodup_nil
  | x :: t, z, D, rs, nd, nn, hD => by
    obtain ⟨n1, n2⟩ := List.nodup_cons.mp (show (x.d :: t.map TbE.d).Nodup from nd)
    obtain ⟨m1, m2⟩ := List.nodup_cons.mp (show (x.s.nm :: nmS (t.map TbE.s)).Nodup from nn)
    have hD1 : D ≠ x.d := fun q => hD (by rw [List.map_cons, q]; exact List.mem_cons_self ..)
    have hD2 : D ∉ t.map TbE.d := fun q => hD (List.mem_cons_of_mem _ q)
    have ih := setT_nd (z := z) (rs := rs) n2 m2 hD2
    show (((if x.s.nm = z then (⟨x.s, D, rs⟩ : TbE) else x) :: setT t z D rs).map TbE.d).Nodup
    by_cases q : x.s.nm = z
    · rw [if_pos q]
      refine List.nodup_cons.mpr ⟨fun h => ?_, ih⟩
      obtain ⟨e, he, ee⟩ := List.mem_map.mp h
      rcases setT_mem he with ⟨o, ho, oz, _⟩ | ⟨he', _⟩
      · exact m1 (by unfold nmS; rw [List.map_map]; exact List.mem_map.mpr ⟨o, ho, oz.trans q.symm⟩)
      · exact hD2 (List.mem_map.mpr ⟨e, he', ee⟩)
    · rw [if_neg q]
      refine List.nodup_cons.mpr ⟨fun h => ?_, ih⟩
      obtain ⟨e, he, ee⟩ := List.mem_map.mp h
      rcases setT_mem he with ⟨o, ho, oz, rfl⟩ | ⟨he', _⟩
      · exact hD1 ee
      · exact n1 (List.mem_map.mpr ⟨e, he', ee⟩)
/-- a table's dict is exchanged -/
theorem TbAt.set {H H' : Hp} {A : Ta} {es : List TbE} {z : Str} {D : Addr} {rs : List Rw} (B : TbAt K H A es) (m : Md [A.pl] H H') (hp : H' A.pl = some (.dK (plK (setT es z D rs)))) (k : KD K H' D (setR rs)) (hD : ∀ e ∈ es, e.d ≠ D) (rn : rs.Nodup) : TbAt K H' A (setT es z D rs) := by
  have hpp := B.hp
  refine ⟨m.out _ _ B.hx (nin1 (ne_of B.hx hpp (by intro z; cases z))), ?_, hp, fun o ho => ?_, setT_nd B.nd B.nn (fun h => ?_), ?_, B.wp, B.lp, fun o ho => ?_⟩
  · rw [setT_s]
    refine B.hf.md m (nin1 (ne_of B.hf.hx hpp (by intro z; cases z))) (nin1 B.wp) (nin1 B.lp) fun s hs => ?_
    have C := B.hf.hc s hs
    obtain ⟨vs, el, _⟩ := C.hl
    exact ⟨nin1 (ne_of C.hx hpp (by intro z; cases z)), nin1 (ne_of el hpp (by intro z; cases z))⟩
  · rcases setT_mem ho with ⟨o', _, _, rfl⟩ | ⟨ho', hn⟩
    · exact k
    · obtain ⟨xs, ex, rx⟩ := B.hd o ho'
      exact KD.md ⟨xs, ex, rx⟩ m (nin1 (ne_of ex hpp (by intro z; cases z)))
  · obtain ⟨e, he, ee⟩ := List.mem_map.mp h
    exact hD e he ee
  · rw [setT_s]
    exact B.nn
  · rcases setT_mem ho with ⟨o', _, _, rfl⟩ | ⟨ho', _⟩
    · exact rn
    · exact B.rn o ho'
def spSet (K : PySem.W.Frag) : Sp := fun vs H Q E => ∃ A es v dn w' d, vs = [.ref A.x, v, w'] ∧ TbAt K H A es ∧ Dp K H v dn ∧ Dp K H w' d ∧
  (inT es dn = false → ∀ dd H', Same H H' → H' dd = some (xName v) → E (.ref (ga K "NoTable")) (some dd) H') ∧
  ∀ z e, dn = .str z → findT es z = some e → SchOk e.s ∧ ((∀ ds, d ≠ .list ds) → ∀ dd H', Same H H' → H' dd = some (xIdx (-1)) → E (.ref (ga K (xErr false))) (some dd) H') ∧
    ∀ ds, d = .list ds → (∀ x ∈ ds, rowV e.s x) ∧ ds.length ≤ 1000 ∧ es.length ≤ 1000 ∧
      (∀ i b, FBad e.s ds i b → ∀ dd H', Same H H' → H' dd = some (xIdx (i : Nat)) → E (.ref (ga K (xErr b))) (some dd) H') ∧
      ((∀ x ∈ ds, lookD e.s x = none) → ∀ D H', Md [A.pl] H H' → H D = none → TbAt K H' A (setT es z D (addRs ds)) → Q .non H')
theorem d_tb_set (hP : PF P "/claim/cut.py") (T : Txt K mg) : FnR P w K mg base (L2.CX P w) 6 (ma K (ga K "Tables") "__setitem__") (spSet K) := by
  obtain ⟨fd, F⟩ := T.f_Tables___setitem__
  have D_must := d_tb_must (P := P) (w := w) (base := base) hP T
  have D_look := d_tb_look (P := P) (w := w) (base := base) hP T
  refine fnN F (fun _ _ _ _ _ _ us hl => match us, hl with | [_, _, _], _ => rfl) sc_Tables___setitem__ (fun vs H Q E h => ?_) (fun cdv A outer s H vs Q E hr h => ?_)
  · obtain ⟨A, es, v, dn, w', d, rfl, _⟩ := h
    rfl
  · obtain ⟨A, es, v, dn, w', d, rfl, B, hv, hw, hE, hQ⟩ := h
    refine ⟨_, (pss_cons (ps_expr (pe_methE (pv 0) T.o_Tables.cl T.h_Tables_must_know D_must (hr.mono (by decide)) (pxx (takes_of rfl rfl rfl rfl)) (pa_cons (pv 1) pa_nil)))
      (pss_cons (ps_if (pt_not (pt_val (pe_callB call_isi (by rfl) T.z_isinstance (by decide +kernel) (pa_cons (pv 2) (pa_cons (pe_bltn (v := .ty "list") (by rfl) T.z_list (by decide +kernel) rfl) pa_nil))))) (pss_one (rsx (by rfl) (takes_of rfl rfl rfl rfl) hP T.y_NoRow.1 hr (pa_cons (pe_un un_neg pe_int) pa_nil))) pss_nil)
      (pss_cons (ps_set (i := 3) sc_Tables___setitem__.nd rfl (.inl rfl) pe_dnewN)
      (pss_cons (ps_for (passes_of rfl) rfl (pi_enum (by rfl) T.z_enumerate (pa_cons (pv 2) pa_nil)) (pg_tup rfl (pgs_cons (pg_name (i := 4) sc_Tables___setitem__.nd rfl (.inl rfl)) (pgs_cons (pg_name (i := 5) sc_Tables___setitem__.nd rfl (.inl rfl)) pgs_nil)))
      (pss_cons (ps_expr (pe_methE (pv 0) T.o_Tables.cl T.h_Tables_look D_look (hr.mono (by decide)) (pxx (takes_of rfl rfl rfl rfl)) (pa_cons (pv 1) (pa_cons (pv 5) (pa_cons (pv 4) pa_nil)))))
      (pss_one (ps_dputN (hu9 hr) (pv 3) (pv 5) pe_bl rfl))))
      (pss_one (ps_dput (hu_of hr) (pe_fld (pv 0) rfl) (pv 1) (pv 3) rfl)))))), ?_⟩
    have nop : ∀ {f p : Addr}, (tbF f p).lookup ("must_know" : Str) = none ∧ (tbF f p).lookup ("look" : Str) = none := fun {f p} => ⟨tbF_no (by decide +kernel) (by decide +kernel), tbF_no (by decide +kernel) (by decide +kernel)⟩
    refine ⟨_, rfl, _, _, _, rfl, B.hx, nop.1, _, rfl, A, es, v, dn, rfl, B, hv, hE, fun hin => ?_⟩
    obtain ⟨z, e, rfl, hf⟩ : ∃ z e, dn = .str z ∧ findT es z = some e := by
      cases dn with
      | str z => exact ⟨z, _, rfl, (Option.isSome_iff_exists.mp hin).choose_spec⟩
      | _ => cases hin
    cases hv
    obtain ⟨hok, hE1, hQ⟩ := hQ z e rfl hf
    refine ⟨_, rfl, _, _, _, _, _, rfl, .ty _, Dp.ty hw, kit_d K .lst d, _, rfl, ?_⟩
    by_cases hk : ∃ ds, d = .list ds
    · obtain ⟨ds, rfl⟩ := hk
      obtain ⟨hrv, hln, hle, hE2, hQ2⟩ := hQ ds rfl
      refine iteF ?_
      cases hw with
      | lst ha hA =>
        rename_i a vs
        have lv : vs.length = ds.length := DpAll.length hA
        intro D nD
        generalize eH1 : upd H D _ = H1
        have s1 : Same H H1 := eH1 ▸ same_upd nD
        have e1 : H1 D = some _ := eH1 ▸ upd_same
        have hfm := findT_mem hf
        refine ⟨_, rfl, a, vs, rfl, Same.seq s1 ha, for_it walk_enum (fun i σ H' => ∃ o4 o5, σ = [some (.ref A.x), some (.str z), some (.ref a), some (.ref D), o4, o5] ∧ Same H H' ∧ KD K H' D (setR (addRs (ds.take i))) ∧ ∀ x ∈ ds.take i, lookD e.s x = none)
          ⟨none, none, rfl, s1, KD.new e1, fun x hx => by cases hx⟩ (fun i σ H' _ ⟨_, _, _, h, _⟩ => Same.seq h ha) ?_ ?_⟩
        · rintro i xv σ H2 H3 hi ⟨o4, o5, rfl, s2, kd, al⟩ ⟨T', y1, y2, rfl, nT, rfl, ey1, ey2⟩
          cases ey1
          obtain ⟨d', hd', hdp⟩ := DpAll.get hA ey2
          have mem := List.mem_of_getElem? hd'
          refine ⟨T', _, rfl, SqT.of upd_same, rfl, _, _, rfl, _, _, rfl, rfl, ?_⟩
          have sT : Same H2 (upd H2 T' (.tup [.int (i : Nat), y2])) := same_upd nT
          generalize upd H2 T' (.tup [.int (i : Nat), y2]) = H3 at sT ⊢
          have s3 := s2.trans sT
          have B3 := B.same s3
          have kd3 := kd.md (Md.of (S := []) sT) (by simp)
          refine ⟨_, rfl, _, _, _, rfl, B3.hx, nop.2, _, rfl, _, rfl, _, rfl, A, es, z, e, y2, d', (i : Nat), rfl, B3, hf, hok, Dp.same s3 hdp, hrv d' mem, fun b hb dd H' s' ex => hE2 i b ⟨⟨d', hd', hb⟩, al⟩ dd H' (s3.trans s') ex, fun hl H4 s4 => ?_⟩
          obtain ⟨hi2, hk2⟩ := look_row hl
          have hdr := (isRowD_eq hi2).1
          have hw4 := Dp.same (s3.trans s4) hdp
          rw [hdr] at hw4
          obtain ⟨p, _, rfl, _, _⟩ := dp_row hw4
          obtain ⟨xs, ex, rx⟩ := kd3.md (Md.of (S := []) s4) (by simp)
          refine ⟨_, rfl, _, rfl, D, rfl, setR (addRs (ds.take i)), xs, rowOf d', p, ex, rx, rfl, hw4, ?_, fun ys ry => ?_⟩
          · unfold setR
            rw [List.length_map]
            have := addRs_len (ds.take i)
            rw [List.length_take] at this
            exact Nat.lt_of_le_of_lt (show _ ≤ 1000 by omega) (by decide)
          · rw [putK_setR, ← addRs_snoc, ← tk1 hd'] at ry
            refine ⟨_, _, rfl, same_upN (s3.trans s4) nD, ⟨ys, upd_same, ry⟩, fun x hx => ?_⟩
            rw [tk1 hd'] at hx
            rcases List.mem_append.mp hx with hx | hx
            · exact al x hx
            · cases List.mem_singleton.mp hx
              exact hl
        · rintro σ H2 ⟨o4, o5, rfl, s2, kd, al⟩
          rw [lv, List.take_length] at kd al
          have B2 := B.same s2
          obtain ⟨xs, ex, rx⟩ := kd
          have hne : D ≠ A.pl := ne_of ex B2.hp (by intro z; cases z)
          have hpl : (plK es).length < sizeLine := by
            unfold plK
            rw [List.length_map]
            exact Nat.lt_of_le_of_lt hle (by decide)
          refine ⟨_, rfl, _, rfl, _, _, _, _, _, rfl, B2.hx, T.o_Tables.cl, T.n_Tables_places, tbF_places, _, rfl, _, _, rfl, DPut.k (k := .inr z) B2.hp hpl, ?_⟩
          rw [plK_set es z D (addRs ds) (by rw [hf]; rfl)]
          have mu : Md [A.pl] H2 (upd H2 A.pl (.dK (plK (setT es z D (addRs ds))))) := Md.upd B2.hp rfl (by simp)
          refine hQ2 al D _ ((Md.of s2).trans mu) nD (B2.set mu upd_same (KD.md ⟨xs, ex, rx⟩ mu (nin1 hne)) (fun o ho q => ?_) (addRs_nd ds))
          obtain ⟨ys, ey, _⟩ := B.hd o ho
          rw [q, nD] at ey
          cases ey
    · have e2 : isTy .lst d = false := by
        cases d <;> first | rfl | exact absurd ⟨_, rfl⟩ hk
      rw [e2]
      refine iteT ?_
      refine ⟨_, rfl, _, rfl, fun dd nd => ?_⟩
      exact hE1 (fun ds z => hk ⟨ds, z⟩) dd _ (same_upd nd) upd_same

end
end K10
namespace K10
open PySem PySem.Spec PyProof.Rows L2 He TL EL
section
variable {P : Program} {w : World} {K : PySem.W.Frag} {mg : Str → Option Value} {base : Heap}
/-! Tables.__len__ -/
theorem flat_le {es : List TbE} {i : Nat} {e : TbE} (h : es[i]? = some e) : ((es.take i).flatMap TbE.rs).length + e.rs.length ≤ (es.flatMap TbE.rs).length := by
  have hi : i < es.length := (List.getElem?_eq_some_iff.mp h).1
  have h2 : es.drop i = e :: es.drop (i + 1) := by
    rw [List.drop_eq_getElem_cons hi]
    rw [List.getElem?_eq_getElem hi] at h
    rw [Option.some.inj h]
  have h3 : es.flatMap TbE.rs = (es.take i).flatMap TbE.rs ++ (e.rs ++ (es.drop (i + 1)).flatMap TbE.rs) := by
    conv => lhs; rw [← List.take_append_drop i es, h2]
    rw [List.flatMap_append, List.flatMap_cons]
  rw [h3, List.length_append, List.length_append]
  omega
/-- the dicts' entries, all at once -/
theorem TbAt.ents {H : Hp} {A : Ta} {es : List TbE} (B : TbAt K H A es) : ∃ X : TbE → List (NestedKey × Addr × Value), ∀ e ∈ es, H e.d = some (dN e.d (X e)) ∧ KNs K H (setR e.rs) (X e) :=
  ⟨fun e => Classical.epsilon fun xs => H e.d = some (dN e.d xs) ∧ KNs K H (setR e.rs) xs, fun e he => Classical.epsilon_spec (B.hd e he)⟩
abbrev lkL (A : Ta) (es : List TbE) (X : TbE → List (NestedKey × Addr × Value)) : List (Addr × HO) := (A.pl, .dK (plK es)) :: es.map fun e => (e.d, dN e.d (X e))
theorem lkL_ok {H : Hp} {A : Ta} {es : List TbE} {X : TbE → List (NestedKey × Addr × Value)} (B : TbAt K H A es) (hX : ∀ e ∈ es, H e.d = some (dN e.d (X e)) ∧ KNs K H (setR e.rs) (X e)) :
    (∀ p ∈ lkL A es X, H p.1 = some p.2 ∧ Mut (some p.2)) ∧ ((lkL A es X).map Prod.fst).Nodup := by
  refine ⟨fun p hp => ?_, ?_⟩
  · rcases List.mem_cons.mp hp with rfl | hp
    · exact ⟨B.hp, trivial⟩
    · obtain ⟨e, he, rfl⟩ := List.mem_map.mp hp
      exact ⟨(hX e he).1, trivial⟩
  · have e1 : (lkL A es X).map Prod.fst = A.pl :: es.map TbE.d := by
      show A.pl :: (es.map fun e => (e.d, dN e.d (X e))).map Prod.fst = _
      rw [List.map_map]
      rfl
    rw [e1]
    refine List.nodup_cons.mpr ⟨fun h => ?_, B.nd⟩
    obtain ⟨e, he, ee⟩ := List.mem_map.mp h
    have := (hX e he).1
    rw [ee, B.hp] at this
    cases this
theorem lkL_x {H : Hp} {A : Ta} {es : List TbE} {X : TbE → List (NestedKey × Addr × Value)} {a : Addr} {C dx : Addr} {fs : List (Str × V)} (hL : ∀ p ∈ lkL A es X, H p.1 = some p.2 ∧ Mut (some p.2)) (h : H a = some (.ins C dx fs)) : a ∉ (lkL A es X).map Prod.fst := fun z => by
  obtain ⟨p, hp, ep⟩ := List.mem_map.mp z
  have := (hL p hp).1
  rw [ep, h] at this
  rcases List.mem_cons.mp hp with rfl | hp
  · cases this
  · obtain ⟨e, he, rfl⟩ := List.mem_map.mp hp
    cases this
def spTbLen (K : PySem.W.Frag) : Sp := fun vs H Q _ => ∃ A es, vs = [.ref A.x] ∧ TbAt K H A es ∧ (es.flatMap TbE.rs).length ≤ 1000000 ∧ ∀ H', Same H H' → Q (.int ((es.flatMap TbE.rs).length : Nat)) H'
theorem d_tb_len (T : Txt K mg) : FnR P w K mg base CX0 1 (ma K (ga K "Tables") "__len__") (spTbLen K) := by
  obtain ⟨fd, F⟩ := T.f_Tables___len__
  refine fnN F (fun _ _ _ _ _ _ us hl => match us, hl with | [_], _ => rfl) sc_Tables___len__ (fun vs H Q E h => ?_) (fun cdv A outer s H vs Q E hr h => ?_)
  · obtain ⟨A, es, rfl, _⟩ := h
    rfl
  · obtain ⟨A, es, rfl, B, hln, hQ⟩ := h
    refine ⟨_, PSs.nox (pss_one (ps_ret (pe_callB call_len_seq (by rfl) T.z_len (by decide +kernel) (pa_cons (pe_lockL (pe_lc2 (own := [("rows", 1), ("row", 2)]) (vs1 := [2]) (tt := tYes) (tt1 := tYes) (by rfl) sc_Tables___len__.nd (pi_values (pe_fld (pv 0) rfl)) (blkOk_by (own := [("rows", 1), ("row", 2)]) (N := ["self", "rows", "row"]) (sc := defScope s_Tables___len__) (by decide +kernel)) (by decide) (fun _ _ _ _ _ => (pg_name (i := 1) sc_Tables___len__.nd rfl (.inl rfl))) (fun _ _ _ _ _ => pts_nil) (fun _ _ _ _ _ => (pi_keysN (pv 1))) (fun _ _ _ _ _ => (pg_name (i := 2) sc_Tables___len__.nd rfl (.inl rfl))) (fun _ _ _ _ _ => pts_nil) (fun _ _ _ _ _ => (pv 2)))) pa_nil)))), ?_⟩
    obtain ⟨X, hX⟩ := B.ents
    obtain ⟨hL, nL⟩ := lkL_ok B hX
    have xo := lkL_x hL B.hx
    refine ⟨lkL A es X, hL, nL, fun od => ?_⟩
    have at0 := frzL_at (od := od) (H := H) nL
    have x1 : frzL od (lkL A es X) H A.x = _ := (frzL_off xo).trans B.hx
    generalize eF : frzL od (lkL A es X) H = H1 at at0 x1 ⊢
    have p1 := at0 (A.pl, .dK (plK es)) (List.mem_cons_self ..)
    refine ⟨_, rfl, _, _, _, _, _, rfl, x1, T.o_Tables.cl, T.n_Tables_places, tbF_places, ?_⟩
    refine ⟨_, _, _, rfl, p1, fun D nD => ?_⟩
    have oD : D ∉ (lkL A es X).map Prod.fst := fun z => by
      obtain ⟨p, hp, ep⟩ := List.mem_map.mp z
      rw [← ep, at0 p hp] at nD
      cases nD
    have ePl : (plK es).length = es.length := by unfold plK; rw [List.length_map]
    have sD : Same H1 (upd H1 D (.lst [])) := same_upd nD
    refine any_it walk_values (fun i H' => Same H1 H' ∧ ∃ us, H' D = some (.lst us) ∧ us.length = ((es.take i).flatMap TbE.rs).length) ⟨sD, [], upd_same, rfl⟩ (fun i H' _ h => h.1 _ _ p1) ?_ ?_
    · rintro i xv H' H'' hi ⟨s2, us, eu, lu⟩ ⟨rfl, k, hk⟩
      obtain ⟨e, he, ek⟩ := getM hk
      cases ek
      have hle := flat_le he
      have hem := List.mem_of_getElem? he
      have q1 := at0 (e.d, dN e.d (X e)) (List.mem_cons_of_mem _ (List.mem_map.mpr ⟨e, hem, rfl⟩))
      have lX : (X e).length = e.rs.length := by
        have := Paired.length (hX e hem).2
        unfold setR at this
        rw [List.length_map] at this
        exact this.symm
      refine ⟨rfl, tYes_of ?_⟩
      refine ⟨_, rfl, _, _, _, rfl, s2 _ _ q1, any_it walkN (fun j H2 => Same H1 H2 ∧ ∃ us2, H2 D = some (.lst us2) ∧ us2.length = us.length + j) ⟨s2, us, eu, rfl⟩ (fun j H2 _ h => h.1 _ _ q1) ?_ ?_⟩
      · rintro j yv H2 H3 hj ⟨s3, us2, eu2, lu2⟩ ⟨rfl, en, hen, rfl⟩
        refine ⟨rfl, tYes_of ?_⟩
        refine ⟨_, rfl, us2, eu2, Nat.lt_of_le_of_lt (show _ ≤ 1000000 by omega) (by decide), same_upN s3 nD, _, upd_same, ?_⟩
        rw [List.length_append, lu2, List.length_singleton]
        omega
      · rintro H2 ⟨s3, us2, eu2, lu2⟩
        refine ⟨s3, us2, eu2, ?_⟩
        rw [lu2, lu, lX, tk1 he, List.flatMap_append, List.length_append]
        simp
    · rintro H' ⟨s2, us, eu, lu⟩
      rw [ePl, List.take_length] at lu
      refine ⟨fun p hp => s2 _ _ (at0 p hp), ?_⟩
      have s3 : Same H (thawL (lkL A es X) H') := thaw_same nL (fun p hp => (hL p hp).1) (by rw [eF]; exact s2)
      have eD : thawL (lkL A es X) H' D = some (.lst us) := (thawL_off oD).trans eu
      refine ⟨_, _, rfl, .inl (SqL.of eD), ?_⟩
      rw [lu]
      exact hQ _ s3

end
end K10
namespace K10
open PySem PySem.Spec PyProof.Rows L2 He TL EL
section
variable {P : Program} {w : World} {K : PySem.W.Frag} {mg : Str → Option Value} {base : Heap}
/-! Tables.twin -/
theorem foldR_take {rs : List Rw} (nd : rs.Nodup) : ∀ i, (rs.take i).foldl addR [] = rs.take i := by
  have : ∀ (l acc : List Rw), (acc ++ l).Nodup → l.foldl addR acc = acc ++ l := fun l => by
    induction l with
    | nil => intro acc _; rw [List.append_nil]; rfl
    | cons x t ih =>
      intro acc h
      have hx : x ∉ acc := fun z => by
        have := (List.nodup_append.mp h).2.2 x z x (List.mem_cons_self ..)
        exact this rfl
      have e : addR acc x = acc ++ [x] := by unfold addR; rw [if_neg hx]
      rw [List.foldl_cons, e, ih (acc ++ [x]) (by rw [List.append_assoc]; exact h), List.append_assoc]
      rfl
  intro i
  exact this (rs.take i) [] (by rw [List.nil_append]; exact List.Sublist.nodup (List.take_sublist ..) nd)
theorem addR_take {rs : List Rw} (nd : rs.Nodup) {j : Nat} {r : Rw} (h : rs[j]? = some r) : addR (rs.take j) r = rs.take (j + 1) := by
  have h1 := foldR_take nd (j + 1)
  rw [tk1 h, List.foldl_append, foldR_take nd j] at h1
  rw [tk1 h]
  exact h1
def spTbTwin (K : PySem.W.Frag) : Sp := fun vs H Q _ => ∃ A es, vs = [.ref A.x] ∧ TbAt K H A es ∧ es.length ≤ 1000 ∧ (∀ e ∈ es, e.rs.length ≤ 100000) ∧
  ∀ A' es' H', Same H H' → H A'.x = none → TbNew H A' → H A'.pl = none → es'.map TbE.s = es.map TbE.s → es'.map TbE.rs = es.map TbE.rs → (∀ e ∈ es', H e.d = none) → TbAt K H' A' es' → Q (.ref A'.x) H'
theorem d_tb_twin (T : Txt K mg) : FnR P w K mg base CX0 6 (ma K (ga K "Tables") "twin") (spTbTwin K) := by
  obtain ⟨fd, F⟩ := T.f_Tables_twin
  have D_tb := d_tb2 (P := P) (w := w) (base := base) T
  refine fnN F (fun _ _ _ _ _ _ us hl => match us, hl with | [_], _ => rfl) sc_Tables_twin (fun vs H Q E h => ?_) (fun cdv A outer s H vs Q E hr h => ?_)
  · obtain ⟨A, es, rfl, _⟩ := h
    rfl
  · obtain ⟨A, es, rfl, B, hln, hlr, hQ⟩ := h
    refine ⟨_, PSs.nox (pss_one (ps_ret (pe_makeE T.m_Tables D_tb hr T.g_Tables px0 (pa_cons (pe_fld (pv 0) rfl) (pa_cons (pe_lock (pe_dcG (own := [("name", 2), ("rows", 3)]) (g := gTup K 2 (gCons (gName 2) (gCons (gName 3) gNil))) (tt := tYes) NilD.k hr.units0 (by rfl) sc_Tables_twin.nd (pi_items (pe_fld (pv 0) rfl)) (blkOk_by (own := [("name", 2), ("rows", 3)]) (N := ["self", "row", "name", "rows"]) (sc := defScope s_Tables_twin) (by decide +kernel)) (fun _ _ _ _ _ => (pg_tup rfl (pgs_cons (pg_name (i := 2) sc_Tables_twin.nd rfl (.inl rfl) (.inr rfl)) (pgs_cons (pg_name (i := 3) sc_Tables_twin.nd rfl (.inl rfl) (.inr rfl)) pgs_nil)))) (fun _ _ _ _ _ => pts_nil) (fun _ _ _ _ _ => (pv 2)) (fun _ _ _ _ _ => (pe_lock (pe_dcN (K := K) (own := [("row", 1)]) (tt := tYes) rfl (hu9 hr) (by rfl) sc_Tables_twin.nd (pi_keysN (pv 3)) (blkOk_by (by rfl)) (fun _ _ _ _ _ => (pg_name (i := 1) sc_Tables_twin.nd rfl (.inl rfl))) (fun _ _ _ _ _ => pts_nil) (fun _ _ _ _ _ => (pv 1)) (fun _ _ _ _ _ => pe_bl)))))) pa_nil))))), ?_⟩
    refine ⟨_, rfl, _, _, _, _, _, rfl, B.hx, T.o_Tables.cl, T.n_Tables_form, tbF_form, A.pl, .dK (plK es), B.hp, trivial, fun od => ?_⟩
    have mF : Md [A.pl] H (upd H A.pl (.frz od (.dK (plK es)))) := Md.upd B.hp rfl (by simp)
    have p1 : upd H A.pl (.frz od (.dK (plK es))) A.pl = some (.frz od (.dK (plK es))) := upd_same
    have thw : ∀ {H' : Hp}, Same (upd H A.pl (.frz od (.dK (plK es)))) H' → Same H (upd H' A.pl (.dK (plK es))) := fun s => thaw1 B.hp s
    generalize eF : upd H A.pl (.frz od (.dK (plK es))) = H1 at mF p1 thw ⊢
    have x1 := mF.out _ _ B.hx (nin1 (ne_of B.hx B.hp (by intro z; cases z)))
    have k1 : ∀ e ∈ es, KD K H1 e.d (setR e.rs) := fun e he => (B.hd e he).md mF (nin1 (by obtain ⟨xs, ex, _⟩ := B.hd e he; exact ne_of ex B.hp (by intro z; cases z)))
    refine ⟨_, rfl, _, _, _, _, _, rfl, x1, T.o_Tables.cl, T.n_Tables_places, tbF_places, _, _, _, rfl, p1, fun D nD => ?_⟩
    have new : ∀ {a : Addr}, H1 a = none → H a = none := fun {a} h => by
      by_cases z : a = A.pl
      · rw [z, p1] at h; cases h
      · rw [← eF, upd_ne z] at h; exact h
    have sD : Same H1 (upd H1 D (.dK [])) := same_upd nD
    have nDp : D ≠ A.pl := fun z => by rw [z, p1] at nD; cases nD
    refine dcG_it walk_items (fun i H' => ∃ es1 : List TbE, es1.map TbE.s = (es.take i).map TbE.s ∧ es1.map TbE.rs = (es.take i).map TbE.rs ∧ (∀ e ∈ es1, H e.d = none ∧ KD K H' e.d (setR e.rs)) ∧ (es1.map TbE.d).Nodup ∧ H' D = some (.dK (plK es1)) ∧ Md [D] (upd H1 D (.dK [])) H')
      ⟨[], rfl, rfl, (fun e he => by cases he), by simp, upd_same, .refl _ _⟩ (fun i H' _ ⟨_, _, _, _, _, _, m⟩ => m.out _ _ (sD _ _ p1) (nin1 (Ne.symm nDp))) ?_ ?_
    · rintro i xv H' H'' hi ⟨es1, e1, e2, hk, nd, eD, m⟩ ⟨T', y1, y2, rfl, nT, rfl, ey1, ey2⟩
      obtain ⟨e, he⟩ : ∃ e, es[i]? = some e := by
        refine ⟨es[i]'?_, List.getElem?_eq_getElem _⟩
        unfold plK at hi
        rw [List.length_map] at hi
        exact hi
      have hpl : (plK es)[i]? = some (.inr e.s.nm, .ref e.d) := by unfold plK; rw [List.getElem?_map, he]; rfl
      dsimp only at ey1 ey2
      rw [hpl] at ey1 ey2
      cases ey1
      cases ey2
      have hem := List.mem_of_getElem? he
      refine ⟨T', _, rfl, SqT.of upd_same, rfl, ?_⟩
      have sT : Same H' (upd H' T' (.tup [kV (.inr e.s.nm), .ref e.d])) := same_upd nT
      generalize upd H' T' (.tup [kV (.inr e.s.nm), .ref e.d]) = H3 at sT ⊢
      have s13 : Same H1 H3 := (Md.newM (S := []) m (Md.of sD) nD).same.trans sT
      obtain ⟨xs, ex, rx⟩ := (k1 e hem).md (Md.of (S := []) s13) (by simp)
      refine ⟨_, _, rfl, _, _, rfl, rfl, rfl, tYes_of ⟨_, rfl, e.d, _, ex, trivial, fun od2 => ?_⟩⟩
      have sFz : ∀ {H' : Hp}, Same (upd H3 e.d (.frz od2 (dN e.d xs))) H' → Same H3 (upd H' e.d (dN e.d xs)) := fun s => thaw1 ex s
      have mFz : Md [e.d] H3 (upd H3 e.d (.frz od2 (dN e.d xs))) := Md.upd ex rfl (by simp)
      have q4 : upd H3 e.d (.frz od2 (dN e.d xs)) e.d = some (.frz od2 (dN e.d xs)) := upd_same
      generalize upd H3 e.d (.frz od2 (dN e.d xs)) = H4 at sFz mFz q4 ⊢
      refine ⟨_, rfl, _, _, _, rfl, q4, fun D2 nD2 => ?_⟩
      have nD2e : D2 ≠ e.d := fun z => by rw [z, q4] at nD2; cases nD2
      have s2 : Same H4 (upd H4 D2 (dN D2 [])) := same_upd nD2
      have lX : xs.length = e.rs.length := by
        have := Paired.length rx
        unfold setR at this
        rw [List.length_map] at this
        exact this.symm
      have rnd := B.rn e hem
      have nD3 : H3 D2 = none := by
        cases q : H3 D2 with
        | none => rfl
        | some o => rw [mFz.out _ _ q (nin1 nD2e)] at nD2; cases nD2
      have nD' := sT.free nD3
      refine dcN_it walkN (fun j H5 => KD K H5 D2 (setR (e.rs.take j)) ∧ Md [D2] (upd H4 D2 (dN D2 [])) H5) ⟨KD.new upd_same, .refl _ _⟩ (fun j H5 _ h => h.2.out _ _ (s2 _ _ q4) (nin1 (Ne.symm nD2e))) ?_ ?_
      · rintro j yv H5 H6 hj ⟨⟨ys, ey, ry⟩, m2⟩ ⟨rfl, en, hen, rfl⟩
        obtain ⟨r, v, hr1, hdp⟩ := rx.at hen
        have hr2 := setR_at hr1
        have hdp5 := m2.dp (rwD_nl r) (Dp.same s2 (mFz.dp (rwD_nl r) hdp))
        refine ⟨rfl, tYes_of ⟨_, rfl, setR (e.rs.take j), ys, r, en.2.1, ey, ry, rfl, hdp5, ?_, fun zs rz => ?_⟩⟩
        · unfold setR
          rw [List.length_map, List.length_take]
          exact Nat.lt_of_le_of_lt (Nat.le_trans (Nat.min_le_right _ _) (hlr e hem)) (by decide)
        · rw [putK_setR, addR_take rnd hr2] at rz
          exact ⟨⟨zs, upd_same, rz⟩, m2.trans (Md.upd ey rfl (by simp))⟩
      · rintro H5 ⟨kd, m2⟩
        rw [lX, List.take_length] at kd
        have s45 : Same H4 H5 := (Md.newM (S := []) m2 (Md.of s2) nD2).same
        have e5 := s45 _ _ q4
        refine ⟨e5, ?_⟩
        have s37 := sFz s45
        have tk := Tk.upd (o := dN e.d xs) (no_tupN e5)
        obtain ⟨ys, ey, ry⟩ := kd
        have ry7 := ry.tk tk
        have ey7 : upd H5 e.d (dN e.d xs) D2 = some (dN D2 ys) := (upd_ne nD2e).trans ey
        generalize upd H5 e.d (dN e.d xs) = H7 at s37 ry7 ey7 ⊢
        have eD7 : H7 D = some (.dK (plK es1)) := s37 _ _ (sT _ _ eD)
        have nDD2 : D2 ≠ D := fun z => by rw [z, eD] at nD'; cases nD'
        have hss : (es.map TbE.s)[i]? = some e.s := by rw [List.getElem?_map, he]; rfl
        have hf : findT es1 e.s.nm = none := findT_take (rs := es.map TbE.s) (by rw [e1, List.map_take]) B.nn hss
        have l1 : es1.length ≤ 1000 := by
          have := congrArg List.length e1
          rw [List.length_map, List.length_map, List.length_take] at this
          omega
        have mu : Md [D] H7 (upd H7 D (.dK (putK (plK es1) (.inr e.s.nm) (.ref D2)))) := Md.upd eD7 rfl (by simp)
        refine ⟨_, DPut.k (k := .inr e.s.nm) eD7 (by unfold plK; rw [List.length_map]; exact Nat.lt_of_le_of_lt l1 (by decide)), es1 ++ [⟨e.s, D2, e.rs⟩], ?_, ?_, ?_, ?_, ?_, ?_⟩
        · rw [List.map_append, e1, tk1 he, List.map_append]
          rfl
        · rw [List.map_append, e2, tk1 he, List.map_append]
          rfl
        · intro o ho
          rcases List.mem_append.mp ho with ho | ho
          · obtain ⟨h1, xs', ex', rx'⟩ := hk o ho
            have hne : o.d ≠ D := ne_of ex' eD (by intro z; cases z)
            exact ⟨h1, (KD.md ⟨xs', ex', rx'⟩ (Md.of (S := []) (sT.trans s37)) (by simp)).md mu (nin1 hne)⟩
          · cases List.mem_singleton.mp ho
            exact ⟨new (s13.free nD3), KD.md ⟨ys, ey7, ry7⟩ mu (nin1 nDD2)⟩
        · rw [List.map_append]
          refine nodup_snoc nd fun z => ?_
          obtain ⟨o, ho, eo⟩ := List.mem_map.mp z
          obtain ⟨_, xs', ex', _⟩ := hk o ho
          rw [eo, nD'] at ex'
          cases ex'
        · rw [plK_snoc (l := e.rs) hf]
          exact upd_same
        · exact m.trans ((Md.of (sT.trans s37)).trans mu)
    · rintro H' ⟨es1, e1, e2, hk, nd, eD, m⟩
      have ePl : (plK es).length = es.length := by unfold plK; rw [List.length_map]
      rw [ePl, List.take_length] at e1 e2
      have s1' : Same H1 H' := (Md.newM (S := []) m (Md.of sD) nD).same
      have p' := s1' _ _ p1
      refine ⟨p', ?_⟩
      have sH := thw s1'
      have tk := Tk.upd (o := .dK (plK es)) (no_tupU p' (by intro xs z; cases z))
      have eD9 : upd H' A.pl (.dK (plK es)) D = some (.dK (plK es1)) := (upd_ne nDp).trans eD
      have kd9 : ∀ e ∈ es1, KD K (upd H' A.pl (.dK (plK es))) e.d (setR e.rs) := fun e he => by
        obtain ⟨_, xs, ex, rx⟩ := hk e he
        have hne : e.d ≠ A.pl := fun z => by rw [z, p'] at ex; cases ex
        exact ⟨xs, (upd_ne hne).trans ex, rx.tk tk⟩
      generalize upd H' A.pl (.dK (plK es)) = H9 at sH eD9 kd9 ⊢
      have rn1 : ∀ e ∈ es1, e.rs.Nodup := fun e he => by
        have : e.rs ∈ es.map TbE.rs := by rw [← e2]; exact List.mem_map_of_mem he
        obtain ⟨o, ho, eo⟩ := List.mem_map.mp this
        rw [← eo]
        exact B.rn o ho
      refine mkTb2 (Q := fun z H' => Q (.ref z) H') (B.hf.same sH) B.nn (by rw [List.length_map]; exact hln) eD9 e1 kd9 nd rn1 fun A' H'' s' nx ep hn B' => ?_
      exact hQ A' es1 H'' (sH.trans s') (sH.free nx) ⟨sH.free hn.f, sH.free hn.dw, sH.free hn.dl, hn.wl⟩ (by rw [ep]; exact new nD) e1 e2 (fun e he => (hk e he).1) B'

end
end K10
namespace K10
open PySem PySem.Spec PyProof.Rows L2 He TL EL
section
variable {P : Program} {w : World} {K : PySem.W.Frag} {mg : Str → Option Value} {base : Heap}
/-! Tables.__or__ -/
def unionR (a b : List Rw) : List Rw := (a ++ b).foldl addR []
def zipU (es fs : List TbE) : List (List Rw) := (es.zip fs).map fun p => unionR p.1.rs p.2.rs
theorem foldR_nd (l : List Rw) : ∀ acc : List Rw, acc.Nodup → (l.foldl addR acc).Nodup := by
  induction l with
  | nil => exact fun _ h => h
  | cons x t ih => exact fun acc h => ih _ (addR_nd h x)
theorem foldR_len (l : List Rw) : ∀ acc : List Rw, (l.foldl addR acc).length ≤ acc.length + l.length := by
  induction l with
  | nil => exact fun _ => Nat.le_refl _
  | cons x t ih =>
    intro acc
    have h1 := ih (addR acc x)
    have h2 := addR_len acc x
    rw [List.foldl_cons, List.length_cons]
    omega
theorem findT_of {es : List TbE} (nn : (nmS (es.map TbE.s)).Nodup) {e : TbE} (h : e ∈ es) : findT es e.s.nm = some e := by
  cases q : findT es e.s.nm with
  | none =>
    unfold findT at q
    rw [List.find?_eq_none] at q
    exact absurd (decide_eq_true rfl) (q e h)
  | some o =>
    obtain ⟨ho, hn⟩ := findT_mem q
    rw [nm_inj nn ho h hn]
theorem key_at {es fs : List TbE} (hk : (es.map TbE.s).map keyS = (fs.map TbE.s).map keyS) {i : Nat} {e : TbE} (h : es[i]? = some e) : ∃ f, fs[i]? = some f ∧ keyS f.s = keyS e.s := by
  have h1 : ((es.map TbE.s).map keyS)[i]? = some (keyS e.s) := by rw [List.getElem?_map, List.getElem?_map, h]; rfl
  rw [hk] at h1
  rw [List.getElem?_map, List.getElem?_map] at h1
  cases q : fs[i]? with
  | none => rw [q] at h1; cases h1
  | some f => rw [q] at h1; exact ⟨f, rfl, Option.some.inj h1⟩
theorem zipU_at {es fs : List TbE} {i : Nat} {e f : TbE} (he : es[i]? = some e) (hf : fs[i]? = some f) : (zipU es fs)[i]? = some (unionR e.rs f.rs) := by
  unfold zipU
  rw [List.getElem?_map, (List.getElem?_zip_eq_some (z := (e, f))).mpr ⟨he, hf⟩]
  rfl
def spTbOr (K : PySem.W.Frag) : Sp := fun vs H Q E => ∃ A B es fs, vs = [.ref A.x, .ref B.x] ∧ TbAt K H A es ∧ TbAt K H B fs ∧ es.length ≤ 1000 ∧ (∀ e ∈ es, e.rs.length ≤ 50000) ∧ (∀ e ∈ fs, e.rs.length ≤ 50000) ∧
  (∀ z ∈ nmS (es.map TbE.s), PyData.strOk z = true) ∧ (∀ z ∈ nmS (fs.map TbE.s), PyData.strOk z = true) ∧ A.dw ≠ A.dl ∧ A.dw ≠ B.dl ∧ A.pl ≠ B.pl ∧
  ((es.map TbE.s).map keyS ≠ (fs.map TbE.s).map keyS → ∀ dd H', Same H H' → H' dd = some (xName (.str "")) → E (.ref (ga K "NoTable")) (some dd) H') ∧
  ((es.map TbE.s).map keyS = (fs.map TbE.s).map keyS → ∀ A' es' H', Same H H' → H A'.x = none → TbNew H A' → H A'.pl = none → es'.map TbE.s = es.map TbE.s → es'.map TbE.rs = zipU es fs → (∀ e ∈ es', H e.d = none) → TbAt K H' A' es' → Q (.ref A'.x) H')
theorem d_tb_or (hP : PF P "/claim/cut.py") (T : Txt K mg) : FnR P w K mg base (L2.CX P w) 6 (ma K (ga K "Tables") "__or__") (spTbOr K) := by
  obtain ⟨fd, F⟩ := T.f_Tables___or__
  have D_tb := d_tb2 (P := P) (w := w) (base := base) T
  have D_sceq := d_sc_eq (P := P) (w := w) (base := base) T
  refine fnN F (fun _ _ _ _ _ _ us hl => match us, hl with | [_, _], _ => rfl) sc_Tables___or__ (fun vs H Q E h => ?_) (fun cdv A outer s H vs Q E hr h => ?_)
  · obtain ⟨A, B, es, fs, rfl, _⟩ := h
    rfl
  · obtain ⟨A, B, es, fs, rfl, CA, CB, hln, hle, hlf, soA, soB, nwl, nwl2, npp, hE, hQ⟩ := h
    refine ⟨_, (pss_cons (ps_if (pt_not (pt_val (pe_callB call_isi (by rfl) T.z_isinstance (by decide +kernel) (pa_cons (pv 1) (pa_cons (pe_glob (v := .ref (ga K "Tables")) (by rfl) T.g_Tables rfl) pa_nil))))) (pss_one ps_never) pss_nil)
      (pss_cons (ps_if (pt_cmpR (op_neO T.o_Schema T.ne_Schema T.u_Schema___eq__.1 T.u_Schema___eq__.2 D_sceq (hr.mono (by decide)) pass0) (pe_fld (pv 0) rfl) (pe_fld (pv 1) rfl) (nomark _)) (pss_one (rsx (by rfl) (takes_of rfl rfl rfl rfl) hP T.y_NoTable.1 hr (pa_cons pe_str pa_nil))) pss_nil)
      (pss_cons (ps_asg (pe_tup (pa_cons (pe_fld (pv 0) rfl) (pa_cons (pe_fld (pv 1) rfl) pa_nil))) (pg_tup rfl (pgs_cons (pg_name (i := 2) sc_Tables___or__.nd rfl (.inr rfl)) (pgs_cons (pg_name (i := 3) sc_Tables___or__.nd rfl (.inr rfl)) pgs_nil))))
      (pss_one (ps_ret (pe_makeE T.m_Tables D_tb hr T.g_Tables px0 (pa_cons (pe_fld (pv 0) rfl) (pa_cons (pe_lock (pe_dcG (own := [("name", 5)]) (tt := tYes) NilD.k hr.units0 (by rfl) sc_Tables___or__.nd (pi_keys (pv 2)) (blkOk_by (own := [("name", 5)]) (N := ["self", "other", "mine", "more", "row", "name"]) (sc := defScope s_Tables___or__) (by decide +kernel)) (fun _ _ _ _ _ => (pg_name (i := 5) sc_Tables___or__.nd rfl (.inl rfl))) (fun _ _ _ _ _ => pts_nil) (fun _ _ _ _ _ => (pv 5)) (fun _ _ _ _ _ => (pe_dcN (K := K) (own := [("row", 4)]) (tt := tYes) rfl (hu9 hr) (by rfl) sc_Tables___or__.nd (show PI _ _ _ (iList K _) from pi_list (pe_op op_cat (pe_callTy (call_list_dN rfl) (by rfl) T.z_list (by decide +kernel) (pa_cons (pe_dget (hu_of hr) (pv 2) (pv 5) (fun _ _ => rfl)) pa_nil)) (pe_callTy (call_list_dN rfl) (by rfl) T.z_list (by decide +kernel) (pa_cons (pe_dget (hu_of hr) (pv 3) (pv 5) (fun _ _ => rfl)) pa_nil)))) (blkOk_by (by rfl)) (fun _ _ _ _ _ => (pg_name (i := 4) sc_Tables___or__.nd rfl (.inl rfl))) (fun _ _ _ _ _ => pts_nil) (fun _ _ _ _ _ => (pv 4)) (fun _ _ _ _ _ => pe_bl))))) pa_nil)))))))), ?_⟩
    refine ⟨_, rfl, _, _, _, _, _, rfl, .own _, T.o_Tables.ty CB.hx, T.o_Tables.self, _, rfl, iteF ?_⟩
    refine ⟨_, rfl, _, _, _, _, _, rfl, CA.hx, T.o_Tables.cl, T.n_Tables_form, tbF_form, _, rfl, _, _, _, _, _, rfl, CB.hx, T.o_Tables.cl, T.n_Tables_form, tbF_form, ?_⟩
    refine ⟨_, _, _, _, rfl, CA.hf.hx, T.o_Schema.ty CB.hf.hx, T.nf_Schema, _, _, _, _, _, _, _, _, _, _, rfl, CA.hf, CB.hf, CA.nn, CB.nn, soA, soB, nwl, nwl2, (by rw [List.length_map]; exact hln), fun H1 s1 => ⟨_, rfl, ?_⟩⟩
    refine ⟨_, rfl, ?_⟩
    by_cases hk : (es.map TbE.s).map keyS = (fs.map TbE.s).map keyS
    · refine if_neg_of (by show (!decide (_ = _)) = false; rw [decide_eq_true hk]; rfl) ?_
      have A1 := CA.same s1
      have B1 := CB.same s1
      refine ⟨_, rfl, _, _, _, _, _, rfl, A1.hx, T.o_Tables.cl, T.n_Tables_places, tbF_places, _, rfl, _, _, _, _, _, rfl, B1.hx, T.o_Tables.cl, T.n_Tables_places, tbF_places, (by show 2 ≤ sizeLine; decide), fun tp ntp => ?_⟩
      generalize eH2 : upd H1 tp _ = H2
      have s2 : Same H1 H2 := eH2 ▸ same_upd ntp
      have e2 : H2 tp = some _ := eH2 ▸ upd_same
      have A2 := A1.same s2
      have B2 := B1.same s2
      refine ⟨tp, _, rfl, SqT.of e2, rfl, _, _, rfl, _, _, rfl, rfl, ?_⟩
      refine ⟨_, rfl, _, _, _, _, _, rfl, A2.hx, T.o_Tables.cl, T.n_Tables_form, tbF_form, A.pl, .dK (plK es), A2.hp, trivial, fun od => ?_⟩
      have mF : Md [A.pl] H2 (upd H2 A.pl (.frz od (.dK (plK es)))) := Md.upd A2.hp rfl (by simp)
      have p1 : upd H2 A.pl (.frz od (.dK (plK es))) A.pl = some (.frz od (.dK (plK es))) := upd_same
      have thw : ∀ {H' : Hp}, Same (upd H2 A.pl (.frz od (.dK (plK es)))) H' → Same H2 (upd H' A.pl (.dK (plK es))) := fun s => thaw1 A2.hp s
      generalize eF : upd H2 A.pl (.frz od (.dK (plK es))) = HF at mF p1 thw ⊢
      have kA : ∀ e ∈ es, KD K HF e.d (setR e.rs) := fun e he => (A2.hd e he).md mF (nin1 (by obtain ⟨xs, ex, _⟩ := A2.hd e he; exact ne_of ex A2.hp (by intro z; cases z)))
      have kB : ∀ e ∈ fs, KD K HF e.d (setR e.rs) := fun e he => (B2.hd e he).md mF (nin1 (by obtain ⟨xs, ex, _⟩ := B2.hd e he; exact ne_of ex A2.hp (by intro z; cases z)))
      have pB := mF.out _ _ B2.hp (nin1 (Ne.symm npp))
      refine ⟨_, rfl, _, _, rfl, .inl ⟨_, p1, fun D nD => ?_⟩⟩
      have new : ∀ {a : Addr}, HF a = none → H a = none := fun {a} h => by
        have h2 : H2 a = none := by
          by_cases z : a = A.pl
          · rw [z, p1] at h; cases h
          · rw [← eF, upd_ne z] at h; exact h
        exact s1.free (s2.free h2)
      have sD : Same HF (upd HF D (.dK [])) := same_upd nD
      have nDp : D ≠ A.pl := fun z => by rw [z, p1] at nD; cases nD
      have lz : (zipU es fs).length = es.length := by
        have := congrArg List.length hk
        simp only [List.length_map] at this
        unfold zipU
        rw [List.length_map, List.length_zip]
        omega
      refine dcG_it walk_keys (fun i H' => ∃ es1 : List TbE, es1.map TbE.s = (es.take i).map TbE.s ∧ es1.map TbE.rs = (zipU es fs).take i ∧ (∀ e ∈ es1, H e.d = none ∧ KD K H' e.d (setR e.rs)) ∧ (es1.map TbE.d).Nodup ∧ H' D = some (.dK (plK es1)) ∧ Md [D] (upd HF D (.dK [])) H')
        ⟨[], rfl, rfl, (fun e he => by cases he), by simp, upd_same, .refl _ _⟩ (fun i H' _ ⟨_, _, _, _, _, _, m⟩ => m.out _ _ (sD _ _ p1) (nin1 (Ne.symm nDp))) ?_ ?_
      · rintro i xv H' H'' hi ⟨es1, e1, e2', hkd, nd, eD, m⟩ ⟨rfl, k, v, hkv, rfl⟩
        obtain ⟨e, he, ek⟩ := getM hkv
        cases ek
        have hem := List.mem_of_getElem? he
        obtain ⟨f, hf, hkey⟩ := key_at hk he
        have hfm := List.mem_of_getElem? hf
        have hnm : f.s.nm = e.s.nm := congrArg Prod.fst hkey
        have sF : Same HF H'' := (Md.newM (S := []) m (Md.of sD) nD).same
        have hgA : DGet H'' A.pl (.str e.s.nm) (some (.ref e.d)) := .inl ⟨plK es, .inr e.s.nm, .inr ⟨od, sF _ _ p1⟩, rfl, by rw [val_pl, findT_of CA.nn hem]; rfl⟩
        obtain ⟨xa, exa, rxa⟩ := (kA e hem).md (Md.of (S := []) sF) (by simp)
        refine ⟨rfl, tYes_of ⟨_, rfl, _, rfl, _, rfl, _, _, rfl, hgA, _, _, rfl, exa, fun pa npa => ?_⟩⟩
        generalize eH3 : upd H'' pa _ = H3
        have s3 : Same H'' H3 := eH3 ▸ same_upd npa
        have e3 : H3 pa = some _ := eH3 ▸ upd_same
        have hgB : DGet H3 B.pl (.str e.s.nm) (some (.ref f.d)) := .inl ⟨plK fs, .inr e.s.nm, .inl (s3 _ _ (sF _ _ pB)), rfl, by rw [val_pl, ← hnm, findT_of CB.nn hfm]; rfl⟩
        obtain ⟨xb, exb, rxb⟩ := (kB f hfm).md (Md.of (S := []) (sF.trans s3)) (by simp)
        refine ⟨_, rfl, _, rfl, _, _, rfl, hgB, _, _, rfl, exb, fun pb npb => ?_⟩
        generalize eH4 : upd H3 pb _ = H4
        have s4 : Same H3 H4 := eH4 ▸ same_upd npb
        have e4 : H4 pb = some _ := eH4 ▸ upd_same
        have la : xa.length = e.rs.length := by
          have := Paired.length rxa
          unfold setR at this
          rw [List.length_map] at this
          exact this.symm
        have lb : xb.length = f.rs.length := by
          have := Paired.length rxb
          unfold setR at this
          rw [List.length_map] at this
          exact this.symm
        have hla := hle e hem
        have hlb := hlf f hfm
        refine ⟨pa, pb, _, _, rfl, rfl, s4 _ _ e3, e4, ?_, fun pc npc => ?_⟩
        · rw [List.length_map, List.length_map]
          exact Nat.le_trans (show _ ≤ 100000 by omega) (by decide)
        generalize eH5 : upd H4 pc _ = H5
        have s5 : Same H4 H5 := eH5 ▸ same_upd npc
        have e5 : H5 pc = some _ := eH5 ▸ upd_same
        have sF5 := ((sF.trans s3).trans s4).trans s5
        have dA : DpAll K H5 ((xa.map fun x => V.ref x.2.1) ++ (xb.map fun x => V.ref x.2.1)) ((e.rs ++ f.rs).map rwD) := by
          have d1 := (rxa.md (Md.of (S := []) ((s3.trans s4).trans s5))).dps
          have d2 := (rxb.md (Md.of (S := []) (s4.trans s5))).dps
          unfold setR at d1 d2
          rw [List.map_map] at d1 d2
          rw [List.map_append]
          exact DpAll.app d1 d2
        generalize eU : (xa.map fun x => V.ref x.2.1) ++ (xb.map fun x => V.ref x.2.1) = us at e5 dA ⊢
        have lU : us.length = (e.rs ++ f.rs).length := by rw [DpAll.length dA, List.length_map]
        have lRS : (e.rs ++ f.rs).length ≤ 100000 := by rw [List.length_append]; omega
        refine ⟨pc, rfl, ⟨_, SqL.of e5⟩, fun D2 nD2 => ?_⟩
        have n2c : pc ≠ D2 := fun z => by rw [← z, e5] at nD2; cases nD2
        have sD2 : Same H5 (upd H5 D2 (dN D2 [])) := same_upd nD2
        refine dcN_it (walk_list (xs := us)) (fun j H6 => KD K H6 D2 (setR (((e.rs ++ f.rs).take j).foldl addR [])) ∧ Md [D2] (upd H5 D2 (dN D2 [])) H6) ⟨KD.new upd_same, .refl _ _⟩ (fun j H6 _ h => SqL.of (h.2.out _ _ (sD2 _ _ e5) (nin1 n2c))) ?_ ?_
        · rintro j yv H6 H7 hj ⟨⟨ys, ey, ry⟩, m2⟩ ⟨rfl, hy⟩
          obtain ⟨d, hd, hdp⟩ := DpAll.get dA hy
          obtain ⟨r, hr2, rfl⟩ := getM hd
          have hdp7 := m2.dp (rwD_nl r) (Dp.same sD2 hdp)
          obtain ⟨p, _, rfl, _, _⟩ := dp_row hdp7
          refine ⟨rfl, tYes_of ⟨_, rfl, setR (((e.rs ++ f.rs).take j).foldl addR []), ys, r, p, ey, ry, rfl, hdp7, ?_, fun zs rz => ?_⟩⟩
          · unfold setR
            rw [List.length_map]
            have h1 := foldR_len ((e.rs ++ f.rs).take j) []
            rw [List.length_take, List.length_nil] at h1
            exact Nat.lt_of_le_of_lt (show _ ≤ 100000 by omega) (by decide)
          · rw [putK_setR] at rz
            rw [tk1 hr2, List.foldl_append]
            exact ⟨⟨zs, upd_same, rz⟩, m2.trans (Md.upd ey rfl (by simp))⟩
        · rintro H6 ⟨kd, m2⟩
          rw [lU, List.take_length] at kd
          have s56 : Same H5 H6 := (Md.newM (S := []) m2 (Md.of sD2) nD2).same
          have s''6 := ((s3.trans s4).trans s5).trans s56
          have eD6 : H6 D = some (.dK (plK es1)) := s''6 _ _ eD
          have nD'' := ((s3.trans s4).trans s5).free nD2
          have nDD2 : D2 ≠ D := fun z => by rw [z, eD] at nD''; cases nD''
          have hss : (es.map TbE.s)[i]? = some e.s := by rw [List.getElem?_map, he]; rfl
          have hfn : findT es1 e.s.nm = none := findT_take (rs := es.map TbE.s) (by rw [e1, List.map_take]) CA.nn hss
          have l1 : es1.length ≤ 1000 := by
            have := congrArg List.length e1
            rw [List.length_map, List.length_map, List.length_take] at this
            omega
          have mu : Md [D] H6 (upd H6 D (.dK (putK (plK es1) (.inr e.s.nm) (.ref D2)))) := Md.upd eD6 rfl (by simp)
          refine ⟨_, DPut.k (k := .inr e.s.nm) eD6 (by unfold plK; rw [List.length_map]; exact Nat.lt_of_le_of_lt l1 (by decide)), es1 ++ [⟨e.s, D2, unionR e.rs f.rs⟩], ?_, ?_, ?_, ?_, ?_, ?_⟩
          · rw [List.map_append, e1, tk1 he, List.map_append]
            rfl
          · rw [List.map_append, e2', tk1 (zipU_at he hf)]
            rfl
          · intro o ho
            rcases List.mem_append.mp ho with ho | ho
            · obtain ⟨h1, xs', ex', rx'⟩ := hkd o ho
              have hne : o.d ≠ D := ne_of ex' eD (by intro z; cases z)
              exact ⟨h1, (KD.md ⟨xs', ex', rx'⟩ (Md.of (S := []) s''6) (by simp)).md mu (nin1 hne)⟩
            · cases List.mem_singleton.mp ho
              exact ⟨new (sF.free nD''), kd.md mu (nin1 nDD2)⟩
          · rw [List.map_append]
            refine nodup_snoc nd fun z => ?_
            obtain ⟨o, ho, eo⟩ := List.mem_map.mp z
            obtain ⟨_, xs', ex', _⟩ := hkd o ho
            rw [eo, nD''] at ex'
            cases ex'
          · rw [plK_snoc (l := unionR e.rs f.rs) hfn]
            exact upd_same
          · exact m.trans ((Md.of s''6).trans mu)
      · rintro H' ⟨es1, e1, e2', hkd, nd, eD, m⟩
        have ePl : (plK es).length = es.length := by unfold plK; rw [List.length_map]
        rw [ePl, List.take_length] at e1
        rw [ePl, ← lz, List.take_length] at e2'
        have s1' : Same HF H' := (Md.newM (S := []) m (Md.of sD) nD).same
        have p' := s1' _ _ p1
        refine ⟨p', ?_⟩
        have sH := thw s1'
        have tk := Tk.upd (o := .dK (plK es)) (no_tupU p' (by intro xs z; cases z))
        have eD9 : upd H' A.pl (.dK (plK es)) D = some (.dK (plK es1)) := (upd_ne nDp).trans eD
        have kd9 : ∀ e ∈ es1, KD K (upd H' A.pl (.dK (plK es))) e.d (setR e.rs) := fun e he => by
          obtain ⟨_, xs, ex, rx⟩ := hkd e he
          have hne : e.d ≠ A.pl := fun z => by rw [z, p'] at ex; cases ex
          exact ⟨xs, (upd_ne hne).trans ex, rx.tk tk⟩
        generalize upd H' A.pl (.dK (plK es)) = H9 at sH eD9 kd9 ⊢
        have rn1 : ∀ e ∈ es1, e.rs.Nodup := fun e he => by
          have : e.rs ∈ zipU es fs := by rw [← e2']; exact List.mem_map_of_mem he
          obtain ⟨o, ho, eo⟩ := List.mem_map.mp this
          rw [← eo]
          exact foldR_nd _ _ List.nodup_nil
        have s09 := (s1.trans s2).trans sH
        refine mkTb2 (Q := fun z H' => Q (.ref z) H') (A2.hf.same sH) CA.nn (by rw [List.length_map]; exact hln) eD9 e1 kd9 nd rn1 fun A' H'' s' nx ep hn B' => ?_
        exact hQ hk A' es1 H'' (s09.trans s') (s09.free nx) ⟨s09.free hn.f, s09.free hn.dw, s09.free hn.dl, hn.wl⟩ (by rw [ep]; exact new nD) e1 e2' (fun e he => (hkd e he).1) B'
    · refine if_pos_of (by show (!decide (_ = _)) = true; rw [decide_eq_false hk]; rfl) ?_
      exact ⟨_, rfl, fun dd nd => hE hk dd _ (s1.trans (same_upd nd)) upd_same⟩

end
end K10
namespace K10
open PySem PySem.Spec PyProof.Rows L2 He TL EL
section
variable {P : Program} {w : World} {K : PySem.W.Frag} {mg : Str → Option Value} {base : Heap}
/-! Tables.__eq__ -/
def sameU (es fs : List TbE) : Bool := (es.zip fs).all fun p => sameR (p.1.rs, p.2.rs)
theorem eqN_of {H : Hp} : ∀ {es fs : List TbE}, es.map (fun e => e.s.nm) = fs.map (fun e => e.s.nm) → (∀ e ∈ es, ∀ f ∈ fs, e.d ≠ f.d) → (∀ e ∈ es, KD K H e.d (setR e.rs)) → (∀ e ∈ fs, KD K H e.d (setR e.rs)) → EqN K H (plK es) (plK fs) ((es.zip fs).map fun p => (p.1.rs, p.2.rs))
  | [], [], _, _, _, _ => .nil
  | [], _ :: _, h, _, _, _ => by cases h
  | _ :: _, [], h, _, _, _ => by cases h
  | e :: es, f :: fs, h, hn, h1, h2 => by
    rw [List.map_cons, List.map_cons] at h
    injection h with h0 h
    have ih := eqN_of h (fun e' he f' hf => hn e' (List.mem_cons_of_mem _ he) f' (List.mem_cons_of_mem _ hf)) (fun e' he => h1 e' (List.mem_cons_of_mem _ he)) (fun e' he => h2 e' (List.mem_cons_of_mem _ he))
    have := EqN.cons (k := .inr e.s.nm) (hn e (List.mem_cons_self ..) f (List.mem_cons_self ..)) (h1 e (List.mem_cons_self ..)) (h2 f (List.mem_cons_self ..)) ih
    show EqN K H ((.inr e.s.nm, .ref e.d) :: plK es) ((.inr f.s.nm, .ref f.d) :: plK fs) _
    rw [← h0]
    exact this
def spTbEq (K : PySem.W.Frag) : Sp := fun vs H Q _ => (∃ A v d, vs = [.ref A, v] ∧ Dp K H v d ∧ Q (.bl false) H) ∨
  ∃ A B es fs, vs = [.ref A.x, .ref B.x] ∧ TbAt K H A es ∧ TbAt K H B fs ∧ es.length ≤ 1000 ∧ (∀ z ∈ nmS (es.map TbE.s), PyData.strOk z = true) ∧ (∀ z ∈ nmS (fs.map TbE.s), PyData.strOk z = true) ∧ A.dw ≠ A.dl ∧ A.dw ≠ B.dl ∧ (∀ e ∈ es, ∀ f ∈ fs, e.d ≠ f.d) ∧
    ∀ H', Same H H' → Q (.bl (decide ((es.map TbE.s).map keyS = (fs.map TbE.s).map keyS) && sameU es fs)) H'
theorem d_tb_eq (T : Txt K mg) : FnR P w K mg base CX0 5 (ma K (ga K "Tables") "__eq__") (spTbEq K) := by
  obtain ⟨fd, F⟩ := T.f_Tables___eq__
  have D_sceq := d_sc_eq (P := P) (w := w) (base := base) T
  refine fnN F (fun _ _ _ _ _ _ us hl => match us, hl with | [_, _], _ => rfl) sc_Tables___eq__ (fun vs H Q E h => ?_) (fun cdv A outer s H vs Q E hr h => ?_)
  · rcases h with ⟨A, v, d, rfl, _⟩ | ⟨A, B, es, fs, rfl, _⟩
    · rfl
    · rfl
  · refine ⟨_, PSs.nox (pss_cons (ps_if (pt_not (pt_val (pe_callB call_isi (by rfl) T.z_isinstance (by decide +kernel) (pa_cons (pv 1) (pa_cons (pe_glob (v := .ref (ga K "Tables")) (by rfl) T.g_Tables rfl) pa_nil))))) (pss_one (ps_ret pe_bl)) pss_nil)
      (pss_one (ps_ret (pe_and (pe_cmpR (op_cmpO (fun _ _ => rfl) T.u_Schema___eq__.1 T.u_Schema___eq__.2 D_sceq (hr.mono (by decide)) pass0) (pe_fld (pv 0) rfl) (pe_fld (pv 1) rfl) (nomark _)) (pe_one (pe_cmpR (op_eqDN (hu10 hr)) (pe_fld (pv 0) rfl) (pe_fld (pv 1) rfl) (nomark _))))))), ?_⟩
    rcases h with ⟨A, v, d, rfl, hv, hQ⟩ | ⟨A, B, es, fs, rfl, CA, CB, hln, soA, soB, nwl, nwl2, hdd, hQ⟩
    · refine ⟨_, rfl, _, _, _, _, _, rfl, .own _, Dp.ty hv, T.o_Tables.isD d, _, rfl, iteT ?_⟩
      exact hQ
    · refine ⟨_, rfl, _, _, _, _, _, rfl, .own _, T.o_Tables.ty CB.hx, T.o_Tables.self, _, rfl, iteF ?_⟩
      refine ⟨_, rfl, _, _, _, _, _, rfl, CA.hx, T.o_Tables.cl, T.n_Tables_form, tbF_form, _, rfl, _, _, _, _, _, rfl, CB.hx, T.o_Tables.cl, T.n_Tables_form, tbF_form, ?_⟩
      refine ⟨_, _, _, _, rfl, CA.hf.hx, T.o_Schema.ty CB.hf.hx, T.nf_Schema, _, _, _, _, _, _, _, _, _, _, rfl, CA.hf, CB.hf, CA.nn, CB.nn, soA, soB, nwl, nwl2, (by rw [List.length_map]; exact hln), fun H1 s1 => ?_⟩
      by_cases hk : (es.map TbE.s).map keyS = (fs.map TbE.s).map keyS
      · rw [decide_eq_true hk] at hQ ⊢
        have A1 := CA.same s1
        have B1 := CB.same s1
        refine ⟨_, rfl, iteT ?_⟩
        have hnm : es.map (fun e => e.s.nm) = fs.map (fun e => e.s.nm) := by
          have := congrArg (List.map Prod.fst) hk
          simp only [List.map_map] at this
          exact this
        refine ⟨_, rfl, _, _, _, _, _, rfl, A1.hx, T.o_Tables.cl, T.n_Tables_places, tbF_places, _, rfl, _, _, _, _, _, rfl, B1.hx, T.o_Tables.cl, T.n_Tables_places, tbF_places, ?_⟩
        refine ⟨_, _, _, _, _, rfl, rfl, A1.hp, B1.hp, eqN_of hnm hdd A1.hd B1.hd, ?_, ?_⟩
        · have e1 : (plK fs).map Prod.fst = (nmS (fs.map TbE.s)).map Sum.inr := by
            unfold plK nmS
            rw [List.map_map, List.map_map, List.map_map]
            rfl
          rw [e1]
          exact List.pairwise_map.mpr (List.Pairwise.imp (fun h z => h (Sum.inr.inj z)) CB.nn)
        · have e2 : ((es.zip fs).map fun p => (p.1.rs, p.2.rs)).all sameR = sameU es fs := by
            unfold sameU
            rw [List.all_map]
            rfl
          rw [e2]
          have := hQ H1 s1
          rw [Bool.true_and] at this
          exact this
      · rw [decide_eq_false hk] at hQ ⊢
        have := hQ H1 s1
        rw [Bool.false_and] at this
        exact ⟨_, rfl, iteF this⟩

end
end K10
namespace K10
open PySem PySem.Spec PyProof.Rows L2 He TL EL
section
variable {P : Program} {w : World} {K : PySem.W.Frag} {mg : Str → Option Value} {base : Heap}
theorem src_md {H H' : Hp} {p l : Addr} (S : Src H p l) (b : But p H H') : Md [p] H H' := by
  obtain ⟨xs, e⟩ := S.lst
  exact b.md e rfl
/-! _law_value -/
/-- a value that the law draws -/
def Vw (x : Int × Int) : Prop := Vl x ∧ x ≠ (77, 1)
def spVal (K : PySem.W.Frag) : Sp := fun vs H Q _ => ∃ p l, vs = [.ref p] ∧ Src H p l ∧ ∀ v x H', Md [p] H H' → Src H' p l → Dp K H' v (valD x) → Vw x → Q v H'
theorem vl_half {a : Int} (h : a = -5 ∨ a = -3 ∨ a = -1 ∨ a = 1 ∨ a = 3) : Vl (a, 2) := by
  rcases h with rfl | rfl | rfl | rfl | rfl <;> exact ⟨⟨by decide, by decide⟩, by decide, by decide⟩
theorem vl_int {a : Int} (h : a.natAbs < 2 ^ 150) : Vl (a, 1) := ⟨⟨by show (0 : Int) < 1; decide, by unfold cd; rw [show (1 : Int).natAbs = 1 from rfl, Nat.gcd_one_right]; rfl⟩, Nat.lt_of_lt_of_le h (by decide), by show (1 : Int).natAbs < _; decide⟩
theorem pow30 : ((10 : Int) ^ (30 : Int).toNat) = 1000000000000000000000000000000 := by decide +kernel
theorem d_value (T : Txt K mg) : Dn P w K mg base CX0 2 "_law_value" (spVal K) := by
  obtain ⟨fd, F⟩ := T.f__law_value
  have D__law_draw := d_draw (P := P) (w := w) (base := base) T
  refine dnN T.g__law_value F (fun _ _ _ _ _ _ us hl => match us, hl with | [_], _ => rfl) sc__law_value (fun vs H Q E h => ?_) (fun cdv A outer s H vs Q E hr h => ?_)
  · obtain ⟨p, l, rfl, _⟩ := h
    rfl
  · obtain ⟨p, l, rfl, S, hQ⟩ := h
    have hpw : CPow 10 30 := ⟨by decide, by decide, by decide⟩
    refine ⟨_, PSs.nox (pss_cons (ps_set (i := 1) sc__law_value.nd rfl (.inl rfl) (cl D__law_draw (hr.mono (by decide)) (pa_cons (pv 0) (pa_cons pe_int pa_nil))))
      (pss_cons (ps_if (pt_cmpR op_eq (pv 1) pe_int (nomark _)) (pss_one (ps_ret (pe_tup (pa_cons (pe_op op_sub (pe_op op_mulW pe_int (cl D__law_draw (hr.mono (by decide)) (pa_cons (pv 0) (pa_cons pe_int pa_nil)))) pe_int) (pa_cons pe_int pa_nil))))) pss_nil)
      (pss_cons (ps_if (pt_cmpR op_eq (pv 1) pe_int (nomark _)) (pss_one (ps_ret (pe_tup (pa_cons (pe_op op_add (pe_op op_pow pe_int pe_int) (cl D__law_draw (hr.mono (by decide)) (pa_cons (pv 0) (pa_cons pe_int pa_nil)))) (pa_cons pe_int pa_nil))))) pss_nil)
      (pss_one (ps_ret (pe_tup (pa_cons (cl D__law_draw (hr.mono (by decide)) (pa_cons (pv 0) (pa_cons pe_int pa_nil))) (pa_cons pe_int pa_nil)))))))), ?_⟩
    refine ⟨_, rfl, p, l, 6, rfl, by decide, by decide, S, fun n H1 n0 n1 S1 b1 => ?_⟩
    have fin : ∀ (x : Int × Int) (H2 : Hp) (q : Addr), Vw x → Md [p] H H2 → Src H2 p l → H2 q = none → Q (.ref q) (upd H2 q (.tup [.int x.1, .int x.2])) := fun x H2 q vl m S2 nq => by
      generalize eH3 : upd H2 q _ = H3
      have s3 : Same H2 H3 := eH3 ▸ same_upd nq
      have e3 : H3 q = some _ := eH3 ▸ upd_same
      exact hQ (.ref q) x H3 (m.trans (Md.of s3)) (S2.same s3) (.tup (SqT.of e3) (.cons (.int _) (.cons (.int _) .nil))) vl
    refine ⟨_, rfl, rfl, _, rfl, ie (fun h => ?_) (fun h => ?_)⟩
    · refine ⟨_, rfl, p, l, 5, rfl, by decide, by decide, S1, fun k H2 k0 k1 S2 b2 => ?_⟩
      refine ⟨_, _, rfl, rfl, wide_mul (a := 4) (b := 4) (by decide) (by omega) (by decide) (by decide) (by decide), _, _, rfl, rfl, (by show 2 ≤ sizeLine; decide), fun q nq => ?_⟩
      exact fin (2 * k - 5, 2) H2 q ⟨vl_half (by omega), fun z => by injection z with z1 z2; omega⟩ ((src_md S b1).trans (src_md S1 b2)) S2 nq
    · refine ⟨_, rfl, rfl, _, rfl, ie (fun h => ?_) (fun h => ?_)⟩
      · refine ⟨_, _, rfl, rfl, hpw, ?_⟩
        refine ⟨_, rfl, p, l, 2, rfl, by decide, by decide, S1, fun k H2 k0 k1 S2 b2 => ?_⟩
        refine ⟨_, _, rfl, rfl, (by show 2 ≤ sizeLine; decide), fun q nq => ?_⟩
        exact fin ((10 : Int) ^ (30 : Int).toNat + k, 1) H2 q (by rw [pow30]; exact ⟨vl_int (Nat.lt_of_le_of_lt (by omega : _ ≤ 1000000000000000000000000000002) (by decide)), fun z => by injection z with z1 z2; omega⟩) ((src_md S b1).trans (src_md S1 b2)) S2 nq
      · refine ⟨_, rfl, p, l, 4, rfl, by decide, by decide, S1, fun k H2 k0 k1 S2 b2 => ⟨(by show 2 ≤ sizeLine; decide), fun q nq => ?_⟩⟩
        exact fin (k, 1) H2 q ⟨vl_int (Nat.lt_of_le_of_lt (by omega : _ ≤ 4) (by decide)), fun z => by injection z with z1 z2; omega⟩ ((src_md S b1).trans (src_md S1 b2)) S2 nq
/-! _law_stands -/
def spLStands (K : PySem.W.Frag) : Sp := fun vs H Q _ => ∃ (g : Sg) (v1 v2 : V) (x y : Int × Int), vs = [.str g.s, v1, v2] ∧ Dp K H v1 (valD x) ∧ Dp K H v2 (valD y) ∧ Vl x ∧ Vl y ∧ Q (.bl (g.holds x y)) H
theorem vl_eq {x y : Int × Int} (h1 : Vl x) (h2 : Vl y) : decide (V.int (x.1 * y.2) = V.int (y.1 * x.2)) = decide (x = y) :=
  decide_eq_decide.mpr ⟨fun e => by
    have e' : x.1 * y.2 = y.1 * x.2 := by injection e
    obtain ⟨a, b⟩ := low_unique h1.low h2.low e'
    exact Prod.ext a b, fun e => by rw [e]⟩
theorem d_lstands (T : Txt K mg) : Dn P w K mg base CX0 1 "_law_stands" (spLStands K) := by
  obtain ⟨fd, F⟩ := T.f__law_stands
  refine dnN T.g__law_stands F (fun _ _ _ _ _ _ us hl => match us, hl with | [_, _, _], _ => rfl) sc__law_stands (fun vs H Q E h => ?_) (fun cdv A outer s H vs Q E hr h => ?_)
  · obtain ⟨g, v1, v2, x, y, rfl, _⟩ := h
    rfl
  · obtain ⟨g, v1, v2, x, y, rfl, h1, h2, l1, l2, hQ⟩ := h
    refine ⟨_, PSs.nox (pss_cons (ps_set (i := 3) sc__law_stands.nd rfl (.inl rfl) (pe_op op_mulW (pe_ix ix_tup (pv 1) pe_int (fun _ _ => rfl)) (pe_ix ix_tup (pv 2) pe_int (fun _ _ => rfl))))
      (pss_cons (ps_set (i := 4) sc__law_stands.nd rfl (.inl rfl) (pe_op op_mulW (pe_ix ix_tup (pv 2) pe_int (fun _ _ => rfl)) (pe_ix ix_tup (pv 1) pe_int (fun _ _ => rfl))))
      (pss_cons (ps_if (pt_cmpR op_eq (pv 0) pe_str (nomark _)) (pss_one (ps_ret (pe_cmpR op_lt (pv 3) (pv 4) (nomark _)))) pss_nil)
      (pss_cons (ps_if (pt_cmpR op_eq (pv 0) pe_str (nomark _)) (pss_one (ps_ret (pe_cmpR op_le (pv 3) (pv 4) (nomark _)))) pss_nil)
      (pss_one (ps_ret (pe_cmpR op_eq (pe_cmpR op_eq (pv 3) (pv 4) (nomark _)) (pe_cmpR op_eq (pv 0) pe_str (nomark _)) (nomark _)))))))), ?_⟩
    obtain ⟨p, rfl, hp⟩ := dp_val h1
    obtain ⟨q, rfl, hq⟩ := dp_val h2
    refine ⟨_, rfl, _, _, 0, _, rfl, rfl, hp, atI_nat (j := 0) rfl, _, rfl, _, _, 1, _, rfl, rfl, hq, atI_nat (j := 1) rfl, _, _, rfl, rfl, vl_mul l1 l2, ?_⟩
    refine ⟨_, rfl, _, _, 0, _, rfl, rfl, hq, atI_nat (j := 0) rfl, _, rfl, _, _, 1, _, rfl, rfl, hp, atI_nat (j := 1) rfl, _, _, rfl, rfl, vl_mul l2 l1, ?_⟩
    cases g with
    | lt =>
      refine ⟨_, rfl, rfl, _, rfl, iteT ?_⟩
      exact ⟨_, rfl, _, rfl, _, _, rfl, rfl, hQ⟩
    | le =>
      refine ⟨_, rfl, rfl, _, rfl, if_neg_of (by decide +kernel) ?_⟩
      refine ⟨_, rfl, rfl, _, rfl, iteT ?_⟩
      have e : Sg.holds .le x y = decide (x.1 * y.2 ≤ y.1 * x.2) := by
        show (!decide (y.1 * x.2 < x.1 * y.2)) = _
        by_cases h : x.1 * y.2 ≤ y.1 * x.2
        · rw [decide_eq_true h, decide_eq_false (by omega)]; rfl
        · rw [decide_eq_false h, decide_eq_true (by omega)]; rfl
      rw [e] at hQ
      exact ⟨_, rfl, _, rfl, _, _, rfl, rfl, hQ⟩
    | eq =>
      refine ⟨_, rfl, rfl, _, rfl, if_neg_of (by decide +kernel) ?_⟩
      refine ⟨_, rfl, rfl, _, rfl, if_neg_of (by decide +kernel) ?_⟩
      refine ⟨_, rfl, _, rfl, rfl, _, rfl, rfl, rfl, ?_⟩
      rw [vl_eq l1 l2]
      have e : decide (V.bl (decide (x = y)) = V.bl (decide (V.str (Sg.s .eq) = V.str "="))) = Sg.holds .eq x y := by
        show _ = decide (x = y)
        by_cases h : x = y
        · rw [decide_eq_true h]; decide +kernel
        · rw [decide_eq_false h]; decide +kernel
      show Q (.bl (decide (V.bl (decide (x = y)) = V.bl (decide (V.str (Sg.s .eq) = V.str "="))))) H
      rw [e]
      exact hQ
    | ne =>
      refine ⟨_, rfl, rfl, _, rfl, if_neg_of (by decide +kernel) ?_⟩
      refine ⟨_, rfl, rfl, _, rfl, if_neg_of (by decide +kernel) ?_⟩
      refine ⟨_, rfl, _, rfl, rfl, _, rfl, rfl, rfl, ?_⟩
      rw [vl_eq l1 l2]
      have e : decide (V.bl (decide (x = y)) = V.bl (decide (V.str (Sg.s .ne) = V.str "="))) = Sg.holds .ne x y := by
        show _ = (!decide (x = y))
        by_cases h : x = y
        · rw [decide_eq_true h]; decide +kernel
        · rw [decide_eq_false h]; decide +kernel
      show Q (.bl (decide (V.bl (decide (x = y)) = V.bl (decide (V.str (Sg.s .ne) = V.str "="))))) H
      rw [e]
      exact hQ

/-! _law_side, _law_keeps -/
def RowV (K : PySem.W.Frag) (H : Hp) (v : V) (r : Rw) : Prop := ∃ a us, v = .ref a ∧ (SqL K H a us ∨ SqT K H a us) ∧ DpAll K H us (r.map valD)
def spSide (K : PySem.W.Frag) : Sp := fun vs H Q _ => ∃ vt vr t r x, vs = [vt, vr] ∧ Dp K H vt (Tm.d t) ∧ RowV K H vr r ∧ t.at (rws r) = some x ∧ ∀ y, Dp K H y (valD x) → Q y H
theorem d_side (T : Txt K mg) : Dn P w K mg base CX0 1 "_law_side" (spSide K) := by
  obtain ⟨fd, F⟩ := T.f__law_side
  refine dnN T.g__law_side F (fun _ _ _ _ _ _ us hl => match us, hl with | [_, _], _ => rfl) sc__law_side (fun vs H Q E h => ?_) (fun cdv A outer s H vs Q E hr h => ?_)
  · obtain ⟨vt, vr, t, r, x, rfl, _⟩ := h
    rfl
  · obtain ⟨vt, vr, t, r, x, rfl, ht, ⟨a, us, rfl, ha, hA⟩, hx, hQ⟩ := h
    refine ⟨_, PSs.nox (pss_cons (ps_if (pt_cmpR op_eq (pe_ix ix_tup (pv 0) pe_int (fun _ _ => rfl)) pe_str (nomark _)) (pss_one (ps_ret (pe_ix ix_tup (pv 0) pe_int (fun _ _ => rfl)))) pss_nil)
      (pss_one (ps_ret (pe_ix ix_seq (pv 1) (pe_ix ix_tup (pv 0) pe_int (fun _ _ => rfl)) (fun _ _ => rfl))))), ?_⟩
    cases t with
    | val b c =>
      obtain ⟨q, y, rfl, hq, hy⟩ := tm_val ht
      refine ⟨_, rfl, _, _, 0, _, rfl, rfl, hq, atI_nat (j := 0) rfl, rfl, _, rfl, iteT ?_⟩
      cases hx
      exact ⟨_, rfl, _, _, 1, _, rfl, rfl, hq, atI_nat (j := 1) rfl, hQ y hy⟩
    | cell p c =>
      obtain ⟨q, rfl, hq⟩ := tm_cell ht
      refine ⟨_, rfl, _, _, 0, _, rfl, rfl, hq, atI_nat (j := 0) rfl, rfl, _, rfl, ?_⟩
      refine if_neg_of (Pl.ne_value p) ?_
      have hp : p = .first := by
        cases p with
        | first => rfl
        | old => cases hx
        | second => cases hx
      subst hp
      have hr : r[c]? = some x := hx
      obtain ⟨y, hy, hdy⟩ := DpAll.at hA (show (r.map valD)[c]? = some (valD x) by rw [List.getElem?_map, hr]; rfl)
      refine ⟨_, rfl, _, rfl, _, _, 1, _, rfl, rfl, hq, atI_nat (j := 1) rfl, ?_⟩
      rcases ha with ha | ha
      · exact .inl ⟨_, _, _, _, rfl, rfl, ha, atI_nat hy, hQ y hdy⟩
      · exact .inr (.inl ⟨_, _, _, _, rfl, rfl, ha, atI_nat hy, hQ y hdy⟩)
def spLKeeps (K : PySem.W.Frag) : Sp := fun vs H Q _ => ∃ fa la z n as ws vr r, vs = [.ref fa, vr] ∧ SqL K H fa [.str z, .int ((n : Nat) : Int), .ref la] ∧ SqL K H la ws ∧ DpAll K H ws (as.map At.d) ∧ RowV K H vr r ∧ (∀ a ∈ as, At.ok a) ∧ (∀ x ∈ r, Vl x) ∧ r.length = n ∧ as.all (At.fits (pn1 n)) = true ∧ Q (.bl (keepsR as r)) H
theorem at_vl' {r : Rw} (hr : ∀ x ∈ r, Vl x) {t : Tm} (h : t.ok) {x : Int × Int} (e : t.at (rws r) = some x) : Vl x := by
  cases t with
  | val b c => cases e; exact h
  | cell p c =>
    cases p with
    | first => exact hr x (List.mem_of_getElem? (show r[c]? = some x from e))
    | old => cases e
    | second => cases e
theorem d_lkeeps (T : Txt K mg) : Dn P w K mg base CX0 2 "_law_keeps" (spLKeeps K) := by
  obtain ⟨fd, F⟩ := T.f__law_keeps
  have D__law_stands := d_lstands (P := P) (w := w) (base := base) T
  have D__law_side := d_side (P := P) (w := w) (base := base) T
  refine dnN T.g__law_keeps F (fun _ _ _ _ _ _ us hl => match us, hl with | [_, _], _ => rfl) sc__law_keeps (fun vs H Q E h => ?_) (fun cdv A outer s H vs Q E hr h => ?_)
  · obtain ⟨fa, la, z, n, as, ws, vr, r, rfl, _⟩ := h
    rfl
  · obtain ⟨fa, la, z, n, as, ws, vr, r, rfl, hfa, hla, hA, hrow, hok, hvl, hn, hfit, hQ⟩ := h
    refine ⟨_, PSs.nox (pss_cons (ps_for PassesOwn.never rfl (pi_list (pe_ix ix_list (pv 0) pe_int (fun _ _ => rfl))) (pg_name (i := 2) sc__law_keeps.nd rfl (.inl rfl))
      (pss_one (ps_if (pt_not (pt_val (cl D__law_stands (hr.mono (by decide)) (pa_cons (pe_ix ix_tup (pv 2) pe_int (fun _ _ => rfl)) (pa_cons (cl D__law_side (hr.mono (by decide)) (pa_cons (pe_ix ix_tup (pv 2) pe_int (fun _ _ => rfl)) (pa_cons (pv 1) pa_nil))) (pa_cons (cl D__law_side (hr.mono (by decide)) (pa_cons (pe_ix ix_tup (pv 2) pe_int (fun _ _ => rfl)) (pa_cons (pv 1) pa_nil))) pa_nil)))))) (pss_one (ps_ret pe_bl)) pss_nil)))
      (pss_one (ps_ret pe_bl))), ?_⟩
    have lw : ws.length = as.length := by rw [DpAll.length hA, List.length_map]
    refine ⟨_, rfl, _, _, 2, _, rfl, rfl, hfa, atI_nat (j := 2) rfl, la, rfl, ⟨_, hla⟩, for_list (K := K) (a := la) (xs := ws) (fun i σ H' => H' = H ∧ (∃ o, σ = [some (.ref fa), some vr, o]) ∧ ∀ a ∈ as.take i, a.at (rws r) = some true) ⟨rfl, ⟨none, rfl⟩, fun a h => by cases h⟩ (fun i σ H' _ h => by rw [h.1]; exact hla) ?_ ?_⟩
    · rintro i xv σ H' hg ⟨rfl, ⟨o, rfl⟩, hall⟩
      obtain ⟨d, hd, hdp⟩ := DpAll.get hA hg
      obtain ⟨a, ha, rfl⟩ := getM hd
      obtain ⟨t, v1, v2, rfl, ht, h1, h2⟩ := at_tup hdp
      have mem := List.mem_of_getElem? ha
      have hf := List.all_eq_true.mp hfit a mem
      unfold At.fits at hf
      obtain ⟨f1, f2⟩ := Bool.and_eq_true_iff.mp hf
      obtain ⟨x, hx⟩ := tm_fits hn f1
      obtain ⟨y, hy⟩ := tm_fits hn f2
      have hao := hok a mem
      have hb := at_ss hx hy
      refine ⟨_, rfl, _, _, 0, _, rfl, rfl, ht, atI_nat (j := 0) rfl, _, rfl, _, _, 1, _, rfl, rfl, ht, atI_nat (j := 1) rfl, _, rfl, v1, vr, a.l, r, x, rfl, h1, hrow, hx, fun y1 d1 => ?_⟩
      refine ⟨_, rfl, _, _, 2, _, rfl, rfl, ht, atI_nat (j := 2) rfl, _, rfl, v2, vr, a.r, r, y, rfl, h2, hrow, hy, fun y2 d2 => ?_⟩
      refine ⟨a.s, y1, y2, x, y, rfl, d1, d2, at_vl' hvl hao.1 hx, at_vl' hvl hao.2 hy, _, rfl, ?_⟩
      cases hh : a.s.holds x y with
      | true =>
        rw [hh] at hb
        refine if_neg_of rfl ⟨rfl, ⟨_, rfl⟩, fun c hc => ?_⟩
        rw [tk1 ha] at hc
        rcases List.mem_append.mp hc with hc | hc
        · exact hall c hc
        · cases List.mem_singleton.mp hc
          exact hb
      | false =>
        rw [hh] at hb
        refine if_pos_of rfl ?_
        have : keepsR as r = false := by
          rw [Bool.eq_false_iff]
          intro z'
          have := of_decide_eq_true (List.all_eq_true.mp z' a mem)
          rw [hb] at this
          cases this
        rw [this] at hQ
        exact hQ
    · rintro σ H' ⟨rfl, ⟨o, rfl⟩, hall⟩
      rw [lw, List.take_length] at hall
      have : keepsR as r = true := List.all_eq_true.mpr fun a ha => decide_eq_true (hall a ha)
      rw [this] at hQ
      exact hQ
end
end K10
namespace K10
open PySem PySem.Spec PyProof.Rows L2 He TL EL
section
variable {P : Program} {w : World} {K : PySem.W.Frag} {mg : Str → Option Value} {base : Heap}
/-! each atom once: mathematics -/
theorem ddS_in {acc : List At} {a : At} (h : a ∈ acc) : ddS acc a = acc := by
  unfold ddS
  rw [if_pos (List.any_eq_true.mpr ⟨a, h, decide_eq_true rfl⟩)]
theorem ddS_out {acc : List At} {a : At} (h : a ∉ acc) : ddS acc a = acc ++ [a] := by
  unfold ddS
  rw [if_neg (fun z => by obtain ⟨b, hb, e⟩ := List.any_eq_true.mp z; exact h (of_decide_eq_true e ▸ hb))]
theorem ddS_nodup {acc : List At} {a : At} (h : acc.Nodup) : (ddS acc a).Nodup := by
  by_cases hm : a ∈ acc
  · rw [ddS_in hm]; exact h
  · rw [ddS_out hm]
    exact List.nodup_append.mpr ⟨h, by simp, fun x hx y hy z => hm (by rw [List.mem_singleton.mp hy] at z; exact z ▸ hx)⟩
theorem fold_nodup : ∀ (l acc : List At), acc.Nodup → (l.foldl ddS acc).Nodup
  | [], _, h => h
  | a :: r, acc, h => fold_nodup r (ddS acc a) (ddS_nodup h)
theorem fold_nd : ∀ (l acc : List At), (acc ++ l).Nodup → l.foldl ddS acc = acc ++ l
  | [], acc, _ => by rw [List.append_nil]; rfl
  | a :: r, acc, h => by
    have hm : a ∉ acc := fun z => (List.nodup_append.mp h).2.2 a z a (by simp) rfl
    show r.foldl ddS (ddS acc a) = _
    rw [ddS_out hm, fold_nd r (acc ++ [a]) (by rw [List.append_assoc]; exact h), List.append_assoc]
    rfl
theorem dd_nodup (l : List At) : (dd l).Nodup := fold_nodup l [] (by simp)
theorem dd_of {l : List At} (h : l.Nodup) : dd l = l := fold_nd l [] h
theorem dd_dd (l : List At) : dd (dd l) = dd l := dd_of (dd_nodup l)

theorem atI_ex {xs : List V} {n : Int} (h0 : 0 ≤ n) (h1 : n < xs.length) : ∃ v, v ∈ xs ∧ atI xs n = some v := by
  obtain ⟨j, rfl⟩ := Int.eq_ofNat_of_zero_le h0
  have hj : j < xs.length := by omega
  exact ⟨xs[j], List.getElem_mem hj, atI_nat (List.getElem?_eq_getElem hj)⟩
theorem sg_of {j : Int} (h0 : 0 ≤ j) (h1 : j < 4) : ∃ g : Sg, atI [V.str "<=", .str "!=", .str "<", .str "="] j = some (.str g.s) := by
  have : j = 0 ∨ j = 1 ∨ j = 2 ∨ j = 3 := by omega
  rcases this with rfl | rfl | rfl | rfl
  · exact ⟨.le, atI_nat (j := 0) rfl⟩
  · exact ⟨.ne, atI_nat (j := 1) rfl⟩
  · exact ⟨.lt, atI_nat (j := 2) rfl⟩
  · exact ⟨.eq, atI_nat (j := 3) rfl⟩
/-! _law_form -/
def spForm (K : PySem.W.Frag) : Sp := fun vs H Q _ => ∃ p l x dx dw dl rs z, vs = [.ref p, .ref x, .str z] ∧ Src H p l ∧ ScAt K H x dx dw dl rs ∧ dw ≠ dl ∧ (∀ s ∈ rs, s.l ≠ p) ∧ rs.length ≤ 10 ∧ isWordD (.str z) = true ∧ z.length ≤ 8 ∧ inS rs (.str z) = false ∧
  ∀ fa la ws n as y dy m H', Md [p, dw, dl] H H' → Src H' p l → H fa = none → H la = none → H' fa = some (.lst [.str z, .int ((n : Nat) : Int), .ref la]) → H' la = some (.lst ws) → DpAll K H' ws (as.map At.d) → (∀ a ∈ as, At.ok a) → 1 ≤ n → n ≤ 3 → as.all (At.fits (pn1 n)) = true → as.length ≤ 2 →
    H y = none → H m = none → ScAt K H' x dx dw dl (rs ++ [⟨z, n, y, dy, m, dd as⟩]) → Q (.ref fa) H'
theorem d_form (hP : PF P "/claim/cut.py") (T : Txt K mg) : Dn P w K mg base CX0 9 "_law_form" (spForm K) := by
  obtain ⟨fd, F⟩ := T.f__law_form
  have D__law_draw := d_draw (P := P) (w := w) (base := base) T
  have D_cd := d_cd1 (P := P) (w := w) (base := base) T
  obtain ⟨fdA, FA, okA⟩ := d_sc_add (P := P) (w := w) (base := base) hP T
  have D_add4 := fnD FA okA 4 1 (by simp) rfl (fun _ _ _ _ _ _ _ us its h1 h2 => match us, its, h1, h2 with | [_, _, _, _], [_], _, _ => ⟨_, rfl, rfl⟩)
  refine dnN T.g__law_form F (fun _ _ _ _ _ _ us hl => match us, hl with | [_, _, _], _ => rfl) sc__law_form (fun vs H Q E h => ?_) (fun cdv A outer s H vs Q E hr h => ?_)
  · obtain ⟨p, l, x, dx, dw, dl, rs, z, rfl, _⟩ := h
    rfl
  · obtain ⟨p, l, x, dx, dw, dl, rs, z, rfl, S, C, hwl, hsp, hlr, hzw, hzl, hzn, hQ⟩ := h
    obtain ⟨xs, hp⟩ := S.lst
    obtain ⟨xl, hl⟩ := S.lst2
    refine ⟨_, PSs.nox (pss_cons (ps_set (i := 3) sc__law_form.nd rfl (.inl rfl) (pe_op op_add pe_int (cl D__law_draw (hr.mono (by decide)) (pa_cons (pv 0) (pa_cons pe_int pa_nil)))))
      (pss_cons (ps_set (i := 4) sc__law_form.nd rfl (.inl rfl) (pe_lst pa_nil))
      (pss_cons (ps_for PassesOwn.never rfl (pi_range1 (by rfl) T.z_range (pa_cons (cl D__law_draw (hr.mono (by decide)) (pa_cons (pv 0) (pa_cons pe_int pa_nil))) pa_nil)) (pg_name (i := 5) sc__law_form.nd rfl (.inl rfl))
      (pss_cons (ps_set (i := 6) sc__law_form.nd rfl (.inl rfl) (pe_ix ix_list (pe_lst (pa_cons pe_str (pa_cons pe_str (pa_cons pe_str (pa_cons pe_str pa_nil))))) (pe_op op_add (pe_op op_mulW (pe_op op_fdivW (cl D__law_draw (hr.mono (by decide)) (pa_cons (pv 0) (pa_cons pe_int pa_nil))) pe_int) (pe_callTy call_int1 (by rfl) T.z_int (by decide +kernel) (pa_cons (pe_cmpR op_gt (pv 5) pe_int (nomark _)) pa_nil))) (pe_op op_mulW (pe_callTy call_int1 (by rfl) T.z_int (by decide +kernel) (pa_cons (pe_cmpR op_eq (pv 5) pe_int (nomark _)) pa_nil)) (cl D__law_draw (hr.mono (by decide)) (pa_cons (pv 0) (pa_cons pe_int pa_nil))))) (fun _ _ => rfl)))
      (pss_cons (ps_set (i := 7) sc__law_form.nd rfl (.inl rfl) (pe_tup (pa_cons pe_str (pa_cons (pe_tup (pa_cons (cl D__law_draw (hr.mono (by decide)) (pa_cons (pv 0) (pa_cons pe_int pa_nil))) (pa_cons pe_int pa_nil))) pa_nil))))
      (pss_mid (ps_if (pt_cmpR op_eq (cl D__law_draw (hr.mono (by decide)) (pa_cons (pv 0) (pa_cons pe_int pa_nil))) pe_int (nomark _)) (pss_one (ps_set (i := 7) sc__law_form.nd rfl (.inl rfl) (pe_tup (pa_cons pe_str (pa_cons (pe_op op_sub (pv 3) pe_int) pa_nil))))) pss_nil)
      (pss_one (ps_expr (pe_bm PySem.F.plainAttrs_list PySem.F.slot_list_append PySem.F.type_list_append mt_append (pv 4) (pa_cons (pe_tup (pa_cons (pv 6) (pa_cons (pe_tup (pa_cons pe_str (pa_cons pe_int pa_nil))) (pa_cons (pv 7) pa_nil)))) pa_nil))))))))
      (pss_cons (ps_expr (pe_methE (pv 1) T.o_Schema.cl T.h_Schema_add D_add4 (hr.mono (by decide)) pxq (pa_cons (pv 2) (pa_cons (pv 3) (pa_cons (pe_makeE T.m_Conditions D_cd (hr.mono (by decide)) T.g_Conditions pxq (pa_cons (pv 4) pa_nil)) pa_nil)))))
      (pss_one (ps_ret (pe_lst (pa_cons (pv 2) (pa_cons (pv 3) (pa_cons (pv 4) pa_nil)))))))))), ?_⟩
    refine ⟨_, rfl, p, l, 3, rfl, by decide, by decide, S, fun c H1 c0 c1 S1 b1 => ?_⟩
    have m1 : Md [p] H H1 := b1.md hp rfl
    refine ⟨_, _, rfl, rfl, (by show 0 ≤ sizeLine; decide), fun la nla => ?_⟩
    obtain ⟨c', rfl⟩ := Int.eq_ofNat_of_zero_le c0
    have hn : (1 + (c' : Int)) = ((c' + 1 : Nat) : Int) := by omega
    have hn3 : 1 ≤ c' + 1 ∧ c' + 1 ≤ 3 := by omega
    generalize hnn : c' + 1 = n at hn hn3
    generalize eH2 : upd H1 la _ = H2
    have s2 : Same H1 H2 := eH2 ▸ same_upd nla
    have e2 : H2 la = some _ := eH2 ▸ upd_same
    obtain ⟨xs1, hp1⟩ := S1.lst
    have nlaH := free_md m1 (al1 hp1) nla
    have lal : la ≠ l := Ne.symm (ne_of_none hl nlaH)
    have lap : la ≠ p := Ne.symm (ne_of_none hp1 nla)
    have S2 := S1.same s2
    refine ⟨_, rfl, p, l, 3, rfl, by decide, by decide, S2, fun k H3 k0 k1 S3 b3 => ?_⟩
    have m3 : Md [p] H2 H3 := b3.md (s2 _ _ hp1) rfl
    have e3 : H3 la = some (.lst []) := b3 _ _ e2 lap
    refine ⟨k, rfl, by omega, by omega, for_range (n := k.toNat) (fun i σ H' => ∃ us as, (∃ o5 o6 o7, σ = [some (.ref p), some (.ref x), some (.str z), some (.int (1 + (c' : Int))), some (.ref la), o5, o6, o7]) ∧ H' la = some (.lst us) ∧ DpAll K H' us (as.map At.d) ∧ as.length = i ∧ (∀ a ∈ as, At.ok a ∧ At.fits (pn1 n) a = true) ∧ Md [la, p] H3 H' ∧ Src H' p l)
      ⟨[], [], ⟨none, none, none, rfl⟩, e3, .nil, rfl, (fun a h => by cases h), .refl _ _, S3⟩ ?_ ?_⟩
    · rintro i σ H4 hi ⟨us, as, ⟨o5, o6, o7, rfl⟩, eu, au, el, hok, m4, S4⟩
      refine ⟨(by show 4 ≤ sizeLine; decide), fun q nq => ?_⟩
      generalize eH5 : upd H4 q _ = H5
      have s5 : Same H4 H5 := eH5 ▸ same_upd nq
      have e5 : H5 q = some _ := eH5 ▸ upd_same
      obtain ⟨xs4, hp4⟩ := S4.lst
      have qp : q ≠ p := Ne.symm (ne_of_none hp4 nq)
      refine ⟨_, rfl, p, l, 8, rfl, by decide, by decide, S4.same s5, fun d H6 d0 d1 S6 b6 => ?_⟩
      refine ⟨_, _, rfl, rfl, ⟨by decide, by decide⟩, ?_⟩
      refine ⟨_, rfl, _, _, rfl, rfl, .inr ⟨_, rfl, ?_⟩⟩
      have small : ∀ {b : Bool} {j : Int}, 0 ≤ j → j < 8 → CMulW j (if b = true then 1 else 0) ∧ CMulW (if b = true then 1 else 0) j := fun {b j} h0 h1 => by
        cases b
        · exact ⟨wide_mul (a := 4) (b := 4) (by omega) (by decide) (by decide) (by decide) (by decide), wide_mul (a := 4) (b := 4) (by decide) (by omega) (by decide) (by decide) (by decide)⟩
        · exact ⟨wide_mul (a := 4) (b := 4) (by omega) (by decide) (by decide) (by decide) (by decide), wide_mul (a := 4) (b := 4) (by decide) (by omega) (by decide) (by decide) (by decide)⟩
      refine ⟨_, _, rfl, rfl, (small (by omega) (by omega)).1, ?_⟩
      refine ⟨_, rfl, rfl, .inr ⟨_, rfl, ?_⟩⟩
      refine ⟨_, rfl, p, l, 3, rfl, by decide, by decide, S6, fun e H7 e0 e1' S7 b7 => ?_⟩
      refine ⟨_, _, rfl, rfl, (small e0 (by omega)).2, _, _, rfl, rfl, ?_⟩
      have hix : 0 ≤ d / 2 * (if decide ((0 : Int) < 0 + (i : Int)) = true then 1 else 0) + (if decide (V.int (0 + (i : Int)) = V.int 0) = true then 1 else 0) * e ∧ d / 2 * (if decide ((0 : Int) < 0 + (i : Int)) = true then 1 else 0) + (if decide (V.int (0 + (i : Int)) = V.int 0) = true then 1 else 0) * e < 4 := by
        by_cases hz : i = 0
        · subst hz
          rw [if_neg (by decide), if_pos (by decide)]
          omega
        · rw [if_pos (decide_eq_true (by omega)), if_neg (by rw [decide_eq_true_eq]; intro z; injection z; omega)]
          omega
      obtain ⟨g, hg⟩ := sg_of hix.1 hix.2
      have e7 := b7 _ _ (b6 _ _ e5 qp) qp
      refine ⟨q, _, _, _, rfl, rfl, SqL.of e7, hg, ?_⟩
      have m6 : Md [p] H5 H6 := b6.md (s5 _ _ hp4) rfl
      obtain ⟨xs6, hp6⟩ := S6.lst
      have m7 : Md [p] H6 H7 := b7.md hp6 rfl
      obtain ⟨xs7, hp7⟩ := S7.lst
      refine ⟨_, rfl, p, l, 4, rfl, by decide, by decide, S7, fun f H8 f0 f1 S8 b8 => ⟨(by show 2 ≤ sizeLine; decide), fun u nu => ?_⟩⟩
      have m8 : Md [p] H7 H8 := b8.md hp7 rfl
      obtain ⟨xs8, hp8⟩ := S8.lst
      generalize eH9 : upd H8 u _ = H9
      have s9 : Same H8 H9 := eH9 ▸ same_upd nu
      have e9 : H9 u = some _ := eH9 ▸ upd_same
      refine ⟨(by show 2 ≤ sizeLine; decide), fun w1 nw1 => ?_⟩
      generalize eHA : upd H9 w1 _ = HA
      have sA : Same H9 HA := eHA ▸ same_upd nw1
      have eA : HA w1 = some _ := eHA ▸ upd_same
      have SA := S8.same (s9.trans sA)
      have dvA : Dp K HA (.ref w1) (Tm.val f 1).d := .tup (SqT.of eA) (.cons (.str _) (.cons (.tup (SqT.of (sA _ _ e9)) (.cons (.int _) (.cons (.int _) .nil))) .nil))
      have m4A : Md [p] H4 HA := (Md.of s5).trans (m6.trans (m7.trans (m8.trans (Md.of (s9.trans sA)))))
      obtain ⟨xsA, hpA⟩ := SA.lst
      refine ⟨fun σ' H' => ∃ (r : V) (tm : Tm), σ' = [some (.ref p), some (.ref x), some (.str z), some (.int (1 + (c' : Int))), some (.ref la), some (.int (0 + (i : Int))), some (.str g.s), some r] ∧ Dp K H' r tm.d ∧ tm.ok ∧ tm.fits (pn1 n) = true ∧ Md [p] HA H' ∧ Src H' p l, ?_, ?_⟩
      · refine ⟨_, rfl, p, l, 2, rfl, by decide, by decide, SA, fun c2 HB _ _ SB bB => ?_⟩
        have mB : Md [p] HA HB := bB.md hpA rfl
        refine ⟨rfl, _, rfl, ie (fun c => ?_) (fun c => ?_)⟩
        · refine ⟨_, rfl, _, _, rfl, rfl, (by show 2 ≤ sizeLine; decide), fun r1 nr1 => ?_⟩
          generalize eHC : upd HB r1 _ = HC
          have sC : Same HB HC := eHC ▸ same_upd nr1
          have eC : HC r1 = some _ := eHC ▸ upd_same
          refine ⟨_, .cell .first c', rfl, .tup (SqT.of eC) (.cons (.str _) (.cons ?_ .nil)), (by show c' < 3; omega), ?_, mB.trans (Md.of sC), SB.same sC⟩
          · show Dp K HC (.int (1 + (c' : Int) - 1)) (.int (c' : Int))
            rw [show (1 + (c' : Int) - 1) = (c' : Int) by omega]
            exact .int _
          · show decide (c' < n) = true
            exact decide_eq_true (by omega)
        · exact ⟨_, .val f 1, rfl, mB.dp (Tm.pd (.val f 1)).1.nl dvA, vl_int (Nat.lt_of_le_of_lt (by omega : f.natAbs ≤ 4) (by decide)), rfl, mB, SB⟩
      · rintro σ' HB ⟨r, tm, rfl, dr, okr, fr, mB, SB⟩
        obtain ⟨xsB, hpB⟩ := SB.lst
        have mm : Md [p] H4 HB := m4A.trans mB
        have euB := mm.out _ _ eu (by simp [lap])
        refine ⟨_, rfl, .inl ⟨rfl, _, SqL.of euB⟩, _, rfl, (by show 2 ≤ sizeLine; decide), fun q3 nq3 => ?_⟩
        generalize eHC : upd HB q3 _ = HC
        have sC : Same HB HC := eHC ▸ same_upd nq3
        have eC : HC q3 = some _ := eHC ▸ upd_same
        refine ⟨_, rfl, (by show 3 ≤ sizeLine; decide), fun q4 nq4 => ?_⟩
        generalize eHD : upd HC q4 _ = HD
        have sD : Same HC HD := eHD ▸ same_upd nq4
        have eD : HD q4 = some _ := eHD ▸ upd_same
        have sBD := sC.trans sD
        refine ⟨la, _, _, rfl, rfl, sBD _ _ euB, (by rw [DpAll.length au, List.length_map, el]; exact Nat.lt_of_lt_of_le hi (Nat.le_trans (show k.toNat ≤ 3 by omega) (by decide))), ?_⟩
        have mu : Md [la, p] HD (upd HD la (.lst (us ++ [.ref q4]))) := Md.upd (sBD _ _ euB) rfl (by simp)
        have dq : Dp K HD (.ref q4) (At.d ⟨g, .cell .first 0, tm⟩) := .tup (SqT.of eD) (.cons (.str _) (.cons (.tup (SqT.of (sD _ _ eC)) (.cons (.str _) (.cons (.int _) .nil))) (.cons (Dp.same sBD dr) .nil)))
        refine ⟨us ++ [.ref q4], as ++ [⟨g, .cell .first 0, tm⟩], ⟨_, _, _, rfl⟩, upd_same, ?_, by rw [List.length_append, el]; rfl, fun y hy => (List.mem_append.mp hy).elim (hok y) (fun z => ?_), m4.trans (((mm.mono (by simp)).trans (Md.of sBD)).trans mu), ?_⟩
        · rw [List.map_append]
          exact DpAll.snoc (mu.dp (At.pd _).nl dq) (mu.dpAll (pds_at as).nl (DpAll.same sBD (mm.dpAll (pds_at as).nl au)))
        · cases List.mem_singleton.mp z
          refine ⟨⟨by show 0 < 3; decide, okr⟩, ?_⟩
          unfold At.fits
          rw [show Tm.fits (pn1 n) (.cell .first 0) = true from decide_eq_true (show 0 < n from hn3.1), fr]
          rfl
        · exact (SB.same sBD).but (x := la) (fun b o hb hne => (upd_ne hne).trans hb) (Ne.symm lap) (Ne.symm lal)
    · rintro σ H4 ⟨us, as, ⟨o5, o6, o7, rfl⟩, eu, au, el, hok, m4, S4⟩
      have m24 : Md (la :: [p]) H2 H4 := (m3.mono (by simp)).trans (m4.mono (by simp))
      have m0 : Md [p] H H4 := Md.newM m24 (m1.trans (Md.of s2)) nlaH
      have C4 : ScAt K H4 x dx dw dl rs := C.md m0 (nin1 (ne_of C.hx hp (by intro z; cases z))) (nin1 (ne_of C.hw hp (by intro z; cases z))) (nin1 (ne_of C.hl hp (by intro z; cases z))) fun s hs => ⟨nin1 (ne_of (C.hc s hs).hx hp (by intro z; cases z)), nin1 (hsp s hs)⟩
      have al0 : Al [p] H4 := by
        obtain ⟨xs4, hp4⟩ := S4.lst
        exact al1 hp4
      have l2 : as.length ≤ 2 := by omega
      refine ⟨_, rfl, x, dx, _, rfl, C4.hx, scF_no (by decide +kernel) (by decide +kernel), _, rfl, _, rfl, _, rfl, ?_⟩
      refine mkCd (.inl (SqL.of eu)) au (fun a ha => (hok a ha).1) (by omega) fun y1 dy1 n1 H5 s5 ny nn hyn CD => ?_
      have C5 := C4.same s5
      have S5 := S4.same s5
      have hcol : addOk rs (.str z) (.int (1 + (c' : Int))) = true := by
        show (isWordD (.str z) && (!inS rs (.str z) && colOk (.int (1 + (c' : Int))))) = true
        rw [hzw, hzn, hn]
        show (decide (1 ≤ (n : Int)) && decide ((n : Int) ≤ 3)) = true
        rw [decide_eq_true (by omega), decide_eq_true (by omega)]
        rfl
      have hcn : colN (.int (1 + (c' : Int))) = n := by
        rw [hn]
        rfl
      have hfit : (dd as).all (At.fits (pn1 (colN (.int (1 + (c' : Int)))))) = true := by
        rw [hcn]
        exact List.all_eq_true.mpr fun a ha => (hok a ((dd_mem as a).mp ha)).2
      refine ⟨x, dx, dw, dl, rs, .str z, _, .ref y1, .str z, .int (1 + (c' : Int)), dd as, rfl, C5, .str z, .int _, (fun z' e => by cases e; omega), .inr ⟨y1, dy1, n1, rfl, CD⟩, by omega, ?_, hwl, (fun g => by rw [hcol] at g; cases g), (fun _ g => by rw [hfit] at g; cases g), fun z' ez _ _ y dy m H6 m6 ny' nm' hym C6 => ?_⟩
      · have := dd_len as
        omega
      cases ez
      rw [hcn, dd_dd] at C6
      refine ⟨_, rfl, _, rfl, _, rfl, (by show 3 ≤ sizeLine; decide), fun fa nfa => ?_⟩
      generalize eH7 : upd H6 fa _ = H7
      have s7 : Same H6 H7 := eH7 ▸ same_upd nfa
      have e7 : H7 fa = some _ := eH7 ▸ upd_same
      have al6 : Al [dw, dl] H6 := al_cons C6.hw (al1 C6.hl)
      have m45 : Md [p] H H5 := m0.trans (Md.of s5)
      have back : ∀ {a : Addr}, H5 a = none → H a = none := fun {a} h => free_md m0 al0 (s5.free h)
      have ela : H6 la = some (.lst us) := m6.out _ _ (s5 _ _ eu) (by simp [ne_of eu C4.hw (by intro z; cases z), ne_of eu C4.hl (by intro z; cases z)])
      have npw : p ≠ dw := ne_of hp C.hw (by intro z; cases z)
      have npl : p ≠ dl := ne_of hp C.hl (by intro z; cases z)
      have nlw : l ≠ dw := ne_of hl C.hw (by intro z; cases z)
      have nll : l ≠ dl := ne_of hl C.hl (by intro z; cases z)
      have S7 : Src H7 p l := (Src.md S5 m6 (by simp [npw, npl]) (by simp [nlw, nll])).same s7
      rw [hn] at e7
      refine hQ fa la us n as y dy m H7 ((m45.mono (by simp)).trans ((m6.mono (by simp)).trans (Md.of s7))) S7 (back (free_md m6 al6 nfa)) nlaH e7 (s7 _ _ ela) (DpAll.same s7 (m6.dpAll (pds_at as).nl (DpAll.same s5 au))) (fun a ha => (hok a ha).1) hn3.1 hn3.2 (List.all_eq_true.mpr fun a ha => (hok a ha).2) l2 (back ny') (back nm') (C6.same s7)
end
end K10
namespace K10
open PySem PySem.Spec PyProof.Rows L2 He TL EL
section
variable {P : Program} {w : World} {K : PySem.W.Frag} {mg : Str → Option Value} {base : Heap}
/-! _law_row -/
def cdN : Option Bool → Nat
  | none => 0
  | some false => 1
  | some true => 2
structure FormAt (K : PySem.W.Frag) (H : Hp) (fa la : Addr) (z : Str) (n : Nat) (as : List At) : Prop where
  hf : H fa = some (.lst [.str z, .int ((n : Nat) : Int), .ref la])
  hl : ∃ ws, H la = some (.lst ws) ∧ DpAll K H ws (as.map At.d)
  ok : ∀ a ∈ as, At.ok a
  n1 : 1 ≤ n
  n3 : n ≤ 3
  fit : as.all (At.fits (pn1 n)) = true
  len : as.length ≤ 2
theorem FormAt.md {H H' : Hp} {fa la : Addr} {z : Str} {n : Nat} {as : List At} {S : List Addr} (h : FormAt K H fa la z n as) (m : Md S H H') (h1 : fa ∉ S) (h2 : la ∉ S) : FormAt K H' fa la z n as := by
  obtain ⟨ws, e, a⟩ := h.hl
  exact ⟨m.out _ _ h.hf h1, ⟨ws, m.out _ _ e h2, m.dpAll (pds_at as).nl a⟩, h.ok, h.n1, h.n3, h.fit, h.len⟩
theorem FormAt.same {H H' : Hp} {fa la : Addr} {z : Str} {n : Nat} {as : List At} (h : FormAt K H fa la z n as) (s : Same H H') : FormAt K H' fa la z n as := h.md (S := []) (.of s) (by simp) (by simp)
theorem keepsR_dd (as : List At) (r : Rw) : keepsR (dd as) r = keepsR as r := by
  unfold keepsR
  cases h : as.all fun a => decide (a.at (rws r) = some true) with
  | true => exact List.all_eq_true.mpr fun a ha => List.all_eq_true.mp h a ((dd_mem as a).mp ha)
  | false =>
    rw [Bool.eq_false_iff] at h ⊢
    intro z
    exact h (List.all_eq_true.mpr fun a ha => List.all_eq_true.mp z a ((dd_mem as a).mpr ha))
theorem isVal_vl {x : Int × Int} (h : Vl x) : isValD (valD x) = true := isVal_of h.low
theorem isRow_rw {r : Rw} (h : ∀ x ∈ r, Vl x) : isRowD r.length (rwD r) = true := by
  show (decide ((r.map vpD).length = r.length) && (r.map vpD).all isValD) = true
  rw [List.length_map, decide_eq_true rfl, Bool.true_and, List.all_map]
  exact List.all_eq_true.mpr fun x hx => isVal_vl (h x hx)
theorem lookD_rw {s : Sch} {r : Rw} (h : ∀ x ∈ r, Vl x) (hn : r.length = s.n) : lookD s (rwD r) = if keepsR s.as r = true then none else some true := by
  unfold lookD
  rw [← hn, if_pos (isRow_rw h), rowOf_rwD]
theorem lookD_no {s : Sch} {d : PyData} (h : isRowD s.n d = false) : lookD s d = some false := by
  unfold lookD
  rw [h]
  rfl
theorem DpAll.drop {H : Hp} : ∀ {ds : List PyData} {vs : List V} (k : Nat), DpAll K H vs ds → DpAll K H (vs.drop k) (ds.drop k)
  | _, _, 0, h => h
  | _, _, _ + 1, .nil => .nil
  | _, _, k + 1, .cons _ b => DpAll.drop k b
theorem DpAll.split {H : Hp} {d : PyData} : ∀ {ds : List PyData} {vs : List V}, DpAll K H vs (ds ++ [d]) → ∃ us v, vs = us ++ [v] ∧ Dp K H v d
  | [], _, .cons a b => by
    cases b
    exact ⟨[], _, rfl, a⟩
  | e :: ds, _, .cons a b => by
    obtain ⟨us, v, rfl, h⟩ := DpAll.split b
    exact ⟨_ :: us, v, rfl, h⟩
def shB (d : PyData) : Bool := d.canLay0 && decide (d.depth ≤ 16)
theorem sh_alls {ds : List PyData} (h : ∀ d ∈ ds, shB d = true) : PyData.canLayAll0 ds = true ∧ PyData.depthAll ds ≤ 16 := by
  induction ds with
  | nil => exact ⟨rfl, Nat.zero_le _⟩
  | cons d t ih =>
    obtain ⟨h1, h2⟩ := Bool.and_eq_true_iff.mp (h d (List.mem_cons_self ..))
    obtain ⟨i1, i2⟩ := ih fun x hx => h x (List.mem_cons_of_mem _ hx)
    exact ⟨Bool.and_eq_true_iff.mpr ⟨h1, i1⟩, Nat.max_le.mpr ⟨of_decide_eq_true h2, i2⟩⟩
theorem sh_tup {ds : List PyData} (h : ∀ d ∈ ds, shB d = true) : SeqAt.shaped (.tuple ds) = true := by
  obtain ⟨h1, h2⟩ := sh_alls h
  exact Bool.and_eq_true_iff.mpr ⟨h1, decide_eq_true (by show PyData.depthAll ds + 1 ≤ 64; omega)⟩
theorem sh_val (x : Int × Int) : shB (valD x) = true := Bool.and_eq_true_iff.mpr ⟨(Pd.valD x).cl, decide_eq_true (Pd.valD x).dp⟩
def oddD : List PyData := [.tuple [.int 2, .int 4], .tuple [.int 1, .int 0], .int 3, .none, .list [.int 1, .int 1], .tuple [.bool true, .int 1]]
theorem odd_ok : (oddD.all fun d => !isValD d && shB d) = true := by decide +kernel
def spRow (K : PySem.W.Frag) : Sp := fun vs H Q _ => ∃ p l fa la z n as s, vs = [.ref p, .ref fa] ∧ Src H p l ∧ FormAt K H fa la z n as ∧ fa ≠ p ∧ la ≠ p ∧ s.n = n ∧ s.as = dd as ∧
  ∀ q v d H', Md [p] H H' → Src H' p l → H' q = some (.tup [v, .int ((cdN (lookD s d) : Nat) : Int)]) → (∀ M, Al M H → DpX K M H' v d) → rowV s d → SeqAt.shaped d = true → (lookD s d = none → ∃ r, d = rwD r ∧ ∀ x ∈ r, Vw x) → Q (.ref q) H'
theorem d_row (T : Txt K mg) : Dn P w K mg base CX0 3 "_law_row" (spRow K) := by
  obtain ⟨fd, F⟩ := T.f__law_row
  have D__law_draw := d_draw (P := P) (w := w) (base := base) T
  have D__law_value := d_value (P := P) (w := w) (base := base) T
  have D__law_keeps := d_lkeeps (P := P) (w := w) (base := base) T
  refine dnN T.g__law_row F (fun _ _ _ _ _ _ us hl => match us, hl with | [_, _], _ => rfl) sc__law_row (fun vs H Q E h => ?_) (fun cdv A outer s H vs Q E hr h => ?_)
  · obtain ⟨p, l, fa, la, z, n, as, s', rfl, _⟩ := h
    rfl
  · obtain ⟨p, l, fa, la, z, n, as, sc, rfl, S, C, fp, lp, hsn, hsa, hQ⟩ := h
    obtain ⟨xs, hp⟩ := S.lst
    obtain ⟨xl, hl⟩ := S.lst2
    refine ⟨_, PSs.nox (pss_cons (ps_set (i := 2) sc__law_row.nd rfl (.inr rfl) (pe_lc (own := [("_law_turn", 3)]) (tt := tYes) (by rfl) sc__law_row.nd (pi_range1 (by rfl) T.z_range (pa_cons (pe_ix ix_list (pv 1) pe_int (fun _ _ => rfl)) pa_nil)) (blkOk_by (own := [("_law_turn", 3)]) (N := ["_law_source", "_law_form_here", "_law_row_here", "_law_turn", "_law_kind", "_law_cell"]) (sc := defScope s__law_row) (by decide +kernel)) (fun _ _ _ _ _ => (pg_name (i := 3) sc__law_row.nd rfl (.inl rfl))) (fun _ _ _ _ _ => pts_nil) (fun _ _ _ _ _ => (cl D__law_value (hr.mono (by decide)) (pa_cons (pv 0) pa_nil)))))
      (pss_cons (ps_set (i := 4) sc__law_row.nd rfl (.inl rfl) (cl D__law_draw (hr.mono (by decide)) (pa_cons (pv 0) (pa_cons pe_int pa_nil))))
      (pss_cons (ps_if (pt_cmpR op_eq (pv 4) pe_int (nomark _)) (pss_one (ps_ret (pe_tup (pa_cons (pe_callTy call_tuple_of (by rfl) T.z_tuple (by decide +kernel) (pa_cons (pe_slice sl_list (pv 2) (po_some pe_int) po_none) pa_nil)) (pa_cons pe_int pa_nil))))) pss_nil)
      (pss_cons (ps_if (pt_cmpR op_eq (pv 4) pe_int (nomark _)) (pss_one (ps_ret (pe_tup (pa_cons (pe_op op_catA (pe_callTy call_tuple_of (by rfl) T.z_tuple (by decide +kernel) (pa_cons (pv 2) pa_nil)) (pe_tup (pa_cons (pe_tup (pa_cons pe_int (pa_cons pe_int pa_nil))) pa_nil))) (pa_cons pe_int pa_nil))))) pss_nil)
      (pss_cons (ps_if (pt_cmpR op_eq (pv 4) pe_int (nomark _)) (pss_one (ps_ret (pe_tup (pa_cons (pv 2) (pa_cons pe_int pa_nil))))) pss_nil)
      (pss_cons (ps_if (pt_cmpR op_eq (pv 4) pe_int (nomark _)) (pss_one (ps_ret (pe_tup (pa_cons (pe_op op_catA (pe_callTy call_tuple_of (by rfl) T.z_tuple (by decide +kernel) (pa_cons (pe_slice sl_list (pv 2) (po_some pe_int) po_none) pa_nil)) (pe_tup (pa_cons (pe_ix ix_list (lit_l (lits_cons (lit_t (lits_cons lit_i (lits_cons lit_i lits_nil))) (lits_cons (lit_t (lits_cons lit_i (lits_cons lit_i lits_nil))) (lits_cons lit_i (lits_cons lit_n (lits_cons (lit_l (lits_cons lit_i (lits_cons lit_i lits_nil))) (lits_cons (lit_t (lits_cons lit_b (lits_cons lit_i lits_nil))) lits_nil))))))) (cl D__law_draw (hr.mono (by decide)) (pa_cons (pv 0) (pa_cons pe_int pa_nil))) (fun _ _ => rfl)) pa_nil))) (pa_cons pe_int pa_nil))))) pss_nil)
      (pss_cons (ps_if (pt_val (cl D__law_keeps (hr.mono (by decide)) (pa_cons (pv 1) (pa_cons (pv 2) pa_nil)))) (pss_one (ps_ret (pe_tup (pa_cons (pe_callTy call_tuple_of (by rfl) T.z_tuple (by decide +kernel) (pa_cons (pv 2) pa_nil)) (pa_cons pe_int pa_nil))))) pss_nil)
      (pss_mid (ps_if (PW.pt (pw_and (pt_cmpR op_gt (cl D__law_draw (hr.mono (by decide)) (pa_cons (pv 0) (pa_cons pe_int pa_nil))) pe_int (nomark _)) (pw_and1 (pt_val (cl D__law_keeps (hr.mono (by decide)) (pa_cons (pv 1) (pa_cons (pe_lc (own := [("_law_cell", 5)]) (tt := tYes) (by rfl) sc__law_row.nd (pi_list (pv 2)) (blkOk_by (own := [("_law_cell", 5)]) (N := ["_law_source", "_law_form_here", "_law_row_here", "_law_turn", "_law_kind", "_law_cell"]) (sc := defScope s__law_row) (by decide +kernel)) (fun _ _ _ _ _ => (pg_name (i := 5) sc__law_row.nd rfl (.inl rfl))) (fun _ _ _ _ _ => pts_nil) (fun _ _ _ _ _ => (pe_ix (show IxR _ (rIxL K) from ix_list) (pv 2) (pe_un un_neg pe_int) (fun _ _ => rfl)))) pa_nil))))))) (pss_one (ps_ret (pe_tup (pa_cons (pe_callTy call_tuple_of (by rfl) T.z_tuple (by decide +kernel) (pa_cons (pe_lc (own := [("_law_cell", 5)]) (tt := tYes) (by rfl) sc__law_row.nd (pi_list (pv 2)) (blkOk_by (own := [("_law_cell", 5)]) (N := ["_law_source", "_law_form_here", "_law_row_here", "_law_turn", "_law_kind", "_law_cell"]) (sc := defScope s__law_row) (by decide +kernel)) (fun _ _ _ _ _ => (pg_name (i := 5) sc__law_row.nd rfl (.inl rfl))) (fun _ _ _ _ _ => pts_nil) (fun _ _ _ _ _ => (pe_ix (show IxR _ (rIxL K) from ix_list) (pv 2) (pe_un un_neg pe_int) (fun _ _ => rfl)))) pa_nil)) (pa_cons pe_int pa_nil))))) pss_nil)
      (pss_one (ps_ret (pe_tup (pa_cons (pe_callTy call_tuple_of (by rfl) T.z_tuple (by decide +kernel) (pa_cons (pv 2) pa_nil)) (pa_cons pe_int pa_nil))))))))))))), ?_⟩
    refine ⟨_, rfl, _, _, 1, _, rfl, rfl, SqL.of C.hf, atI_nat (j := 1) rfl, (n : Int), rfl, by omega, by have := C.n3; omega, fun D nD => ?_⟩
    have sD : Same H (upd H D (.lst [])) := same_upd nD
    have Dp_ : D ≠ p := Ne.symm (ne_of_none hp nD)
    have Dl : D ≠ l := Ne.symm (ne_of_none hl nD)
    refine lc_it walk_range (fun i H' => ∃ us r, H' D = some (.lst us) ∧ DpAll K H' us (r.map valD) ∧ r.length = i ∧ (∀ x ∈ r, Vw x) ∧ Md [D, p] (upd H D (.lst [])) H' ∧ Src H' p l)
      ⟨[], [], upd_same, .nil, rfl, (fun x hx => by cases hx), .refl _ _, S.same sD⟩ (fun _ _ _ _ => trivial) ?_ ?_
    · rintro i xv H1 H2 hi ⟨us, r, eu, au, lr, vr, m, S1⟩ ⟨rfl, rfl⟩
      refine ⟨rfl, tYes_of ?_⟩
      refine ⟨_, rfl, p, l, rfl, S1, fun v x H3 m3 S3 dv vx => ?_⟩
      have eu3 := m3.out _ _ eu (nin1 Dp_)
      refine ⟨us, eu3, (by rw [DpAll.length au, List.length_map, lr]; have := C.n3; exact Nat.lt_of_le_of_lt (show i ≤ 3 by omega) (by decide)), ?_⟩
      have mu : Md [D, p] H3 (upd H3 D (.lst (us ++ [v]))) := Md.upd eu3 rfl (by simp)
      refine ⟨us ++ [v], r ++ [x], upd_same, ?_, by rw [List.length_append, lr]; rfl, fun y hy => (List.mem_append.mp hy).elim (vr y) (fun z => by cases List.mem_singleton.mp z; exact vx), m.trans ((m3.mono (by simp)).trans mu), S3.but (x := D) (fun b o hb hne => (upd_ne hne).trans hb) (Ne.symm Dp_) (Ne.symm Dl)⟩
      rw [List.map_append]
      exact DpAll.snoc (mu.dp rfl dv) (mu.dpAll (rwD_nls r) (m3.dpAll (rwD_nls r) au))
    · rintro H1 ⟨us, r, eu, au, lr, vr, m, S1⟩
      rw [Int.toNat_natCast] at lr
      have m1 : Md [p] H H1 := Md.newM (m.mono (by simp)) (Md.of sD) nD
      have C1 := C.md m1 (nin1 fp) (nin1 lp)
      obtain ⟨xs1, hp1⟩ := S1.lst
      clear m sD
      refine ⟨_, rfl, p, l, 16, rfl, by decide, by decide, S1, fun k H2 k0 k1 S2 b2 => ?_⟩
      have m2 : Md [p] H1 H2 := b2.md hp1 rfl
      have eu2 := m2.out _ _ eu (nin1 Dp_)
      have au2 := m2.dpAll (rwD_nls r) au
      have C2 := C1.md m2 (nin1 fp) (nin1 lp)
      have lu : us.length = n := by rw [DpAll.length au, List.length_map, lr]
      have m02 := m1.trans m2
      have nse : ∀ {d : PyData}, isRowD n d = false → lookD sc d = some false := fun h => lookD_no (by rw [hsn]; exact h)
      have rv0 : ∀ {d : PyData}, isRowD n d = false → rowV sc d := fun h z => by rw [hsn, h] at z; cases z
      have nln : ∀ {ds : List PyData}, ds.length ≠ n → isRowD n (.tuple ds) = false := fun h => by
        show (decide _ && _) = false
        rw [decide_eq_false h, Bool.false_and]
      have fin1 : ∀ (q : Addr) (v : V) (d : PyData) (H3 : Hp), Md [p] H2 H3 → Src H3 p l → H3 q = some (.tup [v, .int 1]) → (∀ M, Al M H → DpX K M H3 v d) → isRowD n d = false → SeqAt.shaped d = true → Q (.ref q) H3 := fun q v d H3 m3 S3 e dv hd hs => by
        refine hQ q v d H3 (m02.trans m3) S3 ?_ dv (rv0 hd) hs (fun z => by rw [nse hd] at z; cases z)
        rw [nse hd]
        exact e
      have shr : ∀ x : Rw, SeqAt.shaped (rwD x) = true := fun x => (rowD_pd (some x)).shaped
      have n1 := C.n1
      have n3 := C.n3
      have hp2 : ∃ xs2, H2 p = some (.lst xs2) := S2.lst
      obtain ⟨xs2, hp2⟩ := hp2
      refine ⟨_, rfl, rfl, _, rfl, ie (fun h => ?_) (fun h => ?_)⟩
      · refine ⟨_, rfl, _, rfl, D, _, rfl, SqL.of eu2, fun q1 nq1 => ?_⟩
        have ec : cutV us (some 1) none = us.drop 1 := cut_from us 1
        rw [ec]
        generalize eH3 : upd H2 q1 _ = H3
        have s3 : Same H2 H3 := eH3 ▸ same_upd nq1
        have e3 : H3 q1 = some _ := eH3 ▸ upd_same
        refine ⟨_, _, rfl, .inl ⟨SqL.of e3, fun q2 nq2 => ?_⟩⟩
        generalize eH4 : upd H3 q2 _ = H4
        have s4 : Same H3 H4 := eH4 ▸ same_upd nq2
        have e4 : H4 q2 = some _ := eH4 ▸ upd_same
        refine ⟨(by show 2 ≤ sizeLine; decide), fun q3 nq3 => ?_⟩
        generalize eH5 : upd H4 q3 _ = H5
        have s5 : Same H4 H5 := eH5 ▸ same_upd nq3
        have e5 : H5 q3 = some _ := eH5 ▸ upd_same
        have s25 := (s3.trans s4).trans s5
        have dA : DpAll K H5 (us.drop 1) ((r.drop 1).map valD) := by
          rw [List.map_drop]
          exact DpAll.same s25 (DpAll.drop 1 au2)
        exact fin1 q3 _ (rwD (r.drop 1)) H5 (Md.of s25) (S2.same s25) e5 (fun _ _ => .tup (SqT.of (s5 _ _ e4)) (DpXs.of (rwD_nls _) dA)) (nln (by rw [List.length_map, List.length_drop]; omega)) (shr _)
      refine ⟨_, rfl, rfl, _, rfl, ie (fun h => ?_) (fun h => ?_)⟩
      · refine ⟨_, rfl, _, _, rfl, .inl ⟨SqL.of eu2, fun q1 nq1 => ?_⟩⟩
        generalize eH3 : upd H2 q1 _ = H3
        have s3 : Same H2 H3 := eH3 ▸ same_upd nq1
        have e3 : H3 q1 = some _ := eH3 ▸ upd_same
        refine ⟨(by show 2 ≤ sizeLine; decide), fun q2 nq2 => ?_⟩
        generalize eH4 : upd H3 q2 _ = H4
        have s4 : Same H3 H4 := eH4 ▸ same_upd nq2
        have e4 : H4 q2 = some _ := eH4 ▸ upd_same
        refine ⟨(by show 1 ≤ sizeLine; decide), fun q3 nq3 => ?_⟩
        generalize eH5 : upd H4 q3 _ = H5
        have s5 : Same H4 H5 := eH5 ▸ same_upd nq3
        have e5 : H5 q3 = some _ := eH5 ▸ upd_same
        refine catA_of (SqT.of (s5 _ _ (s4 _ _ e3))) (SqT.of e5) (by rw [lu]; exact Nat.le_trans (show n + 1 ≤ 4 by omega) (by decide)) fun q4 H6 s6 e6 => ?_
        refine ⟨(by show 2 ≤ sizeLine; decide), fun q5 nq5 => ?_⟩
        generalize eH7 : upd H6 q5 _ = H7
        have s7 : Same H6 H7 := eH7 ▸ same_upd nq5
        have e7 : H7 q5 = some _ := eH7 ▸ upd_same
        have s27 := (((s3.trans s4).trans s5).trans s6).trans s7
        have dA : DpAll K H7 (us ++ [.ref q2]) ((r ++ [(0, 1)]).map valD) := by
          rw [List.map_append]
          exact DpAll.snoc (.tup (SqT.of (s7 _ _ (s6 _ _ (s5 _ _ e4)))) (.cons (.int _) (.cons (.int _) .nil))) (DpAll.same s27 au2)
        exact fin1 q5 _ (rwD (r ++ [(0, 1)])) H7 (Md.of s27) (S2.same s27) e7 (fun _ _ => .tup (Same.seqT s7 e6) (DpXs.of (rwD_nls _) dA)) (nln (by rw [List.length_map, List.length_append, lr]; simp)) (shr _)
      refine ⟨_, rfl, rfl, _, rfl, ie (fun h => ?_) (fun h => ?_)⟩
      · refine ⟨_, rfl, (by show 2 ≤ sizeLine; decide), fun q1 nq1 => ?_⟩
        generalize eH3 : upd H2 q1 _ = H3
        have s3 : Same H2 H3 := eH3 ▸ same_upd nq1
        have e3 : H3 q1 = some _ := eH3 ▸ upd_same
        refine fin1 q1 _ (.list (r.map valD)) H3 (Md.of s3) (S2.same s3) e3 (fun M al => .lst (s3 _ _ eu2) (al.out nD) (DpXs.of (rwD_nls r) (DpAll.same s3 au2))) rfl ?_
        refine Pds.shaped fun d hd => ?_
        obtain ⟨x, _, rfl⟩ := List.mem_map.mp hd
        exact Pd.valD x
      refine ⟨_, rfl, rfl, _, rfl, ie (fun h => ?_) (fun h => ?_)⟩
      · refine ⟨_, rfl, _, rfl, D, _, rfl, SqL.of eu2, fun q1 nq1 => ?_⟩
        have ec : cutV us (some 1) none = us.drop 1 := cut_from us 1
        rw [ec]
        generalize eH3 : upd H2 q1 _ = H3
        have s3 : Same H2 H3 := eH3 ▸ same_upd nq1
        have e3 : H3 q1 = some _ := eH3 ▸ upd_same
        refine ⟨_, _, rfl, .inl ⟨SqL.of e3, fun q2 nq2 => ?_⟩⟩
        generalize eH4 : upd H3 q2 _ = H4
        have s4 : Same H3 H4 := eH4 ▸ same_upd nq2
        have e4 : H4 q2 = some _ := eH4 ▸ upd_same
        intro lv H5 s5 dlv
        have s25 := (s3.trans s4).trans s5
        have alp4 : Al [p] H4 := al1 (s4 _ _ (s3 _ _ hp2))
        obtain ⟨la2, ys, rfl, ey, nly, dys⟩ := (dlv [p] alp4).lst_inv
        refine ⟨_, rfl, p, l, 6, rfl, by decide, by decide, S2.same s25, fun j H6 j0 j1 S6 b6 => ?_⟩
        have m6 : Md [p] H5 H6 := b6.md (s25 _ _ hp2) rfl
        have ey6 := m6.out _ _ ey nly
        obtain ⟨vo, d, ev, ed, md, _⟩ := (dys.md m6).at j0 j1
        have al4 : ∀ {M : List Addr}, Al M H → Al (p :: M) H4 := fun {M} al => by
          have h2 : Al M H2 := al.md m02 (al1 hp2)
          exact al_cons (s4 _ _ (s3 _ _ hp2)) ((h2.same s3).same s4)
        have xd : ∀ M, Al M H → DpX K M H6 vo d := fun M al => by
          obtain ⟨a2, ys2, ea, ey2, _, dys2⟩ := (dlv (p :: M) (al4 al)).lst_inv
          cases ea
          rw [ey] at ey2
          cases ey2
          obtain ⟨vo2, d2, ev2, ed2, _, xd2⟩ := (dys2.md (m6.mono (by simp))).at j0 j1
          rw [ev] at ev2
          cases ev2
          rw [ed] at ed2
          cases ed2
          exact xd2.sub (fun b hb => List.mem_cons_of_mem _ hb)
        refine ⟨la2, ys, j, vo, rfl, rfl, SqL.of ey6, ev, ?_⟩
        refine ⟨(by show 1 ≤ sizeLine; decide), fun q3 nq3 => ?_⟩
        generalize eH7 : upd H6 q3 _ = H7
        have s7 : Same H6 H7 := eH7 ▸ same_upd nq3
        have e7 : H7 q3 = some _ := eH7 ▸ upd_same
        refine catA_of (Same.seqT s7 (m6.sqT (SqT.of (s5 _ _ e4)))) (SqT.of e7) (by rw [List.length_drop]; exact Nat.le_trans (show us.length - 1 + 1 ≤ 4 by omega) (by decide)) fun q4 H8 s8 e8 => ?_
        refine ⟨(by show 2 ≤ sizeLine; decide), fun q5 nq5 => ?_⟩
        generalize eH9 : upd H8 q5 _ = H9
        have s9 : Same H8 H9 := eH9 ▸ same_upd nq5
        have e9 : H9 q5 = some _ := eH9 ▸ upd_same
        have s79 := (s7.trans s8).trans s9
        have ho := List.all_eq_true.mp odd_ok d md
        obtain ⟨ho1, ho2⟩ := Bool.and_eq_true_iff.mp ho
        have ho1 : isValD d = false := by simpa using ho1
        have dA : DpAll K H6 (us.drop 1) ((r.drop 1).map valD) := by
          rw [List.map_drop]
          exact m6.dpAll (by rw [← List.map_drop]; exact rwD_nls _) (DpAll.same s25 (DpAll.drop 1 au2))
        refine fin1 q5 _ (.tuple ((r.drop 1).map valD ++ [d])) H9 ((Md.of s25).trans (m6.trans (Md.of s79))) (S6.same s79) e9 (fun M al => .tup (Same.seqT s9 e8) (DpXs.same s79 (DpXs.snoc (xd M al) (DpXs.of (rwD_nls _) dA)))) ?_ ?_
        · show (decide (((r.drop 1).map valD ++ [d]).length = n) && ((r.drop 1).map valD ++ [d]).all isValD) = false
          rw [List.all_append]
          simp [ho1]
        · refine sh_tup fun e he => ?_
          rcases List.mem_append.mp he with he | he
          · obtain ⟨x, _, rfl⟩ := List.mem_map.mp he
            exact sh_val x
          · cases List.mem_singleton.mp he
            exact ho2
      obtain ⟨ws, ela, ala⟩ := C2.hl
      have finr : ∀ (r' : Rw) (H3 : Hp) (q : Addr) (v : V), Md [p] H2 H3 → Src H3 p l → H3 q = some (.tup [v, .int (if keepsR as r' = true then 0 else 2)]) → Dp K H3 v (rwD r') → (∀ x ∈ r', Vw x) → r'.length = n → Q (.ref q) H3 := fun r' H3 q v m3 S3 e dv hv hn => by
        have hl' : lookD sc (rwD r') = if keepsR as r' = true then none else some true := by
          rw [lookD_rw (fun x hx => (hv x hx).1) (by rw [hsn]; exact hn), hsa, keepsR_dd]
        refine hQ q v (rwD r') H3 (m02.trans m3) S3 ?_ (fun _ _ => DpX.of (rwD_nl r') dv) (fun _ l' e' => ?_) (shr r') (fun _ => ⟨r', rfl, hv⟩)
        · rw [hl', e]
          cases keepsR as r' <;> rfl
        · rw [rowOf_rwD] at e'
          cases e'
          exact ⟨by omega, fun x hx => (hv x hx).1⟩
      refine ⟨_, rfl, _, rfl, fa, la, z, n, as, ws, .ref D, r, rfl, SqL.of C2.hf, SqL.of ela, ala, ⟨D, us, rfl, .inl (SqL.of eu2), au2⟩, C.ok, (fun x hx => (vr x hx).1), lr, C.fit, _, rfl, ?_⟩
      cases hk : keepsR as r with
      | true =>
        refine iteT ?_
        refine ⟨_, rfl, _, _, rfl, .inl ⟨SqL.of eu2, fun q1 nq1 => ?_⟩⟩
        generalize eH3 : upd H2 q1 _ = H3
        have s3 : Same H2 H3 := eH3 ▸ same_upd nq1
        have e3 : H3 q1 = some _ := eH3 ▸ upd_same
        refine ⟨(by show 2 ≤ sizeLine; decide), fun q2 nq2 => ?_⟩
        generalize eH4 : upd H3 q2 _ = H4
        have s4 : Same H3 H4 := eH4 ▸ same_upd nq2
        have e4 : H4 q2 = some _ := eH4 ▸ upd_same
        refine finr r H4 q2 _ (Md.of (s3.trans s4)) (S2.same (s3.trans s4)) ?_ (.tup (SqT.of (s4 _ _ e3)) (DpAll.same (s3.trans s4) au2)) vr lr
        rw [hk]
        exact e4
      | false =>
        refine iteF ?_
        refine ⟨fun σ' H' => σ' = [some (.ref p), some (.ref fa), some (.ref D), none, some (.int k), none] ∧ Md [p] H2 H' ∧ Src H' p l, ?_, ?_⟩
        · refine ⟨_, rfl, p, l, 3, rfl, by decide, by decide, S2, fun j H3 j0 j1 S3 b3 => ?_⟩
          have m3 : Md [p] H2 H3 := b3.md hp2 rfl
          refine ⟨_, _, rfl, rfl, _, rfl, ie (fun c => ?_) (fun c => ?_)⟩
          · skip
            have hr0 : r ≠ [] := fun z => by rw [z] at lr; simp at lr; omega
            obtain ⟨r0, xl, hrr⟩ : ∃ r0 xl, r = r0 ++ [xl] := ⟨_, _, (List.dropLast_concat_getLast hr0).symm⟩
            have eu3 := m3.out _ _ eu2 (nin1 Dp_)
            have au3 := m3.dpAll (rwD_nls r) au2
            have au3' := au3
            rw [hrr, List.map_append] at au3'
            obtain ⟨us', vl, hus, hvl0⟩ := DpAll.split au3'
            have vxl : Vw xl := vr xl (by rw [hrr]; simp)
            have C3 := C2.md m3 (nin1 fp) (nin1 lp)
            obtain ⟨ws3, ela3, ala3⟩ := C3.hl
            have vrep : ∀ x ∈ List.replicate n xl, Vw x := fun x hx => by rw [List.eq_of_mem_replicate hx]; exact vxl
            refine ⟨_, rfl, ?_⟩
            refine ⟨_, rfl, D, rfl, ⟨_, SqL.of eu3⟩, fun D2 nD2 => ?_⟩
            have sD2 : Same H3 (upd H3 D2 (.lst [])) := same_upd nD2
            have xD2 : D ≠ D2 := fun z => by rw [← z, eu3] at nD2; cases nD2
            refine lc_it (walk_list (xs := us)) (fun i H' => ∃ us2, H' D2 = some (.lst us2) ∧ DpAll K H' us2 ((List.replicate i xl).map valD) ∧ Md [D2] (upd H3 D2 (.lst [])) H') ⟨[], upd_same, .nil, .refl _ _⟩ (fun i H' _ ⟨_, _, _, m⟩ => SqL.of (m.out _ _ (sD2 _ _ eu3) (nin1 xD2))) ?_ ?_
            · rintro i xv H' H'' hi ⟨us2, eu2', au2', m⟩ ⟨rfl, hx⟩
              have hvl := m.dp rfl (Dp.same sD2 (hvl0))
              refine ⟨rfl, tYes_of ⟨_, rfl, 1, rfl, D, us, -1, vl, rfl, rfl, SqL.of (m.out _ _ (sD2 _ _ eu3) (nin1 xD2)), (by rw [hus]; exact atI_last us' vl), us2, eu2', (by rw [DpAll.length au2', List.length_map, List.length_replicate]; exact Nat.lt_of_le_of_lt (show i ≤ 3 by omega) (by decide)), ?_⟩⟩
              have mu : Md [D2] H'' (upd H'' D2 (.lst (us2 ++ [vl]))) := Md.upd eu2' rfl (by simp)
              refine ⟨us2 ++ [vl], upd_same, ?_, m.trans mu⟩
              rw [List.replicate_succ', List.map_append]
              exact DpAll.snoc (mu.dp rfl hvl) (mu.dpAll (rwD_nls _) au2')
            rintro H4 ⟨us2, eu2', au2', m⟩
            rw [lu] at au2'
            have sH4 : Same H3 H4 := (Md.newM (S := []) m (Md.of sD2) nD2).same
            refine ⟨fa, la, z, n, as, ws3, .ref D2, List.replicate n xl, rfl, SqL.of (sH4 _ _ C3.hf), SqL.of (sH4 _ _ ela3), DpAll.same sH4 ala3, ⟨D2, us2, rfl, .inl (SqL.of eu2'), au2'⟩, C.ok, (fun x hx => (vrep x hx).1), List.length_replicate, C.fit, _, rfl, ?_⟩
            cases hk2 : keepsR as (List.replicate n xl) with
            | false => exact iteF ⟨rfl, m3.trans (Md.of sH4), S3.same sH4⟩
            | true =>
              refine iteT ?_
              clear au2' eu2' m us2 ws3 ela3 ala3
              have eu4 := sH4 _ _ eu3
              have hvl4 := Dp.same sH4 hvl0
              refine ⟨_, rfl, D, rfl, ⟨_, SqL.of eu4⟩, fun D3 nD3 => ?_⟩
              have sD3 : Same H4 (upd H4 D3 (.lst [])) := same_upd nD3
              have xD3 : D ≠ D3 := fun z => by rw [← z, eu4] at nD3; cases nD3
              refine lc_it (walk_list (xs := us)) (fun i H' => ∃ us2, H' D3 = some (.lst us2) ∧ DpAll K H' us2 ((List.replicate i xl).map valD) ∧ Md [D3] (upd H4 D3 (.lst [])) H') ⟨[], upd_same, .nil, .refl _ _⟩ (fun i H' _ ⟨_, _, _, m⟩ => SqL.of (m.out _ _ (sD3 _ _ eu4) (nin1 xD3))) ?_ ?_
              · rintro i xv H' H'' hi ⟨us2, eu2', au2', m⟩ ⟨rfl, hx⟩
                have hvl := m.dp rfl (Dp.same sD3 (hvl4))
                refine ⟨rfl, tYes_of ⟨_, rfl, 1, rfl, D, us, -1, vl, rfl, rfl, SqL.of (m.out _ _ (sD3 _ _ eu4) (nin1 xD3)), (by rw [hus]; exact atI_last us' vl), us2, eu2', (by rw [DpAll.length au2', List.length_map, List.length_replicate]; exact Nat.lt_of_le_of_lt (show i ≤ 3 by omega) (by decide)), ?_⟩⟩
                have mu : Md [D3] H'' (upd H'' D3 (.lst (us2 ++ [vl]))) := Md.upd eu2' rfl (by simp)
                refine ⟨us2 ++ [vl], upd_same, ?_, m.trans mu⟩
                rw [List.replicate_succ', List.map_append]
                exact DpAll.snoc (mu.dp rfl hvl) (mu.dpAll (rwD_nls _) au2')
              rintro H5 ⟨us2, eu2', au2', m⟩
              rw [lu] at au2'
              have sH5 : Same H4 H5 := (Md.newM (S := []) m (Md.of sD3) nD3).same
              refine ⟨_, _, rfl, .inl ⟨SqL.of eu2', fun q1 nq1 => ?_⟩⟩
              generalize eH6 : upd H5 q1 _ = H6
              have s6 : Same H5 H6 := eH6 ▸ same_upd nq1
              have e6 : H6 q1 = some _ := eH6 ▸ upd_same
              refine ⟨(by show 2 ≤ sizeLine; decide), fun q2 nq2 => ?_⟩
              generalize eH7 : upd H6 q2 _ = H7
              have s7 : Same H6 H7 := eH7 ▸ same_upd nq2
              have e7 : H7 q2 = some _ := eH7 ▸ upd_same
              have s37 := ((sH4.trans sH5).trans s6).trans s7
              refine finr (List.replicate n xl) H7 q2 _ (m3.trans (Md.of s37)) (S3.same s37) ?_ (.tup (SqT.of (s7 _ _ e6)) (DpAll.same (s6.trans s7) au2')) vrep List.length_replicate
              rw [hk2]
              exact e7
          · exact ⟨rfl, m3, S3⟩
        · rintro σ' H3 ⟨rfl, m3, S3⟩
          have eu3 := m3.out _ _ eu2 (nin1 Dp_)
          have au3 := m3.dpAll (rwD_nls r) au2
          refine ⟨_, rfl, _, _, rfl, .inl ⟨SqL.of eu3, fun q1 nq1 => ?_⟩⟩
          generalize eH4 : upd H3 q1 _ = H4
          have s4 : Same H3 H4 := eH4 ▸ same_upd nq1
          have e4 : H4 q1 = some _ := eH4 ▸ upd_same
          refine ⟨(by show 2 ≤ sizeLine; decide), fun q2 nq2 => ?_⟩
          generalize eH5 : upd H4 q2 _ = H5
          have s5 : Same H4 H5 := eH5 ▸ same_upd nq2
          have e5 : H5 q2 = some _ := eH5 ▸ upd_same
          refine finr r H5 q2 _ (m3.trans (Md.of (s4.trans s5))) (S3.same (s4.trans s5)) ?_ (.tup (SqT.of (s5 _ _ e4)) (DpAll.same (s4.trans s5) au3)) vr lr
          rw [hk]
          exact e5
end
end K10
namespace K10
open PySem PySem.Spec PyProof.Rows L2 He TL EL
section
variable {P : Program} {w : World} {K : PySem.W.Frag} {mg : Str → Option Value} {base : Heap}
/-! _law_put, _law_set -/
abbrev errL (t : Str) (d : PyData) (b : Bool) : PyData := .list [.str t, d, .bool b]
def xTag : Bool → Str
  | true => "bad"
  | false => "row"
def spLPut (K : PySem.W.Frag) : Sp := fun vs H Q _ => ∃ A es v dn w' d, vs = [.ref A.x, v, w'] ∧ TbAt K H A es ∧ Dp K H v dn ∧ Dp K H w' d ∧
  (inT es dn = false → ∀ q H', Same H H' → H q = none → Dp K H' (.ref q) (errL "table" dn true) → Q (.ref q) H') ∧
  ∀ z e, dn = .str z → findT es z = some e → SchOk e.s ∧ rowV e.s d ∧ e.rs.length ≤ 1000 ∧
    (∀ b, lookD e.s d = some b → ∀ q H', Same H H' → H q = none → Dp K H' (.ref q) (errL (xTag b) (.int 0) false) → Q (.ref q) H') ∧
    (lookD e.s d = none → rowOf d ∈ e.rs → ∀ H', Same H H' → Q (.bl false) H') ∧
    (lookD e.s d = none → rowOf d ∉ e.rs → ∀ H', Md [e.d] H H' → TbAt K H' A (setT es z e.d (e.rs ++ [rowOf d])) → Q (.bl true) H')
theorem d_lput (hP : PF P "/claim/cut.py") (T : Txt K mg) : Dn P w K mg base CX0 7 "_law_put" (spLPut K) := by
  obtain ⟨fd, F⟩ := T.f__law_put
  have D_put := d_tb_put (P := P) (w := w) (base := base) hP T
  refine dnN T.g__law_put F (fun _ _ _ _ _ _ us hl => match us, hl with | [_, _, _], _ => rfl) sc__law_put (fun vs H Q E h => ?_) (fun cdv A outer s H vs Q E hr h => ?_)
  · obtain ⟨A, es, v, dn, w', d, rfl, _⟩ := h
    rfl
  · obtain ⟨A, es, v, dn, w', d, rfl, B, hv, hw, hQ0, hQ⟩ := h
    refine ⟨_, PSs.nox (pss_cons (ps_try_mix (by rfl) (by rfl) sc__law_put.nd takes0 (fun W pn xe tk po => (pss_one (ps_set (i := 3) sc__law_put.nd rfl (.inl rfl) (pe_methE (pv 0) T.o_Tables.cl T.h_Tables_put D_put (hr.mono (by decide)) (pxx tk) (pa_cons (pv 1) (pa_cons (pv 2) pa_nil))))))
      (HdsMix.as_ (i := 4) rfl (by rfl) ⟨rfl, by decide, .inl T.g_NoTable⟩ (fun a oe cls d pn hz hf => (pss_one (ps_ret (pe_lst (pa_cons pe_str (pa_cons (pe_xf T.y_NoTable.2.1 T.y_NoTable.2.2 hz hf (pv 4)) (pa_cons (pe_callB (call_isA T.c_NoTable hz hf) (by rfl) T.z_isinstance (by decide +kernel) (pa_cons (pv 4) (pa_cons (pe_glob (v := .ref (ga K "AskError")) (by rfl) T.x_AskError.g rfl) pa_nil))) pa_nil))))))) (HdsMix.as_ (i := 4) rfl (by rfl) ⟨rfl, by decide, .inl T.g_NoRow⟩ (fun a oe cls d pn hz hf => (pss_one (ps_ret (pe_lst (pa_cons pe_str (pa_cons (pe_xf T.y_NoRow.2.1 T.y_NoRow.2.2 hz hf (pv 4)) (pa_cons (pe_callB (call_isA T.c_NoRow hz hf) (by rfl) T.z_isinstance (by decide +kernel) (pa_cons (pv 4) (pa_cons (pe_glob (v := .ref (ga K "BadRow")) (by rfl) T.g_BadRow rfl) pa_nil))) pa_nil))))))) (HdsMix.as_ (i := 4) rfl (by rfl) ⟨rfl, by decide, .inl T.g_BadRow⟩ (fun a oe cls d pn hz hf => (pss_one (ps_ret (pe_lst (pa_cons pe_str (pa_cons (pe_xf T.y_BadRow.2.1 T.y_BadRow.2.2 hz hf (pv 4)) (pa_cons (pe_callB (call_isA T.c_BadRow hz hf) (by rfl) T.z_isinstance (by decide +kernel) (pa_cons (pv 4) (pa_cons (pe_glob (v := .ref (ga K "NoRow")) (by rfl) T.g_NoRow rfl) pa_nil))) pa_nil))))))) HdsMix.nil))))
      (pss_one (ps_ret (pv 3)))), ?_⟩
    refine ⟨_, rfl, _, _, _, rfl, B.hx, tbF_no (by decide +kernel) (by decide +kernel), _, rfl, _, rfl, A, es, v, dn, w', d, rfl, B, hv, hw, fun g dd' H1 s1 e1 => ?_, fun z e ez hf => ?_⟩
    · refine ⟨true, T.e_NoTable_NoTable, fun _ a na => ?_, fun z => by cases z⟩
      refine ⟨_, rfl, rfl, rfl, dd', _, _, rfl, e1, rfl, _, rfl, rfl, .inr ⟨dd', _, rfl, e1⟩, _, _, _, rfl, fun u r => r, T.k_NoTable_AskError, (by show 3 ≤ sizeLine; decide), fun p np => ?_⟩
      generalize eH2 : upd H1 p _ = H2
      have s2 : Same H1 H2 := eH2 ▸ same_upd np
      have e2 : H2 p = some _ := eH2 ▸ upd_same
      exact hQ0 g p H2 (s1.trans s2) (s1.free np) (.lst (SqL.of e2) (.cons (.str _) (.cons (Dp.same (s1.trans s2) hv) (.cons (.bl _) .nil))))
    · obtain ⟨h1, h2, h3, h4, h5, h6⟩ := hQ z e ez hf
      refine ⟨h1, h2, h3, fun b hb dd' H1 s1 e1 => ?_, fun hl hm H1 s1 => ?_, fun hl hm H1 m1 B1 => ?_⟩
      · cases b with
        | false =>
          refine ⟨false, T.e_NoRow_NoTable, fun z => (by cases z), fun _ => ⟨true, T.e_NoRow_NoRow, fun _ a na => ?_, fun z => by cases z⟩⟩
          refine ⟨_, rfl, rfl, rfl, dd', _, _, rfl, e1, rfl, _, rfl, rfl, .inr ⟨dd', _, rfl, e1⟩, _, _, _, rfl, fun u r => r, T.k_NoRow_BadRow, (by show 3 ≤ sizeLine; decide), fun p np => ?_⟩
          generalize eH2 : upd H1 p _ = H2
          have s2 : Same H1 H2 := eH2 ▸ same_upd np
          have e2 : H2 p = some _ := eH2 ▸ upd_same
          exact h4 false hb p H2 (s1.trans s2) (s1.free np) (.lst (SqL.of e2) (.cons (.str _) (.cons (.int _) (.cons (.bl _) .nil))))
        | true =>
          refine ⟨false, T.e_BadRow_NoTable, fun z => (by cases z), fun _ => ⟨false, T.e_BadRow_NoRow, fun z => (by cases z), fun _ => ⟨true, T.e_BadRow_BadRow, fun _ a na => ?_, fun z => by cases z⟩⟩⟩
          refine ⟨_, rfl, rfl, rfl, dd', _, _, rfl, e1, rfl, _, rfl, rfl, .inr ⟨dd', _, rfl, e1⟩, _, _, _, rfl, fun u r => r, T.k_BadRow_NoRow, (by show 3 ≤ sizeLine; decide), fun p np => ?_⟩
          generalize eH2 : upd H1 p _ = H2
          have s2 : Same H1 H2 := eH2 ▸ same_upd np
          have e2 : H2 p = some _ := eH2 ▸ upd_same
          exact h4 true hb p H2 (s1.trans s2) (s1.free np) (.lst (SqL.of e2) (.cons (.str _) (.cons (.int _) (.cons (.bl _) .nil))))
      · exact ⟨_, rfl, h5 hl hm H1 s1⟩
      · exact ⟨_, rfl, h6 hl hm H1 m1 B1⟩
def spLSet (K : PySem.W.Frag) : Sp := fun vs H Q _ => ∃ A es v dn w' d, vs = [.ref A.x, v, w'] ∧ TbAt K H A es ∧ Dp K H v dn ∧ Dp K H w' d ∧
  (inT es dn = false → ∀ q H', Same H H' → H q = none → Dp K H' (.ref q) (errL "table" dn true) → Q (.ref q) H') ∧
  ∀ z e, dn = .str z → findT es z = some e → SchOk e.s ∧ ((∀ ds, d ≠ .list ds) → ∀ q H', Same H H' → H q = none → Dp K H' (.ref q) (errL "row" (.int (-1)) false) → Q (.ref q) H') ∧
    ∀ ds, d = .list ds → (∀ x ∈ ds, rowV e.s x) ∧ ds.length ≤ 1000 ∧ es.length ≤ 1000 ∧
      (∀ i b, FBad e.s ds i b → ∀ q H', Same H H' → H q = none → Dp K H' (.ref q) (errL (xTag b) (.int (i : Nat)) false) → Q (.ref q) H') ∧
      ((∀ x ∈ ds, lookD e.s x = none) → ∀ D H', Md [A.pl] H H' → H D = none → TbAt K H' A (setT es z D (addRs ds)) → Q (.bl true) H')
theorem d_lset (hP : PF P "/claim/cut.py") (T : Txt K mg) : Dn P w K mg base CX0 7 "_law_set" (spLSet K) := by
  obtain ⟨fd, F⟩ := T.f__law_set
  have D_set := d_tb_set (P := P) (w := w) (base := base) hP T
  refine dnN T.g__law_set F (fun _ _ _ _ _ _ us hl => match us, hl with | [_, _, _], _ => rfl) sc__law_set (fun vs H Q E h => ?_) (fun cdv A outer s H vs Q E hr h => ?_)
  · obtain ⟨A, es, v, dn, w', d, rfl, _⟩ := h
    rfl
  · obtain ⟨A, es, v, dn, w', d, rfl, B, hv, hw, hQ0, hQ⟩ := h
    refine ⟨_, PSs.nox (pss_cons (ps_try_mix (by rfl) (by rfl) sc__law_set.nd takes0 (fun W pn xe tk po => (pss_one (ps_setO T.ns_Tables T.h_Tables___setitem__ D_set (hr.mono (by decide)) (pxx tk) (pv 0) (pv 1) (pv 2) rfl)))
      (HdsMix.as_ (i := 3) rfl (by rfl) ⟨rfl, by decide, .inl T.g_NoTable⟩ (fun a oe cls d pn hz hf => (pss_one (ps_ret (pe_lst (pa_cons pe_str (pa_cons (pe_xf T.y_NoTable.2.1 T.y_NoTable.2.2 hz hf (pv 3)) (pa_cons (pe_callB (call_isA T.c_NoTable hz hf) (by rfl) T.z_isinstance (by decide +kernel) (pa_cons (pv 3) (pa_cons (pe_glob (v := .ref (ga K "AskError")) (by rfl) T.x_AskError.g rfl) pa_nil))) pa_nil))))))) (HdsMix.as_ (i := 3) rfl (by rfl) ⟨rfl, by decide, .inl T.g_NoRow⟩ (fun a oe cls d pn hz hf => (pss_one (ps_ret (pe_lst (pa_cons pe_str (pa_cons (pe_xf T.y_NoRow.2.1 T.y_NoRow.2.2 hz hf (pv 3)) (pa_cons (pe_callB (call_isA T.c_NoRow hz hf) (by rfl) T.z_isinstance (by decide +kernel) (pa_cons (pv 3) (pa_cons (pe_glob (v := .ref (ga K "BadRow")) (by rfl) T.g_BadRow rfl) pa_nil))) pa_nil))))))) (HdsMix.as_ (i := 3) rfl (by rfl) ⟨rfl, by decide, .inl T.g_BadRow⟩ (fun a oe cls d pn hz hf => (pss_one (ps_ret (pe_lst (pa_cons pe_str (pa_cons (pe_xf T.y_BadRow.2.1 T.y_BadRow.2.2 hz hf (pv 3)) (pa_cons (pe_callB (call_isA T.c_BadRow hz hf) (by rfl) T.z_isinstance (by decide +kernel) (pa_cons (pv 3) (pa_cons (pe_glob (v := .ref (ga K "NoRow")) (by rfl) T.g_NoRow rfl) pa_nil))) pa_nil))))))) HdsMix.nil))))
      (pss_one (ps_ret pe_bl))), ?_⟩
    refine ⟨_, rfl, _, rfl, _, rfl, _, _, _, rfl, B.hx, A, es, v, dn, w', d, rfl, B, hv, hw, fun g dd' H1 s1 e1 => ?_, fun z e ez hf => ?_⟩
    · refine ⟨true, T.e_NoTable_NoTable, fun _ a na => ?_, fun z => by cases z⟩
      refine ⟨_, rfl, rfl, rfl, dd', _, _, rfl, e1, rfl, _, rfl, rfl, .inr ⟨dd', _, rfl, e1⟩, _, _, _, rfl, fun u r => r, T.k_NoTable_AskError, (by show 3 ≤ sizeLine; decide), fun p np => ?_⟩
      generalize eH2 : upd H1 p _ = H2
      have s2 : Same H1 H2 := eH2 ▸ same_upd np
      have e2 : H2 p = some _ := eH2 ▸ upd_same
      exact hQ0 g p H2 (s1.trans s2) (s1.free np) (.lst (SqL.of e2) (.cons (.str _) (.cons (Dp.same (s1.trans s2) hv) (.cons (.bl _) .nil))))
    · obtain ⟨h1, h2, h3⟩ := hQ z e ez hf
      refine ⟨h1, fun hn dd' H1 s1 e1 => ?_, fun ds ed => ?_⟩
      · refine ⟨false, T.e_NoRow_NoTable, fun z => (by cases z), fun _ => ⟨true, T.e_NoRow_NoRow, fun _ a na => ?_, fun z => by cases z⟩⟩
        refine ⟨_, rfl, rfl, rfl, dd', _, _, rfl, e1, rfl, _, rfl, rfl, .inr ⟨dd', _, rfl, e1⟩, _, _, _, rfl, fun u r => r, T.k_NoRow_BadRow, (by show 3 ≤ sizeLine; decide), fun p np => ?_⟩
        generalize eH2 : upd H1 p _ = H2
        have s2 : Same H1 H2 := eH2 ▸ same_upd np
        have e2 : H2 p = some _ := eH2 ▸ upd_same
        exact h2 hn p H2 (s1.trans s2) (s1.free np) (.lst (SqL.of e2) (.cons (.str _) (.cons (.int _) (.cons (.bl _) .nil))))
      · obtain ⟨k1, k2, k3, k4, k5⟩ := h3 ds ed
        refine ⟨k1, k2, k3, fun i b hb dd' H1 s1 e1 => ?_, fun hl D H1 m1 nD B1 => ?_⟩
        · cases b with
          | false =>
            refine ⟨false, T.e_NoRow_NoTable, fun z => (by cases z), fun _ => ⟨true, T.e_NoRow_NoRow, fun _ a na => ?_, fun z => by cases z⟩⟩
            refine ⟨_, rfl, rfl, rfl, dd', _, _, rfl, e1, rfl, _, rfl, rfl, .inr ⟨dd', _, rfl, e1⟩, _, _, _, rfl, fun u r => r, T.k_NoRow_BadRow, (by show 3 ≤ sizeLine; decide), fun p np => ?_⟩
            generalize eH2 : upd H1 p _ = H2
            have s2 : Same H1 H2 := eH2 ▸ same_upd np
            have e2 : H2 p = some _ := eH2 ▸ upd_same
            exact k4 i false hb p H2 (s1.trans s2) (s1.free np) (.lst (SqL.of e2) (.cons (.str _) (.cons (.int _) (.cons (.bl _) .nil))))
          | true =>
            refine ⟨false, T.e_BadRow_NoTable, fun z => (by cases z), fun _ => ⟨false, T.e_BadRow_NoRow, fun z => (by cases z), fun _ => ⟨true, T.e_BadRow_BadRow, fun _ a na => ?_, fun z => by cases z⟩⟩⟩
            refine ⟨_, rfl, rfl, rfl, dd', _, _, rfl, e1, rfl, _, rfl, rfl, .inr ⟨dd', _, rfl, e1⟩, _, _, _, rfl, fun u r => r, T.k_BadRow_NoRow, (by show 3 ≤ sizeLine; decide), fun p np => ?_⟩
            generalize eH2 : upd H1 p _ = H2
            have s2 : Same H1 H2 := eH2 ▸ same_upd np
            have e2 : H2 p = some _ := eH2 ▸ upd_same
            exact k4 i true hb p H2 (s1.trans s2) (s1.free np) (.lst (SqL.of e2) (.cons (.str _) (.cons (.int _) (.cons (.bl _) .nil))))
        · exact k5 hl D H1 m1 nD B1
/-! _law_once, _law_same -/
theorem eqv_rw : ∀ a b : Rw, PyData.eqv (.tuple (a.map valD)) (.tuple (b.map valD)) = decide (a = b)
  | [], [] => rfl
  | [], _ :: _ => rfl
  | _ :: _, [] => rfl
  | t :: ts, u :: us => by
    show (PyData.eqv (valD t) (valD u) && PyData.eqv (.tuple (ts.map valD)) (.tuple (us.map valD))) = _
    rw [eqv_valD, eqv_rw ts us, ← Bool.decide_and]
    exact decide_eq_decide.mpr ⟨fun h => by rw [h.1, h.2], fun h => by cases h; exact ⟨rfl, rfl⟩⟩
theorem any_rw (rs : List Rw) (r : Rw) : ((rs.map rwD).any fun z => PyData.eqv z (rwD r)) = decide (r ∈ rs) := by
  rw [List.any_map]
  induction rs with
  | nil => rfl
  | cons x t ih =>
    rw [List.any_cons, ih]
    show (PyData.eqv (.tuple (x.map valD)) (.tuple (r.map valD)) || decide (r ∈ t)) = _
    rw [eqv_rw, ← Bool.decide_or]
    exact decide_eq_decide.mpr ⟨fun h => h.elim (fun h => by rw [h]; exact List.mem_cons_self ..) (List.mem_cons_of_mem _), fun h => (List.mem_cons.mp h).elim (fun h => .inl h.symm) .inr⟩
theorem pds_rw (rs : List Rw) : Pds (rs.map rwD) := fun d hd => by
  obtain ⟨r, _, rfl⟩ := List.mem_map.mp hd
  exact rowD_pd (some r)
def spOnce (K : PySem.W.Frag) : Sp := fun vs H Q _ => ∃ (b : Addr) (ws : List V) (bs : List Rw), vs = [.ref b] ∧ H b = some (.lst ws) ∧ DpAll K H ws (bs.map rwD) ∧ bs.length ≤ 1000 ∧
  ∀ p zs H', Same H H' → H p = none → H' p = some (.lst zs) → DpAll K H' zs ((bs.foldl addR []).map rwD) → Q (.ref p) H'
theorem d_once (T : Txt K mg) : Dn P w K mg base CX0 1 "_law_once" (spOnce K) := by
  obtain ⟨fd, F⟩ := T.f__law_once
  refine dnN T.g__law_once F (fun _ _ _ _ _ _ us hl => match us, hl with | [_], _ => rfl) sc__law_once (fun vs H Q E h => ?_) (fun cdv A outer s H vs Q E hr h => ?_)
  · obtain ⟨b, ws, bs, rfl, _⟩ := h
    rfl
  · obtain ⟨b, ws, bs, rfl, eb, db, lb, hQ⟩ := h
    refine ⟨_, PSs.nox (pss_cons (ps_set (i := 1) sc__law_once.nd rfl (.inl rfl) (pe_lst pa_nil))
      (pss_cons (ps_for PassesOwn.never rfl (pi_list (pv 0)) (pg_name (i := 2) sc__law_once.nd rfl (.inl rfl))
      (pss_one (ps_if (pt_cmpR (op_notInD (u65 hr)) (pv 2) (pv 1) (by rfl)) (pss_one (ps_expr (pe_bm PySem.F.plainAttrs_list PySem.F.slot_list_append PySem.F.type_list_append mt_append (pv 1) (pa_cons (pv 2) pa_nil)))) pss_nil)))
      (pss_one (ps_ret (pv 1))))), ?_⟩
    refine ⟨(by show 0 ≤ sizeLine; decide), fun kl nk => ?_⟩
    generalize eH1 : upd H kl _ = H1
    have s1 : Same H H1 := eH1 ▸ same_upd nk
    have e1 : H1 kl = some _ := eH1 ▸ upd_same
    have lw : ws.length = bs.length := by rw [DpAll.length db, List.length_map]
    have nbk : b ≠ kl := ne_of_none eb nk
    refine ⟨_, rfl, b, rfl, ⟨_, SqL.of (s1 _ _ eb)⟩, for_list (K := K) (a := b) (xs := ws) (fun i σ H' => (∃ o, σ = [some (.ref b), some (.ref kl), o]) ∧ ∃ zs, H' kl = some (.lst zs) ∧ DpAll K H' zs (((bs.take i).foldl addR []).map rwD) ∧ Md [kl] H1 H') ⟨⟨none, rfl⟩, [], e1, .nil, .refl _ _⟩ (fun i σ H' _ h => ?_) ?_ ?_⟩
    · obtain ⟨_, zs, _, _, m⟩ := h
      exact SqL.of (m.out _ _ (s1 _ _ eb) (by simp [nbk]))
    · rintro i xv σ H' hg ⟨⟨o, rfl⟩, zs, ez, az, m⟩
      obtain ⟨d, hd, hdp⟩ := DpAll.get db hg
      obtain ⟨r, hat, rfl⟩ := getM hd
      have hdp' : Dp K H' xv (rwD r) := m.dp (rwD_nl r) (Dp.same s1 hdp)
      have hz : zs.length < sizeLine := by
        rw [DpAll.length az, List.length_map]
        have h1 := foldR_len (bs.take i) []
        rw [List.length_take, List.length_nil] at h1
        exact Nat.lt_of_le_of_lt (show _ ≤ 1000 by omega) (by decide)
      refine ⟨_, rfl, _, rfl, rwD r, _, hdp', .lst (SqL.of ez) az, (rowD_pd (some r)).shaped, (pds_rw _).shaped, _, rfl, ?_⟩
      rw [any_rw, tk1 hat, List.foldl_append]
      by_cases hm : r ∈ (bs.take i).foldl addR []
      · have e : [r].foldl addR ((bs.take i).foldl addR []) = (bs.take i).foldl addR [] := if_pos hm
        rw [decide_eq_true hm, e]
        exact iteF ⟨⟨_, rfl⟩, _, ez, az, m⟩
      · have e : [r].foldl addR ((bs.take i).foldl addR []) = (bs.take i).foldl addR [] ++ [r] := if_neg hm
        rw [decide_eq_false hm, e]
        refine iteT ⟨_, rfl, .inl ⟨rfl, _, SqL.of ez⟩, _, rfl, kl, _, _, rfl, rfl, ez, hz, ?_⟩
        have mu : Md [kl] H' (upd H' kl (.lst (zs ++ [xv]))) := Md.upd ez rfl (by simp)
        refine ⟨⟨_, rfl⟩, _, upd_same, ?_, m.trans mu⟩
        rw [List.map_append]
        exact DpAll.snoc (mu.dp (rwD_nl r) hdp') (mu.dpAll (pds_rw _).nl az)
    · rintro σ H' ⟨⟨o, rfl⟩, zs, ez, az, m⟩
      rw [lw, List.take_length] at az
      have s0 : Same H H' := (Md.newM (S := []) m (Md.of s1) nk).same
      exact ⟨_, rfl, hQ kl zs H' s0 nk ez az⟩
def spSame (K : PySem.W.Frag) : Sp := fun vs H Q _ => ∃ (a b : Addr) (us ws : List V) (as bs : List Rw), vs = [.ref a, .ref b] ∧ H a = some (.lst us) ∧ DpAll K H us (as.map rwD) ∧ H b = some (.lst ws) ∧ DpAll K H ws (bs.map rwD) ∧ Q (.bl (sameR (as, bs))) H
theorem d_same (T : Txt K mg) : Dn P w K mg base CX0 1 "_law_same" (spSame K) := by
  obtain ⟨fd, F⟩ := T.f__law_same
  refine dnN T.g__law_same F (fun _ _ _ _ _ _ us hl => match us, hl with | [_, _], _ => rfl) sc__law_same (fun vs H Q E h => ?_) (fun cdv A outer s H vs Q E hr h => ?_)
  · obtain ⟨a, b, us, ws, as, bs, rfl, _⟩ := h
    rfl
  · obtain ⟨a, b, us, ws, as, bs, rfl, ea, da, eb, db, hQ⟩ := h
    refine ⟨_, PSs.nox (pss_cons (ps_for PassesOwn.never rfl (pi_list (pv 0)) (pg_name (i := 2) sc__law_same.nd rfl (.inl rfl))
      (pss_one (ps_if (pt_cmpR (op_notInD (u65 hr)) (pv 2) (pv 1) (by rfl)) (pss_one (ps_ret pe_bl)) pss_nil)))
      (pss_one (ps_ret (pe_cmpR op_eq (pe_callB call_len_seq (by rfl) T.z_len (by decide +kernel) (pa_cons (pv 0) pa_nil)) (pe_callB call_len_seq (by rfl) T.z_len (by decide +kernel) (pa_cons (pv 1) pa_nil)) (nomark _))))), ?_⟩
    have lu : us.length = as.length := by rw [DpAll.length da, List.length_map]
    have lw : ws.length = bs.length := by rw [DpAll.length db, List.length_map]
    refine ⟨_, rfl, a, rfl, ⟨_, SqL.of ea⟩, for_list (K := K) (a := a) (xs := us) (fun i σ H' => H' = H ∧ (∃ o, σ = [some (.ref a), some (.ref b), o]) ∧ (as.take i).all (fun r => decide (r ∈ bs)) = true) ⟨rfl, ⟨none, rfl⟩, rfl⟩ (fun i σ H' _ h => by rw [h.1]; exact SqL.of ea) ?_ ?_⟩
    · rintro i xv σ H' hg ⟨rfl, ⟨o, rfl⟩, al⟩
      obtain ⟨d, hd, hdp⟩ := DpAll.get da hg
      obtain ⟨r, hat, rfl⟩ := getM hd
      have mem := List.mem_of_getElem? hat
      refine ⟨_, rfl, _, rfl, rwD r, _, hdp, .lst (SqL.of eb) db, (rowD_pd (some r)).shaped, (pds_rw _).shaped, _, rfl, ?_⟩
      rw [any_rw]
      by_cases hm : r ∈ bs
      · rw [decide_eq_true hm]
        refine iteF ⟨rfl, ⟨_, rfl⟩, ?_⟩
        rw [tk1 hat, List.all_append, al]
        simp [hm]
      · rw [decide_eq_false hm]
        refine iteT ?_
        have : sameR (as, bs) = false := by
          unfold sameR
          rw [Bool.and_eq_false_iff]
          right
          rw [Bool.eq_false_iff]
          intro z
          exact hm (of_decide_eq_true (List.all_eq_true.mp z r mem))
        rw [this] at hQ
        exact hQ
    · rintro σ H' ⟨rfl, ⟨o, rfl⟩, al⟩
      rw [lu, List.take_length] at al
      refine ⟨_, rfl, _, _, rfl, .inl (SqL.of ea), _, rfl, _, _, rfl, .inl (SqL.of eb), ?_⟩
      have e : sameR (as, bs) = decide (V.int ((us.length : Nat) : Int) = V.int ((ws.length : Nat) : Int)) := by
        unfold sameR
        rw [al, Bool.and_true, lu, lw]
        exact decide_eq_decide.mpr ⟨fun h => by rw [h], fun h => by injection h with h; show as.length = bs.length; omega⟩
      rw [e] at hQ
      first | exact ⟨rfl, hQ⟩ | exact hQ
end
end K10
namespace K10
open PySem PySem.Spec PyProof.Rows L2 He TL EL
section
variable {P : Program} {w : World} {K : PySem.W.Frag} {mg : Str → Option Value} {base : Heap}
/-! _law_due -/
/-- drawn rows: the things, what they are, whether they are rows -/
abbrev Drn (K : PySem.W.Frag) (M : List Addr) (H : Hp) (s : Sch) : List V → List PyData → Prop := Paired fun v d => ∃ q x, v = .ref q ∧ SqT K H q [x, .int ((cdN (lookD s d) : Nat) : Int)] ∧ DpX K M H x d
theorem Drn.md {M S : List Addr} {H H' : Hp} {s : Sch} {us : List V} {ds : List PyData} (h : Drn K M H s us ds) (m : Md S H H') (hs : ∀ b ∈ S, b ∈ M) : Drn K M H' s us ds :=
  Paired.mapP h fun _ _ ⟨q, x, e, a, b⟩ => ⟨q, x, e, m.sqT a, b.md (m.mono hs)⟩
def spDue (K : PySem.W.Frag) : Sp := fun vs H Q _ => ∃ (a : Addr) (us : List V) (ds : List PyData) (s : Sch) (M : List Addr), vs = [.ref a] ∧ SqL K H a us ∧ Drn K M H s us ds ∧ us.length ≤ 1000 ∧
  (∀ i b, FBad s ds i b → ∀ q H', Same H H' → H q = none → Dp K H' (.ref q) (errL (xTag b) (.int (i : Nat)) false) → Q (.ref q) H') ∧ ((∀ d ∈ ds, lookD s d = none) → Q (.bl true) H)
theorem d_due (T : Txt K mg) : Dn P w K mg base CX0 1 "_law_due" (spDue K) := by
  obtain ⟨fd, F⟩ := T.f__law_due
  refine dnN T.g__law_due F (fun _ _ _ _ _ _ us hl => match us, hl with | [_], _ => rfl) sc__law_due (fun vs H Q E h => ?_) (fun cdv A outer s H vs Q E hr h => ?_)
  · obtain ⟨a, us, ds, sc, M, rfl, _⟩ := h
    rfl
  · obtain ⟨a, us, ds, sc, M, rfl, ha, hd, hl, hB, hN⟩ := h
    refine ⟨_, PSs.nox (pss_cons (ps_for PassesOwn.never rfl (pi_range1 (by rfl) T.z_range (pa_cons (pe_callB call_len_seq (by rfl) T.z_len (by decide +kernel) (pa_cons (pv 0) pa_nil)) pa_nil)) (pg_name (i := 1) sc__law_due.nd rfl (.inl rfl))
      (pss_one (ps_if (pt_cmpR op_gt (pe_ix ix_tup (pe_ix ix_list (pv 0) (pv 1) (fun _ _ => rfl)) pe_int (fun _ _ => rfl)) pe_int (nomark _)) (pss_one (ps_ret (pe_lst (pa_cons (pe_ix ix_list (pe_lst (pa_cons pe_str (pa_cons pe_str pa_nil))) (pe_op op_sub (pe_ix ix_tup (pe_ix ix_list (pv 0) (pv 1) (fun _ _ => rfl)) pe_int (fun _ _ => rfl)) pe_int) (fun _ _ => rfl)) (pa_cons (pv 1) (pa_cons pe_bl pa_nil)))))) pss_nil)))
      (pss_one (ps_ret pe_bl))), ?_⟩
    have lu : us.length = ds.length := Paired.length hd
    refine ⟨_, rfl, _, _, rfl, .inl ha, us.length, rfl, by omega, by omega, for_range (n := us.length) (fun i σ H' => H = H' ∧ (∃ o, σ = [some (.ref a), o]) ∧ ∀ d ∈ ds.take i, lookD sc d = none) ⟨rfl, ⟨none, rfl⟩, fun d h => by cases h⟩ ?_ ?_⟩
    · rintro i σ H' hi ⟨rfl, ⟨o, rfl⟩, hal⟩
      obtain ⟨d, hd', q, x, hu, hq, hx⟩ : ∃ d, ds[i]? = some d ∧ ∃ q x, us[i]? = some (.ref q) ∧ SqT K H q [x, .int ((cdN (lookD sc d) : Nat) : Int)] ∧ DpX K M H x d := by
        obtain ⟨d, hd', q, x, e, hq, hx⟩ := paired_get hd (List.getElem?_eq_getElem hi)
        exact ⟨d, hd', q, x, by rw [← e]; exact List.getElem?_eq_getElem hi, hq, hx⟩
      refine ⟨_, rfl, _, rfl, _, _, _, _, rfl, rfl, ha, (by rw [Int.zero_add]; exact atI_nat hu), q, _, 1, _, rfl, rfl, hq, atI_nat (j := 1) rfl, _, _, rfl, rfl, _, rfl, ?_⟩
      cases hc : lookD sc d with
      | none =>
        refine if_neg_of rfl ⟨rfl, ⟨_, rfl⟩, fun e he => ?_⟩
        rw [tk1 hd'] at he
        rcases List.mem_append.mp he with he | he
        · exact hal e he
        · cases List.mem_singleton.mp he
          exact hc
      | some b =>
        rw [hc] at hq
        refine if_pos_of (by cases b <;> rfl) ?_
        refine ⟨(by show 2 ≤ sizeLine; decide), fun q2 nq2 => ?_⟩
        generalize eH2 : upd H q2 _ = H2
        have s2 : Same H H2 := eH2 ▸ same_upd nq2
        have e2 : H2 q2 = some _ := eH2 ▸ upd_same
        refine ⟨_, rfl, _, rfl, _, _, _, _, rfl, rfl, Same.seq s2 ha, (by rw [Int.zero_add]; exact atI_nat hu), q, _, 1, _, rfl, rfl, Same.seqT s2 hq, atI_nat (j := 1) rfl, _, _, rfl, rfl, ?_⟩
        refine ⟨q2, _, _, .str (xTag b), rfl, rfl, SqL.of e2, (by cases b <;> rfl), ?_⟩
        refine ⟨_, rfl, (by show 3 ≤ sizeLine; decide), fun q3 nq3 => ?_⟩
        generalize eH3 : upd H2 q3 _ = H3
        have s3 : Same H2 H3 := eH3 ▸ same_upd nq3
        have e3 : H3 q3 = some _ := eH3 ▸ upd_same
        rw [Int.zero_add] at e3
        exact hB i b ⟨⟨d, hd', hc⟩, hal⟩ q3 H3 (s2.trans s3) (s2.free nq3) (.lst (SqL.of e3) (.cons (.str _) (.cons (.int _) (.cons (.bl _) .nil))))
    · rintro σ H' ⟨rfl, _, hal⟩
      rw [lu, List.take_length] at hal
      exact hN hal
end
end K10
namespace K10
open PySem PySem.Spec PyProof.Rows L2 He TL EL
section
variable {P : Program} {w : World} {K : PySem.W.Frag} {mg : Str → Option Value} {base : Heap}
/-! the law's forms and states -/
abbrev Frm := Str × Nat × List At
/-- what changes: lists of M, and other things than lists -/
def Lst (M : List Addr) (H : Hp) (S : List Addr) : Prop := ∀ b ∈ S, b ∈ M ∨ ∀ xs, H b ≠ some (.lst xs)
theorem Lst.out {M S : List Addr} {H : Hp} {a : Addr} {xs : List V} (h : Lst M H S) (n : a ∉ M) (e : H a = some (.lst xs)) : a ∉ S := fun z => (h a z).elim n (fun k => k xs e)
structure FormsAt (K : PySem.W.Frag) (M : List Addr) (H : Hp) (fo : Addr) (F : List Frm) : Prop where
  ex : ∃ vs, H fo = some (.lst vs) ∧ Paired (fun v (f : Frm) => ∃ fa la, v = V.ref fa ∧ fa ∉ M ∧ la ∉ M ∧ FormAt K H fa la f.1 f.2.1 f.2.2) vs F
  nm : fo ∉ M
theorem FormAt.lst {H : Hp} {fa la : Addr} {z : Str} {n : Nat} {as : List At} (h : FormAt K H fa la z n as) : (∃ xs, H fa = some (.lst xs)) ∧ ∃ xs, H la = some (.lst xs) := by
  obtain ⟨ws, e, _⟩ := h.hl
  exact ⟨⟨_, h.hf⟩, ⟨_, e⟩⟩
theorem FormsAt.md {M S : List Addr} {H H' : Hp} {fo : Addr} {F : List Frm} (h : FormsAt K M H fo F) (m : Md S H H') (hs : Lst M H S) : FormsAt K M H' fo F := by
  obtain ⟨⟨vs, e, p⟩, n⟩ := h
  refine ⟨⟨vs, m.out _ _ e (hs.out n e), Paired.mapP p fun v f ⟨fa, la, ev, nf, nl, fm⟩ => ?_⟩, n⟩
  obtain ⟨⟨x1, e1⟩, ⟨x2, e2⟩⟩ := fm.lst
  exact ⟨fa, la, ev, nf, nl, fm.md m (hs.out nf e1) (hs.out nl e2)⟩
theorem FormsAt.same {M : List Addr} {H H' : Hp} {fo : Addr} {F : List Frm} (h : FormsAt K M H fo F) (s : Same H H') : FormsAt K M H' fo F := h.md (S := []) (.of s) (fun b hb => by cases hb)
theorem FormsAt.re {M M' : List Addr} {H : Hp} {fo : Addr} {F : List Frm} (h : FormsAt K M H fo F) (hm : ∀ b xs, b ∉ M → H b = some (.lst xs) → b ∉ M') : FormsAt K M' H fo F := by
  obtain ⟨⟨vs, e, p⟩, n⟩ := h
  refine ⟨⟨vs, e, Paired.mapP p fun v f ⟨fa, la, ev, nf, nl, fm⟩ => ?_⟩, hm _ _ n e⟩
  obtain ⟨⟨x1, e1⟩, ⟨x2, e2⟩⟩ := fm.lst
  exact ⟨fa, la, ev, hm _ _ nf e1, hm _ _ nl e2, fm⟩
abbrev StV (K : PySem.W.Frag) (M : List Addr) (H : Hp) : List V → List (List Rw) → Prop := Paired fun v (rs : List Rw) => ∃ a us, v = V.ref a ∧ a ∉ M ∧ H a = some (.lst us) ∧ DpAll K H us (rs.map rwD)
theorem StV.md {M S : List Addr} {H H' : Hp} {vs : List V} {R : List (List Rw)} (h : StV K M H vs R) (m : Md S H H') (hs : Lst M H S) : StV K M H' vs R :=
  Paired.mapP h fun _ rs ⟨a, us, ev, n, e, d⟩ => ⟨a, us, ev, n, m.out _ _ e (hs.out n e), m.dpAll (pds_rw rs).nl d⟩
theorem StV.re {M M' : List Addr} {H : Hp} {vs : List V} {R : List (List Rw)} (h : StV K M H vs R) (hm : ∀ b xs, b ∉ M → H b = some (.lst xs) → b ∉ M') : StV K M' H vs R :=
  Paired.mapP h fun _ _ ⟨a, us, ev, n, e, d⟩ => ⟨a, us, ev, hm _ _ n e, e, d⟩
structure StAt (K : PySem.W.Frag) (M : List Addr) (H : Hp) (st : Addr) (R : List (List Rw)) : Prop where
  ex : ∃ vs, H st = some (.lst vs) ∧ StV K M H vs R
  mm : st ∈ M
theorem StAt.md {M S : List Addr} {H H' : Hp} {st : Addr} {R : List (List Rw)} (h : StAt K M H st R) (m : Md S H H') (hs : Lst M H S) (n : st ∉ S) : StAt K M H' st R := by
  obtain ⟨⟨vs, e, p⟩, k⟩ := h
  exact ⟨⟨vs, m.out _ _ e n, p.md m hs⟩, k⟩
theorem StAt.same {M : List Addr} {H H' : Hp} {st : Addr} {R : List (List Rw)} (h : StAt K M H st R) (s : Same H H') : StAt K M H' st R := h.md (S := []) (.of s) (fun b hb => by cases hb) (by simp)
/-- a table and its rows, as the law has them -/
structure EOk (e : TbE) : Prop where
  sk : SchOk e.s
  n3 : e.s.n ≤ 3
  rv : ∀ r ∈ e.rs, lookD e.s (rwD r) = none ∧ ∀ x ∈ r, Vw x
structure Tie (F : List Frm) (es : List TbE) (R : List (List Rw)) : Prop where
  k : (es.map TbE.s).map keyS = F.map fun f => (f.1, f.2.1, dd f.2.2)
  r : es.map TbE.rs = R
  v : ∀ e ∈ es, EOk e
theorem Tie.at {F : List Frm} {es : List TbE} {R : List (List Rw)} (t : Tie F es R) {i : Nat} {f : Frm} (h : F[i]? = some f) : ∃ e, es[i]? = some e ∧ e.s.nm = f.1 ∧ e.s.n = f.2.1 ∧ e.s.as = dd f.2.2 ∧ R[i]? = some e.rs := by
  have h1 : ((es.map TbE.s).map keyS)[i]? = some (f.1, f.2.1, dd f.2.2) := by rw [t.k, List.getElem?_map, h]; rfl
  rw [List.getElem?_map, List.getElem?_map] at h1
  cases q : es[i]? with
  | none => rw [q] at h1; cases h1
  | some e =>
    rw [q] at h1
    have h2 : (e.s.nm, e.s.n, e.s.as) = (f.1, f.2.1, dd f.2.2) := Option.some.inj h1
    injection h2 with a b
    injection b with b c
    refine ⟨e, rfl, a, b, c, ?_⟩
    rw [← t.r, List.getElem?_map, q]
    rfl
theorem Tie.len {F : List Frm} {es : List TbE} {R : List (List Rw)} (t : Tie F es R) : es.length = F.length := by
  have := congrArg List.length t.k
  simpa using this
theorem setT_ix : ∀ {es : List TbE} {i : Nat} {e : TbE} {d : Addr} {rs : List Rw}, (nmS (es.map TbE.s)).Nodup → es[i]? = some e → setT es e.s.nm d rs = es.set i ⟨e.s, d, rs⟩
  | [], i, e, _, _, _, h => by simp at h
  | x :: t, 0, e, d, rs, nn, h => by
    cases h
    obtain ⟨m1, _⟩ := List.nodup_cons.mp (show (x.s.nm :: nmS (t.map TbE.s)).Nodup from nn)
    have e1 : setT t x.s.nm d rs = t := by
      unfold setT
      have : ∀ o ∈ t, (if o.s.nm = x.s.nm then (⟨o.s, d, rs⟩ : TbE) else o) = o := fun o ho => if_neg fun z => m1 (by unfold nmS; rw [List.map_map]; exact List.mem_map.mpr ⟨o, ho, z⟩)
      exact (List.map_congr_left this).trans (List.map_id t)
    show (if x.s.nm = x.s.nm then (⟨x.s, d, rs⟩ : TbE) else x) :: setT t x.s.nm d rs = ⟨x.s, d, rs⟩ :: t
    rw [if_pos rfl, e1]
  | x :: t, i + 1, e, d, rs, nn, h => by
    obtain ⟨m1, m2⟩ := List.nodup_cons.mp (show (x.s.nm :: nmS (t.map TbE.s)).Nodup from nn)
    have h : t[i]? = some e := h
    have hm := List.mem_of_getElem? h
    have hne : x.s.nm ≠ e.s.nm := fun z => m1 (by unfold nmS; rw [List.map_map]; exact List.mem_map.mpr ⟨e, hm, z.symm⟩)
    show (if x.s.nm = e.s.nm then (⟨x.s, d, rs⟩ : TbE) else x) :: setT t e.s.nm d rs = x :: t.set i ⟨e.s, d, rs⟩
    rw [if_neg hne, setT_ix m2 h]
theorem Tie.set {F : List Frm} {es : List TbE} {R : List (List Rw)} (t : Tie F es R) (nn : (nmS (es.map TbE.s)).Nodup) {i : Nat} {e : TbE} (h : es[i]? = some e) {d : Addr} {rs : List Rw} (hv : ∀ r ∈ rs, lookD e.s (rwD r) = none ∧ ∀ x ∈ r, Vw x) : Tie F (setT es e.s.nm d rs) (R.set i rs) := by
  refine ⟨by rw [setT_s]; exact t.k, ?_, fun o ho => ?_⟩
  · rw [setT_ix nn h, List.map_set, t.r]
  · have he := t.v e (List.mem_of_getElem? h)
    rcases setT_mem ho with ⟨o', ho', hn, rfl⟩ | ⟨ho', _⟩
    · have : o' = e := nm_inj nn ho' (List.mem_of_getElem? h) hn
      subst this
      exact ⟨he.sk, he.n3, hv⟩
    · exact t.v o ho'
theorem StV.get {M : List Addr} {H : Hp} {vs : List V} {R : List (List Rw)} (h : StV K M H vs R) {i : Nat} {rs : List Rw} (hr : R[i]? = some rs) : ∃ a us, vs[i]? = some (.ref a) ∧ a ∉ M ∧ H a = some (.lst us) ∧ DpAll K H us (rs.map rwD) := by
  induction h generalizing i with
  | nil => simp at hr
  | @cons v r vs' R' hv ht ih =>
    cases i with
    | zero =>
      cases hr
      obtain ⟨a, us, rfl, h1, h2, h3⟩ := hv
      exact ⟨a, us, rfl, h1, h2, h3⟩
    | succ i => exact ih hr
theorem StV.set {M : List Addr} {H : Hp} {vs : List V} {R : List (List Rw)} (h : StV K M H vs R) {i : Nat} {rs : List Rw} {a : Addr} {us : List V} (na : a ∉ M) (ha : H a = some (.lst us)) (hd : DpAll K H us (rs.map rwD)) : StV K M H (vs.set i (.ref a)) (R.set i rs) := by
  induction h generalizing i with
  | nil => exact .nil
  | @cons v r vs' R' hv ht ih =>
    cases i with
    | zero => exact .cons ⟨a, us, rfl, na, ha, hd⟩ ht
    | succ i => exact .cons hv ih
end
end K10
namespace K10
open PySem PySem.Spec PyProof.Rows L2 He TL EL
section
variable {P : Program} {w : World} {K : PySem.W.Frag} {mg : Str → Option Value} {base : Heap}
/-! _law_deed -/
def LstM (M : List Addr) (H : Hp) : Prop := ∀ b ∈ M, ∃ xs, H b = some (.lst xs)
theorem LstM.same {M : List Addr} {H H' : Hp} (h : LstM M H) (s : Same H H') : LstM M H' := fun b hb => let ⟨xs, e⟩ := h b hb; ⟨xs, s _ _ e⟩
theorem TbAt.nM {M : List Addr} {H : Hp} {A : Ta} {es : List TbE} (B : TbAt K H A es) (hM : LstM M H) (hl : ∀ e ∈ es, e.s.l ∉ M) : ∀ a ∈ A.all es, a ∉ M := fun a ha z => by
  obtain ⟨xs, e⟩ := hM a z
  unfold Ta.all at ha
  simp only [List.mem_cons] at ha
  rcases ha with rfl | rfl | rfl | rfl | rfl | ha
  · have := B.hx; rw [e] at this; cases this
  · have := B.hf.hx; rw [e] at this; cases this
  · have := B.hf.hw; rw [e] at this; cases this
  · have := B.hf.hl; rw [e] at this; cases this
  · have := B.hp; rw [e] at this; cases this
  · obtain ⟨o, ho, ha⟩ := List.mem_flatMap.mp ha
    have C := B.hf.hc o.s (List.mem_map_of_mem ho)
    simp only [List.mem_cons, List.not_mem_nil, or_false] at ha
    rcases ha with rfl | rfl | rfl
    · obtain ⟨ys, ey, _⟩ := B.hd o ho
      rw [e] at ey; cases ey
    · have := C.hx; rw [e] at this; cases this
    · exact hl o ho z
def FOk (F : List Frm) : Prop := ∃ n0 as0 n1 as1, F = [(("t" : Str), n0, as0), (("other" : Str), n1, as1)]
theorem FOk.no {F : List Frm} (h : FOk F) {es : List TbE} {R : List (List Rw)} (t : Tie F es R) {z : Str} (h1 : z ≠ "t") (h2 : z ≠ "other") : findT es z = none := by
  obtain ⟨n0, as0, n1, as1, rfl⟩ := h
  unfold findT
  rw [List.find?_eq_none]
  intro e he
  rw [decide_eq_true_eq]
  intro hz
  have : keyS e.s ∈ (es.map TbE.s).map keyS := List.mem_map_of_mem (List.mem_map_of_mem he)
  rw [t.k] at this
  simp only [List.map_cons, List.map_nil, List.mem_cons, List.not_mem_nil, or_false] at this
  rcases this with h | h
  · exact h1 (hz.symm.trans (congrArg Prod.fst h))
  · exact h2 (hz.symm.trans (congrArg Prod.fst h))
theorem FOk.at {F : List Frm} (h : FOk F) {i : Nat} (hi : i < 2) : ∃ f, F[i]? = some f ∧ PyData.strOk f.1 = true := by
  obtain ⟨n0, as0, n1, as1, rfl⟩ := h
  have : i = 0 ∨ i = 1 := by omega
  rcases this with rfl | rfl
  · exact ⟨_, rfl, by show PyData.strOk ("t" : Str) = true; decide +kernel⟩
  · exact ⟨_, rfl, by show PyData.strOk ("other" : Str) = true; decide +kernel⟩
theorem eqv_self {d : PyData} (h : SeqAt.shaped d = true) : PyData.eqv d d = true := SeqAt.eqv_refl _ (Bool.and_eq_true_iff.mp h).1
theorem sh_err {t : Str} {d : PyData} {b : Bool} (ht : PyData.strOk t = true) (hd : shB d = true) : SeqAt.shaped (errL t d b) = true := by
  obtain ⟨h1, h2⟩ := sh_alls (ds := [.str t, d, .bool b]) (fun e he => by
    simp only [List.mem_cons, List.not_mem_nil, or_false] at he
    rcases he with rfl | rfl | rfl
    · exact Bool.and_eq_true_iff.mpr ⟨ht, rfl⟩
    · exact hd
    · rfl)
  exact Bool.and_eq_true_iff.mpr ⟨h1, decide_eq_true (by show PyData.depthAll [.str t, d, .bool b] + 1 ≤ 64; omega)⟩
def nmV : List V := [.str "w", .str "", .int 3, .non]
theorem nm_odd {F : List Frm} (hF : FOk F) {es : List TbE} {R : List (List Rw)} (t : Tie F es R) {v : V} (h : v ∈ nmV) : ∃ d, (∀ H, Dp K H v d) ∧ inT es d = false ∧ shB d = true := by
  have none_ : ∀ {z : Str}, findT es z = none → inT es (.str z) = false := fun e => by show (findT es _).isSome = false; rw [e]; rfl
  simp only [nmV, List.mem_cons, List.not_mem_nil, or_false] at h
  rcases h with rfl | rfl | rfl | rfl
  · exact ⟨.str "w", fun _ => .str _, none_ (hF.no t (by decide +kernel) (by decide +kernel)), by decide +kernel⟩
  · exact ⟨.str "", fun _ => .str _, none_ (hF.no t (by decide +kernel) (by decide +kernel)), by decide +kernel⟩
  · exact ⟨.int 3, fun _ => .int _, rfl, rfl⟩
  · exact ⟨.none, fun _ => .non, rfl, rfl⟩
theorem FormsAt.get {M : List Addr} {H : Hp} {fo : Addr} {F : List Frm} (h : FormsAt K M H fo F) {i : Nat} {f : Frm} (hf : F[i]? = some f) : ∃ vs fa la, H fo = some (.lst vs) ∧ vs[i]? = some (.ref fa) ∧ fa ∉ M ∧ la ∉ M ∧ FormAt K H fa la f.1 f.2.1 f.2.2 := by
  obtain ⟨⟨vs, e, p⟩, _⟩ := h
  suffices ∃ fa la, vs[i]? = some (.ref fa) ∧ fa ∉ M ∧ la ∉ M ∧ FormAt K H fa la f.1 f.2.1 f.2.2 by
    obtain ⟨fa, la, h⟩ := this
    exact ⟨vs, fa, la, e, h⟩
  clear e
  induction p generalizing i with
  | nil => simp at hf
  | @cons v g vs' F' hv ht ih =>
    cases i with
    | zero =>
      cases hf
      obtain ⟨fa, la, rfl, h1, h2, h3⟩ := hv
      exact ⟨fa, la, rfl, h1, h2, h3⟩
    | succ i => exact ih hf
theorem fbad1 {s : Sch} {d : PyData} {i : Nat} {b : Bool} (h : FBad s [d] i b) : i = 0 ∧ lookD s d = some b := by
  obtain ⟨⟨e, h1, h2⟩, _⟩ := h
  cases i with
  | zero =>
    cases h1
    exact ⟨rfl, h2⟩
  | succ i => simp at h1
theorem ixN_nt {n j : Nat} (h : j < n) : ixN n (j : Int) = some j := by
  unfold ixN
  rw [if_pos (by omega), if_pos (by omega)]
  simp
theorem set_self {α : Type} : ∀ {l : List α} {i : Nat} {x : α}, l[i]? = some x → l.set i x = l
  | [], _, _, h => by simp at h
  | a :: t, 0, x, h => by cases h; rfl
  | a :: t, i + 1, x, h => by
    show a :: t.set i x = a :: t
    rw [set_self (l := t) h]
theorem foldR_self {rs : List Rw} (nd : rs.Nodup) (r : Rw) : (rs ++ [r]).foldl addR [] = addR rs r := by
  have h := foldR_take nd rs.length
  rw [List.take_length] at h
  rw [List.foldl_append, h]
  rfl
theorem row_vl {s : Sch} {r : Rw} (h : rowV s (rwD r)) (hl : lookD s (rwD r) = none) : ∀ x ∈ r, Vl x := by
  have := h (look_row hl).1
  rw [rowOf_rwD] at this
  exact (this r rfl).2
theorem set_len {R : List (List Rw)} {i k : Nat} {rs : List Rw} (h : ∀ x ∈ R, x.length ≤ k) (hr : rs.length ≤ k + 6) : ∀ x ∈ R.set i rs, x.length ≤ k + 6 := fun x hx => by
  rcases List.mem_or_eq_of_mem_set hx with hx | hx
  · have := h x hx; omega
  · rw [hx]; exact hr
def oddL : List PyData := [.none, .int 3, .tuple [], .str "x", .tuple [.tuple [.int 0, .int 1]]]
theorem oddL_ok {d : PyData} (h : d ∈ oddL) : ∀ ds, d ≠ .list ds := fun ds z => by
  subst z
  simp [oddL] at h
theorem dp_err {S : List Addr} {H H' : Hp} {r : Addr} {t : Str} {d : PyData} {b : Bool} (h : Dp K H (.ref r) (errL t d b)) (nl : noL d = true) (m : Md S H H') (n : r ∉ S) : Dp K H' (.ref r) (errL t d b) := by
  cases h with
  | lst ha hA =>
    refine .lst ?_ (m.dpAll (by show (true && (noL d && (true && true))) = true; rw [nl]; rfl) hA)
    rcases ha with (ha | ⟨o, ha⟩) | ha
    · exact .inl (.inl (m.out _ _ ha n))
    · exact .inl (.inr ⟨o, m.rig _ _ ha rfl⟩)
    · exact .inr ha
theorem fbad_one {s : Sch} {ds : List PyData} {i j : Nat} {b c : Bool} (h : FBad s ds i b) (k : FBad s ds j c) : i = j ∧ b = c := by
  obtain ⟨⟨d, hd, hl⟩, hb⟩ := h
  obtain ⟨⟨e, he, hm⟩, hc⟩ := k
  rcases Nat.lt_trichotomy i j with h | h | h
  · have := hc d (List.mem_iff_getElem?.mpr ⟨i, by rw [List.getElem?_take, if_pos h]; exact hd⟩)
    rw [hl] at this
    cases this
  · subst h
    rw [hd] at he
    cases he
    rw [hl] at hm
    cases hm
    exact ⟨rfl, rfl⟩
  · have := hb e (List.mem_iff_getElem?.mpr ⟨j, by rw [List.getElem?_take, if_pos h]; exact he⟩)
    rw [hm] at this
    cases this
theorem fbad_no {s : Sch} {ds : List PyData} {i : Nat} {b : Bool} (h : FBad s ds i b) (k : ∀ d ∈ ds, lookD s d = none) : False := by
  obtain ⟨⟨d, hd, hl⟩, _⟩ := h
  rw [k d (List.mem_of_getElem? hd)] at hl
  cases hl
theorem mem_foldR {r : Rw} : ∀ (l acc : List Rw), r ∈ l.foldl addR acc → r ∈ acc ∨ r ∈ l := fun l => by
  induction l with
  | nil => exact fun acc h => .inl h
  | cons x t ih =>
    intro acc h
    rcases ih _ h with h | h
    · unfold addR at h
      split at h
      · exact .inl h
      · rcases List.mem_append.mp h with h | h
        · exact .inl h
        · exact .inr (by rw [List.mem_singleton.mp h]; exact List.mem_cons_self ..)
    · exact .inr (List.mem_cons_of_mem _ h)
theorem rws_of {ds : List PyData} (h : ∀ d ∈ ds, ∃ r, d = rwD r) : ds = (ds.map rowOf).map rwD := by
  rw [List.map_map]
  have : ∀ d ∈ ds, (rwD ∘ rowOf) d = d := fun d hd => by
    obtain ⟨r, rfl⟩ := h d hd
    show rwD (rowOf (rwD r)) = rwD r
    rw [rowOf_rwD]
  exact ((List.map_congr_left this).trans (List.map_id ds)).symm
def spDeed (K : PySem.W.Frag) : Sp := fun vs H Q _ => ∃ p l A es st fo F R M k, vs = [.ref p, .ref A.x, .ref st, .ref fo] ∧ Src H p l ∧ p ∈ M ∧ l ∉ M ∧ p ≠ st ∧ LstM M H ∧ TbAt K H A es ∧ (∀ e ∈ es, e.s.l ∉ M) ∧ StAt K M H st R ∧ FormsAt K M H fo F ∧ Tie F es R ∧ FOk F ∧ (∀ rs ∈ R, rs.length ≤ k) ∧ k ≤ 500 ∧
  ∀ es' R' H', Md (p :: st :: A.pl :: es.map TbE.d) H H' → Src H' p l → TbAt K H' A es' → StAt K M H' st R' → Tie F es' R' → es'.map TbE.s = es.map TbE.s → (∀ e ∈ es', e.d ∈ es.map TbE.d ∨ H e.d = none) → (∀ rs ∈ R', rs.length ≤ k + 6) → Q (.bl true) H'
theorem d_deed (hP : PF P "/claim/cut.py") (T : Txt K mg) : Dn P w K mg base CX0 8 "_law_deed" (spDeed K) := by
  obtain ⟨fd, F⟩ := T.f__law_deed
  have D__law_draw := d_draw (P := P) (w := w) (base := base) T
  have D__law_row := d_row (P := P) (w := w) (base := base) T
  have D__law_due := d_due (P := P) (w := w) (base := base) T
  have D__law_once := d_once (P := P) (w := w) (base := base) T
  have D__law_put := d_lput (P := P) (w := w) (base := base) hP T
  have D__law_set := d_lset (P := P) (w := w) (base := base) hP T
  refine dnN T.g__law_deed F (fun _ _ _ _ _ _ us hl => match us, hl with | [_, _, _, _], _ => rfl) sc__law_deed (fun vs H Q E h => ?_) (fun cdv A outer s H vs Q E hr h => ?_)
  · obtain ⟨p, l, A, es, st, fo, FF, R, M, k, rfl, _⟩ := h
    rfl
  · obtain ⟨p, l, A, es, st, fo, FF, R, M, k, rfl, S, pM, lM, pst, hM, B, slM, Z, G, T0, hF, hk, hk5, hQ⟩ := h
    obtain ⟨xs, hp⟩ := S.lst
    obtain ⟨xl, hl⟩ := S.lst2
    refine ⟨_, PSs.nox (pss_cons (ps_set (i := 4) sc__law_deed.nd rfl (.inr rfl) (pe_op op_fdivW (cl D__law_draw (hr.mono (by decide)) (pa_cons (pv 0) (pa_cons pe_int pa_nil))) pe_int))
      (pss_cons (ps_if (pt_cmpR op_eq (pv 4) pe_int (nomark _)) (pss_cons (ps_set (i := 5) sc__law_deed.nd rfl (.inl rfl) (pe_ix ix_list (pe_lst (pa_cons pe_str (pa_cons pe_str (pa_cons pe_int (pa_cons pe_non pa_nil))))) (cl D__law_draw (hr.mono (by decide)) (pa_cons (pv 0) (pa_cons pe_int pa_nil))) (fun _ _ => rfl)))
      (pss_cons (ps_set (i := 6) sc__law_deed.nd rfl (.inl rfl) (pe_lst (pa_cons pe_str (pa_cons (pv 5) (pa_cons pe_bl pa_nil)))))
      (pss_one (ps_ret (pe_and (pe_cmpR (op_eqD hr.units) (cl D__law_put (hr.mono (by decide)) (pa_cons (pv 1) (pa_cons (pv 5) (pa_cons pe_non pa_nil)))) (pv 6) (nomark _)) (pe_one (pe_cmpR (op_eqD hr.units) (cl D__law_set (hr.mono (by decide)) (pa_cons (pv 1) (pa_cons (pv 5) (pa_cons pe_non pa_nil)))) (pv 6) (nomark _)))))))) pss_nil)
      (pss_cons (ps_if (pt_cmpR op_eq (cl D__law_draw (hr.mono (by decide)) (pa_cons (pv 0) (pa_cons pe_int pa_nil))) pe_int (nomark _)) (pss_cons (ps_set (i := 7) sc__law_deed.nd rfl (.inl rfl) (cl D__law_row (hr.mono (by decide)) (pa_cons (pv 0) (pa_cons (pe_ix (show IxR _ (rIxL K) from ix_list) (pv 3) (pv 4) (fun _ _ => rfl)) pa_nil))))
      (pss_cons (ps_set (i := 6) sc__law_deed.nd rfl (.inl rfl) (cl D__law_due (hr.mono (by decide)) (pa_cons (pe_lst (pa_cons (pv 7) pa_nil)) pa_nil)))
      (pss_mid (ps_if (pt_cmpR op_isB (pv 6) pe_bl (nomark _)) (pss_cons (ps_set (i := 6) sc__law_deed.nd rfl (.inl rfl) (pe_cmpR (op_notInD (u65 hr)) (pe_ix ix_tup (pv 7) pe_int (fun _ _ => rfl)) (pe_ix ix_list (pv 2) (pv 4) (fun _ _ => rfl)) (by rfl)))
      (pss_one (ps_asg (cl D__law_once (hr.mono (by decide)) (pa_cons (pe_op op_cat (pe_ix ix_list (pv 2) (pv 4) (fun _ _ => rfl)) (pe_lst (pa_cons (pe_ix ix_tup (pv 7) pe_int (fun _ _ => rfl)) pa_nil))) pa_nil)) (pg_sub (pv 2) (pv 4) set_list)))) pss_nil)
      (pss_one (ps_ret (pe_cmpR (op_eqD hr.units) (cl D__law_put (hr.mono (by decide)) (pa_cons (pv 1) (pa_cons (pe_ix ix_list (pe_ix (show IxR _ (rIxL K) from ix_list) (pv 3) (pv 4) (fun _ _ => rfl)) pe_int (fun _ _ => rfl)) (pa_cons (pe_ix ix_tup (pv 7) pe_int (fun _ _ => rfl)) pa_nil)))) (pv 6) (nomark _))))))) pss_nil)
      (pss_cons (ps_if (pt_cmpR op_eq (cl D__law_draw (hr.mono (by decide)) (pa_cons (pv 0) (pa_cons pe_int pa_nil))) pe_int (nomark _)) (pss_cons (ps_set (i := 8) sc__law_deed.nd rfl (.inl rfl) (pe_ix ix_list (lit_l (lits_cons lit_n (lits_cons lit_i (lits_cons (lit_t lits_nil) (lits_cons lit_s (lits_cons (lit_t (lits_cons (lit_t (lits_cons lit_i (lits_cons lit_i lits_nil))) lits_nil)) lits_nil)))))) (cl D__law_draw (hr.mono (by decide)) (pa_cons (pv 0) (pa_cons pe_int pa_nil))) (fun _ _ => rfl)))
      (pss_one (ps_ret (pe_cmpR (op_eqD hr.units) (cl D__law_set (hr.mono (by decide)) (pa_cons (pv 1) (pa_cons (pe_ix ix_list (pe_ix (show IxR _ (rIxL K) from ix_list) (pv 3) (pv 4) (fun _ _ => rfl)) pe_int (fun _ _ => rfl)) (pa_cons (pv 8) pa_nil)))) (pe_lst (pa_cons pe_str (pa_cons (pe_un un_neg pe_int) (pa_cons pe_bl pa_nil)))) (nomark _))))) pss_nil)
      (pss_cons (ps_setLc (i := 7) (own := [("_law_turn", 9)]) (tt := tYes) (by rfl) sc__law_deed.nd rfl rfl (sw_true rfl rfl rfl (by decide +kernel)) (pi_range1 (by rfl) T.z_range (pa_cons (cl D__law_draw (hr.mono (by decide)) (pa_cons (pv 0) (pa_cons pe_int pa_nil))) pa_nil)) (blkOk_by (own := [("_law_turn", 9)]) (N := ["_law_source", "_law_tables", "_law_state", "_law_forms", "_law_at", "_law_name", "_law_due_here", "_law_drawn", "_law_odd", "_law_turn", "_law_rows", "_law_row_here", "_law_actual"]) (sc := defScope s__law_deed) (by decide +kernel)) (fun _ _ _ _ _ => (pg_name (i := 9) sc__law_deed.nd rfl (.inl rfl))) (fun _ _ _ _ _ => pts_nil) (fun _ _ _ _ _ => (cl D__law_row (hr.mono (by decide)) (pa_cons (pv 0) (pa_cons (pe_ix (show IxR _ (rIxL K) from ix_list) (pv 3) (pv 4) (fun _ _ => rfl)) pa_nil)))))
      (pss_cons (ps_setLc (i := 10) (own := [("_law_row_here", 11)]) (tt := tYes) (by rfl) sc__law_deed.nd rfl rfl (sw_true rfl rfl rfl (by decide +kernel)) (pi_list (pv 7)) (blkOk_by (own := [("_law_row_here", 11)]) (N := ["_law_source", "_law_tables", "_law_state", "_law_forms", "_law_at", "_law_name", "_law_due_here", "_law_drawn", "_law_odd", "_law_turn", "_law_rows", "_law_row_here", "_law_actual"]) (sc := defScope s__law_deed) (by decide +kernel)) (fun _ _ _ _ _ => (pg_name (i := 11) sc__law_deed.nd rfl (.inl rfl))) (fun _ _ _ _ _ => pts_nil) (fun _ _ _ _ _ => (pe_ix (show IxR _ (rIxT K) from ix_tup) (pv 11) pe_int (fun _ _ => rfl))))
      (pss_cons (ps_set (i := 6) sc__law_deed.nd rfl (.inl rfl) (cl D__law_due (hr.mono (by decide)) (pa_cons (pv 7) pa_nil)))
      (pss_cons (ps_set (i := 12) sc__law_deed.nd rfl (.inl rfl) (cl D__law_set (hr.mono (by decide)) (pa_cons (pv 1) (pa_cons (pe_ix ix_list (pe_ix (show IxR _ (rIxL K) from ix_list) (pv 3) (pv 4) (fun _ _ => rfl)) pe_int (fun _ _ => rfl)) (pa_cons (pv 10) pa_nil)))))
      (pss_mid (ps_if (pt_cmpR op_isB (pv 6) pe_bl (nomark _)) (pss_one (ps_asg (cl D__law_once (hr.mono (by decide)) (pa_cons (pv 10) pa_nil)) (pg_sub (pv 2) (pv 4) set_list))) pss_nil)
      (pss_cons (ps_expr (pe_bm PySem.F.plainAttrs_list PySem.F.slot_list_append PySem.F.type_list_append mt_append (pv 10) (pa_cons pe_str pa_nil)))
      (pss_one (ps_ret (pe_cmpR (op_eqD hr.units) (pv 12) (pv 6) (nomark _)))))))))))))), ?_⟩
    have nM := B.nM hM slM
    refine ⟨_, rfl, p, l, 9, rfl, by decide, by decide, S, fun a0 H1 a1 a2 S1 b1 => ?_⟩
    have m1 : Md [p] H H1 := b1.md hp rfl
    refine ⟨_, _, rfl, rfl, ⟨by decide, by decide⟩, ?_⟩
    have L1 : Lst M H [p] := fun b hb => .inl (by rw [List.mem_singleton.mp hb]; exact pM)
    have B1 := B.md m1 (fun a ha z => nM a ha (by rw [List.mem_singleton.mp z]; exact pM))
    have Z1 := Z.md m1 L1 (by simp [Ne.symm pst])
    have G1 := G.md m1 L1
    obtain ⟨xs1, hp1⟩ := S1.lst
    have hM1 : LstM M H1 := fun b hb => by
      by_cases z : b = p
      · rw [z]; exact ⟨_, hp1⟩
      · obtain ⟨ys, e⟩ := hM b hb
        exact ⟨ys, m1.out _ _ e (nin1 z)⟩
    obtain ⟨at_, hat, hat3⟩ : ∃ n : Nat, a0 / 4 = (n : Int) ∧ n ≤ 2 := ⟨(a0 / 4).toNat, by omega, by omega⟩
    refine ⟨_, rfl, rfl, _, rfl, ie (fun h => ?_) (fun h => ?_)⟩
    · refine ⟨(by show 4 ≤ sizeLine; decide), fun q nq => ?_⟩
      generalize eH2 : upd H1 q _ = H2
      have s2 : Same H1 H2 := eH2 ▸ same_upd nq
      have e2 : H2 q = some _ := eH2 ▸ upd_same
      have qp : q ≠ p := Ne.symm (ne_of_none hp1 nq)
      refine ⟨_, rfl, p, l, 4, rfl, by decide, by decide, S1.same s2, fun j H3 j0 j1 S3 b3 => ?_⟩
      have m3 : Md [p] H2 H3 := b3.md (s2 _ _ hp1) rfl
      obtain ⟨v, hv, hav⟩ := atI_ex (xs := nmV) j0 j1
      obtain ⟨d, dv, hin, shd⟩ := nm_odd (K := K) hF T0 hv
      refine ⟨q, _, _, v, rfl, rfl, SqL.of (b3 _ _ e2 qp), hav, ?_⟩
      refine ⟨_, rfl, (by show 3 ≤ sizeLine; decide), fun q3 nq3 => ?_⟩
      generalize eH4 : upd H3 q3 _ = H4
      have s4 : Same H3 H4 := eH4 ▸ same_upd nq3
      have e4 : H4 q3 = some _ := eH4 ▸ upd_same
      have B2 := B1.same s2
      have nM2 : ∀ a ∈ A.all es, a ∉ [p] := fun a ha z => nM a ha (by rw [List.mem_singleton.mp z]; exact pM)
      have B4 := (B2.md m3 nM2).same s4
      have m14 : Md [p] H1 H4 := (Md.of s2).trans (m3.trans (Md.of s4))
      have S4 := S3.same s4
      have shE : SeqAt.shaped (errL "table" d true) = true := sh_err (by decide +kernel) shd
      have dE4 : Dp K H4 (.ref q3) (errL "table" d true) := .lst (SqL.of e4) (.cons (.str _) (.cons (dv _) (.cons (.bl _) .nil)))
      have none_ : ∀ z e, d = .str z → findT es z = some e → False := fun z e ez hf => by
        rw [ez] at hin
        have : (findT es z).isSome = false := hin
        rw [hf] at this
        cases this
      refine ⟨_, rfl, _, rfl, A, es, v, d, .non, .none, rfl, B4, dv _, .non, fun _ r1 H5 s5 _ d5 => ?_, fun z e ez hf => (none_ z e ez hf).elim⟩
      refine ⟨_, rfl, _, _, d5, Dp.same s5 dE4, shE, shE, ?_⟩
      rw [eqv_self shE]
      refine ⟨_, rfl, iteT ?_⟩
      have B5 := B4.same s5
      refine ⟨_, rfl, _, rfl, A, es, v, d, .non, .none, rfl, B5, dv _, .non, fun _ r2 H6 s6 _ d6 => ?_, fun z e ez hf => (none_ z e ez hf).elim⟩
      refine ⟨_, rfl, _, _, d6, Dp.same (s5.trans s6) dE4, shE, shE, ?_⟩
      rw [eqv_self shE]
      have s46 := s5.trans s6
      have m16 : Md [p] H1 H6 := m14.trans (Md.of s46)
      have L16 : Lst M H1 [p] := fun b hb => .inl (by rw [List.mem_singleton.mp hb]; exact pM)
      exact hQ es R H6 ((m1.trans m16).mono (by simp)) (S4.same s46) (B4.same s46) (Z1.md m16 L16 (by simp [Ne.symm pst])) T0 rfl (fun e he => .inl (List.mem_map_of_mem he)) (fun rs hrs => by have := hk rs hrs; omega)
    · have hat1 : at_ < 2 := by
        have := of_decide_eq_false h
        have : ¬ (a0 / 4 = 2) := fun z => this (by show V.int (a0 / 4) = V.int 2; rw [z])
        omega
      obtain ⟨f, hf, hfs⟩ := hF.at hat1
      obtain ⟨e, he, hen, hnn, has, hR⟩ := T0.at hf
      refine ⟨_, rfl, p, l, 2, rfl, by decide, by decide, S1, fun c H2 c0 c1 S2 b2 => ?_⟩
      have m2 : Md [p] H1 H2 := b2.md hp1 rfl
      have m02 := m1.trans m2
      have nM2 : ∀ a ∈ A.all es, a ∉ [p] := fun a ha z => nM a ha (by rw [List.mem_singleton.mp z]; exact pM)
      have up : ∀ {H' : Hp}, Md [p] H H' → TbAt K H' A es ∧ StAt K M H' st R ∧ FormsAt K M H' fo FF := fun m => ⟨B.md m nM2, Z.md m L1 (by simp [Ne.symm pst]), G.md m L1⟩
      have lm : ∀ {H' : Hp}, Md [p] H H' → Src H' p l → LstM M H' := fun m S' b hb => by
        by_cases z : b = p
        · rw [z]; exact S'.lst
        · obtain ⟨ys, ey⟩ := hM b hb
          exact ⟨ys, m.out _ _ ey (nin1 z)⟩
      refine ⟨rfl, _, rfl, ie (fun hc => ?_) (fun hc => ?_)⟩
      · obtain ⟨_, _, G2⟩ := up m02
        obtain ⟨vs, fa, la, efo, hvs, nfa, nla, fm⟩ := G2.get hf
        have fap : fa ≠ p := fun z => nfa (z ▸ pM)
        have lap : la ≠ p := fun z => nla (z ▸ pM)
        refine ⟨_, rfl, _, rfl, _, rfl, fo, vs, _, .ref fa, rfl, rfl, SqL.of efo, (by rw [hat]; exact atI_nat hvs), ?_⟩
        refine ⟨p, l, fa, la, f.1, f.2.1, f.2.2, e.s, rfl, S2, fm, fap, lap, hnn, has, fun q v d H3 m3 S3 eq3 dv0 rv sh hrw => ?_⟩
        obtain ⟨xs2, hp2⟩ := S2.lst
        have dv := dv0 [p] (al1 hp2)
        have m03 := m02.trans m3
        refine ⟨_, rfl, (by show 1 ≤ sizeLine; decide), fun q4 nq4 => ?_⟩
        generalize eH4 : upd H3 q4 _ = H4
        have s4 : Same H3 H4 := eH4 ▸ same_upd nq4
        have e4 : H4 q4 = some _ := eH4 ▸ upd_same
        have m04 := m03.trans (Md.of s4)
        have S4 := S3.same s4
        have dv4 := DpX.same s4 dv
        have eq4 := s4 _ _ eq3
        obtain ⟨B4, Z4, G4⟩ := up m04
        have hE : EOk e := T0.v e (List.mem_of_getElem? he)
        have hft : findT es f.1 = some e := by
          have := findT_of B.nn (List.mem_of_getElem? he)
          rw [hen] at this
          exact this
        have hRk : e.rs.length ≤ k := hk _ (List.mem_of_getElem? hR)
        refine ⟨q4, [.ref q], [d], e.s, [p], rfl, SqL.of e4, .cons ⟨q, v, rfl, SqT.of eq4, dv4⟩ .nil, (by show 1 ≤ 1000; decide), fun i b hb r H5 s5 _ dr => ?_, fun hall => ?_⟩
        · obtain ⟨rfl, hlb⟩ := fbad1 hb
          have dr : Dp K H5 (.ref r) (errL (xTag b) (.int 0) false) := dr
          have shE : SeqAt.shaped (errL (xTag b) (.int 0) false) = true := sh_err (by cases b <;> decide +kernel) rfl
          refine ⟨fun σ' H' => H' = H5 ∧ σ' = [some (.ref p), some (.ref A.x), some (.ref st), some (.ref fo), some (.int (a0 / 4)), none, some (.ref r), some (.ref q), none, none, none, none, none], ?_, ?_⟩
          · refine ⟨_, rfl, true, rfl, .inl ⟨r, rfl, ?_⟩⟩
            exact ⟨_, rfl, iteF ⟨rfl, rfl⟩⟩
          · rintro σ' H' ⟨rfl, rfl⟩
            obtain ⟨B5, Z5, G5⟩ := up (m04.trans (Md.of s5))
            obtain ⟨vs5, fa5, la5, efo5, hvs5, _, _, fm5⟩ := G5.get hf
            have dv5 := (DpX.same s5 dv4).dp
            refine ⟨_, rfl, _, rfl, _, rfl, fo, vs5, _, .ref fa5, rfl, rfl, SqL.of efo5, (by rw [hat]; exact atI_nat hvs5), fa5, _, 0, _, rfl, rfl, SqL.of fm5.hf, atI_nat (j := 0) rfl, _, rfl, q, _, 0, _, rfl, rfl, SqT.of (s5 _ _ eq4), atI_nat (j := 0) rfl, ?_⟩
            refine ⟨A, es, .str f.1, .str f.1, v, d, rfl, B5, .str _, dv5, fun g => ?_, fun z e' ez hf' => ?_⟩
            · have : (findT es f.1).isSome = false := g
              rw [hft] at this
              cases this
            · cases ez
              rw [hft] at hf'
              cases hf'
              refine ⟨hE.sk, rv, by omega, fun b' hb' r2 H6 s6 _ d6 => ?_, fun hl' => (by rw [hlb] at hl'; cases hl'), fun hl' => (by rw [hlb] at hl'; cases hl')⟩
              rw [hlb] at hb'
              cases hb'
              refine ⟨_, rfl, _, _, d6, Dp.same s6 dr, shE, shE, ?_⟩
              rw [eqv_self shE]
              have m06 := (m04.trans (Md.of s5)).trans (Md.of s6)
              obtain ⟨B6, Z6, _⟩ := up m06
              exact hQ es R H6 (m06.mono (by simp)) (S4.same (s5.trans s6)) B6 Z6 T0 rfl (fun e he => .inl (List.mem_map_of_mem he)) (fun rs hrs => by have := hk rs hrs; omega)
        · have hl0 := hall d (List.mem_cons_self ..)
          obtain ⟨r, rfl, hvw⟩ := hrw hl0
          obtain ⟨vp, _, rfl, _, _⟩ := dp_row dv4.dp
          have dp4 := dv4.dp
          have nst : st ∉ [p] := nin1 (Ne.symm pst)
          have ndr := B.rn e (List.mem_of_getElem? he)
          refine ⟨fun σ' H' => σ' = [some (.ref p), some (.ref A.x), some (.ref st), some (.ref fo), some (.int (a0 / 4)), none, some (.bl (!decide (r ∈ e.rs))), some (.ref q), none, none, none, none, none] ∧ Md [st] H4 H' ∧ StAt K M H' st (R.set at_ (addR e.rs r)), ?_, ?_⟩
          · refine ⟨_, rfl, true, rfl, .inr ⟨true, rfl, ?_⟩⟩
            refine ⟨_, rfl, iteT ?_⟩
            obtain ⟨⟨vs4, est, sv4⟩, stM⟩ := Z4
            obtain ⟨sa, us, hsa, nsa, esa, dsa⟩ := sv4.get hR
            have ats : atI vs4 (a0 / 4) = some (.ref sa) := by rw [hat]; exact atI_nat hsa
            refine ⟨_, rfl, q, _, 0, _, rfl, rfl, SqT.of eq4, atI_nat (j := 0) rfl, _, rfl, _, rfl, st, vs4, _, .ref sa, rfl, rfl, SqL.of est, ats, rwD r, _, dp4, .lst (SqL.of esa) dsa, (rowD_pd (some r)).shaped, (pds_rw _).shaped, ?_⟩
            rw [any_rw]
            refine ⟨_, rfl, _, rfl, st, vs4, _, .ref sa, rfl, rfl, SqL.of est, ats, _, rfl, q, _, 0, _, rfl, rfl, SqT.of eq4, atI_nat (j := 0) rfl, (by show 1 ≤ sizeLine; decide), fun q5 nq5 => ?_⟩
            generalize eH5 : upd H4 q5 _ = H5
            have s5 : Same H4 H5 := eH5 ▸ same_upd nq5
            have e5 : H5 q5 = some _ := eH5 ▸ upd_same
            refine ⟨sa, q5, _, _, rfl, rfl, s5 _ _ esa, e5, ?_, fun q6 nq6 => ?_⟩
            · rw [DpAll.length dsa, List.length_map]
              exact Nat.le_trans (show _ ≤ 1000 by rw [List.length_singleton]; omega) (by decide)
            generalize eH6 : upd H5 q6 _ = H6
            have s6 : Same H5 H6 := eH6 ▸ same_upd nq6
            have e6 : H6 q6 = some _ := eH6 ▸ upd_same
            have dA : DpAll K H6 (us ++ [.ref vp]) ((e.rs ++ [r]).map rwD) := by
              rw [List.map_append]
              exact DpAll.snoc (Dp.same (s5.trans s6) dp4) (DpAll.same (s5.trans s6) dsa)
            refine ⟨q6, _, e.rs ++ [r], rfl, e6, dA, (by rw [List.length_append, List.length_singleton]; omega), fun oz zs H7 s7 noz eoz doz => ?_⟩
            rw [foldR_self ndr] at doz
            have s47 := (s5.trans s6).trans s7
            have est7 := s47 _ _ est
            have hlt : at_ < vs4.length := (List.getElem?_eq_some_iff.mp hsa).1
            refine ⟨_, rfl, _, rfl, st, vs4, _, at_, rfl, rfl, est7, (by rw [hat]; exact ixN_nt hlt), ?_⟩
            have mu : Md [st] H7 (upd H7 st (.lst (vs4.set at_ (.ref oz)))) := Md.upd est7 rfl (by simp)
            have ozM : oz ∉ M := fun z => by
              obtain ⟨ys, ey⟩ := lm m04 S4 oz z
              rw [s6 _ _ (s5 _ _ ey)] at noz
              cases noz
            have ozst : oz ≠ st := fun z => ozM (z ▸ stM)
            have sv8 : StV K M (upd H7 st (.lst (vs4.set at_ (.ref oz)))) vs4 R := (sv4.md (Md.of (S := []) s47) (fun b hb => by cases hb)).md mu (fun b hb => .inl (by rw [List.mem_singleton.mp hb]; exact stM))
            exact ⟨rfl, (Md.of s47).trans mu, ⟨_, upd_same, sv8.set ozM ((upd_ne ozst).trans eoz) (mu.dpAll (pds_rw _).nl doz)⟩, stM⟩
          · rintro σ' H5 ⟨rfl, m5, Z5⟩
            have B5 := B4.md m5 (fun a ha => nin1 (fun z => nM a ha (z ▸ Z.mm)))
            have G5 := G4.md m5 (fun b hb => .inl (by rw [List.mem_singleton.mp hb]; exact Z.mm))
            have S5 : Src H5 p l := Src.md S4 m5 (nin1 pst) (nin1 (fun z => lM (z ▸ Z.mm)))
            obtain ⟨vs5, fa5, la5, efo5, hvs5, _, _, fm5⟩ := G5.get hf
            have dv5 : Dp K H5 (.ref vp) (rwD r) := m5.dp (rwD_nl r) dp4
            refine ⟨_, rfl, _, rfl, _, rfl, fo, vs5, _, .ref fa5, rfl, rfl, SqL.of efo5, (by rw [hat]; exact atI_nat hvs5), fa5, _, 0, _, rfl, rfl, SqL.of fm5.hf, atI_nat (j := 0) rfl, _, rfl, q, _, 0, _, rfl, rfl, m5.sqT (SqT.of eq4), atI_nat (j := 0) rfl, ?_⟩
            refine ⟨A, es, .str f.1, .str f.1, .ref vp, rwD r, rfl, B5, .str _, dv5, fun g => ?_, fun z e' ez hf' => ?_⟩
            · have : (findT es f.1).isSome = false := g
              rw [hft] at this
              cases this
            · cases ez
              rw [hft] at hf'
              cases hf'
              have m05 : Md (p :: st :: A.pl :: es.map TbE.d) H H5 := (m04.mono (by simp)).trans (m5.mono (by simp))
              refine ⟨hE.sk, rv, by omega, fun b' hb' => (by rw [hl0] at hb'; cases hb'), fun _ hm H6 s6 => ?_, fun _ hm H6 m6 B6 => ?_⟩
              · rw [rowOf_rwD] at hm
                refine ⟨_, rfl, .bool false, .bool (!decide (r ∈ e.rs)), .bl _, .bl _, rfl, rfl, ?_⟩
                rw [decide_eq_true hm]
                have eR : R.set at_ (addR e.rs r) = R := by
                  have e1 : addR e.rs r = e.rs := if_pos hm
                  rw [e1]
                  exact set_self hR
                rw [eR] at Z5
                exact hQ es R H6 (m05.trans (Md.of s6)) (S5.same s6) (B5.same s6) (Z5.same s6) T0 rfl (fun e he => .inl (List.mem_map_of_mem he)) (fun rs hrs => by have := hk rs hrs; omega)
              · rw [rowOf_rwD] at hm B6
                refine ⟨_, rfl, .bool true, .bool (!decide (r ∈ e.rs)), .bl _, .bl _, rfl, rfl, ?_⟩
                rw [decide_eq_false hm]
                have e1 : addR e.rs r = e.rs ++ [r] := if_neg hm
                rw [e1] at Z5
                have hem := List.mem_of_getElem? he
                obtain ⟨ex, exd, _⟩ := B5.hd e hem
                have L6 : Lst M H5 [e.d] := fun b hb => .inr fun ys ey => by
                  rw [List.mem_singleton.mp hb, exd] at ey
                  cases ey
                have T6 : Tie FF (setT es f.1 e.d (e.rs ++ [r])) (R.set at_ (e.rs ++ [r])) := by
                  rw [← hen]
                  refine T0.set B.nn he fun r' hr' => ?_
                  rcases List.mem_append.mp hr' with hr' | hr'
                  · exact hE.rv r' hr'
                  · cases List.mem_singleton.mp hr'
                    exact ⟨hl0, hvw⟩
                have ned : st ≠ e.d := fun z => by
                  obtain ⟨⟨w1, e1', _⟩, _⟩ := Z5
                  rw [z, exd] at e1'; cases e1'
                have S6 : Src H6 p l := by
                  obtain ⟨x1, hp5⟩ := S5.lst
                  obtain ⟨x2, hl5⟩ := S5.lst2
                  exact Src.md S5 m6 (nin1 (fun z => by rw [z, exd] at hp5; cases hp5)) (nin1 (fun z => by rw [z, exd] at hl5; cases hl5))
                refine hQ _ _ H6 (m05.trans (m6.mono (fun b hb => by rw [List.mem_singleton.mp hb]; simp; exact .inr (.inr (.inr ⟨e, hem, rfl⟩))))) S6 B6 (Z5.md m6 L6 (nin1 ned)) T6 (setT_s ..) (fun o ho => ?_) (set_len hk (by rw [List.length_append, List.length_singleton]; omega))
                rcases setT_mem ho with ⟨o', _, _, rfl⟩ | ⟨ho', _⟩
                · exact .inl (List.mem_map.mpr ⟨e, hem, rfl⟩)
                · exact .inl (List.mem_map_of_mem ho')
      · obtain ⟨xs2, hp2⟩ := S2.lst
        refine ⟨_, rfl, p, l, 8, rfl, by decide, by decide, S2, fun c3 H3 _ _ S3 b3 => ?_⟩
        have m3 : Md [p] H2 H3 := b3.md hp2 rfl
        have m03 := m02.trans m3
        obtain ⟨xs3, hp3⟩ := S3.lst
        have hE : EOk e := T0.v e (List.mem_of_getElem? he)
        have hft : findT es f.1 = some e := by
          have := findT_of B.nn (List.mem_of_getElem? he)
          rw [hen] at this
          exact this
        have hRk : e.rs.length ≤ k := hk _ (List.mem_of_getElem? hR)
        have hin : ∀ {Pr : Prop}, inT es (.str f.1) = false → Pr := fun g => by
          have : (findT es f.1).isSome = false := g
          rw [hft] at this
          cases this
        refine ⟨rfl, _, rfl, ie (fun hc3 => ?_) (fun hc3 => ?_)⟩
        · intro lv H4 s4 dlv
          obtain ⟨la2, ys, rfl, ey, nly, dys⟩ := (dlv [p] (al1 hp3)).lst_inv
          refine ⟨_, rfl, p, l, 5, rfl, by decide, by decide, S3.same s4, fun j H5 j0 j1 S5 b5 => ?_⟩
          have m5 : Md [p] H4 H5 := b5.md (s4 _ _ hp3) rfl
          obtain ⟨vo, d, ev, ed, md, xd⟩ := (dys.md m5).at j0 j1
          refine ⟨la2, ys, j, vo, rfl, rfl, SqL.of (m5.out _ _ ey nly), ev, ?_⟩
          have m05 : Md [p] H H5 := m03.trans ((Md.of s4).trans m5)
          obtain ⟨B5, Z5, G5⟩ := up m05
          obtain ⟨vs5, fa5, la5, efo5, hvs5, _, _, fm5⟩ := G5.get hf
          refine ⟨_, rfl, _, rfl, _, rfl, fo, vs5, _, .ref fa5, rfl, rfl, SqL.of efo5, (by rw [hat]; exact atI_nat hvs5), fa5, _, 0, _, rfl, rfl, SqL.of fm5.hf, atI_nat (j := 0) rfl, _, rfl, ?_⟩
          refine ⟨A, es, .str f.1, .str f.1, vo, d, rfl, B5, .str _, xd.dp, fun g => hin g, fun z e' ez hf' => ?_⟩
          cases ez
          rw [hft] at hf'
          cases hf'
          refine ⟨hE.sk, fun _ r H6 s6 _ d6 => ?_, fun ds eds => (oddL_ok (by exact md) ds eds).elim⟩
          refine ⟨1, rfl, (by show 3 ≤ sizeLine; decide), fun q7 nq7 => ?_⟩
          generalize eH7 : upd H6 q7 _ = H7
          have s7 : Same H6 H7 := eH7 ▸ same_upd nq7
          have e7 : H7 q7 = some _ := eH7 ▸ upd_same
          have shE : SeqAt.shaped (errL "row" (.int (-1)) false) = true := sh_err (by decide +kernel) rfl
          refine ⟨_, _, Dp.same s7 d6, .lst (SqL.of e7) (.cons (.str _) (.cons (.int _) (.cons (.bl _) .nil))), shE, shE, ?_⟩
          rw [eqv_self shE]
          have m07 := m05.trans (Md.of (s6.trans s7))
          obtain ⟨B7, Z7, _⟩ := up m07
          exact hQ es R H7 (m07.mono (by simp)) (S5.same (s6.trans s7)) B7 Z7 T0 rfl (fun e he => .inl (List.mem_map_of_mem he)) (fun rs hrs => by have := hk rs hrs; omega)
        · refine ⟨_, rfl, p, l, 6, rfl, by decide, by decide, S3, fun c4 H4 c40 c41 S4 b4 => ⟨c4, rfl, by omega, by omega, fun D nD => ?_⟩⟩
          have m4 : Md [p] H3 H4 := b4.md hp3 rfl
          have m04 := m03.trans m4
          obtain ⟨xs4, hp4⟩ := S4.lst
          obtain ⟨xl4, hl4⟩ := S4.lst2
          have nDH := free_md m04 (al1 hp4) nD
          have Dpp : D ≠ p := Ne.symm (ne_of_none hp4 nD)
          have Dll : D ≠ l := Ne.symm (ne_of_none hl4 nD)
          have sD : Same H4 (upd H4 D (.lst [])) := same_upd nD
          have toH : ∀ {H' : Hp}, Md [p, D] (upd H4 D (.lst [])) H' → Md [p] H H' := fun m => Md.newM (m.mono (by simp)) (m04.trans (Md.of sD)) nDH
          refine lc_it walk_range (fun i H' => ∃ us ds, H' D = some (.lst us) ∧ Drn K [p, D] H' e.s us ds ∧ ds.length = i ∧ (∀ d ∈ ds, rowV e.s d ∧ SeqAt.shaped d = true ∧ (lookD e.s d = none → ∃ r, d = rwD r ∧ ∀ x ∈ r, Vw x)) ∧ Md [p, D] (upd H4 D (.lst [])) H' ∧ Src H' p l)
            ⟨[], [], upd_same, .nil, rfl, (fun d h => by cases h), .refl _ _, S4.same sD⟩ (fun _ _ _ _ => trivial) ?_ ?_
          · rintro i xv H5 H5' hi ⟨us, ds, eu, du, ld, pd, m5, S5⟩ ⟨rfl, rfl⟩
            obtain ⟨_, _, G5⟩ := up (toH m5)
            obtain ⟨vs, fa, la, efo, hvs, nfa, nla, fm⟩ := G5.get hf
            have fap : fa ≠ p := fun z => nfa (z ▸ pM)
            have lap : la ≠ p := fun z => nla (z ▸ pM)
            refine ⟨rfl, tYes_of ?_⟩
            refine ⟨_, rfl, _, rfl, _, rfl, fo, vs, _, .ref fa, rfl, rfl, SqL.of efo, (by rw [hat]; exact atI_nat hvs), ?_⟩
            refine ⟨p, l, fa, la, f.1, f.2.1, f.2.2, e.s, rfl, S5, fm, fap, lap, hnn, has, fun q v d H6 m6 S6 eq6 dv rv sh hrw => ?_⟩
            obtain ⟨xs5, hp5⟩ := S5.lst
            have eu6 := m6.out _ _ eu (nin1 Dpp)
            have lu : us.length = i := by rw [Paired.length du, ld]
            refine ⟨us, eu6, Nat.lt_of_le_of_lt (show us.length ≤ 6 by omega) (by decide), ?_⟩
            have mu : Md [D] H6 (upd H6 D (.lst (us ++ [.ref q]))) := Md.upd eu6 rfl (by simp)
            have du6 := du.md m6 (by simp)
            have dnew := Paired.snoc du6 (show ∃ q' x, V.ref q = .ref q' ∧ SqT K H6 q' [x, .int ((cdN (lookD e.s d) : Nat) : Int)] ∧ DpX K [p, D] H6 x d from ⟨q, v, rfl, SqT.of eq6, dv _ (al_cons hp5 (al1 eu))⟩)
            refine ⟨us ++ [.ref q], ds ++ [d], upd_same, Drn.md dnew mu (by simp), by rw [List.length_append, ld]; rfl, fun d' hd' => ?_, m5.trans ((m6.mono (by simp)).trans (mu.mono (by simp))), S6.but (x := D) (fun b o hb hne => (upd_ne hne).trans hb) (Ne.symm Dpp) (Ne.symm Dll)⟩
            rcases List.mem_append.mp hd' with hd' | hd'
            · exact pd d' hd'
            · cases List.mem_singleton.mp hd'
              exact ⟨rv, sh, hrw⟩
          · rintro H5 ⟨us, ds, eu, du, ld, pd, m5, S5⟩
            have m05 := toH m5
            have lu : us.length = ds.length := Paired.length du
            have ld6 : ds.length ≤ 5 := by omega
            obtain ⟨xs5, hp5⟩ := S5.lst
            refine ⟨_, rfl, D, rfl, ⟨_, SqL.of eu⟩, fun D2 nD2 => ?_⟩
            have nD2H := free_md m05 (al1 hp5) nD2
            have sD2 : Same H5 (upd H5 D2 (.lst [])) := same_upd nD2
            have xD2 : D ≠ D2 := fun z => by rw [← z, eu] at nD2; cases nD2
            have xpD2 : p ≠ D2 := fun z => by rw [← z, hp5] at nD2; cases nD2
            refine lc_it (walk_list (xs := us)) (fun i H' => ∃ us2, H' D2 = some (.lst us2) ∧ DpXs K [D2, p, D] H' us2 (ds.take i) ∧ Md [D2] (upd H5 D2 (.lst [])) H') ⟨[], upd_same, .nil, .refl _ _⟩ (fun i H' _ ⟨_, _, _, m⟩ => SqL.of (m.out _ _ (sD2 _ _ eu) (nin1 xD2))) ?_ ?_
            · rintro i xv H6 H6' hi ⟨us2, eu2, xd2, m6⟩ ⟨rfl, hx⟩
              obtain ⟨d, hd, q, x, rfl, hq, hdx⟩ := paired_get du hx
              have hl2 : us2.length = i := by
                rw [DpXs.length xd2, List.length_take]
                omega
              refine ⟨rfl, tYes_of ⟨_, rfl, q, _, 0, _, rfl, rfl, m6.sqT (Same.seqT sD2 hq), atI_nat (j := 0) rfl, us2, eu2, Nat.lt_of_le_of_lt (show us2.length ≤ 6 by omega) (by decide), ?_⟩⟩
              have mu : Md [D2] H6' (upd H6' D2 (.lst (us2 ++ [x]))) := Md.upd eu2 rfl (by simp)
              refine ⟨us2 ++ [x], upd_same, ?_, m6.trans mu⟩
              rw [tk1 hd]
              exact DpXs.snoc ((((hdx.more nD2).same sD2).md (m6.mono (by simp))).md (mu.mono (by simp))) (xd2.md (mu.mono (by simp)))
            rintro H6 ⟨us2, eu2, xd2, m6⟩
            rw [lu, List.take_length] at xd2
            have s56 : Same H5 H6 := (Md.newM (S := []) m6 (Md.of sD2) nD2).same
            have m06 := m05.trans (Md.of s56)
            have S6 := S5.same s56
            have lu2 : us2.length = ds.length := DpXs.length xd2
            have esl : es.length ≤ 1000 := by
              obtain ⟨_, _, _, _, rfl⟩ := hF
              have := T0.len
              rw [this]
              show 2 ≤ 1000
              decide
            refine ⟨_, rfl, D, us, ds, e.s, [p, D], rfl, SqL.of (s56 _ _ eu), du.md (Md.of (S := []) s56) (by simp), by omega, fun i b hb r1 H7 s7 nr1 dr1 => ?_, fun hall => ?_⟩
            · have m07 := m06.trans (Md.of s7)
              obtain ⟨B7, Z7, G7⟩ := up m07
              obtain ⟨vs7, fa7, la7, efo7, hvs7, _, _, fm7⟩ := G7.get hf
              refine ⟨_, rfl, _, rfl, _, rfl, fo, vs7, _, .ref fa7, rfl, rfl, SqL.of efo7, (by rw [hat]; exact atI_nat hvs7), fa7, _, 0, _, rfl, rfl, SqL.of fm7.hf, atI_nat (j := 0) rfl, _, rfl, ?_⟩
              refine ⟨A, es, .str f.1, .str f.1, .ref D2, .list ds, rfl, B7, .str _, .lst (SqL.of (s7 _ _ eu2)) (DpXs.same s7 xd2).dp, fun g => hin g, fun z e' ez hf' => ?_⟩
              cases ez
              rw [hft] at hf'
              cases hf'
              refine ⟨hE.sk, fun hn => (hn ds rfl).elim, fun ds' eds => ?_⟩
              cases eds
              refine ⟨fun x hx => (pd x hx).1, by omega, esl, fun i' b' hb' r2 H8 s8 nr2 dr2 => ?_, fun hl => (fbad_no hb hl).elim⟩
              obtain ⟨rfl, rfl⟩ := fbad_one hb hb'
              have eD2 := s8 _ _ (s7 _ _ eu2)
              refine ⟨fun σ' H' => H' = H8 ∧ σ' = [some (.ref p), some (.ref A.x), some (.ref st), some (.ref fo), some (.int (a0 / 4)), none, some (.ref r1), some (.ref D), none, none, some (.ref D2), none, some (.ref r2)], ?_, ?_⟩
              · exact ⟨_, rfl, true, rfl, .inl ⟨r1, rfl, _, rfl, iteF ⟨rfl, rfl⟩⟩⟩
              rintro σ' H' ⟨rfl, rfl⟩
              refine ⟨_, rfl, .inl ⟨rfl, _, SqL.of eD2⟩, D2, us2, _, rfl, rfl, eD2, Nat.lt_of_le_of_lt (show us2.length ≤ 6 by omega) (by decide), ?_⟩
              have mu : Md [D2] H' (upd H' D2 (.lst (us2 ++ [.str "x"]))) := Md.upd eD2 rfl (by simp)
              have n1 : r1 ≠ D2 := fun z => by rw [z, eu2] at nr1; cases nr1
              have n2 : r2 ≠ D2 := fun z => by rw [z, s7 _ _ eu2] at nr2; cases nr2
              have shE : SeqAt.shaped (errL (xTag b) (.int (i : Nat)) false) = true := sh_err (by cases b <;> decide +kernel) rfl
              have d1 := dp_err (Dp.same s8 dr1) rfl mu (nin1 n1)
              have d2 := dp_err dr2 rfl mu (nin1 n2)
              refine ⟨_, rfl, _, rfl, _, _, d2, d1, shE, shE, ?_⟩
              rw [eqv_self shE]
              have m09 : Md [p] H (upd H' D2 (.lst (us2 ++ [.str "x"]))) := Md.newM (mu.mono (by simp)) (m07.trans (Md.of s8)) nD2H
              obtain ⟨B9, Z9, _⟩ := up m09
              have lD2 : l ≠ D2 := fun z => by
                obtain ⟨y, hy⟩ := S5.lst2
                rw [z, nD2] at hy; cases hy
              exact hQ es R _ (m09.mono (by simp)) (Src.md (S6.same (s7.trans s8)) mu (nin1 xpD2) (nin1 lD2)) B9 Z9 T0 rfl (fun e he => .inl (List.mem_map_of_mem he)) (fun rs hrs => by have := hk rs hrs; omega)
            · obtain ⟨B6, _, G6⟩ := up m06
              have Zx : StAt K (D2 :: M) H st R := by
                obtain ⟨⟨w0, ew, sv⟩, hm⟩ := Z
                refine ⟨⟨w0, ew, sv.re fun b ys nb eb => ?_⟩, List.mem_cons_of_mem _ hm⟩
                intro z
                rcases List.mem_cons.mp z with z | z
                · rw [z, nD2H] at eb; cases eb
                · exact nb z
              have Z6 := Zx.md m06 (fun b hb => .inl (by rw [List.mem_singleton.mp hb]; exact List.mem_cons_of_mem _ pM)) (nin1 (Ne.symm pst))
              obtain ⟨vs6, fa6, la6, efo6, hvs6, _, _, fm6⟩ := G6.get hf
              refine ⟨_, rfl, _, rfl, _, rfl, fo, vs6, _, .ref fa6, rfl, rfl, SqL.of efo6, (by rw [hat]; exact atI_nat hvs6), fa6, _, 0, _, rfl, rfl, SqL.of fm6.hf, atI_nat (j := 0) rfl, _, rfl, ?_⟩
              refine ⟨A, es, .str f.1, .str f.1, .ref D2, .list ds, rfl, B6, .str _, .lst (SqL.of eu2) xd2.dp, fun g => hin g, fun z e' ez hf' => ?_⟩
              cases ez
              rw [hft] at hf'
              cases hf'
              refine ⟨hE.sk, fun hn => (hn ds rfl).elim, fun ds' eds => ?_⟩
              cases eds
              refine ⟨fun x hx => (pd x hx).1, by omega, esl, fun i' b' hb' => (fbad_no hb' hall).elim, fun _ D3 H8 m8 nD3 B8 => ?_⟩
              have hrws := rws_of fun d hd => let ⟨r, e, _⟩ := (pd d hd).2.2 (hall d hd); ⟨r, e⟩
              have pl6 := B6.hp
              have L8 : Lst (D2 :: M) H6 [A.pl] := fun b hb => .inr fun ys ey => by rw [List.mem_singleton.mp hb, pl6] at ey; cases ey
              have spl : st ≠ A.pl := fun z => by
                obtain ⟨⟨w1, e1', _⟩, _⟩ := Z6
                rw [z, pl6] at e1'; cases e1'
              have Z8 := Z6.md m8 L8 (nin1 spl)
              have hM6 := lm m06 S6
              have hM8 : LstM M H8 := fun b hb => by
                obtain ⟨ys, ey⟩ := hM6 b hb
                exact ⟨ys, m8.out _ _ ey (nin1 (ne_of ey pl6 (by intro z; cases z)))⟩
              obtain ⟨yp, hp6⟩ := S6.lst
              obtain ⟨yl, hl6⟩ := S6.lst2
              have S8 : Src H8 p l := Src.md S6 m8 (nin1 (ne_of hp6 pl6 (by intro z; cases z))) (nin1 (ne_of hl6 pl6 (by intro z; cases z)))
              have eD2 := m8.out _ _ eu2 (nin1 (ne_of eu2 pl6 (by intro z; cases z)))
              have dD2 : DpAll K H8 us2 (((ds.map rowOf)).map rwD) := by
                rw [← hrws]
                have := xd2.dp
                rw [hrws] at this ⊢
                exact m8.dpAll (pds_rw _).nl this
              have sl8 : ∀ o ∈ setT es f.1 D3 (addRs ds), o.s.l ∉ M := fun o ho => by
                rcases setT_mem ho with ⟨o', ho', _, rfl⟩ | ⟨ho', _⟩
                · exact slM o' ho'
                · exact slM o ho'
              have nM8 := B8.nM hM8 sl8
              have hem := List.mem_of_getElem? he
              refine ⟨fun σ' H' => σ' = [some (.ref p), some (.ref A.x), some (.ref st), some (.ref fo), some (.int (a0 / 4)), none, some (.bl true), some (.ref D), none, none, some (.ref D2), none, some (.bl true)] ∧ Md [st] H8 H' ∧ StAt K (D2 :: M) H' st (R.set at_ (addRs ds)), ?_, ?_⟩
              · refine ⟨_, rfl, true, rfl, .inr ⟨true, rfl, _, rfl, iteT ?_⟩⟩
                refine ⟨_, rfl, D2, us2, ds.map rowOf, rfl, eD2, dD2, (by rw [List.length_map]; omega), fun oz zs H9 s9 noz eoz doz => ?_⟩
                obtain ⟨⟨vs8, est, sv8⟩, stM⟩ := Z8
                obtain ⟨sa, us8, hsa, nsa, esa, dsa⟩ := sv8.get hR
                have hlt : at_ < vs8.length := (List.getElem?_eq_some_iff.mp hsa).1
                have est9 := s9 _ _ est
                refine ⟨_, rfl, _, rfl, st, vs8, _, at_, rfl, rfl, est9, (by rw [hat]; exact ixN_nt hlt), ?_⟩
                have mu : Md [st] H9 (upd H9 st (.lst (vs8.set at_ (.ref oz)))) := Md.upd est9 rfl (by simp)
                have ozM : oz ∉ D2 :: M := fun z => by
                  rcases List.mem_cons.mp z with z | z
                  · rw [z, eD2] at noz; cases noz
                  · obtain ⟨y, hy⟩ := hM8 oz z
                    rw [noz] at hy; cases hy
                have ozst : oz ≠ st := fun z => ozM (z ▸ stM)
                have sv9 : StV K (D2 :: M) (upd H9 st (.lst (vs8.set at_ (.ref oz)))) vs8 R := (sv8.md (Md.of (S := []) s9) (fun b hb => by cases hb)).md mu (fun b hb => .inl (by rw [List.mem_singleton.mp hb]; exact stM))
                exact ⟨rfl, (Md.of s9).trans mu, ⟨_, upd_same, sv9.set ozM ((upd_ne ozst).trans eoz) (mu.dpAll (pds_rw _).nl doz)⟩, stM⟩
              rintro σ' H9 ⟨rfl, m9, Z9⟩
              have stD2 : st ≠ D2 := fun z => by
                obtain ⟨y, hy⟩ := hM st Z.mm
                rw [z, nD2H] at hy; cases hy
              have eD9 := m9.out _ _ eD2 (nin1 (Ne.symm stD2))
              refine ⟨_, rfl, .inl ⟨rfl, _, SqL.of eD9⟩, D2, us2, _, rfl, rfl, eD9, Nat.lt_of_le_of_lt (show us2.length ≤ 6 by omega) (by decide), ?_⟩
              have mu : Md [D2] H9 (upd H9 D2 (.lst (us2 ++ [.str "x"]))) := Md.upd eD9 rfl (by simp)
              refine ⟨_, rfl, _, rfl, .bool true, .bool true, .bl _, .bl _, rfl, rfl, ?_⟩
              have D2M : D2 ∉ M := fun z => by
                obtain ⟨y, hy⟩ := hM D2 z
                rw [nD2H] at hy; cases hy
              have D2a : ∀ a ∈ A.all (setT es f.1 D3 (addRs ds)), a ≠ D2 := fun a ha z => by
                have key : (∃ o, H a = some o) ∨ a = D3 := by
                  unfold Ta.all at ha
                  simp only [List.mem_cons] at ha
                  rcases ha with rfl | rfl | rfl | rfl | rfl | ha
                  · exact .inl ⟨_, B.hx⟩
                  · exact .inl ⟨_, B.hf.hx⟩
                  · exact .inl ⟨_, B.hf.hw⟩
                  · exact .inl ⟨_, B.hf.hl⟩
                  · exact .inl ⟨_, B.hp⟩
                  · obtain ⟨o, ho, ha⟩ := List.mem_flatMap.mp ha
                    simp only [List.mem_cons, List.not_mem_nil, or_false] at ha
                    rcases setT_mem ho with ⟨o', ho', _, rfl⟩ | ⟨ho', _⟩
                    · rcases ha with rfl | rfl | rfl
                      · exact .inr rfl
                      · exact .inl (B.al _ (Ta.mem_d ho').2.1)
                      · exact .inl (B.al _ (Ta.mem_d ho').2.2)
                    · rcases ha with rfl | rfl | rfl
                      · exact .inl (B.al _ (Ta.mem_d ho').1)
                      · exact .inl (B.al _ (Ta.mem_d ho').2.1)
                      · exact .inl (B.al _ (Ta.mem_d ho').2.2)
                rcases key with ⟨o, eo⟩ | e3
                · rw [z, nD2H] at eo; cases eo
                · rw [← e3, z, eu2] at nD3; cases nD3
              have B9 := (B8.md m9 (fun a ha => nin1 (fun z => nM8 a ha (z ▸ Z.mm)))).md mu (fun a ha => nin1 (D2a a ha))
              have S9 : Src H9 p l := Src.md S8 m9 (nin1 pst) (nin1 (fun z => lM (z ▸ Z.mm)))
              have lD2 : l ≠ D2 := fun z => by
                obtain ⟨y, hy⟩ := S5.lst2
                rw [z, nD2] at hy; cases hy
              have T9 : Tie FF (setT es f.1 D3 (addRs ds)) (R.set at_ (addRs ds)) := by
                rw [← hen]
                refine T0.set B.nn he fun r hr => ?_
                rcases mem_foldR _ _ hr with hr | hr
                · cases hr
                · obtain ⟨d, hd, rfl⟩ := List.mem_map.mp hr
                  obtain ⟨q1, _, q3⟩ := pd d hd
                  obtain ⟨r', rfl, hvw⟩ := q3 (hall d hd)
                  rw [rowOf_rwD]
                  exact ⟨hall _ hd, hvw⟩
              have ZA : StAt K M (upd H9 D2 (.lst (us2 ++ [.str "x"]))) st (R.set at_ (addRs ds)) := by
                obtain ⟨⟨w0, ew, sv⟩, _⟩ := Z9.md mu (fun b hb => .inl (by rw [List.mem_singleton.mp hb]; exact List.mem_cons_self ..)) (nin1 stD2)
                exact ⟨⟨w0, ew, sv.re fun b ys nb _ z => nb (List.mem_cons_of_mem _ z)⟩, Z.mm⟩
              have mAll : Md (p :: st :: A.pl :: es.map TbE.d) H (upd H9 D2 (.lst (us2 ++ [.str "x"]))) := Md.newM (mu.mono (by simp)) ((m06.mono (by simp)).trans ((m8.mono (by simp)).trans (m9.mono (by simp)))) nD2H
              refine hQ _ _ _ mAll (Src.md S9 mu (nin1 xpD2) (nin1 lD2)) B9 ZA T9 (setT_s ..) (fun o ho => ?_) (set_len hk (Nat.le_trans (addRs_len ds) (by omega)))
              rcases setT_mem ho with ⟨o', _, _, rfl⟩ | ⟨ho', _⟩
              · exact .inr (free_md m06 (al1 hp6) nD3)
              · exact .inl (List.mem_map_of_mem ho')
end
end K10
namespace K10
open PySem PySem.Spec PyProof.Rows L2 He TL EL
section
variable {P : Program} {w : World} {K : PySem.W.Frag} {mg : Str → Option Value} {base : Heap}
/-! _law_refuses, _law_is -/
def spRefuses (K : PySem.W.Frag) : Sp := fun vs H Q _ => ∃ A es v d, vs = [.ref A.x, v] ∧ TbAt K H A es ∧ (∀ H, Dp K H v d) ∧ inT es d = false ∧ SeqAt.shaped d = true ∧ ∀ H', Same H H' → Q (.bl true) H'
theorem d_refuses (hP : PF P "/claim/cut.py") (T : Txt K mg) : Dn P w K mg base CX0 6 "_law_refuses" (spRefuses K) := by
  obtain ⟨fd, F⟩ := T.f__law_refuses
  have D_get := d_tb_get (P := P) (w := w) (base := base) hP T
  have D_has := d_tb_has (P := P) (w := w) (base := base) hP T
  refine dnN T.g__law_refuses F (fun _ _ _ _ _ _ us hl => match us, hl with | [_, _], _ => rfl) sc__law_refuses (fun vs H Q E h => ?_) (fun cdv A outer s H vs Q E hr h => ?_)
  · obtain ⟨A, es, v, d, rfl, _⟩ := h
    rfl
  · obtain ⟨A, es, v, d, rfl, B, dv, hi, sh, hQ⟩ := h
    refine ⟨_, PSs.nox (pss_cons (ps_set (i := 2) sc__law_refuses.nd rfl (.inl rfl) pe_int)
      (pss_cons (ps_try_as (i := 3) (by rfl) (by rfl) sc__law_refuses.nd rfl (by rfl) ⟨rfl, by decide, .inl T.g_NoTable⟩ takes0 (fun W pn xe tk po => (pss_one (ps_expr (pe_subO T.h_Tables___getitem__ T.gi_Tables D_get (hr.mono (by decide)) (pxx tk) (pv 0) (pv 1)))))
      (fun a oe cls d pn hz hf => (pss_one (ps_set (i := 2) sc__law_refuses.nd rfl (.inl rfl) (pe_callTy call_int1 (by rfl) T.z_int (by decide +kernel) (pa_cons (pe_cmpR (show OpR _ (compareOp .Eq) (rEqD K) from op_eqD hr.units) (pe_xf T.y_NoTable.2.1 T.y_NoTable.2.2 hz hf (pv 3)) (pv 1) (nomark _)) pa_nil))))))
      (pss_cons (ps_try_as (i := 3) (by rfl) (by rfl) sc__law_refuses.nd rfl (by rfl) ⟨rfl, by decide, .inl T.g_NoTable⟩ takes0 (fun W pn xe tk po => (pss_one (ps_expr (pe_methE (pv 0) T.o_Tables.cl T.h_Tables_has D_has (hr.mono (by decide)) (pxx tk) (pa_cons (pv 1) (pa_cons (pe_tup pa_nil) pa_nil))))))
      (fun a oe cls d pn hz hf => (pss_one (ps_set (i := 2) sc__law_refuses.nd rfl (.inl rfl) (pe_op op_add (pv 2) (pe_callTy call_int1 (by rfl) T.z_int (by decide +kernel) (pa_cons (pe_cmpR (show OpR _ (compareOp .Eq) (rEqD K) from op_eqD hr.units) (pe_xf T.y_NoTable.2.1 T.y_NoTable.2.2 hz hf (pv 3)) (pv 1) (nomark _)) pa_nil)))))))
      (pss_one (ps_ret (pe_cmpR op_eq (pv 2) pe_int (nomark _))))))), ?_⟩
    have no : ∀ {z : Str} {e : TbE}, d = .str z → findT es z = some e → False := fun {z e} ed hf => by
      rw [ed] at hi
      have h2 : (findT es z).isSome = false := hi
      rw [hf] at h2
      cases h2
    have er := eqv_self sh
    have nop : ∀ {f p : Addr}, (tbF f p).lookup ("has" : Str) = none := fun {f p} => tbF_no (by decide +kernel) (by decide +kernel)
    refine ⟨_, rfl, _, rfl, _, _, _, rfl, B.hx, A, es, v, d, rfl, B, dv _, fun _ dd H1 s1 e1 => ?_, fun z e ez hf => (no ez hf).elim⟩
    refine ⟨true, T.e_NoTable_NoTable, fun _ a na => ?_, fun z => by cases z⟩
    refine ⟨_, rfl, rfl, rfl, dd, _, _, rfl, e1, rfl, _, rfl, d, d, dv _, dv _, sh, sh, ?_⟩
    rw [er]
    refine .inr ⟨_, rfl, ?_⟩
    have B1 := B.same s1
    refine ⟨_, rfl, _, _, _, rfl, B1.hx, nop, _, rfl, (by show 0 ≤ sizeLine; decide), fun q nq => ?_⟩
    generalize eH2 : upd H1 q _ = H2
    have s2 : Same H1 H2 := eH2 ▸ same_upd nq
    have e2 : H2 q = some _ := eH2 ▸ upd_same
    refine ⟨A, es, v, d, .ref q, .tuple [], rfl, B1.same s2, dv _, .tup (SqT.of e2) .nil, fun _ dd2 H3 s3 e3 => ?_, fun z e ez hf => (no ez hf).elim⟩
    refine ⟨true, T.e_NoTable_NoTable, fun _ a na => ?_, fun z => by cases z⟩
    refine ⟨_, rfl, _, rfl, rfl, rfl, dd2, _, _, rfl, e3, rfl, _, rfl, d, d, dv _, dv _, sh, sh, ?_⟩
    rw [er]
    refine .inr ⟨_, rfl, ?_⟩
    refine ⟨_, _, rfl, rfl, ?_⟩
    exact ⟨_, rfl, rfl, hQ H3 (s1.trans (s2.trans s3))⟩
end
end K10
namespace K10
open PySem PySem.Spec PyProof.Rows L2 He TL EL
section
variable {P : Program} {w : World} {K : PySem.W.Frag} {mg : Str → Option Value} {base : Heap}
/-! _law_is -/
abbrev StR (K : PySem.W.Frag) (H : Hp) (st : Addr) (R : List (List Rw)) : Prop := ∃ vs, H st = some (.lst vs) ∧ StV K [] H vs R
theorem StR.same {H H' : Hp} {st : Addr} {R : List (List Rw)} (h : StR K H st R) (s : Same H H') : StR K H' st R :=
  let ⟨vs, e, p⟩ := h
  ⟨vs, s _ _ e, p.md (Md.of (S := []) s) (fun b hb => by cases hb)⟩
theorem StAt.r {M : List Addr} {H : Hp} {st : Addr} {R : List (List Rw)} (h : StAt K M H st R) : StR K H st R :=
  let ⟨⟨vs, e, p⟩, _⟩ := h
  ⟨vs, e, p.re (fun _ _ _ _ => by simp)⟩
theorem Tie.two {F : List Frm} {es : List TbE} {R : List (List Rw)} (t : Tie F es R) (hF : FOk F) : ∃ e0 e1, es = [e0, e1] ∧ R = [e0.rs, e1.rs] ∧ e0.s.nm = "t" ∧ e1.s.nm = "other" ∧ F.map Prod.fst = [("t" : Str), ("other" : Str)] := by
  obtain ⟨n0, as0, n1, as1, rfl⟩ := hF
  have hl := t.len
  match es, hl with
  | [e0, e1], _ =>
    have k := t.k
    refine ⟨e0, e1, rfl, t.r.symm, ?_, ?_, rfl⟩
    · have := congrArg (fun l => (l[0]?).map Prod.fst) k
      exact Option.some.inj this
    · have := congrArg (fun l => (l[1]?).map Prod.fst) k
      exact Option.some.inj this
theorem dp_rep {H : Hp} {v : V} {x : Int × Int} (h : Dp K H v (valD x)) : ∀ n, DpAll K H (List.replicate n [v]).flatten ((List.replicate n x).map valD)
  | 0 => .nil
  | n + 1 => .cons h (dp_rep h n)
def spIs (K : PySem.W.Frag) : Sp := fun vs H Q _ => ∃ A es st fo F R, vs = [.ref A.x, .ref st, .ref fo] ∧ TbAt K H A es ∧ StR K H st R ∧ FormsAt K [] H fo F ∧ Tie F es R ∧ FOk F ∧ (∀ rs ∈ R, rs.length ≤ 2000) ∧ ∀ H', Same H H' → Q (.bl true) H'
theorem d_is (hP : PF P "/claim/cut.py") (T : Txt K mg) : Dn P w K mg base CX0 9 "_law_is" (spIs K) := by
  obtain ⟨fd, F⟩ := T.f__law_is
  have D_get := d_tb_get (P := P) (w := w) (base := base) hP T
  have D_has := d_tb_has (P := P) (w := w) (base := base) hP T
  have D_len := d_tb_len (P := P) (w := w) (base := base) T
  have D_names := d_tb_names (P := P) (w := w) (base := base) T
  have D__law_refuses := d_refuses (P := P) (w := w) (base := base) hP T
  refine dnN T.g__law_is F (fun _ _ _ _ _ _ us hl => match us, hl with | [_, _, _], _ => rfl) sc__law_is (fun vs H Q E h => ?_) (fun cdv A outer s H vs Q E hr h => ?_)
  · obtain ⟨A, es, st, fo, FF, R, rfl, _⟩ := h
    rfl
  · obtain ⟨A, es, st, fo, FF, R, rfl, B, Z, G, T0, hF, hk, hQ⟩ := h
    refine ⟨_, PSs.nox (pss_cons (ps_if (PW.pt (pw_or (pt_cmpR op_ne (pe_callB (call_lenO T.h_Tables___len__ D_len (hr.mono (by decide)) pass0) (by rfl) T.z_len (by decide +kernel) (pa_cons (pv 0) pa_nil)) (pe_op op_add (pe_callB call_len_seq (by rfl) T.z_len (by decide +kernel) (pa_cons (pe_ix ix_list (pv 1) pe_int (fun _ _ => rfl)) pa_nil)) (pe_callB call_len_seq (by rfl) T.z_len (by decide +kernel) (pa_cons (pe_ix ix_list (pv 1) pe_int (fun _ _ => rfl)) pa_nil))) (nomark _)) (pw_or1 (pt_cmpR (op_neD hr.units) (pe_methE0 (pv 0) T.o_Tables.cl T.h_Tables_names D_names (hr.mono (by decide)) px0) (pe_lc (own := [("_law_form_here", 3)]) (tt := tYes) (by rfl) sc__law_is.nd (pi_list (pv 2)) (blkOk_by (own := [("_law_form_here", 3)]) (N := ["_law_tables", "_law_state", "_law_forms", "_law_form_here", "_law_at", "_law_rows", "_law_row_here", "_law_odd"]) (sc := defScope s__law_is) (by decide +kernel)) (fun _ _ _ _ _ => (pg_name (i := 3) sc__law_is.nd rfl (.inl rfl))) (fun _ _ _ _ _ => pts_nil) (fun _ _ _ _ _ => (pe_ix (show IxR _ (rIxL K) from ix_list) (pv 3) pe_int (fun _ _ => rfl)))) (nomark _))))) (pss_one (ps_ret pe_bl)) pss_nil)
      (pss_cons (ps_for PassesOwn.never rfl (pi_range1 (by rfl) T.z_range (pa_cons pe_int pa_nil)) (pg_name (i := 4) sc__law_is.nd rfl (.inl rfl))
      (pss_cons (ps_set (i := 5) sc__law_is.nd rfl (.inl rfl) (pe_subO T.h_Tables___getitem__ T.gi_Tables D_get (hr.mono (by decide)) pxq (pv 0) (pe_ix ix_list (pe_ix (show IxR _ (rIxL K) from ix_list) (pv 2) (pv 4) (fun _ _ => rfl)) pe_int (fun _ _ => rfl))))
      (pss_cons (ps_if (PW.pt (pw_or (pt_not (pt_val (pe_callB call_isi (by rfl) T.z_isinstance (by decide +kernel) (pa_cons (pv 5) (pa_cons (pe_bltn (v := .ty "list") (by rfl) T.z_list (by decide +kernel) rfl) pa_nil))))) (pw_or1 (pt_cmpR (op_neD hr.units) (pv 5) (pe_ix ix_list (pv 1) (pv 4) (fun _ _ => rfl)) (nomark _))))) (pss_one (ps_ret pe_bl)) pss_nil)
      (pss_cons (ps_expr (pe_bm PySem.F.plainAttrs_list PySem.F.slot_list_append PySem.F.type_list_append mt_append (pv 5) (pa_cons pe_non pa_nil)))
      (pss_cons (ps_for PassesOwn.never rfl (pi_list (pe_ix ix_list (pv 1) (pv 4) (fun _ _ => rfl))) (pg_name (i := 6) sc__law_is.nd rfl (.inl rfl))
      (pss_one (ps_if (PW.pt (pw_or (pt_cmpR op_isnot_bl (pe_methE (pv 0) T.o_Tables.cl T.h_Tables_has D_has (hr.mono (by decide)) pxq (pa_cons (pe_ix ix_list (pe_ix (show IxR _ (rIxL K) from ix_list) (pv 2) (pv 4) (fun _ _ => rfl)) pe_int (fun _ _ => rfl)) (pa_cons (pv 6) pa_nil))) pe_bl (nomark _)) (pw_or1 (pt_cmpR op_isnot_bl (pe_methE (pv 0) T.o_Tables.cl T.h_Tables_has D_has (hr.mono (by decide)) pxq (pa_cons (pe_ix ix_list (pe_ix (show IxR _ (rIxL K) from ix_list) (pv 2) (pv 4) (fun _ _ => rfl)) pe_int (fun _ _ => rfl)) (pa_cons (pe_callTy call_list_of (by rfl) T.z_list (by decide +kernel) (pa_cons (pv 6) pa_nil)) pa_nil))) pe_bl (nomark _))))) (pss_one (ps_ret pe_bl)) pss_nil)))
      (pss_cons (ps_for PassesOwn.never rfl (pi_list (pe_lst (pa_cons pe_non (pa_cons (pe_tup pa_nil) (pa_cons (pe_op op_repA (pe_tup (pa_cons (pe_tup (pa_cons pe_int (pa_cons pe_int pa_nil))) pa_nil)) (pe_ix ix_list (pe_ix (show IxR _ (rIxL K) from ix_list) (pv 2) (pv 4) (fun _ _ => rfl)) pe_int (fun _ _ => rfl))) (pa_cons (pe_op op_repA (pe_tup (pa_cons (pe_tup (pa_cons pe_int (pa_cons pe_int pa_nil))) pa_nil)) pe_int) (pa_cons (pe_lst (pa_cons (pe_lst pa_nil) pa_nil)) pa_nil))))))) (pg_name (i := 7) sc__law_is.nd rfl (.inl rfl))
      (pss_one (ps_if (pt_cmpR op_isnot_bl (pe_methE (pv 0) T.o_Tables.cl T.h_Tables_has D_has (hr.mono (by decide)) pxq (pa_cons (pe_ix ix_list (pe_ix (show IxR _ (rIxL K) from ix_list) (pv 2) (pv 4) (fun _ _ => rfl)) pe_int (fun _ _ => rfl)) (pa_cons (pv 7) pa_nil))) pe_bl (nomark _)) (pss_one (ps_ret pe_bl)) pss_nil)))
      (pss_one (ps_if (pt_cmpR (op_neD hr.units) (pe_subO T.h_Tables___getitem__ T.gi_Tables D_get (hr.mono (by decide)) pxq (pv 0) (pe_ix ix_list (pe_ix (show IxR _ (rIxL K) from ix_list) (pv 2) (pv 4) (fun _ _ => rfl)) pe_int (fun _ _ => rfl))) (pe_ix ix_list (pv 1) (pv 4) (fun _ _ => rfl)) (nomark _)) (pss_one (ps_ret pe_bl)) pss_nil))))))))
      (pss_one (ps_ret (pe_and (cl D__law_refuses (hr.mono (by decide)) (pa_cons (pv 0) (pa_cons pe_str pa_nil))) (pe_one (cl D__law_refuses (hr.mono (by decide)) (pa_cons (pv 0) (pa_cons pe_int pa_nil))))))))), ?_⟩
    obtain ⟨e0, e1, rfl, rfl, hn0, hn1, hnF⟩ := T0.two hF
    obtain ⟨vs, est, sv⟩ := id Z
    obtain ⟨s0, u0, hs0, _, es0, ds0⟩ := sv.get (i := 0) rfl
    obtain ⟨s1, u1, hs1, _, es1, ds1⟩ := sv.get (i := 1) rfl
    have l0 : u0.length = e0.rs.length := by rw [DpAll.length ds0, List.length_map]
    have l1 : u1.length = e1.rs.length := by rw [DpAll.length ds1, List.length_map]
    have k0 := hk e0.rs (by simp)
    have k1 := hk e1.rs (by simp)
    have lf : ([e0, e1].flatMap TbE.rs).length = e0.rs.length + e1.rs.length := by simp
    refine ⟨_, rfl, A.x, A.dx, _, rfl, B.hx, A, _, rfl, B, by rw [lf]; omega, fun H1 t1 => ?_⟩
    rw [lf]
    refine ⟨_, rfl, ⟨by omega, by omega⟩, ?_⟩
    have e1' := t1 _ _ est
    refine ⟨_, rfl, _, _, 0, _, rfl, rfl, SqL.of e1', atI_nat (j := 0) hs0, _, _, rfl, .inl (SqL.of (t1 _ _ es0)), _, rfl, _, _, 1, _, rfl, rfl, SqL.of e1', atI_nat (j := 1) hs1, _, _, rfl, .inl (SqL.of (t1 _ _ es1)), ?_⟩
    rw [l0, l1]
    refine ⟨_, _, rfl, rfl, rfl, _, rfl, if_neg_of (by show (!decide (V.int ((e0.rs.length + e1.rs.length : Nat) : Int) = V.int ((e0.rs.length : Int) + (e1.rs.length : Int)))) = false; rw [decide_eq_true (by rfl)]; rfl) ?_⟩
    have B1 := B.same t1
    have G1 := G.same t1
    refine ⟨_, rfl, _, _, _, rfl, B1.hx, tbF_no (by decide +kernel) (by decide +kernel), A, _, rfl, B1, fun p H2 np t2 e2 => ?_⟩
    obtain ⟨⟨vf, ef, pf⟩, _⟩ := G1.same t2
    refine ⟨_, rfl, fo, rfl, ⟨_, SqL.of ef⟩, fun L nL => ?_⟩
    have foL : fo ≠ L := ne_of_none ef nL
    have lF : FF.length = 2 := by have := congrArg List.length hnF; rw [List.length_map] at this; exact this
    have lvf : vf.length = FF.length := Paired.length pf
    refine lc_it (walk_list (xs := vf)) (fun i H' => H' = upd H2 L (.lst ((FF.take i).map fun f => V.str f.1))) rfl (fun i H' _ h => by rw [h]; exact SqL.of ((upd_ne foL).trans ef)) ?_ ?_
    · rintro i xv H' H'' hi e ⟨e', hx⟩
      subst e' e
      obtain ⟨f, hf, fa, la, rfl, _, _, fm⟩ := paired_get pf hx
      refine ⟨rfl, tYes_of ?_⟩
      have faL : fa ≠ L := ne_of_none fm.hf nL
      refine ⟨_, rfl, _, _, 0, _, rfl, rfl, SqL.of ((upd_ne faL).trans fm.hf), atI_nat (j := 0) rfl, _, upd_same, ?_, ?_⟩
      · rw [List.length_map, List.length_take]
        exact Nat.lt_of_le_of_lt (Nat.le_trans (Nat.min_le_right _ _) (Nat.le_of_eq lF)) (by decide)
      · rw [upd_upd, tk1 hf, List.map_append]
        rfl
    rintro H3 e
    rw [lvf, List.take_length, show FF.map (fun f => V.str f.1) = [V.str "t", V.str "other"] by rw [show (fun f : Frm => V.str f.1) = V.str ∘ Prod.fst from rfl, ← List.map_map, hnF]; rfl] at e
    subst e
    generalize eH3 : upd H2 L _ = H3
    have t3 : Same H2 H3 := eH3 ▸ same_upd nL
    have eL : H3 L = some (.lst [V.str "t", V.str "other"]) := eH3 ▸ upd_same
    have e2' : H3 p = some (.lst [V.str "t", V.str "other"]) := by
      have := t3 _ _ e2
      rw [List.map_cons, List.map_cons, hn0, hn1] at this
      exact this
    have dts : DpAll K H3 [V.str "t", V.str "other"] ([("t" : Str), ("other" : Str)].map PyData.str) := .cons (.str _) (.cons (.str _) .nil)
    have pdn : SeqAt.shaped (.list ([("t" : Str), ("other" : Str)].map PyData.str)) = true := by decide +kernel
    refine ⟨_, _, .lst (SqL.of e2') dts, .lst (SqL.of eL) dts, pdn, pdn, ?_⟩
    rw [eqv_self pdn]
    refine ⟨_, rfl, iteF ?_⟩
    have s03 := (t1.trans t2).trans t3
    clear eH3 e2 e2' eL dts pdn G1 B1 ef pf np nL foL
    have B3 := B.same s03
    have nop : ∀ {f p : Addr}, (tbF f p).lookup ("has" : Str) = none := fun {f p} => tbF_no (by decide +kernel) (by decide +kernel)
    refine ⟨2, rfl, by decide, by decide, for_range (n := 2) (fun i σ H' => Same H H' ∧ ∃ o4 o5 o6 o7, σ = [some (.ref A.x), some (.ref st), some (.ref fo), none, o4, o5, o6, o7]) ⟨s03, none, none, none, none, rfl⟩ ?_ ?_⟩
    · rintro i σ H4 hi ⟨s4, o4, o5, o6, o7, rfl⟩
      obtain ⟨f, hf, hfs⟩ := hF.at hi
      obtain ⟨e, he, hen, hnn, has, hR⟩ := T0.at hf
      have hem := List.mem_of_getElem? he
      have hE := T0.v e hem
      have hft : findT [e0, e1] f.1 = some e := by rw [← hen]; exact findT_of B.nn hem
      obtain ⟨sa, ur, hsa, _, esa, dsa⟩ := sv.get hR
      have lur : ur.length = e.rs.length := by rw [DpAll.length dsa, List.length_map]
      have ke := hk e.rs (List.mem_of_getElem? hR)
      obtain ⟨vf, fa, la, efo, hvf, _, _, fm⟩ := G.get hf
      have hvf' : atI vf (0 + (i : Int)) = some (.ref fa) := by rw [Int.zero_add]; exact atI_nat hvf
      have hsa' : atI vs (0 + (i : Int)) = some (.ref sa) := by rw [Int.zero_add]; exact atI_nat hsa
      have din : ∀ {R : Prop}, inT [e0, e1] (.str f.1) = false → R := fun {R} z => by
        have : (findT [e0, e1] f.1).isSome = false := z
        rw [hft] at this
        cases this
      have shr : SeqAt.shaped (.list (e.rs.map rwD)) = true := (pds_rw _).shaped
      refine ⟨_, rfl, _, rfl, _, rfl, fo, vf, _, .ref fa, rfl, rfl, SqL.of (s4 _ _ efo), hvf', fa, _, 0, _, rfl, rfl, SqL.of (s4 _ _ fm.hf), atI_nat (j := 0) rfl, _, _, _, rfl, (B.same s4).hx, A, _, _, _, rfl, B.same s4, .str _, fun z => din z, fun z e' ez hf' => ?_⟩
      cases ez
      rw [hft] at hf'
      cases hf'
      intro p us H5 np s5 eu du
      have s05 := s4.trans s5
      refine ⟨_, rfl, _, _, _, _, _, rfl, .ty _, Dp.ty (.lst (SqL.of eu) du), kit_d K .lst (.list _), _, rfl, iteF ?_⟩
      refine ⟨_, rfl, _, rfl, _, rfl, st, vs, _, .ref sa, rfl, rfl, SqL.of (s05 _ _ est), hsa', _, _, .lst (SqL.of eu) du, .lst (SqL.of (s05 _ _ esa)) (DpAll.same s05 dsa), shr, shr, ?_⟩
      rw [eqv_self shr]
      refine ⟨_, rfl, iteF ?_⟩
      have lus : us.length = e.rs.length := by rw [DpAll.length du, List.length_map]
      refine ⟨_, rfl, .inl ⟨rfl, _, SqL.of eu⟩, p, _, _, rfl, rfl, eu, Nat.lt_of_le_of_lt (show us.length ≤ 2000 by omega) (by decide), ?_⟩
      have m6 : Md [p] H5 (upd H5 p (.lst (us ++ [.non]))) := Md.upd eu rfl (by simp)
      generalize upd H5 p _ = H6 at m6 ⊢
      have s06 : Same H H6 := s4.trans (Md.newM (S := []) m6 (Md.of s5) np).same
      have esa6 := s06 _ _ esa
      have dsa6 := DpAll.same s06 dsa
      have hin : ∀ r ∈ e.rs, isRowD e.s.n (rwD r) = true ∧ ∀ x ∈ r, Vw x := fun r hr => ⟨(look_row (hE.rv r hr).1).1, (hE.rv r hr).2⟩
      refine ⟨_, rfl, _, rfl, st, vs, _, .ref sa, rfl, rfl, SqL.of (s06 _ _ est), hsa', sa, rfl, ⟨_, SqL.of esa6⟩, for_list (K := K) (a := sa) (xs := ur) (fun j σ H' => Same H6 H' ∧ ∃ o6, σ = [some (.ref A.x), some (.ref st), some (.ref fo), none, some (.int (0 + (i : Int))), some (.ref p), o6, o7]) ⟨.refl _, o6, rfl⟩ (fun j σ H' _ h => SqL.of (h.1 _ _ esa6)) ?_ ?_⟩
      · rintro j xv σ H7 hx ⟨s7, o6, rfl⟩
        obtain ⟨d, hd, hdp⟩ := DpAll.get dsa6 hx
        obtain ⟨r, hr1, rfl⟩ := getM hd
        have hrm := List.mem_of_getElem? hr1
        obtain ⟨hi1, hi2⟩ := hin r hrm
        have s07 := s06.trans s7
        have hdp7 := Dp.same s7 hdp
        refine ⟨_, rfl, _, _, _, rfl, (B.same s07).hx, nop, _, rfl, _, rfl, fo, vf, _, .ref fa, rfl, rfl, SqL.of (s07 _ _ efo), hvf', fa, _, 0, _, rfl, rfl, SqL.of (s07 _ _ fm.hf), atI_nat (j := 0) rfl, _, rfl, ?_⟩
        refine ⟨A, _, _, _, _, _, rfl, B.same s07, .str _, hdp7, fun z => din z, fun z e' ez hf' => ?_⟩
        cases ez
        rw [hft] at hf'
        cases hf'
        rw [hi1, rowOf_rwD, decide_eq_true hrm]
        refine ⟨_, _, rfl, rfl, _, rfl, iteF ?_⟩
        obtain ⟨ra, rv, rfl, hT, hA⟩ := dp_row hdp7
        refine ⟨_, rfl, _, _, _, rfl, (B.same s07).hx, nop, _, rfl, _, rfl, fo, vf, _, .ref fa, rfl, rfl, SqL.of (s07 _ _ efo), hvf', fa, _, 0, _, rfl, rfl, SqL.of (s07 _ _ fm.hf), atI_nat (j := 0) rfl, _, rfl, _, _, rfl, .inr hT, fun q nq => ?_⟩
        generalize eH8 : upd H7 q _ = H8
        have s8 : Same H7 H8 := eH8 ▸ same_upd nq
        have e8 : H8 q = some _ := eH8 ▸ upd_same
        refine ⟨A, _, _, _, _, _, rfl, B.same (s07.trans s8), .str _, .lst (SqL.of e8) (DpAll.same s8 hA), fun z => din z, fun z e' ez hf' => ?_⟩
        cases ez
        rw [hft] at hf'
        cases hf'
        refine ⟨_, _, rfl, rfl, _, rfl, iteF ?_⟩
        exact ⟨s7.trans s8, _, rfl⟩
      · rintro σ H7 ⟨s7, o6, rfl⟩
        have s07 := s06.trans s7
        refine ⟨(by show 0 ≤ sizeLine; decide), fun q1 w1 => ?_⟩
        generalize eG1 : upd H7 q1 _ = G1
        have g1 : Same H7 G1 := eG1 ▸ same_upd w1
        have d1 : G1 q1 = some _ := eG1 ▸ upd_same
        refine ⟨(by show 2 ≤ sizeLine; decide), fun q2 w2 => ?_⟩
        generalize eG2 : upd G1 q2 _ = G2
        have g2 : Same G1 G2 := eG2 ▸ same_upd w2
        have d2 : G2 q2 = some _ := eG2 ▸ upd_same
        refine ⟨(by show 1 ≤ sizeLine; decide), fun q3 w3 => ?_⟩
        generalize eG3 : upd G2 q3 _ = G3
        have g3 : Same G2 G3 := eG3 ▸ same_upd w3
        have d3 : G3 q3 = some _ := eG3 ▸ upd_same
        have h03 := ((s07.trans g1).trans g2).trans g3
        have fn1 := fm.n1
        have fn3 := fm.n3
        refine ⟨_, rfl, _, rfl, fo, vf, _, .ref fa, rfl, rfl, SqL.of (h03 _ _ efo), hvf', fa, _, 1, _, rfl, rfl, SqL.of (h03 _ _ fm.hf), atI_nat (j := 1) rfl, ?_⟩
        refine ⟨q3, _, [.ref q2], rfl, rfl, SqT.of d3, (by simp), (by omega), (by omega), (by show 1 ≤ 1000; decide), fun q4 G4 g4 d4 => ?_⟩
        refine ⟨(by show 2 ≤ sizeLine; decide), fun q5 w5 => ?_⟩
        generalize eG5 : upd G4 q5 _ = G5
        have g5 : Same G4 G5 := eG5 ▸ same_upd w5
        have d5 : G5 q5 = some _ := eG5 ▸ upd_same
        refine ⟨(by show 1 ≤ sizeLine; decide), fun q6 w6 => ?_⟩
        generalize eG6 : upd G5 q6 _ = G6
        have g6 : Same G5 G6 := eG6 ▸ same_upd w6
        have d6 : G6 q6 = some _ := eG6 ▸ upd_same
        refine ⟨q6, 4, [.ref q5], rfl, rfl, SqT.of d6, (by simp), (by decide), (by decide), (by show 1 ≤ 1000; decide), fun q7 G7 g7 d7 => ?_⟩
        refine ⟨(by show 0 ≤ sizeLine; decide), fun q8 w8 => ?_⟩
        generalize eG8 : upd G7 q8 _ = G8
        have g8 : Same G7 G8 := eG8 ▸ same_upd w8
        have d8 : G8 q8 = some _ := eG8 ▸ upd_same
        refine ⟨(by show 1 ≤ sizeLine; decide), fun q9 w9 => ?_⟩
        generalize eG9 : upd G8 q9 _ = G9
        have g9 : Same G8 G9 := eG9 ▸ same_upd w9
        have d9 : G9 q9 = some _ := eG9 ▸ upd_same
        refine ⟨(by show 5 ≤ sizeLine; decide), fun qa wa => ?_⟩
        generalize eGA : upd G9 qa _ = GA
        have ga : Same G9 GA := eGA ▸ same_upd wa
        have da : GA qa = some _ := eGA ▸ upd_same
        have h7A : Same H7 GA := ((((((((g1.trans g2).trans g3).trans g4).trans g5).trans g6).trans g7).trans g8).trans g9).trans ga
        have h0A := s07.trans h7A
        have BA := B.same h0A
        have odd : ∀ {j : Nat} {v : V}, ([.non, .ref q1, .ref q4, .ref q7, .ref q9] : List V)[j]? = some v → ∃ d, Dp K GA v d ∧ (isRowD e.s.n d && decide (rowOf d ∈ e.rs)) = false := by
          intro j v h
          have hm := List.mem_of_getElem? h
          simp only [List.mem_cons, List.not_mem_nil, or_false] at hm
          rw [hnn]
          rcases hm with rfl | rfl | rfl | rfl | rfl
          · exact ⟨.none, .non, rfl⟩
          · refine ⟨.tuple [], .tup (SqT.of ((((((((((g2.trans g3).trans g4).trans g5).trans g6).trans g7).trans g8).trans g9).trans ga)) _ _ d1)) .nil, ?_⟩
            have : isRowD f.2.1 (.tuple []) = false := by
              show (decide (0 = f.2.1) && _) = false
              rw [decide_eq_false (by omega), Bool.false_and]
            rw [this, Bool.false_and]
          · have dv : Dp K G4 (.ref q2) (valD (77, 1)) := .tup (SqT.of ((g3.trans g4) _ _ d2)) (.cons (.int _) (.cons (.int _) .nil))
            have h4A : Same G4 GA := (((((g5.trans g6).trans g7).trans g8).trans g9).trans ga)
            rw [Int.toNat_natCast] at d4
            refine ⟨rwD (List.replicate f.2.1 (77, 1)), .tup (Same.seqT h4A d4) (DpAll.same h4A (dp_rep dv _)), ?_⟩
            rw [rowOf_rwD, Bool.and_eq_false_iff]
            right
            rw [decide_eq_false_iff_not]
            intro z
            exact ((hin _ z).2 (77, 1) (List.mem_replicate.mpr ⟨by omega, rfl⟩)).2 rfl
          · have dv : Dp K G7 (.ref q5) (valD (0, 1)) := .tup (SqT.of ((g6.trans g7) _ _ d5)) (.cons (.int _) (.cons (.int _) .nil))
            have h7A' : Same G7 GA := (g8.trans g9).trans ga
            refine ⟨rwD (List.replicate 4 (0, 1)), .tup (Same.seqT h7A' d7) (DpAll.same h7A' (dp_rep dv 4)), ?_⟩
            have : isRowD f.2.1 (rwD (List.replicate 4 (0, 1))) = false := by
              show (decide (4 = f.2.1) && _) = false
              rw [decide_eq_false (by omega), Bool.false_and]
            rw [this, Bool.false_and]
          · exact ⟨.list [.list []], .lst (SqL.of (ga _ _ d9)) (.cons (.lst (SqL.of ((g9.trans ga) _ _ d8)) .nil) .nil), rfl⟩
        refine ⟨qa, rfl, ⟨_, SqL.of da⟩, for_list (K := K) (a := qa) (xs := [.non, .ref q1, .ref q4, .ref q7, .ref q9]) (fun j σ H' => GA = H' ∧ ∃ o7, σ = [some (.ref A.x), some (.ref st), some (.ref fo), none, some (.int (0 + (i : Int))), some (.ref p), o6, o7]) ⟨rfl, o7, rfl⟩ (fun j σ H' _ h => by rw [← h.1]; exact SqL.of da) ?_ ?_⟩
        · rintro j xv σ H' hx ⟨rfl, o7', rfl⟩
          obtain ⟨d, hd, hno⟩ := odd hx
          refine ⟨_, rfl, _, _, _, rfl, BA.hx, nop, _, rfl, _, rfl, fo, vf, _, .ref fa, rfl, rfl, SqL.of (h0A _ _ efo), hvf', fa, _, 0, _, rfl, rfl, SqL.of (h0A _ _ fm.hf), atI_nat (j := 0) rfl, _, rfl, ?_⟩
          refine ⟨A, _, _, _, _, _, rfl, BA, .str _, hd, fun z => din z, fun z e' ez hf' => ?_⟩
          cases ez
          rw [hft] at hf'
          cases hf'
          rw [hno]
          refine ⟨_, _, rfl, rfl, _, rfl, iteF ?_⟩
          exact ⟨rfl, _, rfl⟩
        · rintro σ H' ⟨rfl, o7', rfl⟩
          refine ⟨_, rfl, _, rfl, _, rfl, fo, vf, _, .ref fa, rfl, rfl, SqL.of (h0A _ _ efo), hvf', fa, _, 0, _, rfl, rfl, SqL.of (h0A _ _ fm.hf), atI_nat (j := 0) rfl, _, _, _, rfl, BA.hx, A, _, _, _, rfl, BA, .str _, fun z => din z, fun z e' ez hf' => ?_⟩
          cases ez
          rw [hft] at hf'
          cases hf'
          intro p2 us2 HB np2 sB eu2 du2
          have h0B := h0A.trans sB
          refine ⟨_, rfl, _, rfl, st, vs, _, .ref sa, rfl, rfl, SqL.of (h0B _ _ est), hsa', _, _, .lst (SqL.of eu2) du2, .lst (SqL.of (h0B _ _ esa)) (DpAll.same h0B dsa), shr, shr, ?_⟩
          rw [eqv_self shr]
          refine ⟨_, rfl, iteF ?_⟩
          exact ⟨h0B, _, _, _, _, rfl⟩
    · rintro σ H4 ⟨s4, o4, o5, o6, o7, rfl⟩
      have nin : inT [e0, e1] (.str "w") = false := by
        show (findT _ _).isSome = false
        rw [hF.no T0 (z := "w") (by decide +kernel) (by decide +kernel)]
        rfl
      refine ⟨_, rfl, A, _, _, _, rfl, B.same s4, (fun _ => .str _), nin, (by decide +kernel), fun H5 s5 => ?_⟩
      refine ⟨_, rfl, iteT ?_⟩
      refine ⟨_, rfl, A, _, _, _, rfl, B.same (s4.trans s5), (fun _ => .int _), rfl, (by decide +kernel), fun H6 s6 => ?_⟩
      exact hQ H6 ((s4.trans s5).trans s6)
end
end K10
namespace K10
open PySem PySem.Spec PyProof.Rows L2 He TL EL
section
variable {P : Program} {w : World} {K : PySem.W.Frag} {mg : Str → Option Value} {base : Heap}
/-! _law_join -/
theorem foldR_mem {r : Rw} : ∀ (l acc : List Rw), r ∈ acc ∨ r ∈ l → r ∈ l.foldl addR acc := fun l => by
  induction l with
  | nil => exact fun acc h => h.elim id (fun z => by cases z)
  | cons x t ih =>
    intro acc h
    refine ih _ ?_
    unfold addR
    rcases h with h | h
    · left; split
      · exact h
      · exact List.mem_append_left _ h
    · rcases List.mem_cons.mp h with h | h
      · left; split
        · next hx => rw [h]; exact hx
        · rw [h]; exact List.mem_append_right _ (List.mem_singleton.mpr rfl)
      · exact .inr h
theorem mem_unionR {a b : List Rw} {r : Rw} : r ∈ unionR a b ↔ r ∈ a ∨ r ∈ b := by
  unfold unionR
  constructor
  · intro h
    rcases mem_foldR _ _ h with h | h
    · cases h
    · exact List.mem_append.mp h
  · exact fun h => foldR_mem _ _ (.inr (List.mem_append.mpr h))
theorem unionR_len (a b : List Rw) : (unionR a b).length ≤ a.length + b.length := by
  have := foldR_len (a ++ b) []
  rw [List.length_append, List.length_nil] at this
  unfold unionR
  omega
theorem unionR_nd (a b : List Rw) : (unionR a b).Nodup := foldR_nd _ _ List.nodup_nil
theorem lookD_key {s t : Sch} (h : keyS s = keyS t) (d : PyData) : lookD s d = lookD t d := by
  have h : (s.nm, s.n, s.as) = (t.nm, t.n, t.as) := h
  injection h with _ h
  injection h with h1 h2
  unfold lookD
  rw [h1, h2]
theorem Tie.union {F : List Frm} {es fs us : List TbE} {R S : List (List Rw)} (TA : Tie F es R) (TB : Tie F fs S) (h1 : us.map TbE.s = es.map TbE.s) (h2 : us.map TbE.rs = zipU es fs) : Tie F us (zipU es fs) := by
  refine ⟨by rw [h1]; exact TA.k, h2, fun u hu => ?_⟩
  obtain ⟨i, hi⟩ := List.getElem?_of_mem hu
  have a1 : (us.map TbE.s)[i]? = some u.s := by rw [List.getElem?_map, hi]; rfl
  have a2 : (us.map TbE.rs)[i]? = some u.rs := by rw [List.getElem?_map, hi]; rfl
  rw [h1, List.getElem?_map] at a1
  cases he : es[i]? with
  | none => rw [he] at a1; cases a1
  | some e =>
    rw [he] at a1
    have a1 : e.s = u.s := Option.some.inj a1
    obtain ⟨f, hf, hk⟩ := key_at (TA.k.trans TB.k.symm) he
    rw [h2, zipU_at he hf] at a2
    have a2 : unionR e.rs f.rs = u.rs := Option.some.inj a2
    have E := TA.v e (List.mem_of_getElem? he)
    have G := TB.v f (List.mem_of_getElem? hf)
    refine ⟨a1 ▸ E.sk, a1 ▸ E.n3, fun r hr => ?_⟩
    rw [← a2] at hr
    rcases mem_unionR.mp hr with hr | hr
    · rw [← a1]; exact E.rv r hr
    · rw [← a1, ← lookD_key hk]; exact G.rv r hr
theorem Tie.ok {F : List Frm} {es : List TbE} {R : List (List Rw)} (t : Tie F es R) (hF : FOk F) : ∀ z ∈ nmS (es.map TbE.s), PyData.strOk z = true := by
  obtain ⟨e0, e1, rfl, _, h0, h1, _⟩ := t.two hF
  intro z hz
  have hz : z ∈ [e0.s.nm, e1.s.nm] := hz
  rw [h0, h1] at hz
  simp only [List.mem_cons, List.not_mem_nil, or_false] at hz
  rcases hz with rfl | rfl <;> decide +kernel
theorem sameU_rev : ∀ {es fs : List TbE}, es.map TbE.rs = (fs.map TbE.rs).map List.reverse → sameU es fs = true
  | [], [], _ => rfl
  | [], _ :: _, h => by cases h
  | _ :: _, [], h => by cases h
  | e :: es, f :: fs, h => by
    rw [List.map_cons, List.map_cons, List.map_cons] at h
    injection h with h0 h
    show (sameR (e.rs, f.rs) && sameU es fs) = true
    rw [sameU_rev h, Bool.and_true, h0]
    unfold sameR
    rw [Bool.and_eq_true_iff]
    refine ⟨decide_eq_true (List.length_reverse ..), List.all_eq_true.mpr fun r hr => decide_eq_true (List.mem_reverse.mp hr)⟩
theorem EOk.rowV {u : TbE} (h : EOk u) {r : Rw} (hr : r ∈ u.rs) : rowV u.s (rwD r) := fun z l e => by
  rw [rowOf_rwD] at e
  cases e
  have := (isRowD_eq z).2
  rw [rowOf_rwD] at this
  have := h.n3
  exact ⟨by omega, fun x hx => ((h.rv r hr).2 x hx).1⟩
/-- the first i tables turned about -/
def Rv (us ws : List TbE) (i : Nat) : Prop := ws.map TbE.s = us.map TbE.s ∧ ∀ j w, ws[j]? = some w → ∃ u, us[j]? = some u ∧ w.s = u.s ∧ w.rs = if j < i then u.rs.reverse else u.rs
theorem Rv.len {us ws : List TbE} {i : Nat} (h : Rv us ws i) : ws.length = us.length := by
  have := congrArg List.length h.1
  simpa using this
theorem Rv.done {us ws : List TbE} (h : Rv us ws us.length) : ws.map TbE.rs = (us.map TbE.rs).map List.reverse := by
  have hl := h.len
  refine List.ext_getElem? fun j => ?_
  rw [List.getElem?_map, List.getElem?_map, List.getElem?_map]
  cases q : ws[j]? with
  | none =>
    rw [List.getElem?_eq_none_iff] at q
    rw [List.getElem?_eq_none (by omega)]
    rfl
  | some w =>
    obtain ⟨u, hu, _, hr⟩ := h.2 j w q
    have := (List.getElem?_eq_some_iff.mp hu).1
    rw [if_pos this] at hr
    rw [hu]
    show some w.rs = some u.rs.reverse
    rw [hr]
theorem Rv.step {us ws : List TbE} {i : Nat} (h : Rv us ws i) {w : TbE} (hw : ws[i]? = some w) (nn : (nmS (ws.map TbE.s)).Nodup) {D : Addr} : Rv us (setT ws w.s.nm D w.rs.reverse) (i + 1) := by
  refine ⟨(setT_s ..).trans h.1, fun j x hx => ?_⟩
  rw [setT_ix nn hw, List.getElem?_set] at hx
  split at hx
  · next e =>
    subst e
    split at hx
    · cases hx
      obtain ⟨u, hu, h1, h2⟩ := h.2 i w hw
      refine ⟨u, hu, h1, ?_⟩
      rw [if_neg (by omega)] at h2
      rw [if_pos (by omega), ← h2]
    · cases hx
  · next e =>
    obtain ⟨u, hu, h1, h2⟩ := h.2 j x hx
    refine ⟨u, hu, h1, ?_⟩
    rw [h2]
    by_cases q : j < i
    · rw [if_pos q, if_pos (by omega)]
    · rw [if_neg q, if_neg (by omega)]
theorem Rv.start {us ws : List TbE} (h1 : ws.map TbE.s = us.map TbE.s) (h2 : ws.map TbE.rs = us.map TbE.rs) : Rv us ws 0 := by
  refine ⟨h1, fun j w hw => ?_⟩
  have a1 : (us.map TbE.s)[j]? = some w.s := by rw [← h1, List.getElem?_map, hw]; rfl
  have a2 : (us.map TbE.rs)[j]? = some w.rs := by rw [← h2, List.getElem?_map, hw]; rfl
  rw [List.getElem?_map] at a1 a2
  cases q : us[j]? with
  | none => rw [q] at a1; cases a1
  | some u =>
    rw [q] at a1 a2
    exact ⟨u, rfl, (Option.some.inj a1).symm, by rw [if_neg (by omega)]; exact (Option.some.inj a2).symm⟩
theorem addRs_nodup {rs : List Rw} (nd : rs.Nodup) : addRs (rs.map rwD) = rs := by
  unfold addRs
  rw [List.map_map, show rowOf ∘ rwD = id from funext fun r => rowOf_rwD r, List.map_id]
  have := foldR_take nd rs.length
  rw [List.take_length] at this
  exact this
theorem DpAll.rev {H : Hp} : ∀ {ds : List PyData} {vs : List V}, DpAll K H vs ds → DpAll K H vs.reverse ds.reverse
  | _, _, .nil => .nil
  | _, _, .cons a r => by
    rw [List.reverse_cons, List.reverse_cons]
    exact DpAll.snoc a (DpAll.rev r)
abbrev rowsD (R : List (List Rw)) : List PyData := R.map fun rs => .list (rs.map rwD)
theorem StV.dp {M : List Addr} {H : Hp} {vs : List V} {R : List (List Rw)} (h : StV K M H vs R) : DpAll K H vs (rowsD R) := by
  induction h with
  | nil => exact .nil
  | cons hv ht ih =>
    obtain ⟨a, us, rfl, _, e, d⟩ := hv
    exact .cons (.lst (SqL.of e) d) ih
theorem StR.dp {H : Hp} {st : Addr} {R : List (List Rw)} (h : StR K H st R) : Dp K H (.ref st) (.list (rowsD R)) :=
  let ⟨_, e, p⟩ := h
  .lst (SqL.of e) p.dp
def spJoin (K : PySem.W.Frag) : Sp := fun vs H Q _ => ∃ A B es fs bo so s0 s1 fo F R S, vs = [.ref bo, .ref so, .ref fo] ∧ H bo = some (.lst [.ref A.x, .ref B.x]) ∧ H so = some (.lst [.ref s0, .ref s1]) ∧ TbAt K H A es ∧ TbAt K H B fs ∧ StR K H s0 R ∧ StR K H s1 S ∧ FormsAt K [] H fo F ∧ Tie F es R ∧ Tie F fs S ∧ FOk F ∧
  (∀ rs ∈ R, rs.length ≤ 400) ∧ (∀ rs ∈ S, rs.length ≤ 400) ∧ A.dw ≠ A.dl ∧ A.dw ≠ B.dl ∧ A.pl ≠ B.pl ∧ ∀ H', Same H H' → Q (.bl true) H'
theorem d_join (hP : PF P "/claim/cut.py") (T : Txt K mg) : Dn P w K mg base CX0 10 "_law_join" (spJoin K) := by
  obtain ⟨fd, F⟩ := T.f__law_join
  have D_or := d_tb_or (P := P) (w := w) (base := base) hP T
  have D_put := d_tb_put (P := P) (w := w) (base := base) hP T
  have D_twin := d_tb_twin (P := P) (w := w) (base := base) T
  have D_get := d_tb_get (P := P) (w := w) (base := base) hP T
  have D_set := d_tb_set (P := P) (w := w) (base := base) hP T
  have D_eq := d_tb_eq (P := P) (w := w) (base := base) T
  have D__law_is := d_is (P := P) (w := w) (base := base) hP T
  have D__law_once := d_once (P := P) (w := w) (base := base) T
  refine dnN T.g__law_join F (fun _ _ _ _ _ _ us hl => match us, hl with | [_, _, _], _ => rfl) sc__law_join (fun vs H Q E h => ?_) (fun cdv A outer s H vs Q E hr h => ?_)
  · obtain ⟨A, B, es, fs, bo, so, s0, s1, fo, FF, R, S, rfl, _⟩ := h
    rfl
  · obtain ⟨A, B, es, fs, bo, so, s0, s1, fo, FF, R, S, rfl, ebo, eso, CA, CB, ZA, ZB, G, TA, TB, hF, hR, hS, nwl, nwl2, npp, hQ⟩ := h
    refine ⟨_, PSs.nox (pss_cons (ps_set (i := 3) sc__law_join.nd rfl (.inl rfl) (pe_binOX T.sf_Tables T.u_Tables___or__.1 T.u_Tables___or__.2 D_or (hr.mono (by decide)) pxq (pe_ix ix_list (pv 0) pe_int (fun _ _ => rfl)) (pe_ix ix_list (pv 0) pe_int (fun _ _ => rfl))))
      (pss_cons (ps_if (pt_not (pt_val (cl D__law_is (hr.mono (by decide)) (pa_cons (pv 3) (pa_cons (pe_lc (own := [("_law_at", 4)]) (tt := tYes) (by rfl) sc__law_join.nd (pi_range1 (by rfl) T.z_range (pa_cons pe_int pa_nil)) (blkOk_by (own := [("_law_at", 4)]) (N := ["_law_both", "_law_states", "_law_forms", "_law_union", "_law_at", "_law_row_here", "_law_backwards", "_law_form_here", "_law_rows"]) (sc := defScope s__law_join) (by decide +kernel)) (fun _ _ _ _ _ => (pg_name (i := 4) sc__law_join.nd rfl (.inl rfl))) (fun _ _ _ _ _ => pts_nil) (fun _ _ _ _ _ => (cl D__law_once (hr.mono (by decide)) (pa_cons (pe_op op_cat (pe_ix (show IxR _ (rIxL K) from ix_list) (pe_ix (show IxR _ (rIxL K) from ix_list) (pv 1) pe_int (fun _ _ => rfl)) (pv 4) (fun _ _ => rfl)) (pe_ix (show IxR _ (rIxL K) from ix_list) (pe_ix (show IxR _ (rIxL K) from ix_list) (pv 1) pe_int (fun _ _ => rfl)) (pv 4) (fun _ _ => rfl))) pa_nil)))) (pa_cons (pv 2) pa_nil)))))) (pss_one (ps_ret pe_bl)) pss_nil)
      (pss_cons (ps_for PassesOwn.never rfl (pi_range1 (by rfl) T.z_range (pa_cons pe_int pa_nil)) (pg_name (i := 4) sc__law_join.nd rfl (.inl rfl))
      (pss_one (ps_for PassesOwn.never rfl (pi_list (pe_ix (show IxR _ (rIxL K) from ix_list) (pe_ix (show IxR _ (rIxL K) from ix_list) (pv 1) pe_int (fun _ _ => rfl)) (pv 4) (fun _ _ => rfl))) (pg_name (i := 5) sc__law_join.nd rfl (.inl rfl))
      (pss_one (ps_if (pt_cmpR op_isnot_bl (pe_methE (pv 3) T.o_Tables.cl T.h_Tables_put D_put (hr.mono (by decide)) pxq (pa_cons (pe_ix ix_list (pe_ix ix_list (pv 2) (pv 4) (fun _ _ => rfl)) pe_int (fun _ _ => rfl)) (pa_cons (pv 5) pa_nil))) pe_bl (nomark _)) (pss_one (ps_ret pe_bl)) pss_nil)))))
      (pss_cons (ps_set (i := 6) sc__law_join.nd rfl (.inl rfl) (pe_methE0 (pv 3) T.o_Tables.cl T.h_Tables_twin D_twin (hr.mono (by decide)) px0))
      (pss_cons (ps_for PassesOwn.never rfl (pi_list (pv 2)) (pg_name (i := 7) sc__law_join.nd rfl (.inl rfl))
      (pss_cons (ps_set (i := 8) sc__law_join.nd rfl (.inl rfl) (pe_subO T.h_Tables___getitem__ T.gi_Tables D_get (hr.mono (by decide)) pxq (pv 6) (pe_ix ix_list (pv 7) pe_int (fun _ _ => rfl))))
      (pss_one (ps_setO T.ns_Tables T.h_Tables___setitem__ D_set (hr.mono (by decide)) pxq (pv 6) (pe_ix ix_list (pv 7) pe_int (fun _ _ => rfl)) (pe_revL (pv 8)) rfl))))
      (pss_one (ps_ret (pe_and (pe_cmpR op_is_bl (pe_cmpR (op_cmpO (fun _ _ => rfl) T.u_Tables___eq__.1 T.u_Tables___eq__.2 D_eq (hr.mono (by decide)) pass0) (pv 6) (pv 3) (nomark _)) pe_bl (nomark _)) (pe_one (pe_cmpR op_is_bl (pe_cmpR (op_cmpO (fun _ _ => rfl) T.u_Tables___eq__.1 T.u_Tables___eq__.2 D_eq (hr.mono (by decide)) pass0) (pv 3) (pv 1) (nomark _)) pe_bl (nomark _))))))))))), ?_⟩
    obtain ⟨e0, e1, he, hR2, _, _, _⟩ := TA.two hF
    have les : es.length = 2 := by rw [he]; rfl
    have lA : ∀ e ∈ es, e.rs.length ≤ 400 := fun e h => hR _ (by rw [← TA.r]; exact List.mem_map_of_mem h)
    have lB : ∀ e ∈ fs, e.rs.length ≤ 400 := fun e h => hS _ (by rw [← TB.r]; exact List.mem_map_of_mem h)
    have hkey := TA.k.trans TB.k.symm
    refine ⟨_, rfl, _, _, 0, _, rfl, rfl, SqL.of ebo, atI_nat (j := 0) rfl, _, rfl, _, _, 1, _, rfl, rfl, SqL.of ebo, atI_nat (j := 1) rfl, _, _, _, _, _, _, rfl, rfl, CA.hx, CB.hx, ?_⟩
    refine ⟨A, B, es, fs, rfl, CA, CB, by omega, fun e h => Nat.le_trans (lA e h) (by decide), fun e h => Nat.le_trans (lB e h) (by decide), TA.ok hF, TB.ok hF, nwl, nwl2, npp, fun z => (z hkey).elim, fun _ U us H1 t1 nux nu nup us1 us2 usd CU => ?_⟩
    have TU := TA.union TB us1 us2
    refine ⟨_, rfl, 2, rfl, by decide, by decide, fun L nL => ?_⟩
    have sL : Same H1 (upd H1 L (.lst [])) := same_upd nL
    have lz : (zipU es fs).length = 2 := by
      have := congrArg List.length us2
      rw [List.length_map, show us.length = es.length by have := congrArg List.length us1; simpa using this] at this
      omega
    obtain ⟨v0, est0, sv0⟩ := id ZA
    obtain ⟨v1, est1, sv1⟩ := id ZB
    refine lc_it walk_range (fun i H' => ∃ vsL, H' L = some (.lst vsL) ∧ StV K [L] H' vsL ((zipU es fs).take i) ∧ Md [L] (upd H1 L (.lst [])) H') ⟨[], upd_same, .nil, .refl _ _⟩ (fun _ _ _ _ => trivial) ?_ ?_
    · rintro i xv H2 H2' hi ⟨vsL, eL, svL, mL⟩ ⟨rfl, rfl⟩
      have hi : i < 2 := hi
      have s02 : Same H H2' := t1.trans (Md.newM (S := []) mL (Md.of sL) nL).same
      obtain ⟨f, hf, _⟩ := hF.at hi
      obtain ⟨e, hee, _, _, _, hRi⟩ := TA.at hf
      obtain ⟨g, hgg, _, _, _, hSi⟩ := TB.at hf
      obtain ⟨a, ua, ha, _, ea, da⟩ := sv0.get hRi
      obtain ⟨b, ub, hb, _, eb, db⟩ := sv1.get hSi
      have ka := hR _ (List.mem_of_getElem? hRi)
      have kb := hS _ (List.mem_of_getElem? hSi)
      have la : ua.length = e.rs.length := by rw [DpAll.length da, List.length_map]
      have lb : ub.length = g.rs.length := by rw [DpAll.length db, List.length_map]
      refine ⟨rfl, tYes_of ?_⟩
      refine ⟨_, rfl, so, _, 0, _, rfl, rfl, SqL.of (s02 _ _ eso), atI_nat (j := 0) rfl, _, rfl, s0, v0, _, .ref a, rfl, rfl, SqL.of (s02 _ _ est0), (by rw [Int.zero_add]; exact atI_nat ha), _, rfl, so, _, 1, _, rfl, rfl, SqL.of (s02 _ _ eso), atI_nat (j := 1) rfl, _, rfl, s1, v1, _, .ref b, rfl, rfl, SqL.of (s02 _ _ est1), (by rw [Int.zero_add]; exact atI_nat hb), ?_⟩
      refine ⟨a, b, ua, ub, rfl, rfl, s02 _ _ ea, s02 _ _ eb, Nat.le_trans (show ua.length + ub.length ≤ 800 by omega) (by decide), fun q nq => ?_⟩
      generalize eH3 : upd H2' q _ = H3
      have s3 : Same H2' H3 := eH3 ▸ same_upd nq
      have e3 : H3 q = some _ := eH3 ▸ upd_same
      have lL : vsL.length ≤ 2 := by
        have := Paired.length svL
        rw [List.length_take] at this
        omega
      have d3 : DpAll K H3 (ua ++ ub) ((e.rs ++ g.rs).map rwD) := by
        rw [List.map_append]
        exact DpAll.app (DpAll.same (s02.trans s3) da) (DpAll.same (s02.trans s3) db)
      refine ⟨q, ua ++ ub, e.rs ++ g.rs, rfl, e3, d3, by rw [List.length_append]; omega, fun u zs H4 s4 nu4 eu4 du4 => ?_⟩
      have eL4 := s4 _ _ (s3 _ _ eL)
      refine ⟨vsL, eL4, Nat.lt_of_le_of_lt lL (by decide), vsL ++ [.ref u], upd_same, ?_, ?_⟩
      · have mu : Md [L] H4 (upd H4 L (.lst (vsL ++ [.ref u]))) := Md.upd eL4 rfl (by simp)
        have uL : u ≠ L := fun z => by rw [z, s3 _ _ eL] at nu4; cases nu4
        have q1 : (zipU es fs)[i]? = some (unionR e.rs g.rs) := zipU_at hee hgg
        rw [tk1 q1]
        refine Paired.snoc ((svL.md (Md.of (S := []) (s3.trans s4)) (fun b hb => by cases hb)).md mu (fun b hb => .inl hb)) ⟨u, zs, rfl, nin1 uL, (upd_ne uL).trans eu4, mu.dpAll (pds_rw _).nl du4⟩
      · exact mL.trans ((Md.of (s3.trans s4)).trans (Md.upd eL4 rfl (by simp)))
    rintro H2 ⟨vsL, eL, svL, mL⟩
    rw [show Int.toNat 2 = (zipU es fs).length from lz.symm, List.take_length] at svL
    have s12 : Same H1 H2 := (Md.newM (S := []) mL (Md.of sL) nL).same
    have t2 := t1.trans s12
    clear sL
    refine ⟨_, rfl, U, us, L, fo, FF, zipU es fs, rfl, CU.same s12, ⟨vsL, eL, svL.re (fun _ _ _ _ => by simp)⟩, G.same t2, TU, hF, fun rs hrs => ?_, fun H3 s3 => ?_⟩
    · obtain ⟨p, hp, rfl⟩ := List.mem_map.mp hrs
      have h1 := unionR_len p.1.rs p.2.rs
      have h2 := lA p.1 (List.of_mem_zip hp).1
      have h3 := lB p.2 (List.of_mem_zip hp).2
      omega
    refine ⟨_, rfl, iteF ?_⟩
    have s13 := s12.trans s3
    have t3 := t1.trans s13
    have CU3 := CU.same s13
    have nop : ∀ {f p : Addr}, (tbF f p).lookup ("put" : Str) = none ∧ (tbF f p).lookup ("twin" : Str) = none := fun {f p} => ⟨tbF_no (by decide +kernel) (by decide +kernel), tbF_no (by decide +kernel) (by decide +kernel)⟩
    refine ⟨2, rfl, by decide, by decide, for_range (n := 2) (fun i σ H' => Same H3 H' ∧ ∃ o4 o5, σ = [some (.ref bo), some (.ref so), some (.ref fo), some (.ref U.x), o4, o5, none, none, none]) ⟨.refl _, _, none, rfl⟩ ?_ ?_⟩
    · rintro i σ H4 hi ⟨s4, o4, o5, rfl⟩
      have t4 := t3.trans s4
      obtain ⟨f, hf, hfs⟩ := hF.at hi
      obtain ⟨e, hee, _, _, _, hRi⟩ := TA.at hf
      obtain ⟨g, hgg, _, _, _, hSi⟩ := TB.at hf
      obtain ⟨u, huu, hun, _, _, hUi⟩ := TU.at hf
      have hum := List.mem_of_getElem? huu
      have hU := TU.v u hum
      have hft : findT us f.1 = some u := by rw [← hun]; exact findT_of CU.nn hum
      have urs : u.rs = unionR e.rs g.rs := by
        rw [zipU_at hee hgg] at hUi
        exact (Option.some.inj hUi).symm
      obtain ⟨a, ua, ha, _, ea, da⟩ := sv0.get hRi
      have la : ua.length = e.rs.length := by rw [DpAll.length da, List.length_map]
      obtain ⟨vf, fa, la', efo, hvf, _, _, fm⟩ := G.get hf
      have hvf' : atI vf (0 + (i : Int)) = some (.ref fa) := by rw [Int.zero_add]; exact atI_nat hvf
      refine ⟨_, rfl, so, _, 0, _, rfl, rfl, SqL.of (t4 _ _ eso), atI_nat (j := 0) rfl, _, rfl, s0, v0, _, .ref a, rfl, rfl, SqL.of (t4 _ _ est0), (by rw [Int.zero_add]; exact atI_nat ha), a, rfl, ⟨_, SqL.of (t4 _ _ ea)⟩, for_list (K := K) (a := a) (xs := ua) (fun j σ H' => Same H4 H' ∧ ∃ o5, σ = [some (.ref bo), some (.ref so), some (.ref fo), some (.ref U.x), some (.int (0 + (i : Int))), o5, none, none, none]) ⟨.refl _, o5, rfl⟩ (fun j σ H' _ h => SqL.of (h.1 _ _ (t4 _ _ ea))) ?_ ?_⟩
      · rintro j xv σ H5 hx ⟨s5, o5, rfl⟩
        have t5 := t4.trans s5
        obtain ⟨d, hd, hdp⟩ := DpAll.get da hx
        obtain ⟨r, hr1, rfl⟩ := getM hd
        have hrm : r ∈ u.rs := by rw [urs]; exact mem_unionR.mpr (.inl (List.mem_of_getElem? hr1))
        have C5 := CU3.same (s4.trans s5)
        refine ⟨_, rfl, _, _, _, rfl, C5.hx, nop.1, _, rfl, _, rfl, fo, vf, _, .ref fa, rfl, rfl, SqL.of (t5 _ _ efo), hvf', fa, _, 0, _, rfl, rfl, SqL.of (t5 _ _ fm.hf), atI_nat (j := 0) rfl, _, rfl, ?_⟩
        have hlk := (hU.rv r hrm).1
        have ke := lA e (List.mem_of_getElem? hee)
        have kg := lB g (List.mem_of_getElem? hgg)
        refine ⟨U, us, _, .str f.1, _, rwD r, rfl, C5, .str _, Dp.same t5 hdp, fun z => ?_, fun z u' ez hf' => ?_⟩
        · have : (findT us f.1).isSome = false := z
          rw [hft] at this
          cases this
        cases ez
        rw [hft] at hf'
        cases hf'
        have hlen := unionR_len e.rs g.rs
        refine ⟨hU.sk, ?_, by rw [urs]; omega, fun b hb => (by rw [hlk] at hb; cases hb), fun _ _ H6 s6 => ?_, fun _ hn => ?_⟩
        · exact hU.rowV hrm
        · refine ⟨_, _, rfl, rfl, _, rfl, iteF ?_⟩
          exact ⟨s5.trans s6, _, rfl⟩
        · rw [rowOf_rwD] at hn
          exact (hn hrm).elim
      · rintro σ H5 ⟨s5, o5, rfl⟩
        exact ⟨s4.trans s5, _, _, rfl⟩
    · rintro σ H4 ⟨s4, o4, o5, rfl⟩
      have C4 := CU3.same s4
      have t4 := t3.trans s4
      refine ⟨_, rfl, _, _, _, rfl, C4.hx, nop.2, ?_⟩
      have lus : us.length = 2 := by have := congrArg List.length us1; rw [List.length_map, List.length_map, les] at this; exact this
      have lU : ∀ u ∈ us, u.rs.length ≤ 800 := fun u hu => by
        have : u.rs ∈ zipU es fs := by rw [← us2]; exact List.mem_map_of_mem hu
        obtain ⟨p, hp, e⟩ := List.mem_map.mp this
        rw [← e]
        have h1 := unionR_len p.1.rs p.2.rs
        have h2 := lA p.1 (List.of_mem_zip hp).1
        have h3 := lB p.2 (List.of_mem_zip hp).2
        omega
      refine ⟨U, us, rfl, C4, by omega, fun u hu => Nat.le_trans (lU u hu) (by decide), fun V ws H5 s5 nvx nv nvp ws1 ws2 wsd CV => ?_⟩
      obtain ⟨⟨vf, efo, pf⟩, _⟩ := id G
      have lvf : vf.length = us.length := by rw [Paired.length pf, TU.len]
      have t5 := t4.trans s5
      refine ⟨_, rfl, fo, rfl, ⟨_, SqL.of (t5 _ _ efo)⟩, for_list (K := K) (a := fo) (xs := vf) (fun i σ H' => ∃ ws o7 o8, σ = [some (.ref bo), some (.ref so), some (.ref fo), some (.ref U.x), o4, o5, some (.ref V.x), o7, o8] ∧ Rv us ws i ∧ TbAt K H' V ws ∧ (∀ e ∈ ws, H4 e.d = none) ∧ Md [V.pl] H5 H') ⟨ws, none, none, rfl, Rv.start ws1 ws2, CV, wsd, .refl _ _⟩ (fun i σ H' _ h => ?_) ?_ ?_⟩
      · obtain ⟨_, _, _, _, _, _, _, m⟩ := h
        exact SqL.of (m.out _ _ (t5 _ _ efo) (nin1 (ne_of_none (t4 _ _ efo) nvp)))
      · rintro i xv σ H6 hx ⟨ws, o7, o8, rfl, hrv, CW, wd, m6⟩
        have s46 : Same H4 H6 := (Md.newM (S := []) m6 (Md.of s5) nvp).same
        have t6 := t4.trans s46
        obtain ⟨f, hf, fa, la, rfl, _, _, fm⟩ := paired_get pf hx
        obtain ⟨u, huu, hun, _, _, _⟩ := TU.at hf
        have hU := TU.v u (List.mem_of_getElem? huu)
        have hil : i < us.length := (List.getElem?_eq_some_iff.mp huu).1
        obtain ⟨wi, hwi⟩ : ∃ wi, ws[i]? = some wi := ⟨_, List.getElem?_eq_getElem (by rw [hrv.len]; exact hil)⟩
        obtain ⟨u', hu', hws, hwr⟩ := hrv.2 i wi hwi
        rw [huu] at hu'
        cases hu'
        rw [if_neg (by omega)] at hwr
        have hwm := List.mem_of_getElem? hwi
        have hwn : wi.s.nm = f.1 := by rw [hws]; exact hun
        have hft : findT ws f.1 = some wi := by rw [← hwn]; exact findT_of CW.nn hwm
        have din : ∀ {R : Prop}, inT ws (.str f.1) = false → R := fun {R} z => by
          have : (findT ws f.1).isSome = false := z
          rw [hft] at this
          cases this
        have fm6 := fm.same t6
        refine ⟨_, rfl, _, rfl, fa, _, 0, _, rfl, rfl, SqL.of fm6.hf, atI_nat (j := 0) rfl, _, _, _, rfl, CW.hx, V, ws, .str f.1, _, rfl, CW, .str _, fun z => din z, fun z e' ez hf' => ?_⟩
        cases ez
        rw [hft] at hf'
        cases hf'
        intro p uu H7 np s7 eu du
        refine ⟨_, rfl, p, uu, rfl, SqL.of eu, fun q nq => ?_⟩
        generalize eH8 : upd H7 q _ = H8
        have s8 : Same H7 H8 := eH8 ▸ same_upd nq
        have e8 : H8 q = some _ := eH8 ▸ upd_same
        have s68 := s7.trans s8
        have CW8 := CW.same s68
        have dd8 : DpAll K H8 uu.reverse (wi.rs.reverse.map rwD) := by
          rw [List.map_reverse]
          exact DpAll.rev (DpAll.same s8 du)
        refine ⟨_, rfl, _, rfl, fa, _, 0, _, rfl, rfl, SqL.of (s68 _ _ fm6.hf), atI_nat (j := 0) rfl, _, _, _, rfl, CW8.hx, V, ws, .str f.1, .str f.1, .ref q, .list (wi.rs.reverse.map rwD), rfl, CW8, .str _, .lst (SqL.of e8) dd8, fun z => din z, fun z e' ez hf' => ?_⟩
        cases ez
        rw [hft] at hf'
        cases hf'
        have hmm : ∀ x ∈ wi.rs.reverse.map rwD, ∃ r ∈ u.rs, x = rwD r := fun x hx => by
          obtain ⟨r, hr, rfl⟩ := List.mem_map.mp hx
          rw [List.mem_reverse, hwr] at hr
          exact ⟨r, hr, rfl⟩
        have hall : ∀ x ∈ wi.rs.reverse.map rwD, lookD wi.s x = none := fun x hx => by
          obtain ⟨r, hr, rfl⟩ := hmm x hx
          rw [hws]
          exact (hU.rv r hr).1
        have hlu := lU u (List.mem_of_getElem? huu)
        refine ⟨hws ▸ hU.sk, fun hn => (hn _ rfl).elim, fun ds eds => ?_⟩
        cases eds
        refine ⟨fun x hx => ?_, by rw [List.length_map, List.length_reverse, hwr]; omega, by rw [hrv.len]; omega, fun i' b' hb' => (fbad_no hb' hall).elim, fun _ D H9 m9 nD B9 => ?_⟩
        · obtain ⟨r, hr, rfl⟩ := hmm x hx
          rw [hws]
          exact hU.rowV hr
        rw [addRs_nodup (List.pairwise_reverse.mpr ((CW.rn wi hwm).imp fun h => Ne.symm h))] at B9
        refine ⟨setT ws f.1 D wi.rs.reverse, _, _, rfl, ?_, B9, fun e he => ?_, m6.trans ((Md.of s68).trans m9)⟩
        · rw [← hwn]
          exact hrv.step hwi CW.nn
        · rcases setT_mem he with ⟨o, _, _, rfl⟩ | ⟨ho, _⟩
          · exact s46.free (s68.free nD)
          · exact wd e ho
      · rintro σ H6 ⟨ws, o7, o8, rfl, hrv, CW, wd, m6⟩
        have s46 : Same H4 H6 := (Md.newM (S := []) m6 (Md.of s5) nvp).same
        have t6 := t4.trans s46
        have CU6 := C4.same s46
        rw [lvf] at hrv
        have wnm : ∀ z ∈ nmS (ws.map TbE.s), PyData.strOk z = true := by rw [hrv.1]; exact TU.ok hF
        have hkw : (ws.map TbE.s).map keyS = (us.map TbE.s).map keyS := by rw [hrv.1]
        have kE : TyX K H6 (.ref U.x) (.ref (aTb K)) := T.o_Tables.ty CU6.hx
        refine ⟨_, rfl, _, rfl, _, _, _, _, rfl, CW.hx, kE, T.nf_Tables, ?_⟩
        refine .inr ⟨V, U, ws, us, rfl, CW, CU6, by rw [hrv.len]; omega, wnm, TU.ok hF, nv.wl, Ne.symm (ne_of_none C4.hf.hl nv.dw), fun e he f hf z => ?_, fun H7 s7 => ?_⟩
        · obtain ⟨xs, ex, _⟩ := C4.hd f hf
          rw [← z, wd e he] at ex
          cases ex
        rw [decide_eq_true hkw, sameU_rev hrv.done]
        refine ⟨_, _, rfl, rfl, _, rfl, iteT ?_⟩
        have t7 := t6.trans s7
        have dpS : Dp K H7 (.ref so) (.list [.list (rowsD R), .list (rowsD S)]) := .lst (SqL.of (t7 _ _ eso)) (.cons (ZA.same t7).dp (.cons (ZB.same t7).dp .nil))
        refine ⟨_, rfl, _, rfl, _, _, _, _, rfl, (CU6.same s7).hx, Dp.ty dpS, T.nl_Tables, ?_⟩
        refine .inl ⟨_, _, _, rfl, dpS, ?_⟩
        refine ⟨_, _, rfl, rfl, ?_⟩
        exact hQ H7 t7
end
end K10
namespace K10
open PySem PySem.Spec PyProof.Rows L2 He TL EL
section
variable {P : Program} {w : World} {K : PySem.W.Frag} {mg : Str → Option Value} {base : Heap}
/-! _law_apart -/
def sId (t : TS) : TS := t
theorem ps_id {X : Cx} {st : Stmt} {t : TS} (h : PS X st t) : PS X st (sId t) := h
def spApart (K : PySem.W.Frag) : Sp := fun vs H Q _ => ∃ A B es fs, vs = [.ref A.x, .ref B.x] ∧ TbAt K H A es ∧ TbAt K H B fs ∧ es.length ≤ 1000 ∧ fs.length ≤ 1000 ∧ (∀ e ∈ es, e.rs.length ≤ 50000) ∧ (∀ e ∈ fs, e.rs.length ≤ 50000) ∧
  (∀ z ∈ nmS (es.map TbE.s), PyData.strOk z = true) ∧ (∀ z ∈ nmS (fs.map TbE.s), PyData.strOk z = true) ∧ A.dw ≠ A.dl ∧ A.dw ≠ B.dl ∧ B.dw ≠ B.dl ∧ B.dw ≠ A.dl ∧ A.pl ≠ B.pl ∧ (∀ e ∈ es, ∀ f ∈ fs, e.d ≠ f.d) ∧ es.length ≠ fs.length ∧ ∀ H', Same H H' → Q (.bl true) H'
theorem d_apart (hP : PF P "/claim/cut.py") (T : Txt K mg) : Dn P w K mg base CX0 10 "_law_apart" (spApart K) := by
  obtain ⟨fd, F⟩ := T.f__law_apart
  have D_or := d_tb_or (P := P) (w := w) (base := base) hP T
  have D_eq := d_tb_eq (P := P) (w := w) (base := base) T
  refine dnN T.g__law_apart F (fun _ _ _ _ _ _ us hl => match us, hl with | [_, _], _ => rfl) sc__law_apart (fun vs H Q E h => ?_) (fun cdv A outer s H vs Q E hr h => ?_)
  · obtain ⟨A, B, es, fs, rfl, _⟩ := h
    rfl
  · obtain ⟨A, B, es, fs, rfl, CA, CB, les, lfs, lA, lB, nA, nB, w1, w2, w3, w4, npp, hdd, hne, hQ⟩ := h
    refine ⟨_, PSs.nox (pss_cons (ps_set (i := 2) sc__law_apart.nd rfl (.inl rfl) pe_int)
      (pss_cons (ps_for PassesOwn.never rfl (pi_list (pe_lst (pa_cons (pe_tup (pa_cons (pv 0) (pa_cons (pv 1) pa_nil))) (pa_cons (pe_tup (pa_cons (pv 1) (pa_cons (pv 0) pa_nil))) pa_nil)))) (pg_tup rfl (pgs_cons (pg_name (i := 3) sc__law_apart.nd rfl (.inl rfl)) (pgs_cons (pg_name (i := 4) sc__law_apart.nd rfl (.inl rfl)) pgs_nil)))
      (pss_one (ps_id (ps_try_as (i := 5) (by rfl) (by rfl) sc__law_apart.nd rfl (by rfl) ⟨rfl, by decide, .inl T.g_NoTable⟩ takes0 (fun W pn xe tk po => (pss_one (ps_expr (pe_binOX T.sf_Tables T.u_Tables___or__.1 T.u_Tables___or__.2 D_or (hr.mono (by decide)) (pxx tk) (pv 3) (pv 4)))))
      (fun a oe cls d pn hz hf => (pss_one (ps_set (i := 2) sc__law_apart.nd rfl (.inl rfl) (pe_op op_add (pv 2) (pe_callTy call_int1 (by rfl) T.z_int (by decide +kernel) (pa_cons (pe_cmpR (show OpR _ (compareOp .Eq) (rEqD K) from op_eqD hr.units) (pe_xf T.y_NoTable.2.1 T.y_NoTable.2.2 hz hf (pv 5)) pe_str (nomark _)) pa_nil))))))))))
      (pss_one (ps_ret (pe_and (pe_cmpR op_eq (pv 2) pe_int (nomark _)) (pe_one (pe_cmpR op_is_bl (pe_cmpR (op_cmpO (fun _ _ => rfl) T.u_Tables___eq__.1 T.u_Tables___eq__.2 D_eq (hr.mono (by decide)) pass0) (pv 0) (pv 1) (nomark _)) pe_bl (nomark _)))))))), ?_⟩
    have nk : ¬ (es.map TbE.s).map keyS = (fs.map TbE.s).map keyS := fun z => hne (by have := congrArg List.length z; simpa using this)
    have nk' : ¬ (fs.map TbE.s).map keyS = (es.map TbE.s).map keyS := fun z => nk z.symm
    refine ⟨_, rfl, _, rfl, (by show 2 ≤ sizeLine; decide), fun q1 n1 => ?_⟩
    generalize eH1 : upd H q1 _ = H1
    have s1 : Same H H1 := eH1 ▸ same_upd n1
    have e1 : H1 q1 = some _ := eH1 ▸ upd_same
    refine ⟨_, rfl, _, rfl, (by show 2 ≤ sizeLine; decide), fun q2 n2 => ?_⟩
    generalize eH2 : upd H1 q2 _ = H2
    have s2 : Same H1 H2 := eH2 ▸ same_upd n2
    have e2 : H2 q2 = some _ := eH2 ▸ upd_same
    refine ⟨(by show 2 ≤ sizeLine; decide), fun q3 n3 => ?_⟩
    generalize eH3 : upd H2 q3 _ = H3
    have s3 : Same H2 H3 := eH3 ▸ same_upd n3
    have e3 : H3 q3 = some _ := eH3 ▸ upd_same
    have t3 := (s1.trans s2).trans s3
    have e1 := (s2.trans s3) _ _ e1
    have e2 := s3 _ _ e2
    refine ⟨q3, rfl, ⟨_, SqL.of e3⟩, for_list (K := K) (a := q3) (xs := [.ref q1, .ref q2]) (fun i σ H' => Same H3 H' ∧ ∃ c o3 o4 o5, σ = [some (.ref A.x), some (.ref B.x), some (.int c), o3, o4, o5] ∧ c = (i : Int)) ⟨.refl _, 0, none, none, none, rfl, rfl⟩ (fun i σ H' _ h => SqL.of (h.1 _ _ e3)) ?_ ?_⟩
    · rintro i xv σ H4 hx ⟨s4, c, o3, o4, o5, rfl, rfl⟩
      have t4 := t3.trans s4
      have hi : i = 0 ∨ i = 1 := by
        have := (List.getElem?_eq_some_iff.mp hx).1
        have : i < 2 := this
        omega
      rcases hi with hi | hi
      · subst hi
        cases hx
        refine ⟨q1, _, rfl, SqT.of (s4 _ _ e1), rfl, _, _, rfl, _, _, rfl, rfl, ?_⟩
        refine ⟨_, rfl, _, rfl, _, _, _, _, _, _, rfl, rfl, (CA.same t4).hx, (CB.same t4).hx, A, B, es, fs, rfl, CA.same t4, CB.same t4, les, lA, lB, nA, nB, w1, w2, npp, fun _ dd H5 s5 e5 => ?_, fun z => (nk z).elim⟩
        refine ⟨true, T.e_NoTable_NoTable, fun _ a na => ?_, fun z => by cases z⟩
        refine ⟨_, rfl, _, rfl, rfl, rfl, dd, _, _, rfl, e5, rfl, .str "", .str "", .str _, .str _, (by decide +kernel), (by decide +kernel), ?_⟩
        rw [eqv_self (show SeqAt.shaped (.str "") = true by decide +kernel)]
        refine .inr ⟨_, rfl, ?_⟩
        refine ⟨_, _, rfl, rfl, ?_⟩
        exact ⟨s4.trans s5, _, _, _, _, rfl, rfl⟩
      · subst hi
        cases hx
        refine ⟨q2, _, rfl, SqT.of (s4 _ _ e2), rfl, _, _, rfl, _, _, rfl, rfl, ?_⟩
        refine ⟨_, rfl, _, rfl, _, _, _, _, _, _, rfl, rfl, (CB.same t4).hx, (CA.same t4).hx, B, A, fs, es, rfl, CB.same t4, CA.same t4, lfs, lB, lA, nB, nA, w3, w4, Ne.symm npp, fun _ dd H5 s5 e5 => ?_, fun z => (nk' z).elim⟩
        refine ⟨true, T.e_NoTable_NoTable, fun _ a na => ?_, fun z => by cases z⟩
        refine ⟨_, rfl, _, rfl, rfl, rfl, dd, _, _, rfl, e5, rfl, .str "", .str "", .str _, .str _, (by decide +kernel), (by decide +kernel), ?_⟩
        rw [eqv_self (show SeqAt.shaped (.str "") = true by decide +kernel)]
        refine .inr ⟨_, rfl, ?_⟩
        refine ⟨_, _, rfl, rfl, ?_⟩
        exact ⟨s4.trans s5, _, _, _, _, rfl, rfl⟩
    · rintro σ H4 ⟨s4, c, o3, o4, o5, rfl, rfl⟩
      have t4 := t3.trans s4
      refine ⟨_, rfl, rfl, _, rfl, iteT ?_⟩
      refine ⟨_, rfl, _, rfl, _, _, _, _, rfl, (CA.same t4).hx, T.o_Tables.ty (CB.same t4).hx, T.nf_Tables, ?_⟩
      refine .inr ⟨A, B, es, fs, rfl, CA.same t4, CB.same t4, les, nA, nB, w1, w2, hdd, fun H5 s5 => ?_⟩
      rw [decide_eq_false nk, Bool.false_and]
      refine ⟨_, _, rfl, rfl, ?_⟩
      exact hQ H5 (t4.trans s5)
end
end K10
namespace K10
open PySem PySem.Spec PyProof.Rows L2 He TL EL
section
variable {P : Program} {w : World} {K : PySem.W.Frag} {mg : Str → Option Value} {base : Heap}
/-! two tables and their states -/
structure Sep (A B : Ta) (es fs : List TbE) : Prop where
  wa : A.dw ≠ A.dl
  wb : B.dw ≠ B.dl
  x1 : A.dw ≠ B.dl
  x2 : B.dw ≠ A.dl
  pp : A.pl ≠ B.pl
  q1 : A.pl ≠ B.dw
  q2 : A.pl ≠ B.dl
  q3 : B.pl ≠ A.dw
  q4 : B.pl ≠ A.dl
  dd : ∀ e ∈ es, ∀ f ∈ fs, e.d ≠ f.d
theorem Sep.symm {A B : Ta} {es fs : List TbE} (s : Sep A B es fs) : Sep B A fs es := ⟨s.wb, s.wa, s.x2, s.x1, Ne.symm s.pp, s.q3, s.q4, s.q1, s.q2, fun f hf e he => Ne.symm (s.dd e he f hf)⟩
theorem Sep.new {H : Hp} {A B : Ta} {es fs : List TbE} (CA : TbAt K H A es) (wa : A.dw ≠ A.dl) (nb : TbNew H B) (np : H B.pl = none) (nd : ∀ f ∈ fs, H f.d = none) : Sep A B es fs :=
  ⟨wa, nb.wl, ne_of_none CA.hf.hw nb.dl, Ne.symm (ne_of_none CA.hf.hl nb.dw), ne_of_none CA.hp np, ne_of_none CA.hp nb.dw, ne_of_none CA.hp nb.dl, Ne.symm (ne_of_none CA.hf.hw np), Ne.symm (ne_of_none CA.hf.hl np), fun e he f hf => by
    obtain ⟨xs, ex, _⟩ := CA.hd e he
    exact ne_of_none ex (nd f hf)⟩
theorem Sep.deed {H : Hp} {A B : Ta} {es es' fs : List TbE} (s : Sep A B es fs) (CB : TbAt K H B fs) (h : ∀ e ∈ es', e.d ∈ es.map TbE.d ∨ H e.d = none) : Sep A B es' fs :=
  ⟨s.wa, s.wb, s.x1, s.x2, s.pp, s.q1, s.q2, s.q3, s.q4, fun e he f hf => by
    rcases h e he with h | h
    · obtain ⟨o, ho, eo⟩ := List.mem_map.mp h
      rw [← eo]
      exact s.dd o ho f hf
    · obtain ⟨xs, ex, _⟩ := CB.hd f hf
      exact Ne.symm (ne_of_none ex h)⟩
abbrev dL (p st : Addr) (A : Ta) (es : List TbE) : List Addr := p :: st :: A.pl :: es.map TbE.d
theorem dL_cases {M : List Addr} {H : Hp} {p st : Addr} {A : Ta} {es : List TbE} (pM : p ∈ M) (sM : st ∈ M) (CA : TbAt K H A es) {b : Addr} (hb : b ∈ dL p st A es) : b ∈ M ∨ (b = A.pl ∧ ∃ ks, H b = some (.dK ks)) ∨ (b ∈ es.map TbE.d ∧ ∃ xs, H b = some (dN b xs)) := by
  simp only [List.mem_cons] at hb
  rcases hb with h | h | h | h
  · exact .inl (h ▸ pM)
  · exact .inl (h ▸ sM)
  · exact .inr (.inl ⟨h, by rw [h]; exact ⟨_, CA.hp⟩⟩)
  · refine .inr (.inr ⟨h, ?_⟩)
    obtain ⟨e, he, rfl⟩ := List.mem_map.mp h
    obtain ⟨xs, ex, _⟩ := CA.hd e he
    exact ⟨xs, ex⟩
theorem dL_lst {M : List Addr} {H : Hp} {p st : Addr} {A : Ta} {es : List TbE} (pM : p ∈ M) (sM : st ∈ M) (CA : TbAt K H A es) : Lst M H (dL p st A es) := fun b hb => by
  rcases dL_cases pM sM CA hb with h | ⟨_, ks, h⟩ | ⟨_, xs, h⟩
  · exact .inl h
  · exact .inr fun ys e => by rw [h] at e; cases e
  · exact .inr fun ys e => by rw [h] at e; cases e
theorem TbAt.other {M : List Addr} {H H' : Hp} {p st : Addr} {A B : Ta} {es fs : List TbE} (hM : LstM M H) (pM : p ∈ M) (sM : st ∈ M) (CA : TbAt K H A es) (CB : TbAt K H B fs) (sl : ∀ e ∈ fs, e.s.l ∉ M) (sp : Sep A B es fs) (m : Md (dL p st A es) H H') : TbAt K H' B fs := by
  refine CB.md m fun a ha z => ?_
  have nM := CB.nM hM sl a ha
  rcases dL_cases pM sM CA z with h | ⟨h, ks, hk⟩ | ⟨h, xs, hx⟩
  · exact nM h
  · subst h
    unfold Ta.all at ha
    simp only [List.mem_cons] at ha
    rcases ha with e | e | e | e | e | e
    · have := CB.hx; rw [← e, hk] at this; cases this
    · have := CB.hf.hx; rw [← e, hk] at this; cases this
    · exact sp.q1 e
    · exact sp.q2 e
    · exact sp.pp e
    · obtain ⟨o, ho, ha⟩ := List.mem_flatMap.mp e
      have C := CB.hf.hc o.s (List.mem_map_of_mem ho)
      simp only [List.mem_cons, List.not_mem_nil, or_false] at ha
      rcases ha with e | e | e
      · obtain ⟨ys, ey, _⟩ := CB.hd o ho
        rw [← e, hk] at ey; cases ey
      · have := C.hx; rw [← e, hk] at this; cases this
      · obtain ⟨ys, ey, _⟩ := C.hl
        rw [← e, hk] at ey; cases ey
  · obtain ⟨n1, n2, n3, n4, n5, n6⟩ := CB.ne_d hx
    unfold Ta.all at ha
    simp only [List.mem_cons] at ha
    rcases ha with e | e | e | e | e | e
    · exact n1 e.symm
    · exact n2 e.symm
    · exact n3 e.symm
    · exact n4 e.symm
    · exact n5 e.symm
    · obtain ⟨o, ho, ha⟩ := List.mem_flatMap.mp e
      have n7 := n6 o.s (List.mem_map_of_mem ho)
      simp only [List.mem_cons, List.not_mem_nil, or_false] at ha
      rcases ha with e | e | e
      · obtain ⟨e', he', ee⟩ := List.mem_map.mp h
        exact sp.dd e' he' o ho (ee.trans e)
      · exact n7.1 e.symm
      · exact n7.2 e.symm
theorem ScAt.other {M : List Addr} {H H' : Hp} {p st : Addr} {A : Ta} {es : List TbE} {x dx dw dl : Addr} {rs : List Sch} (pM : p ∈ M) (sM : st ∈ M) (hM : LstM M H) (CA : TbAt K H A es) (C : ScAt K H x dx dw dl rs) (sl : ∀ s ∈ rs, s.l ∉ M) (n1 : dw ≠ A.pl) (n2 : dl ≠ A.pl) (m : Md (dL p st A es) H H') : ScAt K H' x dx dw dl rs := by
  have key : ∀ a : Addr, a ∉ M → a ≠ A.pl → (∀ xs, H a ≠ some (dN a xs)) → a ∉ dL p st A es := fun a h1 h2 h3 z => by
    rcases dL_cases pM sM CA z with h | ⟨h, _⟩ | ⟨_, xs, hx⟩
    · exact h1 h
    · exact h2 h
    · exact h3 xs hx
  have nl : ∀ {a : Addr} {o : HO}, H a = some o → (∀ xs, o ≠ .lst xs) → a ∉ M := fun {a o} e k z => by
    obtain ⟨xs, ex⟩ := hM a z
    rw [ex] at e
    cases e
    exact k xs rfl
  have np : ∀ {a : Addr} {o : HO}, H a = some o → (∀ ks, o ≠ .dK ks) → a ≠ A.pl := fun {a o} e k z => by
    rw [z, CA.hp] at e
    cases e
    exact k _ rfl
  refine C.md m (key _ (nl C.hx fun _ z => by cases z) (np C.hx fun _ z => by cases z) fun _ z => by rw [C.hx] at z; cases z) (key _ (nl C.hw fun _ z => by cases z) n1 fun _ z => by rw [C.hw] at z; cases z) (key _ (nl C.hl fun _ z => by cases z) n2 fun _ z => by rw [C.hl] at z; cases z) fun s hs => ?_
  have D := C.hc s hs
  obtain ⟨ys, ey, _⟩ := D.hl
  exact ⟨key _ (nl D.hx fun _ z => by cases z) (np D.hx fun _ z => by cases z) (fun _ z => by rw [D.hx] at z; cases z), key _ (sl s hs) (np ey fun _ z => by cases z) fun _ z => by rw [ey] at z; cases z⟩
abbrev mM (p bo so s0 s1 : Addr) : List Addr := [p, bo, so, s0, s1]
/-- the schema itself -/
structure Scm (K : PySem.W.Frag) (M : List Addr) (H : Hp) (A B : Ta) (x dx dw dl : Addr) (rs : List Sch) : Prop where
  at_ : ScAt K H x dx dw dl rs
  sl : ∀ s ∈ rs, s.l ∉ M
  a1 : dw ≠ A.pl
  a2 : dl ≠ A.pl
  b1 : dw ≠ B.pl
  b2 : dl ≠ B.pl
structure Sit (K : PySem.W.Frag) (H : Hp) (p l bo so fo : Addr) (A B : Ta) (s0 s1 : Addr) (es fs : List TbE) (F : List Frm) (R S : List (List Rw)) (x dx dw dl : Addr) (rs : List Sch) (n : Nat) : Prop where
  src : Src H p l
  hb : H bo = some (.lst [.ref A.x, .ref B.x])
  hs : H so = some (.lst [.ref s0, .ref s1])
  nd : (mM p bo so s0 s1).Nodup
  lM : l ∉ mM p bo so s0 s1
  ca : TbAt K H A es
  cb : TbAt K H B fs
  sla : ∀ e ∈ es, e.s.l ∉ mM p bo so s0 s1
  slb : ∀ e ∈ fs, e.s.l ∉ mM p bo so s0 s1
  za : StAt K (mM p bo so s0 s1) H s0 R
  zb : StAt K (mM p bo so s0 s1) H s1 S
  fm : FormsAt K (mM p bo so s0 s1) H fo F
  ta : Tie F es R
  tb : Tie F fs S
  ra : ∀ r ∈ R, r.length ≤ n
  rb : ∀ r ∈ S, r.length ≤ n
  sep : Sep A B es fs
  sc : Scm K (mM p bo so s0 s1) H A B x dx dw dl rs
section
variable {H H' : Hp} {p l bo so fo s0 s1 : Addr} {A B : Ta} {es fs es' fs' : List TbE} {F : List Frm} {R S R' S' : List (List Rw)} {x dx dw dl : Addr} {rs : List Sch} {n : Nat}
theorem Sit.M (Z : Sit K H p l bo so fo A B s0 s1 es fs F R S x dx dw dl rs n) : LstM (mM p bo so s0 s1) H := fun b hb => by
  simp only [List.mem_cons, List.not_mem_nil, or_false] at hb
  rcases hb with h | h | h | h | h
  · rw [h]; exact Z.src.lst
  · rw [h]; exact ⟨_, Z.hb⟩
  · rw [h]; exact ⟨_, Z.hs⟩
  · rw [h]; obtain ⟨⟨vs, e, _⟩, _⟩ := Z.za; exact ⟨_, e⟩
  · rw [h]; obtain ⟨⟨vs, e, _⟩, _⟩ := Z.zb; exact ⟨_, e⟩
theorem Sit.ne (Z : Sit K H p l bo so fo A B s0 s1 es fs F R S x dx dw dl rs n) : p ≠ bo ∧ p ≠ so ∧ p ≠ s0 ∧ p ≠ s1 ∧ bo ≠ so ∧ bo ≠ s0 ∧ bo ≠ s1 ∧ so ≠ s0 ∧ so ≠ s1 ∧ s0 ≠ s1 := by
  have nd := Z.nd
  simp only [List.nodup_cons, List.mem_cons, List.not_mem_nil, not_or, or_false, not_false_eq_true, List.nodup_nil, and_true] at nd
  obtain ⟨⟨a, b, c, d⟩, ⟨e, f, g⟩, ⟨h, i⟩, j⟩ := nd
  exact ⟨a, b, c, d, e, f, g, h, i, j⟩
theorem Sit.same (Z : Sit K H p l bo so fo A B s0 s1 es fs F R S x dx dw dl rs n) (s : Same H H') : Sit K H' p l bo so fo A B s0 s1 es fs F R S x dx dw dl rs n :=
  ⟨Z.src.same s, s _ _ Z.hb, s _ _ Z.hs, Z.nd, Z.lM, Z.ca.same s, Z.cb.same s, Z.sla, Z.slb, Z.za.same s, Z.zb.same s, Z.fm.same s, Z.ta, Z.tb, Z.ra, Z.rb, Z.sep, ⟨Z.sc.at_.same s, Z.sc.sl, Z.sc.a1, Z.sc.a2, Z.sc.b1, Z.sc.b2⟩⟩
theorem Sit.draw (Z : Sit K H p l bo so fo A B s0 s1 es fs F R S x dx dw dl rs n) (b : But p H H') (S9 : Src H' p l) : Sit K H' p l bo so fo A B s0 s1 es fs F R S x dx dw dl rs n := by
  obtain ⟨xs, hp⟩ := Z.src.lst
  have m : Md [p] H H' := b.md hp rfl
  obtain ⟨n1, n2, n3, n4, _⟩ := Z.ne
  have pM : p ∈ mM p bo so s0 s1 := by simp
  have L : Lst (mM p bo so s0 s1) H [p] := fun b hb => .inl (by rw [List.mem_singleton.mp hb]; exact pM)
  have na := Z.ca.nM Z.M Z.sla
  have nb := Z.cb.nM Z.M Z.slb
  have nm : ∀ {a : Addr}, a ∉ mM p bo so s0 s1 → a ∉ [p] := fun h => nin1 (fun z => h (z ▸ pM))
  have C := Z.sc.at_
  have sp : ∀ {a : Addr} {o : HO}, H a = some o → (∀ xs, o ≠ .lst xs) → a ∉ [p] := fun {a o} e k => nin1 fun z => by
    rw [z, hp] at e
    cases e
    exact k _ rfl
  refine ⟨S9, m.out _ _ Z.hb (nin1 (Ne.symm n1)), m.out _ _ Z.hs (nin1 (Ne.symm n2)), Z.nd, Z.lM, Z.ca.md m (fun a ha => nm (na a ha)), Z.cb.md m (fun a ha => nm (nb a ha)), Z.sla, Z.slb, Z.za.md m L (nin1 (Ne.symm n3)), Z.zb.md m L (nin1 (Ne.symm n4)), Z.fm.md m L, Z.ta, Z.tb, Z.ra, Z.rb, Z.sep, ⟨C.md m (sp C.hx fun _ z => by cases z) (sp C.hw fun _ z => by cases z) (sp C.hl fun _ z => by cases z) (fun s hs => ⟨sp (C.hc s hs).hx (fun _ z => by cases z), nm (Z.sc.sl s hs)⟩), Z.sc.sl, Z.sc.a1, Z.sc.a2, Z.sc.b1, Z.sc.b2⟩⟩
theorem lst_out {M : List Addr} {st : Addr} {a : Addr} {vs : List V} (pM : p ∈ M) (sM : st ∈ M) (CA : TbAt K H A es) (e : H a = some (.lst vs)) (h1 : a ≠ p) (h2 : a ≠ st) : a ∉ dL p st A es := fun z => by
  simp only [List.mem_cons] at z
  rcases z with h | h | h | h
  · exact h1 h
  · exact h2 h
  · rw [h, CA.hp] at e; cases e
  · obtain ⟨o, ho, rfl⟩ := List.mem_map.mp h
    obtain ⟨xs, ex, _⟩ := CA.hd o ho
    rw [ex] at e; cases e
theorem Sit.deedA (Z : Sit K H p l bo so fo A B s0 s1 es fs F R S x dx dw dl rs n) (m : Md (dL p s0 A es) H H') (S9 : Src H' p l) (C9 : TbAt K H' A es') (Z9 : StAt K (mM p bo so s0 s1) H' s0 R') (T9 : Tie F es' R') (hs : es'.map TbE.s = es.map TbE.s) (hd : ∀ e ∈ es', e.d ∈ es.map TbE.d ∨ H e.d = none) (hr : ∀ r ∈ R', r.length ≤ n + 6) :
    Sit K H' p l bo so fo A B s0 s1 es' fs F R' S x dx dw dl rs (n + 6) := by
  obtain ⟨n1, n2, n3, n4, n5, n6, n7, n8, n9, na⟩ := Z.ne
  have pM : p ∈ mM p bo so s0 s1 := by simp
  have sM : s0 ∈ mM p bo so s0 s1 := by simp
  have L := dL_lst pM sM Z.ca
  obtain ⟨⟨v1, e1, _⟩, _⟩ := id Z.zb
  refine ⟨S9, m.out _ _ Z.hb (lst_out pM sM Z.ca Z.hb (Ne.symm n1) n6), m.out _ _ Z.hs (lst_out pM sM Z.ca Z.hs (Ne.symm n2) n8), Z.nd, Z.lM, C9, TbAt.other Z.M pM sM Z.ca Z.cb Z.slb Z.sep m, fun e he => ?_, Z.slb, Z9, Z.zb.md m L (lst_out pM sM Z.ca e1 (Ne.symm n4) (Ne.symm na)), Z.fm.md m L, T9, Z.tb, hr, (fun r h => Nat.le_trans (Z.rb r h) (by omega)), Z.sep.deed Z.cb hd, ⟨ScAt.other pM sM Z.M Z.ca Z.sc.at_ Z.sc.sl Z.sc.a1 Z.sc.a2 m, Z.sc.sl, Z.sc.a1, Z.sc.a2, Z.sc.b1, Z.sc.b2⟩⟩
  have : e.s ∈ es.map TbE.s := by rw [← hs]; exact List.mem_map_of_mem he
  obtain ⟨o, ho, eo⟩ := List.mem_map.mp this
  rw [← eo]
  exact Z.sla o ho
theorem Sit.deedB (Z : Sit K H p l bo so fo A B s0 s1 es fs F R S x dx dw dl rs n) (m : Md (dL p s1 B fs) H H') (S9 : Src H' p l) (C9 : TbAt K H' B fs') (Z9 : StAt K (mM p bo so s0 s1) H' s1 S') (T9 : Tie F fs' S') (hs : fs'.map TbE.s = fs.map TbE.s) (hd : ∀ e ∈ fs', e.d ∈ fs.map TbE.d ∨ H e.d = none) (hr : ∀ r ∈ S', r.length ≤ n + 6) :
    Sit K H' p l bo so fo A B s0 s1 es fs' F R S' x dx dw dl rs (n + 6) := by
  obtain ⟨n1, n2, n3, n4, n5, n6, n7, n8, n9, na⟩ := Z.ne
  have pM : p ∈ mM p bo so s0 s1 := by simp
  have sM : s1 ∈ mM p bo so s0 s1 := by simp
  have L := dL_lst pM sM Z.cb
  obtain ⟨⟨v1, e1, _⟩, _⟩ := id Z.za
  refine ⟨S9, m.out _ _ Z.hb (lst_out pM sM Z.cb Z.hb (Ne.symm n1) n7), m.out _ _ Z.hs (lst_out pM sM Z.cb Z.hs (Ne.symm n2) n9), Z.nd, Z.lM, TbAt.other Z.M pM sM Z.cb Z.ca Z.sla Z.sep.symm m, C9, Z.sla, fun e he => ?_, Z.za.md m L (lst_out pM sM Z.cb e1 (Ne.symm n3) na), Z9, Z.fm.md m L, Z.ta, T9, (fun r h => Nat.le_trans (Z.ra r h) (by omega)), hr, (Z.sep.symm.deed Z.ca hd).symm, ⟨ScAt.other pM sM Z.M Z.cb Z.sc.at_ Z.sc.sl Z.sc.b1 Z.sc.b2 m, Z.sc.sl, Z.sc.a1, Z.sc.a2, Z.sc.b1, Z.sc.b2⟩⟩
  have : e.s ∈ fs.map TbE.s := by rw [← hs]; exact List.mem_map_of_mem he
  obtain ⟨o, ho, eo⟩ := List.mem_map.mp this
  rw [← eo]
  exact Z.slb o ho
end
end
end K10
namespace K10
open PySem PySem.Spec PyProof.Rows L2 He TL EL
section
variable {P : Program} {w : World} {K : PySem.W.Frag} {mg : Str → Option Value} {base : Heap}
abbrev at9 (k : Int) : At := ⟨.lt, .cell .first 0, .val k 1⟩
theorem at9_ok {k : Int} (h : k.natAbs ≤ 99) : At.ok (at9 k) := ⟨by show 0 < 3; decide, vl_int (by omega)⟩
theorem no_in {rs : List Sch} {z : Str} (h : z ∉ nmS rs) : inS rs (.str z) = false := by
  show (findS rs z).isSome = false
  cases q : findS rs z with
  | none => rfl
  | some s =>
    obtain ⟨hs, hn⟩ := findS_mem q
    exact (h (hn ▸ List.mem_map_of_mem hs)).elim
theorem nm_set (rs : List Sch) (z : Str) (q dq n : Addr) (as : List At) : nmS (setS rs z q dq n as) = nmS rs := by
  unfold nmS setS
  rw [List.map_map]
  refine List.map_congr_left fun s _ => ?_
  show (if s.nm = z then (⟨s.nm, s.n, q, dq, n, as⟩ : Sch) else s).nm = s.nm
  split <;> rfl
theorem at9_fit {n : Nat} (h : 1 ≤ n) : (dd [at9 (-50)]).all (At.fits (pn1 n)) = true := by
  rw [show dd [at9 (-50)] = [at9 (-50)] by decide +kernel]
  show ((decide (0 < n) && true) && true) = true
  rw [decide_eq_true (show 0 < n from h)]
  rfl
theorem no_other (s : Sch) (h : s.nm = "t") : inS [s] (.str "other") = false := by
  show (List.find? (fun s => decide (s.nm = ("other" : Str))) [s]).isSome = false
  rw [List.find?_cons, h, show decide (("t" : Str) = "other") = false from by decide +kernel]
  rfl
theorem tie0 {es : List TbE} {n k : Nat} {as bs : List At} {y dy m y' dy' m' : Addr} (hs : es.map TbE.s = [(⟨"t", n, y, dy, m, dd as⟩ : Sch)] ++ [⟨"other", k, y', dy', m', dd bs⟩]) (he : ∀ e ∈ es, e.rs = []) (fa : as.all (At.fits (pn1 n)) = true) (fb : bs.all (At.fits (pn1 k)) = true) (la : as.length ≤ 2) (lb : bs.length ≤ 2) (n3 : n ≤ 3) (k3 : k ≤ 3) :
    Tie [("t", n, as), ("other", k, bs)] es [[], []] := by
  have ddf : ∀ {as : List At} {n : Nat}, as.all (At.fits (pn1 n)) = true → (dd as).all (At.fits (pn1 n)) = true := fun {as n} h => List.all_eq_true.mpr fun a ha => List.all_eq_true.mp h a ((dd_mem as a).mp ha)
  have hl : es.length = 2 := by have := congrArg List.length hs; simpa using this
  refine ⟨by rw [hs]; rfl, ?_, fun e h => ?_⟩
  · match es, hl with
    | [e0, e1], _ =>
      show [e0.rs, e1.rs] = _
      rw [he e0 (by simp), he e1 (by simp)]
  · have h1 : e.s ∈ es.map TbE.s := List.mem_map_of_mem h
    rw [hs] at h1
    have h1 : e.s ∈ [(⟨"t", n, y, dy, m, dd as⟩ : Sch), ⟨"other", k, y', dy', m', dd bs⟩] := h1
    have hr := he e h
    simp only [List.mem_cons, List.not_mem_nil, or_false] at h1
    rcases h1 with h1 | h1
    · refine ⟨?_, by rw [h1]; exact n3, fun r hr' => by rw [hr] at hr'; cases hr'⟩
      rw [h1]
      exact ⟨ddf fa, Nat.le_trans (dd_len as) (by omega)⟩
    · refine ⟨?_, by rw [h1]; exact k3, fun r hr' => by rw [hr] at hr'; cases hr'⟩
      rw [h1]
      exact ⟨ddf fb, Nat.le_trans (dd_len bs) (by omega)⟩
theorem TbAt.keep {H H' : Hp} {A : Ta} {es : List TbE} {dw dl : Addr} {k1 k2 : List (Key × V)} (CA : TbAt K H A es) (m : Md [dw, dl] H H') (h1 : H dw = some (.dK k1)) (h2 : H dl = some (.dK k2)) (n1 : A.dw ≠ dw ∧ A.dl ≠ dw ∧ A.pl ≠ dw) (n2 : A.dw ≠ dl ∧ A.dl ≠ dl ∧ A.pl ≠ dl) : TbAt K H' A es := by
  have key : ∀ {d : Addr} {ks : List (Key × V)}, H d = some (.dK ks) → (A.dw ≠ d ∧ A.dl ≠ d ∧ A.pl ≠ d) → ∀ a ∈ A.all es, a ≠ d := fun {d ks} h n a ha z => by
    subst z
    unfold Ta.all at ha
    simp only [List.mem_cons] at ha
    rcases ha with e | e | e | e | e | e
    · have := CA.hx; rw [← e, h] at this; cases this
    · have := CA.hf.hx; rw [← e, h] at this; cases this
    · exact n.1 e.symm
    · exact n.2.1 e.symm
    · exact n.2.2 e.symm
    · obtain ⟨o, ho, ha⟩ := List.mem_flatMap.mp e
      have C := CA.hf.hc o.s (List.mem_map_of_mem ho)
      simp only [List.mem_cons, List.not_mem_nil, or_false] at ha
      rcases ha with e | e | e
      · obtain ⟨ys, ey, _⟩ := CA.hd o ho
        rw [← e, h] at ey; cases ey
      · have := C.hx; rw [← e, h] at this; cases this
      · obtain ⟨ys, ey, _⟩ := C.hl
        rw [← e, h] at ey; cases ey
  exact CA.md m fun a ha => by simp [key h1 n1 a ha, key h2 n2 a ha]
theorem Tie.twin {F : List Frm} {es us : List TbE} {R : List (List Rw)} (t : Tie F es R) (h1 : us.map TbE.s = es.map TbE.s) (h2 : us.map TbE.rs = es.map TbE.rs) : Tie F us R := by
  refine ⟨by rw [h1]; exact t.k, by rw [h2]; exact t.r, fun u hu => ?_⟩
  obtain ⟨i, hi⟩ := List.getElem?_of_mem hu
  have a1 : (us.map TbE.s)[i]? = some u.s := by rw [List.getElem?_map, hi]; rfl
  have a2 : (us.map TbE.rs)[i]? = some u.rs := by rw [List.getElem?_map, hi]; rfl
  rw [h1, List.getElem?_map] at a1
  rw [h2, List.getElem?_map] at a2
  cases he : es[i]? with
  | none => rw [he] at a1; cases a1
  | some e =>
    rw [he] at a1 a2
    have a1 : e.s = u.s := Option.some.inj a1
    have a2 : e.rs = u.rs := Option.some.inj a2
    have E := t.v e (List.mem_of_getElem? he)
    exact ⟨a1 ▸ E.sk, a1 ▸ E.n3, fun r hr => by rw [← a1]; exact E.rv r (by rw [a2]; exact hr)⟩
def spLaw (K : PySem.W.Frag) : Sp := fun vs H Q _ => ∃ (a : Addr) (ns : List Int), vs = [.ref a] ∧ SqL K H a (ns.map V.int) ∧ ns.length ≤ 63 ∧ ∀ H', Q (.bl true) H'
theorem ok_law {fd : FuncData} (hP : PF P "/claim/cut.py") (T : Txt K mg) (F : FunD K "law" "law" (defArgs s_law) (defBody s_law) (defScope s_law) ([] : List V) [] (ga K "law") fd) : FnOk P w K mg base CX0 11 (ga K "law") fd ["_law_script"] (spLaw K) := by
  have D__law_begin := d_begin (P := P) (w := w) (base := base) T
  have D__law_draw := d_draw (P := P) (w := w) (base := base) T
  have D__law_form := d_form (w := w) (base := base) hP T
  have D__law_deed := d_deed (w := w) (base := base) hP T
  have D__law_is := d_is (w := w) (base := base) hP T
  have D__law_same := d_same (P := P) (w := w) (base := base) T
  have D__law_join := d_join (w := w) (base := base) hP T
  have D__law_apart := d_apart (w := w) (base := base) hP T
  have D_sc0 := d_sc0 (P := P) (w := w) (base := base) T
  have D_nar := d_sc_narrow (w := w) (base := base) hP T
  obtain ⟨fdA, FA, okA⟩ := d_sc_add (P := P) (w := w) (base := base) hP T
  have D_add3 := fnD FA okA 3 0 (by simp) rfl (fun _ _ _ _ _ _ _ us its h1 h2 => match us, its, h1, h2 with | [_, _, _], [_], _, _ => ⟨_, rfl, rfl⟩)
  have D_cd := d_cd1 (P := P) (w := w) (base := base) T
  have D_tb := d_tb1 (P := P) (w := w) (base := base) T
  have D_twin := d_tb_twin (P := P) (w := w) (base := base) T
  have D_eq := d_tb_eq (P := P) (w := w) (base := base) T
  refine F.ok sc_law (fun vs H Q E h => ?_) (fun cdv A outer s H vs Q E hr h => ?_)
  · obtain ⟨a, ns, rfl, _⟩ := h
    rfl
  · obtain ⟨a, ns, rfl, hS, _, q⟩ := h
    refine ⟨_, PSs.nox (pss_cons (ps_set (i := 1) sc_law.nd rfl (.inl rfl) (cl D__law_begin (hr.mono (by decide)) (pa_cons (pv 0) pa_nil)))
      (pss_cons (ps_set (i := 2) sc_law.nd rfl (.inl rfl) (pe_makeE0 T.m_Schema D_sc0 (hr.mono (by decide)) T.g_Schema px0))
      (pss_cons (ps_set (i := 3) sc_law.nd rfl (.inl rfl) (pe_lst (pa_cons (cl D__law_form (hr.mono (by decide)) (pa_cons (pv 1) (pa_cons (pv 2) (pa_cons pe_str pa_nil)))) (pa_cons (cl D__law_form (hr.mono (by decide)) (pa_cons (pv 1) (pa_cons (pv 2) (pa_cons pe_str pa_nil)))) pa_nil))))
      (pss_cons (ps_set (i := 4) sc_law.nd rfl (.inl rfl) (pe_lst (pa_cons (pe_makeE T.m_Tables D_tb (hr.mono (by decide)) T.g_Tables px0 (pa_cons (pv 2) pa_nil)) (pa_cons (pe_makeE T.m_Tables D_tb (hr.mono (by decide)) T.g_Tables px0 (pa_cons (pv 2) pa_nil)) pa_nil))))
      (pss_cons (ps_expr (pe_methE (pv 2) T.o_Schema.cl T.h_Schema_narrow D_nar (hr.mono (by decide)) pxq (pa_cons pe_str (pa_cons (pe_makeE T.m_Conditions D_cd (hr.mono (by decide)) T.g_Conditions pxq (pa_cons (pe_lst (pa_cons (pe_tup (pa_cons pe_str (pa_cons (pe_tup (pa_cons pe_str (pa_cons pe_int pa_nil))) (pa_cons (pe_tup (pa_cons pe_str (pa_cons (pe_tup (pa_cons (pe_un un_neg pe_int) (pa_cons pe_int pa_nil))) pa_nil))) pa_nil)))) pa_nil)) pa_nil)) pa_nil))))
      (pss_cons (ps_expr (pe_methE (pv 2) T.o_Schema.cl T.h_Schema_add D_add3 (hr.mono (by decide)) pxq (pa_cons pe_str (pa_cons pe_int pa_nil))))
      (pss_cons (ps_set (i := 5) sc_law.nd rfl (.inl rfl) (pe_lst (pa_cons (pe_lst (pa_cons (pe_lst pa_nil) (pa_cons (pe_lst pa_nil) pa_nil))) (pa_cons (pe_lst (pa_cons (pe_lst pa_nil) (pa_cons (pe_lst pa_nil) pa_nil))) pa_nil))))
      (pss_cons (ps_set (i := 6) sc_law.nd rfl (.inl rfl) (cl D__law_draw (hr.mono (by decide)) (pa_cons (pv 1) (pa_cons pe_int pa_nil))))
      (pss_cons (ps_for PassesOwn.never rfl (pi_range1 (by rfl) T.z_range (pa_cons pe_int pa_nil)) (pg_name (i := 7) sc_law.nd rfl (.inl rfl))
      (pss_mid (ps_if (pt_cmpR op_eq (pv 7) (pv 6) (nomark _)) (pss_cons (ps_asg (pe_methE0 (pe_ix ix_list (pv 4) pe_int (fun _ _ => rfl)) T.o_Tables.cl T.h_Tables_twin D_twin (hr.mono (by decide)) px0) (pg_sub (pv 4) pe_int set_list))
      (pss_one (ps_asg (pe_callTy call_list_of (by rfl) T.z_list (by decide +kernel) (pa_cons (pe_ix ix_list (pv 5) pe_int (fun _ _ => rfl)) pa_nil)) (pg_sub (pv 5) pe_int set_list)))) pss_nil)
      (pss_cons (ps_set (i := 8) sc_law.nd rfl (.inl rfl) (cl D__law_draw (hr.mono (by decide)) (pa_cons (pv 1) (pa_cons pe_int pa_nil))))
      (pss_mid (ps_if (pt_not (pt_val (cl D__law_deed (hr.mono (by decide)) (pa_cons (pv 1) (pa_cons (pe_ix ix_list (pv 4) (pv 8) (fun _ _ => rfl)) (pa_cons (pe_ix ix_list (pv 5) (pv 8) (fun _ _ => rfl)) (pa_cons (pv 3) pa_nil))))))) (pss_one (ps_ret pe_bl)) pss_nil)
      (pss_cons (ps_if (PW.pt (pw_or (pt_not (pt_val (cl D__law_is (hr.mono (by decide)) (pa_cons (pe_ix ix_list (pv 4) pe_int (fun _ _ => rfl)) (pa_cons (pe_ix ix_list (pv 5) pe_int (fun _ _ => rfl)) (pa_cons (pv 3) pa_nil)))))) (pw_or1 (pt_not (pt_val (cl D__law_is (hr.mono (by decide)) (pa_cons (pe_ix ix_list (pv 4) pe_int (fun _ _ => rfl)) (pa_cons (pe_ix ix_list (pv 5) pe_int (fun _ _ => rfl)) (pa_cons (pv 3) pa_nil))))))))) (pss_one (ps_ret pe_bl)) pss_nil)
      (pss_cons (ps_set (i := 9) sc_law.nd rfl (.inl rfl) (pe_cmpR (op_cmpO (fun _ _ => rfl) T.u_Tables___eq__.1 T.u_Tables___eq__.2 D_eq (hr.mono (by decide)) pass0) (pe_ix ix_list (pv 4) pe_int (fun _ _ => rfl)) (pe_ix ix_list (pv 4) pe_int (fun _ _ => rfl)) (nomark _)))
      (pss_cons (ps_set (i := 10) sc_law.nd rfl (.inl rfl) (pe_and (cl D__law_same (hr.mono (by decide)) (pa_cons (pe_ix ix_list (pe_ix ix_list (pv 5) pe_int (fun _ _ => rfl)) pe_int (fun _ _ => rfl)) (pa_cons (pe_ix ix_list (pe_ix ix_list (pv 5) pe_int (fun _ _ => rfl)) pe_int (fun _ _ => rfl)) pa_nil))) (pe_one (cl D__law_same (hr.mono (by decide)) (pa_cons (pe_ix ix_list (pe_ix ix_list (pv 5) pe_int (fun _ _ => rfl)) pe_int (fun _ _ => rfl)) (pa_cons (pe_ix ix_list (pe_ix ix_list (pv 5) pe_int (fun _ _ => rfl)) pe_int (fun _ _ => rfl)) pa_nil))))))
      (pss_one (ps_if (PW.pt (pw_or (pt_not (pt_val (pe_callB call_isi (by rfl) T.z_isinstance (by decide +kernel) (pa_cons (pv 9) (pa_cons (pe_bltn (v := .ty "bool") (by rfl) T.z_bool (by decide +kernel) rfl) pa_nil))))) (pw_or1 (pt_cmpR op_ne (pv 9) (pv 10) (nomark _))))) (pss_one (ps_ret pe_bl)) pss_nil)))))))))
      (pss_one (ps_ret (pe_and (cl D__law_join (hr.mono (by decide)) (pa_cons (pv 4) (pa_cons (pv 5) (pa_cons (pv 3) pa_nil)))) (pe_one (cl D__law_apart (hr.mono (by decide)) (pa_cons (pe_ix ix_list (pv 4) pe_int (fun _ _ => rfl)) (pa_cons (pe_makeE T.m_Tables D_tb (hr.mono (by decide)) T.g_Tables px0 (pa_cons (pv 2) pa_nil)) pa_nil)))))))))))))))), ?_⟩
    refine ⟨_, rfl, a, ns, rfl, hS, fun p l H1 np nl s1 S1 => ?_⟩
    obtain ⟨xp1, hp1⟩ := S1.lst
    obtain ⟨xl1, hl1⟩ := S1.lst2
    refine mkSc (.inl ⟨rfl, rfl⟩) (.inl ⟨rfl, rfl⟩) fun x dx dw dl H2 s2 nx nw nld hwl hx hw hl => ?_
    have S2 := S1.same s2
    have hp2 := s2 _ _ hp1
    have hl2 := s2 _ _ hl1
    have C2 : ScAt K H2 x dx dw dl [] := ⟨hx, hw, hl, fun s hs => by cases hs⟩
    refine ⟨_, rfl, _, rfl, p, l, x, dx, dw, dl, [], "t", rfl, S2, C2, hwl, (fun s hs => by cases hs), by decide, by decide +kernel, by decide +kernel, rfl, fun fa la ws n as y dy m H3 m3 S3 nfa nla efa ela dla oka n1 n3 fit le ny nm C3 => ?_⟩
    have mp : m ≠ p := Ne.symm (ne_of_none hp2 nm)
    refine ⟨_, rfl, _, rfl, p, l, x, dx, dw, dl, [⟨"t", n, y, dy, m, dd as⟩], "other", rfl, S3, C3, hwl, (fun s hs => by cases List.mem_singleton.mp hs; exact mp), (by show 1 ≤ 10; decide), by decide +kernel, by decide +kernel, no_other _ rfl, fun fb lb wt k bs y' dy' m' H4 m4 S4 nfb nlb efb elb dlb okb k1 k3 fib leb ny' nm' C4 => ?_⟩
    refine ⟨(by show 2 ≤ sizeLine; decide), fun fo nfo => ?_⟩
    generalize eH5 : upd H4 fo _ = H5
    have s5 : Same H4 H5 := eH5 ▸ same_upd nfo
    have e5 : H5 fo = some _ := eH5 ▸ upd_same
    have C5 := C4.same s5
    have ndN : (nmS [(⟨"t", n, y, dy, m, dd as⟩ : Sch), ⟨"other", k, y', dy', m', dd bs⟩]).Nodup := by
      show [("t" : Str), ("other" : Str)].Nodup
      decide +kernel
    refine ⟨_, rfl, mkTb1 C5 ndN (by show 2 ≤ 1000; decide) fun A es H6 s6 nA nwA npA esA erA CA => ?_⟩
    refine ⟨_, rfl, mkTb1 (C5.same s6) ndN (by show 2 ≤ 1000; decide) fun B fs H7 s7 nB nwB npB esB erB CB => ?_⟩
    refine ⟨(by show 2 ≤ sizeLine; decide), fun bo nbo => ?_⟩
    generalize eH8 : upd H7 bo _ = H8
    have s8 : Same H7 H8 := eH8 ▸ same_upd nbo
    have e8 : H8 bo = some _ := eH8 ▸ upd_same
    have s58 : Same H5 H8 := s6.trans (s7.trans s8)
    have C8 := C5.same s58
    refine ⟨_, rfl, _, _, _, rfl, C8.hx, scF_no (by decide +kernel) (by decide +kernel), ?_⟩
    refine ⟨(by show 2 ≤ sizeLine; decide), fun a1 w1 => ?_⟩
    generalize eG1 : upd H8 a1 _ = G1
    have g1 : Same H8 G1 := eG1 ▸ same_upd w1
    have d1 : G1 a1 = some _ := eG1 ▸ upd_same
    refine ⟨_, rfl, (by show 2 ≤ sizeLine; decide), fun a2 w2 => ?_⟩
    generalize eG2 : upd G1 a2 _ = G2
    have g2 : Same G1 G2 := eG2 ▸ same_upd w2
    have d2 : G2 a2 = some _ := eG2 ▸ upd_same
    refine ⟨(by show 2 ≤ sizeLine; decide), fun a3 w3 => ?_⟩
    generalize eG3 : upd G2 a3 _ = G3
    have g3 : Same G2 G3 := eG3 ▸ same_upd w3
    have d3 : G3 a3 = some _ := eG3 ▸ upd_same
    refine ⟨(by show 3 ≤ sizeLine; decide), fun a4 w4 => ?_⟩
    generalize eG4 : upd G3 a4 _ = G4
    have g4 : Same G3 G4 := eG4 ▸ same_upd w4
    have d4 : G4 a4 = some _ := eG4 ▸ upd_same
    refine ⟨(by show 1 ≤ sizeLine; decide), fun a5 w5 => ?_⟩
    generalize eG5 : upd G4 a5 _ = G5
    have g5 : Same G4 G5 := eG5 ▸ same_upd w5
    have d5 : G5 a5 = some _ := eG5 ▸ upd_same
    have dat : Dp K G5 (.ref a4) (At.d (at9 (-50))) := .tup (SqT.of (g5 _ _ d4)) (.cons (.str _) (.cons (.tup (SqT.of (g5 _ _ (g4 _ _ (g3 _ _ (g2 _ _ d1))))) (.cons (.str _) (.cons (.int _) .nil))) (.cons (.tup (SqT.of (g5 _ _ (g4 _ _ d3))) (.cons (.str _) (.cons (.tup (SqT.of (g5 _ _ (g4 _ _ (g3 _ _ d2)))) (.cons (.int _) (.cons (.int _) .nil))) .nil))) .nil)))
    refine mkCd (as := [at9 (-50)]) (.inl (SqL.of d5)) (.cons dat .nil) (fun a ha => by cases List.mem_singleton.mp ha; exact at9_ok (by decide)) (by decide) fun cx cdx cm G6 g6 ncx ncm hcm CC => ?_
    have t86 : Same H8 G6 := g1.trans (g2.trans (g3.trans (g4.trans (g5.trans g6))))
    have C6 := C8.same t86
    have hfT : findS ([(⟨"t", n, y, dy, m, dd as⟩ : Sch)] ++ [⟨"other", k, y', dy', m', dd bs⟩]) "t" = some ⟨"t", n, y, dy, m, dd as⟩ := findS_of (t := ⟨"t", n, y, dy, m, dd as⟩) ndN (by simp)
    have hinT : inS ([(⟨"t", n, y, dy, m, dd as⟩ : Sch)] ++ [⟨"other", k, y', dy', m', dd bs⟩]) (.str "t") = true := by
      show (findS ([(⟨"t", n, y, dy, m, dd as⟩ : Sch)] ++ [⟨"other", k, y', dy', m', dd bs⟩]) "t").isSome = true
      rw [hfT]
      rfl
    refine ⟨x, dx, dw, dl, _, .str "t", .str "t", cx, cdx, cm, _, rfl, C6, .str _, CC, (by show 2 ≤ 1000; decide), (by decide +kernel), hwl, fun z => ?_, fun z sc ez hf => ?_⟩
    · rw [hinT] at z
      cases z
    cases ez
    rw [hfT] at hf
    cases hf
    refine ⟨Nat.le_trans (dd_len as) (by omega), fun z => (by rw [at9_fit n1] at z; cases z), fun _ q1 dq1 m1 G7 g7 nq1 nm1 hqm1 C7 => ?_⟩
    generalize eR : setS _ _ _ _ _ _ = rs3 at C7 
    have rs3n : nmS rs3 = [("t" : Str), ("other" : Str)] := by rw [← eR, nm_set]; rfl
    have rs3l : rs3.length = 2 := by have := congrArg List.length rs3n; unfold nmS at this; rw [List.length_map] at this; exact this
    have rs3m : ∀ s ∈ rs3, s.l = m1 ∨ s.l = m' := fun s hs => by
      rw [← eR] at hs
      obtain ⟨o, ho, rfl⟩ := List.mem_map.mp hs
      split
      · exact .inl rfl
      · next hne =>
        have ho : o ∈ [(⟨"t", n, y, dy, m, dd as⟩ : Sch), ⟨"other", k, y', dy', m', dd bs⟩] := ho
        simp only [List.mem_cons, List.not_mem_nil, or_false] at ho
        rcases ho with rfl | rfl
        · exact (hne rfl).elim
        · exact .inr rfl
    have hadd : addOk rs3 (.str "w") (.int 1) = true := by
      unfold addOk
      rw [no_in (by rw [rs3n]; decide +kernel)]
      decide +kernel
    refine ⟨_, rfl, _, _, _, rfl, C7.hx, scF_no (by decide +kernel) (by decide +kernel), ?_⟩
    refine ⟨x, dx, dw, dl, rs3, .str "w", .int 1, .non, .str "w", .int 1, [], rfl, C7, .str _, .int _, (fun z e => by cases e; decide +kernel), .inl ⟨rfl, rfl⟩, by omega, (by show 0 ≤ 1000; decide), hwl, fun z => (by rw [hadd] at z; cases z), fun _ z => (by cases z), fun z ez _ _ q2 dq2 m2 HB g8 nq2 nm2 hqm2 CB4 => ?_⟩
    cases ez
    -- the tables and the forms, as they stand
    have mB : Md [dw, dl] H8 HB := (Md.of t86).trans ((g7.mono (by simp)).trans g8)
    have dK8 := C8.hw
    have dL8 := C8.hl
    have kd : ∀ {a : Addr} {X : Hp} {o : HO}, Same H5 X → X a = some o → (∀ ks, o ≠ .dK ks) → a ≠ dw ∧ a ≠ dl := fun {a X o} sx e h => ⟨fun z => by rw [z, sx _ _ C5.hw] at e; cases e; exact h _ rfl, fun z => by rw [z, sx _ _ C5.hl] at e; cases e; exact h _ rfl⟩
    have CAB : TbAt K HB A es := (CA.same (s7.trans s8)).keep mB dK8 dL8 ⟨Ne.symm (ne_of_none C5.hw nwA.dw), Ne.symm (ne_of_none C5.hw nwA.dl), Ne.symm (ne_of_none C5.hw npA)⟩ ⟨Ne.symm (ne_of_none C5.hl nwA.dw), Ne.symm (ne_of_none C5.hl nwA.dl), Ne.symm (ne_of_none C5.hl npA)⟩
    have C65 := C5.same s6
    have CBB : TbAt K HB B fs := (CB.same s8).keep mB dK8 dL8 ⟨Ne.symm (ne_of_none C65.hw nwB.dw), Ne.symm (ne_of_none C65.hw nwB.dl), Ne.symm (ne_of_none C65.hw npB)⟩ ⟨Ne.symm (ne_of_none C65.hl nwB.dw), Ne.symm (ne_of_none C65.hl nwB.dl), Ne.symm (ne_of_none C65.hl npB)⟩
    have S8 := S4.same (s5.trans s58)
    obtain ⟨xp8, hp8⟩ := S8.lst
    obtain ⟨xl8, hl8⟩ := S8.lst2
    have pk := kd s58 hp8 (fun _ z => by cases z)
    have lk := kd s58 hl8 (fun _ z => by cases z)
    have SB : Src HB p l := S8.md mB (by simp [pk]) (by simp [lk])
    have FA : FormAt K H3 fa la "t" n as := ⟨efa, ⟨ws, ela, dla⟩, oka, n1, n3, fit, le⟩
    have FB : FormAt K H4 fb lb "other" k bs := ⟨efb, ⟨wt, elb, dlb⟩, okb, k1, k3, fib, leb⟩
    have fap : fa ≠ p := Ne.symm (ne_of_none hp2 nfa)
    have lap : la ≠ p := Ne.symm (ne_of_none hp2 nla)
    have k3w : ∀ {a : Addr} {xs : List V}, H3 a = some (.lst xs) → a ≠ dw ∧ a ≠ dl := fun {a xs} e => ⟨ne_of e C3.hw (by intro z; cases z), ne_of e C3.hl (by intro z; cases z)⟩
    have FA4 : FormAt K H4 fa la "t" n as := FA.md m4 (by simp [fap, k3w efa]) (by simp [lap, k3w ela])
    have s48 : Same H4 H8 := s5.trans s58
    have s47 : Same H4 H7 := s5.trans (s6.trans s7)
    have nbp : ∀ {a : Addr} {o : HO}, H4 a = some o → a ≠ bo := fun e => ne_of_none (s47 _ _ e) nbo
    have FAB : FormAt K HB fa la "t" n as := by
      obtain ⟨⟨_, u1⟩, ⟨_, u2⟩⟩ := FA4.lst
      exact (FA4.same s48).md mB (by simp [kd s58 (s48 _ _ u1) (fun _ z => by cases z)]) (by simp [kd s58 (s48 _ _ u2) (fun _ z => by cases z)])
    have FBB : FormAt K HB fb lb "other" k bs := by
      obtain ⟨⟨_, u1⟩, ⟨_, u2⟩⟩ := FB.lst
      exact (FB.same s48).md mB (by simp [kd s58 (s48 _ _ u1) (fun _ z => by cases z)]) (by simp [kd s58 (s48 _ _ u2) (fun _ z => by cases z)])
    have e5B : HB fo = some (.lst [.ref fa, .ref fb]) := mB.out _ _ (s58 _ _ e5) (by simp [kd s58 (s58 _ _ e5) (fun _ z => by cases z)])
    have e8B : HB bo = some (.lst [.ref A.x, .ref B.x]) := mB.out _ _ e8 (by simp [kd s58 e8 (fun _ z => by cases z)])
    obtain ⟨xp3, hp3⟩ := S3.lst
    obtain ⟨xp4, hp4⟩ := S4.lst
    have fbp : fb ≠ p := Ne.symm (ne_of_none hp3 nfb)
    have lbp : lb ≠ p := Ne.symm (ne_of_none hp3 nlb)
    have fop : fo ≠ p := Ne.symm (ne_of_none hp4 nfo)
    have fobo : fo ≠ bo := ne_of_none ((s6.trans s7) _ _ e5) nbo
    have pbo : p ≠ bo := nbp hp4
    have lbo : l ≠ bo := by obtain ⟨_, hl4⟩ := S4.lst2; exact nbp hl4
    have fabo : fa ≠ bo := nbp FA4.hf
    have fbbo : fb ≠ bo := nbp FB.hf
    have labo : la ≠ bo := by obtain ⟨_, u, _⟩ := FA4.hl; exact nbp u
    have lbbo : lb ≠ bo := nbp elb
    have mbo : m ≠ bo := by obtain ⟨_, u, _⟩ := (C4.hc ⟨"t", n, y, dy, m, dd as⟩ (by simp)).hl; exact nbp u
    have m'bo : m' ≠ bo := by obtain ⟨_, u, _⟩ := (C4.hc ⟨"other", k, y', dy', m', dd bs⟩ (by simp)).hl; exact nbp u
    have m'p : m' ≠ p := Ne.symm (ne_of_none hp3 nm')
    have mp' : m ≠ p := mp
    have hp6 := t86 _ _ hp8
    have he6 := t86 _ _ e8
    have m1p : m1 ≠ p := Ne.symm (ne_of_none hp6 nm1)
    have m1bo : m1 ≠ bo := Ne.symm (ne_of_none he6 nm1)
    have m2p : m2 ≠ p := Ne.symm (ne_of_none (g7.out _ _ hp6 (nin1 pk.2)) nm2)
    have m2bo : m2 ≠ bo := Ne.symm (ne_of_none (g7.out _ _ he6 (nin1 (kd s58 e8 (fun _ z => by cases z)).2)) nm2)
    obtain ⟨xpB, hpB⟩ := SB.lst
    obtain ⟨xlB, hlB⟩ := SB.lst2
    have lp : l ≠ p := SB.ne
    -- the states
    refine ⟨(by show 0 ≤ sizeLine; decide), fun r0 z0 => ?_⟩
    generalize eJ1 : upd HB r0 _ = J1
    have j1 : Same HB J1 := eJ1 ▸ same_upd z0
    have u1 : J1 r0 = some _ := eJ1 ▸ upd_same
    refine ⟨(by show 0 ≤ sizeLine; decide), fun r1 z1 => ?_⟩
    generalize eJ2 : upd J1 r1 _ = J2
    have j2 : Same J1 J2 := eJ2 ▸ same_upd z1
    have u2 : J2 r1 = some _ := eJ2 ▸ upd_same
    refine ⟨(by show 2 ≤ sizeLine; decide), fun s0 z2 => ?_⟩
    generalize eJ3 : upd J2 s0 _ = J3
    have j3 : Same J2 J3 := eJ3 ▸ same_upd z2
    have u3 : J3 s0 = some _ := eJ3 ▸ upd_same
    refine ⟨(by show 0 ≤ sizeLine; decide), fun r2 z3 => ?_⟩
    generalize eJ4 : upd J3 r2 _ = J4
    have j4 : Same J3 J4 := eJ4 ▸ same_upd z3
    have u4 : J4 r2 = some _ := eJ4 ▸ upd_same
    refine ⟨(by show 0 ≤ sizeLine; decide), fun r3 z4 => ?_⟩
    generalize eJ5 : upd J4 r3 _ = J5
    have j5 : Same J4 J5 := eJ5 ▸ same_upd z4
    have u5 : J5 r3 = some _ := eJ5 ▸ upd_same
    refine ⟨(by show 2 ≤ sizeLine; decide), fun s1 z5 => ?_⟩
    generalize eJ6 : upd J5 s1 _ = J6
    have j6 : Same J5 J6 := eJ6 ▸ same_upd z5
    have u6 : J6 s1 = some _ := eJ6 ▸ upd_same
    refine ⟨(by show 2 ≤ sizeLine; decide), fun so z6 => ?_⟩
    generalize eJ7 : upd J6 so _ = J7
    have j7 : Same J6 J7 := eJ7 ▸ same_upd z6
    have u7 : J7 so = some _ := eJ7 ▸ upd_same
    have h27 : Same J2 J7 := j3.trans (j4.trans (j5.trans (j6.trans j7)))
    have hB7 : Same HB J7 := j1.trans (j2.trans h27)
    have nB3 : ∀ {a : Addr} {o : HO}, HB a = some o → a ≠ s0 ∧ a ≠ s1 ∧ a ≠ so := fun {a o} e => ⟨ne_of_none ((j1.trans j2) _ _ e) z2, ne_of_none ((j1.trans (j2.trans (j3.trans (j4.trans j5)))) _ _ e) z5, ne_of_none ((j1.trans (j2.trans (j3.trans (j4.trans (j5.trans j6))))) _ _ e) z6⟩
    have out : ∀ {a : Addr} {o : HO}, HB a = some o → a ≠ p → a ≠ bo → a ∉ mM p bo so s0 s1 := fun {a o} e h1 h2 => by
      obtain ⟨h3, h4, h5⟩ := nB3 e
      simp [h1, h2, h3, h4, h5]
    have ndM : (mM p bo so s0 s1).Nodup := by
      obtain ⟨a1, a2, a3⟩ := nB3 hpB
      obtain ⟨b1, b2, b3⟩ := nB3 e8B
      have c1 : s0 ≠ s1 := ne_of_none ((j4.trans j5) _ _ u3) z5
      have c2 : s0 ≠ so := ne_of_none ((j4.trans (j5.trans j6)) _ _ u3) z6
      have c3 : s1 ≠ so := ne_of_none u6 z6
      simp [pbo, a1, a2, a3, b1, b2, b3, c1, Ne.symm c2, Ne.symm c3]
    have e4 : ∀ {a b : Addr} {X : Hp}, a = b → X b = none → X a = none := fun e h => e ▸ h
    have r0M : r0 ∉ mM p bo so s0 s1 := by
      have c1 : r0 ≠ p := Ne.symm (ne_of_none hpB z0)
      have c2 : r0 ≠ bo := Ne.symm (ne_of_none e8B z0)
      have c3 : r0 ≠ s0 := ne_of_none (j2 _ _ u1) z2
      have c4 : r0 ≠ s1 := ne_of_none ((j2.trans (j3.trans (j4.trans j5))) _ _ u1) z5
      have c5 : r0 ≠ so := ne_of_none ((j2.trans (j3.trans (j4.trans (j5.trans j6)))) _ _ u1) z6
      simp [c1, c2, c3, c4, c5]
    have r1M : r1 ∉ mM p bo so s0 s1 := by
      have c1 : r1 ≠ p := Ne.symm (ne_of_none (j1 _ _ hpB) z1)
      have c2 : r1 ≠ bo := Ne.symm (ne_of_none (j1 _ _ e8B) z1)
      have c3 : r1 ≠ s0 := ne_of_none u2 z2
      have c4 : r1 ≠ s1 := ne_of_none ((j3.trans (j4.trans j5)) _ _ u2) z5
      have c5 : r1 ≠ so := ne_of_none ((j3.trans (j4.trans (j5.trans j6))) _ _ u2) z6
      simp [c1, c2, c3, c4, c5]
    have j13 : Same HB J3 := j1.trans (j2.trans j3)
    have r2M : r2 ∉ mM p bo so s0 s1 := by
      have c1 : r2 ≠ p := Ne.symm (ne_of_none (j13 _ _ hpB) z3)
      have c2 : r2 ≠ bo := Ne.symm (ne_of_none (j13 _ _ e8B) z3)
      have c3 : r2 ≠ s0 := Ne.symm (ne_of_none u3 z3)
      have c4 : r2 ≠ s1 := ne_of_none (j5 _ _ u4) z5
      have c5 : r2 ≠ so := ne_of_none ((j5.trans j6) _ _ u4) z6
      simp [c1, c2, c3, c4, c5]
    have r3M : r3 ∉ mM p bo so s0 s1 := by
      have c1 : r3 ≠ p := Ne.symm (ne_of_none ((j13.trans j4) _ _ hpB) z4)
      have c2 : r3 ≠ bo := Ne.symm (ne_of_none ((j13.trans j4) _ _ e8B) z4)
      have c3 : r3 ≠ s0 := Ne.symm (ne_of_none (j4 _ _ u3) z4)
      have c4 : r3 ≠ s1 := ne_of_none u5 z5
      have c5 : r3 ≠ so := ne_of_none (j6 _ _ u5) z6
      simp [c1, c2, c3, c4, c5]
    have ZA : StAt K (mM p bo so s0 s1) J7 s0 [[], []] := ⟨⟨_, (j4.trans (j5.trans (j6.trans j7))) _ _ u3, .cons ⟨r0, [], rfl, r0M, (j2.trans h27) _ _ u1, .nil⟩ (.cons ⟨r1, [], rfl, r1M, h27 _ _ u2, .nil⟩ .nil)⟩, by simp⟩
    have ZB : StAt K (mM p bo so s0 s1) J7 s1 [[], []] := ⟨⟨_, j7 _ _ u6, .cons ⟨r2, [], rfl, r2M, (j5.trans (j6.trans j7)) _ _ u4, .nil⟩ (.cons ⟨r3, [], rfl, r3M, (j6.trans j7) _ _ u5, .nil⟩ .nil)⟩, by simp⟩
    have FM : FormsAt K (mM p bo so s0 s1) J7 fo [("t", n, as), ("other", k, bs)] := by
      obtain ⟨⟨_, v1⟩, ⟨_, v2⟩⟩ := FAB.lst
      obtain ⟨⟨_, v3⟩, ⟨_, v4⟩⟩ := FBB.lst
      exact ⟨⟨_, hB7 _ _ e5B, .cons ⟨fa, la, rfl, out v1 fap fabo, out v2 lap labo, FAB.same hB7⟩ (.cons ⟨fb, lb, rfl, out v3 fbp fbbo, out v4 lbp lbbo, FBB.same hB7⟩ .nil)⟩, out e5B fop fobo⟩
    have hF : FOk [(("t" : Str), n, as), (("other" : Str), k, bs)] := ⟨_, _, _, _, rfl⟩
    have eA : ∀ e ∈ es, e.rs = [] := fun e h => (erA e h).1
    have eB : ∀ e ∈ fs, e.rs = [] := fun e h => (erB e h).1
    have slE : ∀ {us : List TbE} {X : Ta}, TbAt K HB X us → us.map TbE.s = [(⟨"t", n, y, dy, m, dd as⟩ : Sch)] ++ [⟨"other", k, y', dy', m', dd bs⟩] → ∀ e ∈ us, e.s.l ∉ mM p bo so s0 s1 := fun {us X} C h e he => by
      have h1 : e.s ∈ us.map TbE.s := List.mem_map_of_mem he
      obtain ⟨_, u, _⟩ := (C.hf.hc _ h1).hl
      rw [h] at h1
      have h1 : e.s ∈ [(⟨"t", n, y, dy, m, dd as⟩ : Sch), ⟨"other", k, y', dy', m', dd bs⟩] := h1
      simp only [List.mem_cons, List.not_mem_nil, or_false] at h1
      rcases h1 with h1 | h1
      · rw [h1] at u ⊢; exact out u mp mbo
      · rw [h1] at u ⊢; exact out u m'p m'bo
    have slS : ∀ s ∈ rs3 ++ [(⟨"w", colN (.int 1), q2, dq2, m2, dd []⟩ : Sch)], s.l ∉ mM p bo so s0 s1 := fun s hs => by
      obtain ⟨_, u, _⟩ := (CB4.hc s hs).hl
      rcases List.mem_append.mp hs with h | h
      · rcases rs3m s h with h | h
        · exact out u (by rw [h]; exact m1p) (by rw [h]; exact m1bo)
        · exact out u (by rw [h]; exact m'p) (by rw [h]; exact m'bo)
      · cases List.mem_singleton.mp h
        exact out u m2p m2bo
    have rs4n : nmS (rs3 ++ [(⟨"w", colN (.int 1), q2, dq2, m2, dd []⟩ : Sch)]) = [("t" : Str), ("other" : Str), ("w" : Str)] := by
      show (rs3 ++ [_]).map Sch.nm = _
      rw [List.map_append, show rs3.map Sch.nm = _ from rs3n]
      rfl
    have start : Sit K J7 p l bo so fo A B s0 s1 es fs [("t", n, as), ("other", k, bs)] [[], []] [[], []] x dx dw dl (rs3 ++ [⟨"w", colN (.int 1), q2, dq2, m2, dd []⟩]) 0 :=
      ⟨SB.same hB7, hB7 _ _ e8B, u7, ndM, out hlB lp lbo, CAB.same hB7, CBB.same hB7, slE CAB esA, slE CBB esB, ZA, ZB, FM, tie0 esA eA fit fib le leb n3 k3, tie0 esB eB fit fib le leb n3 k3, (by simp), (by simp),
        Sep.new (CA.same (Same.refl _)) nwA.wl nwB npB (fun f hf => (erB f hf).2), ⟨CB4.same hB7, slS, ne_of_none C5.hw npA, ne_of_none C5.hl npA, ne_of_none C65.hw npB, ne_of_none C65.hl npB⟩⟩
    generalize [(("t" : Str), n, as), (("other" : Str), k, bs)] = FF at start hF
    generalize rs3 ++ [_] = rs4 at start rs4n
    obtain ⟨wA, hwA⟩ : ∃ q : A.dw ≠ A.dl, q = nwA.wl := ⟨nwA.wl, rfl⟩
    refine ⟨_, rfl, p, l, 9, rfl, by decide, by decide, start.src, fun c9 K8 c0 c1 S9 b9 => ?_⟩
    have start := start.draw b9 S9
    clear FM ZA ZB slE slS CAB CBB FAB FBB CA CB C2 C3 C4 C5 C6 C7 C8 C65 CC FA FB FA4 out nB3 kd k3w nbp hfT hinT rs3m hadd CB4 dat e5B e8B
    refine ⟨14, rfl, by decide, by decide, for_range (n := 14) (fun i σ H' => ∃ (o7 o8 o9 o10 : Option V) (B : Ta) (s1 : Addr) (es fs : List TbE) (R S : List (List Rw)), σ = [some (.ref a), some (.ref p), some (.ref x), some (.ref fo), some (.ref bo), some (.ref so), some (.int c9), o7, o8, o9, o10] ∧ Sit K H' p l bo so fo A B s0 s1 es fs FF R S x dx dw dl rs4 (6 * i)) ⟨none, none, none, none, B, s1, es, fs, _, _, rfl, start⟩ ?_ ?_⟩
    · rintro i σ H9 hi ⟨o7, o8, o9, o10, B, s1, es, fs, R, S, rfl, Z⟩
      refine ⟨fun σ' H' => ∃ (o8 o9 o10 : Option V) (B : Ta) (s1 : Addr) (fs : List TbE) (S : List (List Rw)), σ' = [some (.ref a), some (.ref p), some (.ref x), some (.ref fo), some (.ref bo), some (.ref so), some (.int c9), some (.int (0 + (i : Int))), o8, o9, o10] ∧ Sit K H' p l bo so fo A B s0 s1 es fs FF R S x dx dw dl rs4 (6 * i), ?_, ?_⟩
      · refine ⟨_, rfl, _, rfl, rfl, _, rfl, ie (fun c => ?_) (fun c => ?_)⟩
        · have les : es.length = 2 := by
            obtain ⟨e0, e1, he, _⟩ := Z.ta.two hF
            rw [he]
            rfl
          refine ⟨_, rfl, _, _, 0, _, rfl, rfl, SqL.of Z.hb, atI_nat (j := 0) rfl, _, _, _, rfl, Z.ca.hx, tbF_no (by decide +kernel) (by decide +kernel), ?_⟩
          refine ⟨A, es, rfl, Z.ca, by omega, fun e he => ?_, fun D ds G1 t1 nDx nD nDp ds1 ds2 dsd CD => ?_⟩
          · have : e.rs ∈ R := by rw [← Z.ta.r]; exact List.mem_map_of_mem he
            exact Nat.le_trans (Z.ra _ this) (by omega)
          have Z1 := Z.same t1
          refine ⟨_, rfl, bo, _, 1, 1, rfl, rfl, Z1.hb, rfl, ?_⟩
          generalize eG2 : upd G1 bo _ = G2
          have u2 : Md [bo] G1 G2 := eG2 ▸ Md.upd Z1.hb rfl (by simp)
          have bo2 : G2 bo = some (.lst [.ref A.x, .ref D.x]) := eG2 ▸ upd_same
          obtain ⟨m1, m2, m3, m4, m5, m6, m7, m8, m9, m0⟩ := Z.ne
          have so2 : G2 so = some (.lst [.ref s0, .ref s1]) := u2.out _ _ Z1.hs (nin1 (Ne.symm m5))
          obtain ⟨⟨vs, est, sv⟩, _⟩ := id Z.za
          have est2 : G2 s0 = some (.lst vs) := u2.out _ _ (t1 _ _ est) (nin1 (Ne.symm m6))
          refine ⟨_, rfl, _, _, 0, _, rfl, rfl, SqL.of so2, atI_nat (j := 0) rfl, _, _, rfl, .inl (SqL.of est2), fun s3 ns3 => ?_⟩
          generalize eG3 : upd G2 s3 _ = G3
          have t3 : Same G2 G3 := eG3 ▸ same_upd ns3
          have es3 : G3 s3 = some _ := eG3 ▸ upd_same
          refine ⟨_, rfl, so, _, 1, 1, rfl, rfl, t3 _ _ so2, rfl, ?_⟩
          generalize eG4 : upd G3 so _ = G4
          have u4 : Md [so] G3 G4 := eG4 ▸ Md.upd (t3 _ _ so2) rfl (by simp)
          have so4 : G4 so = some (.lst [.ref s0, .ref s3]) := eG4 ▸ upd_same
          have Z1M := Z1.M
          have n3 : H9 s3 = none := t1.free (free_md u2 (al1 bo2) ns3)
          have re : ∀ b xs, b ∉ mM p bo so s0 s1 → H9 b = some (.lst xs) → b ∉ mM p bo so s0 s3 := fun b xs hb he => by
            have h3 : b ≠ s3 := ne_of_none he n3
            simp only [List.mem_cons, List.not_mem_nil, or_false, not_or] at hb ⊢
            exact ⟨hb.1, hb.2.1, hb.2.2.1, hb.2.2.2.1, h3⟩
          obtain ⟨_, hp9⟩ := Z.src.lst
          obtain ⟨_, hl9⟩ := Z.src.lst2
          have ndM : (mM p bo so s0 s3).Nodup := by
            have c1 := ne_of_none hp9 n3
            have c2 := ne_of_none Z.hb n3
            have c3 := ne_of_none Z.hs n3
            have c4 := ne_of_none est n3
            simp [m1, m2, m3, m5, m6, m8, c1, c2, c3, c4]
          have mU : Md [bo, so] G1 G4 := (u2.mono (by simp)).trans ((Md.of t3).trans (u4.mono (by simp)))
          have mT : Md [bo, so] H9 G4 := (Md.of t1).trans mU
          have LT : Lst (mM p bo so s0 s3) H9 [bo, so] := fun b hb => by
            simp only [List.mem_cons, List.not_mem_nil, or_false] at hb
            rcases hb with h | h <;> exact .inl (by simp [h])
          have nm : ∀ {b : Addr}, b ∉ mM p bo so s0 s1 → b ∉ [bo, so] := fun {b} hb => by
            simp only [List.mem_cons, List.not_mem_nil, or_false, not_or] at hb ⊢
            exact ⟨hb.2.1, hb.2.2.1⟩
          have slD : ∀ e ∈ ds, e.s.l ∉ mM p bo so s0 s1 := fun e he => by
            have : e.s ∈ es.map TbE.s := by rw [← ds1]; exact List.mem_map_of_mem he
            obtain ⟨o, ho, eo⟩ := List.mem_map.mp this
            rw [← eo]
            exact Z.sla o ho
          have nA9 := Z.ca.nM Z.M Z.sla
          have nD9 := CD.nM Z1M slD
          have sl3 : ∀ e ∈ es, e.s.l ∉ mM p bo so s0 s3 := fun e he => by
            obtain ⟨_, u, _⟩ := (Z.ca.hf.hc e.s (List.mem_map_of_mem he)).hl
            exact re _ _ (Z.sla e he) u
          have sv3 := sv.re re
          have svT := sv3.md mT LT
          have nk : ∀ {b : Addr} {o : HO}, H9 b = some o → (∀ xs, o ≠ .lst xs) → b ∉ [bo, so] := fun {b o} e h z => by
            simp only [List.mem_cons, List.not_mem_nil, or_false] at z
            rcases z with z | z
            · rw [z, Z.hb] at e; cases e; exact h _ rfl
            · rw [z, Z.hs] at e; cases e; exact h _ rfl
          have C9 := Z.sc.at_
          refine ⟨o8, o9, o10, D, s3, ds, R, rfl, ⟨Z.src.md mT (by simp [m1, m2]) (nm Z.lM), u4.out _ _ (t3 _ _ bo2) (nin1 m5), so4, ndM, re _ _ Z.lM hl9, Z.ca.md mT (fun b hb => nm (nA9 b hb)), CD.md mU (fun b hb => nm (nD9 b hb)), sl3, fun e he => ?_, ⟨⟨vs, mT.out _ _ est (by simp [Ne.symm m6, Ne.symm m8]), svT⟩, by simp⟩, ⟨⟨vs, u4.out _ _ es3 (nin1 (Ne.symm (ne_of_none so2 ns3))), svT⟩, by simp⟩, (Z.fm.re re).md mT LT, Z.ta, Z.ta.twin ds1 ds2, Z.ra, Z.ra, Sep.new Z.ca Z.sep.wa nD nDp dsd, ⟨C9.md mT (nk C9.hx (fun _ z => by cases z)) (nk C9.hw (fun _ z => by cases z)) (nk C9.hl (fun _ z => by cases z)) (fun t ht => ⟨nk (C9.hc t ht).hx (fun _ z => by cases z), nm (Z.sc.sl t ht)⟩), fun t ht => ?_, Z.sc.a1, Z.sc.a2, ne_of_none C9.hw nDp, ne_of_none C9.hl nDp⟩⟩⟩
          · have : e.s ∈ es.map TbE.s := by rw [← ds1]; exact List.mem_map_of_mem he
            obtain ⟨o, ho, eo⟩ := List.mem_map.mp this
            rw [← eo]
            exact sl3 o ho
          · obtain ⟨_, u, _⟩ := (C9.hc t ht).hl
            exact re _ _ (Z.sc.sl t ht) u
        · exact ⟨o8, o9, o10, B, s1, fs, S, rfl, Z⟩
      · rintro σ' HA ⟨o8', o9', o10', B', s1', fs', S', rfl, Z'⟩
        refine ⟨_, rfl, p, l, 2, rfl, by decide, by decide, Z'.src, fun k HB k0 k1 SB bB => ?_⟩
        have ZB := Z'.draw bB SB
        have pM : p ∈ mM p bo so s0 s1' := by simp
        obtain ⟨m1, m2, m3, m4, m5, m6, m7, m8, m9, m0⟩ := Z'.ne
        refine ⟨fun σ' H' => ∃ (es2 fs2 : List TbE) (R2 S2 : List (List Rw)), σ' = [some (.ref a), some (.ref p), some (.ref x), some (.ref fo), some (.ref bo), some (.ref so), some (.int c9), some (.int (0 + (i : Int))), some (.int k), o9', o10'] ∧ Sit K H' p l bo so fo A B' s0 s1' es2 fs2 FF R2 S2 x dx dw dl rs4 (6 * i + 6), ?_, ?_⟩
        · have hk : k = 0 ∨ k = 1 := by omega
          rcases hk with rfl | rfl
          · refine ⟨_, rfl, _, rfl, _, rfl, bo, _, 0, _, rfl, rfl, SqL.of ZB.hb, atI_nat (j := 0) rfl, _, rfl, _, rfl, so, _, 0, _, rfl, rfl, SqL.of ZB.hs, atI_nat (j := 0) rfl, _, rfl, ?_⟩
            refine ⟨p, l, A, es, s0, fo, FF, R, mM p bo so s0 s1', 6 * i, rfl, ZB.src, pM, ZB.lM, m3, ZB.M, ZB.ca, ZB.sla, ZB.za, ZB.fm, ZB.ta, hF, ZB.ra, by omega, fun es2 R2 HC mC SC CC2 ZC TC sC dC rC => ?_⟩
            refine ⟨_, rfl, iteF ?_⟩
            exact ⟨_, _, _, _, rfl, ZB.deedA mC SC CC2 ZC TC sC dC rC⟩
          · refine ⟨_, rfl, _, rfl, _, rfl, bo, _, 1, _, rfl, rfl, SqL.of ZB.hb, atI_nat (j := 1) rfl, _, rfl, _, rfl, so, _, 1, _, rfl, rfl, SqL.of ZB.hs, atI_nat (j := 1) rfl, _, rfl, ?_⟩
            refine ⟨p, l, B', fs', s1', fo, FF, S', mM p bo so s0 s1', 6 * i, rfl, ZB.src, pM, ZB.lM, m4, ZB.M, ZB.cb, ZB.slb, ZB.zb, ZB.fm, ZB.tb, hF, ZB.rb, by omega, fun fs2 S2 HC mC SC CC2 ZC TC sC dC rC => ?_⟩
            refine ⟨_, rfl, iteF ?_⟩
            exact ⟨_, _, _, _, rfl, ZB.deedB mC SC CC2 ZC TC sC dC rC⟩
        · rintro σ' HC ⟨es2, fs2, R2, S2, rfl, ZC⟩
          have up : ∀ {X : Hp}, FormsAt K (mM p bo so s0 s1') X fo FF → FormsAt K [] X fo FF := fun h => h.re (fun _ _ _ _ => by simp)
          refine ⟨_, rfl, _, _, 0, _, rfl, rfl, SqL.of ZC.hb, atI_nat (j := 0) rfl, _, rfl, _, _, 0, _, rfl, rfl, SqL.of ZC.hs, atI_nat (j := 0) rfl, _, rfl, ?_⟩
          refine ⟨A, es2, s0, fo, FF, R2, rfl, ZC.ca, ZC.za.r, up ZC.fm, ZC.ta, hF, (fun r h => Nat.le_trans (ZC.ra r h) (by omega)), fun HD sD => ?_⟩
          refine ⟨_, rfl, iteF ?_⟩
          have ZD := ZC.same sD
          refine ⟨_, rfl, _, _, 1, _, rfl, rfl, SqL.of ZD.hb, atI_nat (j := 1) rfl, _, rfl, _, _, 1, _, rfl, rfl, SqL.of ZD.hs, atI_nat (j := 1) rfl, _, rfl, ?_⟩
          refine ⟨B', fs2, s1', fo, FF, S2, rfl, ZD.cb, ZD.zb.r, up ZD.fm, ZD.tb, hF, (fun r h => Nat.le_trans (ZD.rb r h) (by omega)), fun HE sE => ?_⟩
          refine ⟨_, rfl, iteF ?_⟩
          have ZE := ZD.same sE
          obtain ⟨e0, e1, he, hR2, _⟩ := ZE.ta.two hF
          obtain ⟨f0, f1, hf, hS2, _⟩ := ZE.tb.two hF
          have hkey := ZE.ta.k.trans ZE.tb.k.symm
          refine ⟨_, rfl, _, _, 0, _, rfl, rfl, SqL.of ZE.hb, atI_nat (j := 0) rfl, _, rfl, _, _, 1, _, rfl, rfl, SqL.of ZE.hb, atI_nat (j := 1) rfl, ?_⟩
          refine ⟨_, _, _, _, rfl, ZE.ca.hx, T.o_Tables.ty ZE.cb.hx, T.nf_Tables, ?_⟩
          refine .inr ⟨A, B', es2, fs2, rfl, ZE.ca, ZE.cb, by rw [he]; show 2 ≤ 1000; decide, ZE.ta.ok hF, ZE.tb.ok hF, ZE.sep.wa, ZE.sep.x1, ZE.sep.dd, fun HF sF => ?_⟩
          rw [decide_eq_true hkey, Bool.true_and]
          have ZF := ZE.same sF
          obtain ⟨v0, est0, sv0⟩ := ZF.za.r
          obtain ⟨v1, est1, sv1⟩ := ZF.zb.r
          rw [hR2] at sv0
          rw [hS2] at sv1
          obtain ⟨a0, u0, ha0, _, ea0, da0⟩ := sv0.get (i := 0) rfl
          obtain ⟨a1, u1', ha1, _, ea1, da1⟩ := sv0.get (i := 1) rfl
          obtain ⟨b0, w0, hb0, _, eb0, db0⟩ := sv1.get (i := 0) rfl
          obtain ⟨b1, w1', hb1, _, eb1, db1⟩ := sv1.get (i := 1) rfl
          have hsame : sameU es2 fs2 = (sameR (e0.rs, f0.rs) && sameR (e1.rs, f1.rs)) := by
            rw [he, hf]
            show (sameR (e0.rs, f0.rs) && (sameR (e1.rs, f1.rs) && true)) = _
            rw [Bool.and_true]
          rw [hsame]
          refine ⟨_, rfl, so, _, 0, _, rfl, rfl, SqL.of ZF.hs, atI_nat (j := 0) rfl, s0, v0, 0, .ref a0, rfl, rfl, SqL.of est0, atI_nat (j := 0) ha0, _, rfl, so, _, 1, _, rfl, rfl, SqL.of ZF.hs, atI_nat (j := 1) rfl, s1', v1, 0, .ref b0, rfl, rfl, SqL.of est1, atI_nat (j := 0) hb0, ?_⟩
          refine ⟨a0, b0, u0, w0, e0.rs, f0.rs, rfl, ea0, da0, eb0, db0, ?_⟩
          cases hq : sameR (e0.rs, f0.rs) with
          | false =>
            rw [Bool.false_and]
            refine ⟨_, rfl, iteF ?_⟩
            refine ⟨_, rfl, _, _, _, _, _, rfl, .ty _, Dp.ty (.bl _), kit_d K .bl (.bool _), _, rfl, iteF ?_⟩
            refine ⟨_, rfl, _, rfl, rfl, _, rfl, if_neg_of (by show (!decide (V.bl false = V.bl false)) = false; rw [decide_eq_true rfl]; rfl) ?_⟩
            exact ⟨_, _, _, _, B', s1', es2, fs2, R2, S2, rfl, ZF⟩
          | true =>
            rw [Bool.true_and]
            refine ⟨_, rfl, iteT ?_⟩
            refine ⟨_, rfl, so, _, 0, _, rfl, rfl, SqL.of ZF.hs, atI_nat (j := 0) rfl, s0, v0, 1, .ref a1, rfl, rfl, SqL.of est0, atI_nat (j := 1) ha1, _, rfl, so, _, 1, _, rfl, rfl, SqL.of ZF.hs, atI_nat (j := 1) rfl, s1', v1, 1, .ref b1, rfl, rfl, SqL.of est1, atI_nat (j := 1) hb1, ?_⟩
            refine ⟨a1, b1, u1', w1', e1.rs, f1.rs, rfl, ea1, da1, eb1, db1, ?_⟩
            refine ⟨_, rfl, _, _, _, _, _, rfl, .ty _, Dp.ty (.bl _), kit_d K .bl (.bool _), _, rfl, iteF ?_⟩
            refine ⟨_, rfl, _, rfl, rfl, _, rfl, if_neg_of (by show (!decide (V.bl (sameR (e1.rs, f1.rs)) = V.bl (sameR (e1.rs, f1.rs)))) = false; rw [decide_eq_true rfl]; rfl) ?_⟩
            exact ⟨_, _, _, _, B', s1', es2, fs2, R2, S2, rfl, ZF⟩
    · rintro σ K9 ⟨o7, o8, o9, o10, B, s1, es, fs, R, S, rfl, Z⟩
      refine ⟨_, rfl, _, rfl, _, rfl, A, B, es, fs, bo, so, s0, s1, fo, FF, R, S, rfl, Z.hb, Z.hs, Z.ca, Z.cb, Z.za.r, Z.zb.r, Z.fm.re (fun _ _ _ _ => by simp), Z.ta, Z.tb, hF, (fun r h => Nat.le_trans (Z.ra r h) (by decide)), (fun r h => Nat.le_trans (Z.rb r h) (by decide)), Z.sep.wa, Z.sep.x1, Z.sep.pp, fun L1 v1 => ?_⟩
      have Z1 := Z.same v1
      refine ⟨_, rfl, iteT ?_⟩
      have nd4 : (nmS rs4).Nodup := by rw [rs4n]; decide +kernel
      have rs4l : rs4.length = 3 := by have := congrArg List.length rs4n; unfold nmS at this; rw [List.length_map] at this; exact this
      obtain ⟨ee0, ee1, hee, _⟩ := Z1.ta.two hF
      have les : es.length = 2 := by rw [hee]; rfl
      refine ⟨_, rfl, _, _, 0, _, rfl, rfl, SqL.of Z1.hb, atI_nat (j := 0) rfl, _, rfl, mkTb1 Z1.sc.at_ nd4 (by omega) fun D ds L2 v2 nD nwD npD dsD drD CD => ?_⟩
      have lds : ds.length = 3 := by have := congrArg List.length dsD; rw [List.length_map] at this; omega
      have sp : Sep A D es ds := Sep.new Z1.ca Z1.sep.wa nwD npD (fun f hf => (drD f hf).2)
      refine ⟨A, D, es, ds, rfl, Z1.ca.same v2, CD, by omega, by omega, fun e he => ?_, fun e he => ?_, Z1.ta.ok hF, fun z hz => ?_, sp.wa, sp.x1, sp.wb, sp.x2, sp.pp, sp.dd, by omega, fun L3 v3 => q L3⟩
      · have : e.rs ∈ R := by rw [← Z1.ta.r]; exact List.mem_map_of_mem he
        exact Nat.le_trans (Z1.ra _ this) (by decide)
      · rw [(drD e he).1]
        exact Nat.zero_le _
      · rw [dsD, rs4n] at hz
        simp only [List.mem_cons, List.not_mem_nil, or_false] at hz
        rcases hz with rfl | rfl | rfl <;> decide +kernel
end
end K10
namespace K10
open PySem PySem.Spec PyProof.Rows L2 He TL EL
theorem facts {P : Program} {w : World} {K : PySem.W.Frag} {mg : Str → Option Value} {f : Addr} (hP : PF P "/claim/cut.py") (T : Txt K mg) (hfa : mg ("law" : Str) = some (.ref f)) :
    ∃ fd : FuncData, (∀ (s : Shared) (v : Value), BindsTo s fd ⟨[v], []⟩ [("_law_script", v)]) ∧ ∀ base : Heap, FnOk P w K mg base CX0 11 f fd ["_law_script"] (spLaw K) := by
  obtain ⟨fd, F⟩ := T.f_law
  have e := hfa.symm.trans T.g_law
  cases e
  have b := FunD.bindsA (ps := ["_law_script"]) F (fun _ _ _ _ _ _ us hl => match us, hl with | [_], _ => rfl)
  exact ⟨fd, fun s v => b s [v] rfl, fun base => ok_law hP T F⟩
end K10
open PySem PySem.W PySem.Calls PyProof.Rows
set_option maxHeartbeats 0 in
theorem PySem.Challenge.cw_endlessasks_k10_whole_tables_as_sets_holds : PySem.Challenge.rw_endlessasks_k10_whole_tables_as_sets.Holds := by
  w_on; o_law; k_head
  case hw => w_witness2
  case hc =>
    refine L2.walk_ofE (l := PySem.Challenge.rw_endlessasks_k10_whole_tables_as_sets) (n := 63) (k := 11) (x := "_law_script") (CX := L2.CX0) rfl (by decide) (by kernel_rfl) ⟨rfl, by decide, by decide⟩ ?F (fun _ _ _ _ z => z)
    intro w mg fa h Y G hmg0
    have KX := EL.inK_of Y
    have c := EL.says_of KX K10.fa K10.fn K10.xn K10.ex (by kernel_rfl)
    have hmg : mg ("law" : PySem.Str) = some (.ref fa) := by
      rw [← hmg0]
    obtain ⟨fd, hb, hF⟩ := K10.facts (P := (PySem.Challenge.rw_endlessasks_k10_whole_tables_as_sets).prog) (w := w) ⟨by kernel_rfl, by kernel_rfl⟩ (K10.txt_of KX G c) hmg
    exact ⟨_, fd, K10.spLaw _, KX, hb, fun H a ns hl _ hS => ⟨a, ns, rfl, hS, hl, fun _ => rfl⟩, fun base _ _ => hF base⟩
