import PyProof.Rows.All
import Wide.All
import OpenK.AllK
import Wide.FinOn
import KE.KStateDown
import HandS.ForMost
import HandS.ForExc
import HandS.More
import HandS.Wide
import HandS.IsInst
import HandS.ExcIs
import HandS.FStr
import HandS.Defaults
import HandS.TupAny
import HandS.TupLe
import HandS.Deep
import HandS.Flow
import HandS.Walk
import HandS.Head0
import HandS.Head1
import HandS.Head2
import HandS.HeadEnd
import HandS.HeadHook1
import HandS.HeadHook2
import HandS.HeadNt
import HandS.ExcField
import KE.KExcSuper
import HandS.SlotsOwn
import KE.KOpsOwn
import HandS.Star
import HandS.DictComp
import HandS.Conv
import HandS.HeadHook3
import HandS.WrittenGet
import HandS.Style
import PySem.Challenge.RW_endlessasks_k05_whole_conditions_hold
set_option Elab.async false
set_option linter.all false
set_option maxRecDepth 100000
namespace EL
/-- the greatest common divisor, as the loop leaves it -/
def cd (a b : Int) : Int := ((Nat.gcd a.natAbs b.natAbs : Nat) : Int)
def nrm (t b : Int) : Int × Int := if b < 0 then ((-t) / cd (-t) (-b), (-b) / cd (-t) (-b)) else (t / cd t b, b / cd t b)
theorem cd_pos {a b : Int} (h : b ≠ 0) : 0 < cd a b := by
  unfold cd
  have := Nat.gcd_pos_of_pos_right a.natAbs (n := b.natAbs) (by omega)
  omega
theorem cd_dvd_l (a b : Int) : cd a b ∣ a := by
  unfold cd
  exact Int.ofNat_dvd_left.mpr (Nat.gcd_dvd_left _ _)
theorem cd_dvd_r (a b : Int) : cd a b ∣ b := by
  unfold cd
  exact Int.ofNat_dvd_left.mpr (Nat.gcd_dvd_right _ _)
theorem cd_neg_l (a b : Int) : cd (-a) b = cd a b := by unfold cd; rw [Int.natAbs_neg]
theorem cd_neg_r (a b : Int) : cd a (-b) = cd a b := by unfold cd; rw [Int.natAbs_neg]
/-- a value in lowest terms -/
def Low (a b : Int) : Prop := 0 < b ∧ cd a b = 1
theorem cd_div {a b : Int} (hb : b ≠ 0) : cd (a / cd a b) (b / cd a b) = 1 := by
  have hp := cd_pos (a := a) hb
  have e : ∀ x : Int, cd a b ∣ x → (x / cd a b).natAbs = x.natAbs / Nat.gcd a.natAbs b.natAbs := fun x hx => by
    rw [Int.natAbs_ediv_of_dvd hx]
    rfl
  show ((Nat.gcd (a / cd a b).natAbs (b / cd a b).natAbs : Nat) : Int) = 1
  rw [e a (cd_dvd_l a b), e b (cd_dvd_r a b), Nat.gcd_div (Nat.gcd_dvd_left _ _) (Nat.gcd_dvd_right _ _), Nat.div_self (Nat.gcd_pos_of_pos_right _ (by omega))]
  rfl
theorem nrm_low {t b : Int} (hb : b ≠ 0) : Low (nrm t b).1 (nrm t b).2 := by
  unfold nrm
  by_cases h : b < 0
  · rw [if_pos h]
    have hp := cd_pos (a := -t) (b := -b) (by omega)
    refine ⟨?_, cd_div (by omega)⟩
    exact Int.ediv_pos_of_pos_of_dvd (by omega) (Int.le_of_lt hp) (cd_dvd_r _ _)
  · rw [if_neg h]
    have hp := cd_pos (a := t) (b := b) hb
    refine ⟨?_, cd_div hb⟩
    exact Int.ediv_pos_of_pos_of_dvd (by omega) (Int.le_of_lt hp) (cd_dvd_r _ _)
theorem nrm_eq {t b : Int} (hb : b ≠ 0) : (nrm t b).1 * b = t * (nrm t b).2 := by
  unfold nrm
  by_cases h : b < 0
  · rw [if_pos h]
    have hp := cd_pos (a := -t) (b := -b) (by omega)
    obtain ⟨u, hu⟩ := cd_dvd_l (-t) (-b)
    obtain ⟨v, hv⟩ := cd_dvd_r (-t) (-b)
    generalize cd (-t) (-b) = g at *
    have e1 : -t / g = u := by rw [hu, Int.mul_ediv_cancel_left _ (by omega)]
    have e2 : -b / g = v := by rw [hv, Int.mul_ediv_cancel_left _ (by omega)]
    show -t / g * b = t * (-b / g)
    rw [e1, e2]
    have ht : t = -(g * u) := by omega
    have hb' : b = -(g * v) := by omega
    rw [ht, hb', Int.mul_neg, Int.neg_mul, Int.mul_left_comm, Int.mul_comm g u, Int.mul_assoc, Int.mul_left_comm u g v]
  · rw [if_neg h]
    have hp := cd_pos (a := t) (b := b) hb
    obtain ⟨u, hu⟩ := cd_dvd_l t b
    obtain ⟨v, hv⟩ := cd_dvd_r t b
    generalize cd t b = g at *
    have e1 : t / g = u := by rw [hu, Int.mul_ediv_cancel_left _ (by omega)]
    have e2 : b / g = v := by rw [hv, Int.mul_ediv_cancel_left _ (by omega)]
    show t / g * b = t * (b / g)
    rw [e1, e2, hu, hv, Int.mul_left_comm, Int.mul_assoc]
/-- two values in lowest terms that stand for one fraction are one -/
theorem low_unique {a b c d : Int} (h1 : Low a b) (h2 : Low c d) (h : a * d = c * b) : a = c ∧ b = d := by
  obtain ⟨hb, g1⟩ := h1
  obtain ⟨hd, g2⟩ := h2
  have c1 : Nat.gcd a.natAbs b.natAbs = 1 := by unfold cd at g1; omega
  have c2 : Nat.gcd c.natAbs d.natAbs = 1 := by unfold cd at g2; omega
  have hn : a.natAbs * d.natAbs = c.natAbs * b.natAbs := by rw [← Int.natAbs_mul, ← Int.natAbs_mul, h]
  have d1 : b.natAbs ∣ d.natAbs := by
    have : b.natAbs ∣ a.natAbs * d.natAbs := by rw [hn]; exact Nat.dvd_mul_left _ _
    exact (Nat.Coprime.symm (show Nat.Coprime a.natAbs b.natAbs from c1)).dvd_of_dvd_mul_left this
  have d2 : d.natAbs ∣ b.natAbs := by
    have : d.natAbs ∣ c.natAbs * b.natAbs := by rw [← hn]; exact Nat.dvd_mul_left _ _
    exact (Nat.Coprime.symm (show Nat.Coprime c.natAbs d.natAbs from c2)).dvd_of_dvd_mul_left this
  have e : b = d := by
    have := Nat.dvd_antisymm d1 d2
    omega
  subst e
  exact ⟨Int.eq_of_mul_eq_mul_right (by omega) h, rfl⟩
theorem nrm_scale {t b f : Int} (hb : b ≠ 0) (hf : f ≠ 0) : nrm (t * f) (b * f) = nrm t b := by
  have hbf : b * f ≠ 0 := Int.mul_ne_zero hb hf
  have l1 := nrm_low (t := t * f) hbf
  have l2 := nrm_low (t := t) hb
  have e1 := nrm_eq (t := t * f) hbf
  have e2 := nrm_eq (t := t) hb
  have u := low_unique l1 l2 (by
    generalize (nrm (t * f) (b * f)).1 = p at *
    generalize (nrm (t * f) (b * f)).2 = q at *
    generalize (nrm t b).1 = r at *
    generalize (nrm t b).2 = s at *
    -- p * (b f) = (t f) q ; r b = t s ; want p s = r q
    have hbf2 : p * b = t * q := by
      refine Int.eq_of_mul_eq_mul_right hf ?_
      rw [Int.mul_assoc, e1, Int.mul_assoc, Int.mul_comm f q, Int.mul_assoc]
    refine Int.eq_of_mul_eq_mul_right hb ?_
    calc p * s * b = (p * b) * s := by rw [Int.mul_assoc, Int.mul_comm s b, Int.mul_assoc]
      _ = (t * q) * s := by rw [hbf2]
      _ = (t * s) * q := by rw [Int.mul_assoc, Int.mul_comm q s, Int.mul_assoc]
      _ = r * b * q := by rw [e2]
      _ = r * q * b := by rw [Int.mul_assoc, Int.mul_comm b q, Int.mul_assoc])
  exact Prod.ext u.1 u.2
theorem nrm_one (t : Int) : nrm t 1 = (t, 1) := by
  have e : cd t 1 = 1 := by unfold cd; simp
  unfold nrm
  rw [if_neg (by omega), e]
  simp
end EL
namespace EL
open PySem PySem.Spec PyProof.Rows L2 He
/-! ### a def by its name -/
structure Dn (P : Program) (w : World) (K : PySem.W.Frag) (mg : Str → Option Value) (base : Heap) (CX : CXT) (k : Nat) (x : Str) (sp : Sp) : Prop where
  g : mg x = some (.ref (ga K x))
  kp : PySem.W.keepIn K (.ref (ga K x)) = true
  r : FnR P w K mg base CX k (ga K x) sp
section
variable {X : Cx} {CX : CXT} {k : Nat} {f : Addr} {sp : Sp} {E : L2.St → XK} {x : Str} {p pos : Pos} {e : Expr} {es : List Expr} {t : TA}
theorem run_fnRS {pins : List (Addr × Obj)} {σ : L2.St} {H : Hp} {s : Shared} {Q : VK} {us : List Value} {vs : List V} (F : FnR X.prog X.w X.K X.mg X.base CX k f sp) (hr : Room k X.A) (hx : PassesAt CX X σ (E σ))
    (I : Inv X pins σ H s) (r : Vals vs us) (h : sp vs H Q (E σ)) : wpAny (model X.prog X.w) X.A (call (.ref f) us) (EP X pins σ Q) X.xe s := by
  refine wpAny_call (codeAny_mono (F X.A X.stack s H us vs Q (E σ) hr I.env0 r h) fun r s' hq => ?_)
  cases r with
  | error e => exact hx pins H s e s' I hq
  | ok fl =>
    cases fl with
    | ret u => exact I.after hq
    | next => exact False.elim hq
    | brk => exact False.elim hq
    | cont => exact False.elim hq
theorem pe_fn (F : FnR X.prog X.w X.K X.mg X.base CX k f sp) (hr : Room k X.A) (hg : Gl X x) (hm : X.mg x = some (.ref f)) (hk : PySem.W.keepIn X.K (.ref f) = true) (hx : ∀ σ, PassesAt CX X σ (E σ))
    (ha : PA X (e :: es) t) (hdb : (x == ("__debug__" : Str)) = false := by decide) (he : starEach (e :: es) X.env = (false, eval e X.env) :: starEach es X.env := by rfl) (hpl : (backTo pos (starEach es X.env)).any (·.1) = false := by rfl) :
    PE X (.Call (.Name x p) (e :: es) [] pos) (tCallS sp E t) := by
  refine ⟨fun pins s σ H Q I h => ?_⟩
  refine wpAny_Call_Name_kw (ld_glob I hg hm ?_ hdb)
  refine PySem.W.callWith_K (h₀ := X.base) I.ok.mod.kin hk (thn (ha.run pos pins s σ H _ I h) fun us s1 ⟨vs, H1, I1, r, q⟩ => ⟨I1.kIn, ?_⟩) he hpl
  exact run_fnRS F hr (hx σ) I1 r q
/-- a call of a def that lets nothing out -/
theorem cl (D : Dn X.prog X.w X.K X.mg X.base CX0 k x sp) (hr : Room k X.A) (ha : PA X (e :: es) t) (hg : Gl X x := by rfl)
    (hdb : (x == ("__debug__" : Str)) = false := by decide) (he : starEach (e :: es) X.env = (false, eval e X.env) :: starEach es X.env := by rfl) (hpl : (backTo pos (starEach es X.env)).any (·.1) = false := by rfl) :
    PE X (.Call (.Name x p) (e :: es) [] pos) (tCallS sp (fun _ => E0) t) := pe_fn D.r hr hg D.g D.kp (fun _ _ _ _ _ _ _ h => h.elim) ha hdb he hpl
/-- a call of a def that may raise, where it raises nothing -/
theorem cl0 (D : Dn X.prog X.w X.K X.mg X.base (L2.CX X.prog X.w) k x sp) (hr : Room k X.A) (ha : PA X (e :: es) t) (hg : Gl X x := by rfl)
    (hdb : (x == ("__debug__" : Str)) = false := by decide) (he : starEach (e :: es) X.env = (false, eval e X.env) :: starEach es X.env := by rfl) (hpl : (backTo pos (starEach es X.env)).any (·.1) = false := by rfl) :
    PE X (.Call (.Name x p) (e :: es) [] pos) (tCallS sp (fun _ => E0) t) := pe_fn D.r hr hg D.g D.kp (fun σ pins H s e s' I h => passL pins σ H s e s' I h) ha hdb he hpl
/-- a call of a def that may raise -/
theorem clx {W : WX} (tk : Takes X W) (D : Dn X.prog X.w X.K X.mg X.base (L2.CX X.prog X.w) k x sp) (hr : Room k X.A) (ha : PA X (e :: es) t) (hg : Gl X x := by rfl)
    (hdb : (x == ("__debug__" : Str)) = false := by decide) (he : starEach (e :: es) X.env = (false, eval e X.env) :: starEach es X.env := by rfl) (hpl : (backTo pos (starEach es X.env)).any (·.1) = false := by rfl) :
    PE X (.Call (.Name x p) (e :: es) [] pos) (tCallS sp (WE W) t) := pe_fn D.r hr hg D.g D.kp (fun σ => passAt tk σ) ha hdb he hpl
/-- a module's name that holds a plain value -/
theorem pe_gv {v : V} {pos : Pos} (h : ∃ u, X.mg x = some u ∧ RelV v u) (hg : Gl X x := by rfl) (hd : (x == ("__debug__" : Str)) = false := by decide) : PE X (.Name x pos) (tC v) := by
  obtain ⟨u, h1, h2⟩ := h
  exact pe_glob hg h1 h2 hd
end
/-! ### own errors without an __init__ -/
structure XC (K : PySem.W.Frag) (mg : Str → Option Value) (x : Str) : Prop where
  g : mg x = some (.ref (ga K x))
  q : PySem.W.excIn K (ga K x) veBase "ValueError.__new__" = true
  k : PySem.W.keepIn K (.ref (ga K x)) = true
  b : PySem.W.subIn K (.ref (ga K x)) (.type "BaseException") = some true
  t : PySem.W.typeIn K (.ref (ga K x)) = some (.type "type")
/-- raise C('..') -/
theorem rs {X : Cx} {W : WX} {c m : Str} {j : Nat} {p p2 pos pos2 : Pos} (hc : X.calm = true) (tk : Takes X W) (x : XC X.K X.mg c) (hg : Gl X c) (hdb : (c == ("__debug__" : Str)) = false := by decide) :
    PS X (.Raise (some (.Call (.Name c p) [.Constant (.str m) j p2] [] pos)) none pos2) (fun _ σ H => W (.ref (ga X.K c)) none σ H) :=
  ps_raise hc tk (pmk_own PySem.F.excBase_ValueError x.q x.g x.k (raises_own x.b x.t) hg hdb)
/-! ### heaps -/
theorem same_upd {H : Hp} {p : Addr} {o : HO} (h : H p = none) : Same H (upd H p o) := fun b x e => by
  rw [upd_ne (ne_of_none e h)]
  exact e
theorem Same.seqT {K : PySem.W.Frag} {H H' : Hp} {a : Addr} {xs : List V} (e : Same H H') (h : SqT K H a xs) : SqT K H' a xs := by
  rcases h with (h | ⟨o, h⟩) | h
  · exact .inl (.inl (e _ _ h))
  · exact .inl (.inr ⟨o, e _ _ h⟩)
  · exact .inr h
/-- a new object: the heap behind is a letter -/
theorem newO {H : Hp} {o : HO} {Q : Addr → Hp → Prop} (h : ∀ p H', H p = none → Same H H' → H' p = some o → Q p H') : ∀ p, H p = none → Q p (upd H p o) := fun p hp => h p _ hp (same_upd hp) upd_same
theorem newV {H : Hp} {o : HO} {Q : V → Hp → Prop} (h : ∀ p H', H p = none → Same H H' → H' p = some o → Q (.ref p) H') : ∀ p, H p = none → Q (.ref p) (upd H p o) := fun p hp => h p _ hp (same_upd hp) upd_same
theorem ie {b : Bool} {A B : Prop} (h1 : b = true → A) (h2 : b = false → B) : if b = true then A else B := by
  cases b with
  | true => rw [if_pos rfl]; exact h1 rfl
  | false => rw [if_neg Bool.false_ne_true]; exact h2 rfl
theorem if_pos_of {b : Bool} {A B : Prop} (h : b = true) (a : A) : if b = true then A else B := by rw [if_pos h]; exact a
theorem if_neg_of {b : Bool} {A B : Prop} (h : b = false) (a : B) : if b = true then A else B := by rw [h, if_neg Bool.false_ne_true]; exact a
theorem small40 {n : Nat} (h : n ≤ 100000) : n ≤ sizeLine := Nat.le_trans h (by decide)
end EL
namespace EL
open PySem PySem.Spec PyProof.Rows L2 He
/-! ### the head: facts, defs and one more Bool -/
theorem xc_of {K : PySem.W.Frag} {mg : Str → Option Value} {x : Str} (g : mg x = some (.ref (ga K x))) (h : PySem.W.excIn K (ga K x) veBase "ValueError.__new__" = true ∧ PySem.W.keepIn K (.ref (ga K x)) = true ∧ PySem.W.subIn K (.ref (ga K x)) (.type "BaseException") = some true ∧
    PySem.W.typeIn K (.ref (ga K x)) = some (.type "type")) : XC K mg x := ⟨g, h.1, h.2.1, h.2.2.1, h.2.2.2⟩
theorem gv_int {mg : Str → Option Value} {x : Str} {i : Int} (h : ∃ t, mg x = some (.int i t)) : ∃ u, mg x = some u ∧ RelV (.int i) u := by
  obtain ⟨t, e⟩ := h
  exact ⟨_, e, t, rfl⟩
theorem gv_str {mg : Str → Option Value} {x z : Str} (h : ∃ t, mg x = some (.str z t)) : ∃ u, mg x = some u ∧ RelV (.str z) u := by
  obtain ⟨t, e⟩ := h
  exact ⟨_, e, t, rfl⟩
abbrev AlM : Type := AlD × Bool
def obsM (fa : List Fa) (fn : List DefD) (ex : PySem.W.Frag → Bool) (K : PySem.W.Frag) : AlM := (obsD fa fn K, ex K)
def obsMG (n : Nat) (fa : List Fa) (fn : List DefD) (ex : PySem.W.Frag → Bool) (g : Addr → Option Obj) : AlM := obsM fa fn ex (frG g (asD g n))
def valM (fn : List DefD) : AlM := (valD fn, true)
def hookM (n : Nat) (fa : List Fa) (fn : List DefD) (ex : PySem.W.Frag → Bool) : PySem.W.Hook where
  α := AlM
  obs := fun s => obsMG n fa fn ex s.heap.get?
  val := fun _ => valM fn
  says := fun _ h => ∃ K : PySem.W.Frag, K.In h ∧ SaysD fa fn K ∧ ex K = true
  of := fun _ _ e => ⟨_, frG_in, congrArg (fun z : AlM => z.1) e, congrArg (fun z : AlM => z.2) e⟩
  keeps := fun _ _ _ ⟨K, hK, c⟩ k => ⟨K, PySem.W.Frag.In.keeps hK k, c⟩
theorem obsMG_eq {n : Nat} {fa : List Fa} {fn : List DefD} {ex : PySem.W.Frag → Bool} {g : Addr → Option Obj} {s : Shared} (h : ∀ a, g a = s.heap.get? a) : obsMG n fa fn ex g = (hookM n fa fn ex).obs s := by
  have e : g = s.heap.get? := funext h
  rw [e] <;> rfl
end EL
namespace EL
open PySem PySem.Spec PyProof.Rows L2 He
/-! ### from a def's body to its Dn -/
section
variable {P : Program} {w : World} {K : PySem.W.Frag} {mg : Str → Option Value} {base : Heap} {CX : CXT} {k : Nat} {x : Str} {sp : Sp} {params : Arguments} {body : List Stmt} {scope : Scope} {dvs : List V} {fd : FuncData} {ps N : List Str}
theorem dnN (g : mg x = some (.ref (ga K x))) (F : FunD K x x params body scope [] [] (ga K x) fd)
    (hb : ∀ (kV doc pm : Value) (an : Option Addr) (cdv ct : Value) (us : List Value), us.length = ps.length → bindArgs (PySem.W.fnOf x x params body scope .none kV doc pm an cdv ct) ⟨us, []⟩ = pure (ps.zip us))
    (S : FnScope N ps scope) (len : ∀ vs H Q E, sp vs H Q E → vs.length = ps.length)
    (hbody : ∀ (cdv : Value) (A : Around) (outer : List Env) (s : Shared) (H : Hp) (vs : List V) (Q : VK) (E : XK), Room k (A.deeper (envOfC x scope s.heap.objs.size (ga K x) cdv)) → sp vs H Q E →
      ∃ t, PSs (cxOf CX P w K mg base N x scope (ga K x) cdv A outer s H E) body t ∧ t { nx := fun _ H' => Q .non H', rt := Q } (start N vs) H) : Dn P w K mg base CX (k + 1) x sp :=
  ⟨g, F.kp, ((F.ok S len hbody).raw (F.bindsN hb) .nil).imp fun vs H Q E h => by rw [List.append_nil]; exact h⟩
theorem Dn.mono {j : Nat} (D : Dn P w K mg base CX j x sp) (h : j ≤ k) : Dn P w K mg base CX k x sp := ⟨D.g, D.kp, D.r.mono h⟩
end
/-! ### data -/
inductive Kd where
  | non | bl | int | str | lst | tup | dct
  deriving DecidableEq
def kdN : Kd → String
  | .non => "NoneType"
  | .bl => "bool"
  | .int => "int"
  | .str => "str"
  | .lst => "list"
  | .tup => "tuple"
  | .dct => "dict"
def kd : PyData → Kd
  | .none => .non
  | .bool _ => .bl
  | .int _ => .int
  | .str _ => .str
  | .list _ => .lst
  | .tuple _ => .tup
  | .dict _ => .dct
def tyn (d : PyData) : String := kdN (kd d)
theorem SqL.ty {K : PySem.W.Frag} {H : Hp} {a : Addr} {xs : List V} (h : SqL K H a xs) : TyX K H (.ref a) (.type "list") := by
  rcases h with (h | ⟨o, h⟩) | ⟨o, its, n, h1, h2, _⟩
  · exact .base (.lst h)
  · exact .base (.frz h)
  · exact .kList h1 h2
theorem SqT.ty {K : PySem.W.Frag} {H : Hp} {a : Addr} {xs : List V} (h : SqT K H a xs) : TyX K H (.ref a) (.type "tuple") := by
  rcases h with (h | ⟨o, h⟩) | ⟨o, its, n, h1, h2, _⟩
  · exact .base (.tup h)
  · exact .fTuple h
  · exact .kTuple h1 h2
theorem Dp.ty {K : PySem.W.Frag} {H : Hp} {v : V} {d : PyData} (h : Dp K H v d) : TyX K H v (.type (tyn d)) := by
  cases h with
  | non => exact .base .non
  | bl b => exact .base (.bl b)
  | int i => exact .base (.int i)
  | str x => exact .base (.str x)
  | lst h _ => exact SqL.ty h
  | tup h _ => exact SqT.ty h
mutual
theorem Dp.same {K : PySem.W.Frag} {H H' : Hp} (s : Same H H') : ∀ {d : PyData} {v : V}, Dp K H v d → Dp K H' v d
  | _, _, .non => .non
  | _, _, .bl b => .bl b
  | _, _, .int i => .int i
  | _, _, .str x => .str x
  | _, _, .lst h a => .lst (s.seq h) (DpAll.same s a)
  | _, _, .tup h a => .tup (Same.seqT s h) (DpAll.same s a)
theorem DpAll.same {K : PySem.W.Frag} {H H' : Hp} (s : Same H H') : ∀ {ds : List PyData} {vs : List V}, DpAll K H vs ds → DpAll K H' vs ds
  | _, _, .nil => .nil
  | _, _, .cons a b => .cons (Dp.same s a) (DpAll.same s b)
end
theorem DpAll.length {K : PySem.W.Frag} {H : Hp} : ∀ {ds : List PyData} {vs : List V}, DpAll K H vs ds → vs.length = ds.length
  | _, _, .nil => rfl
  | _, _, .cons _ b => congrArg Nat.succ (DpAll.length b)
/-- isinstance's answers of data -/
def kIs (T k : Kd) : Bool := decide (k = T) || (decide (T = .int) && decide (k = .bl))
def isTy (T : Kd) (d : PyData) : Bool := kIs T (kd d)
theorem kit_k : ∀ T k : Kd, kitB (kdN k) (kdN T) = some (kIs T k) := by
  intro T k
  cases T <;> cases k <;> decide +kernel
theorem kit_d (K : PySem.W.Frag) (T : Kd) (d : PyData) : PySem.W.kitOne K (.type (tyn d)) (.type (kdN T)) = some (isTy T d) := kit_ty (kit_k T (kd d))
/-- a thing: data, or some object that is none of the five -/
inductive Th where
  | d (d : PyData)
  | o
def ThOk (K : PySem.W.Frag) (H : Hp) (v : V) : Th → Prop
  | .d d => Dp K H v d
  | .o => ∃ t, TyX K H v t ∧ ∀ T : Kd, PySem.W.kitOne K t (.type (kdN T)) = some false
def Th.is (T : Kd) : Th → Bool
  | Th.d x => isTy T x
  | Th.o => false
/-- its type and isinstance's answers -/
theorem ThOk.ty {K : PySem.W.Frag} {H : Hp} {v : V} {th : Th} (h : ThOk K H v th) : ∃ t, TyX K H v t ∧ ∀ T : Kd, PySem.W.kitOne K t (.type (kdN T)) = some (th.is T) := by
  cases th with
  | d d => exact ⟨_, Dp.ty h, fun T => kit_d K T d⟩
  | o => exact h
def isWholeT (th : Th) : Bool := th.is .int && !th.is .bl
def isWholeD : PyData → Bool
  | .int _ => true
  | _ => false
theorem isWholeT_d (d : PyData) : isWholeT (.d d) = isWholeD d := by cases d <;> rfl
def isValD : PyData → Bool
  | .tuple [.int a, .int b] => !decide (b < 1) && decide (cd a b = 1)
  | _ => false
def isValT : Th → Bool
  | Th.d x => isValD x
  | Th.o => false
end EL
namespace EL
open PySem PySem.Spec PyProof.Rows L2 He TL
/-! ### keywords alone -/
section
variable {K : PySem.W.Frag} {x qual : Str} {params : Arguments} {body : List Stmt} {scope : Scope} {dvs : List V} {kws : List (Str × V)} {f : Addr} {fd : FuncData} {ps : List Str}
theorem kbinds1 (F : FunD K x qual params body scope dvs kws f fd) (n : Nat) (ks : List Str) (g : {α : Type} → List α → List α → List α → List α) (hd : dvs ≠ [])
    (hrel : ∀ {vs ds zs : List V} {us its ws : List Value}, Vals vs us → Vals ds its → Vals zs ws → Vals (g vs ds zs) (g us its ws))
    (h : ∀ (T : Addr) (kV doc pm : Value) (an : Option Addr) (cdv ct : Value) (us its ws : List Value), us.length = n → its.length = dvs.length → ws.length = ks.length →
      ∃ k, bindArgs (PySem.W.fnOf x qual params body scope (.ref T) kV doc pm an cdv ct) ⟨us, ks.zip ws⟩ = seqItems? (.ref T) >>= k ∧ k (some its.toArray) = pure (ps.zip (g us its ws))) :
    ∃ its : List Value, KBn K fd ps n ks (fun us ws => g us its ws) (fun vs zs => g vs dvs zs) := by
  obtain ⟨oc, od, dV, kV, doc, pm, an, cdv, ct, osl, rfl, lk, hcd, hD, hK⟩ := F.ex
  rcases hD with ⟨e, _⟩ | ⟨_, T, o, its, m, rfl, lT, oT, rT⟩
  · exact absurd e hd
  · refine ⟨its, ⟨fun s us ws X h1 h2 => ?_, fun r rz => hrel r rT rz⟩⟩
    obtain ⟨k, e1, e2⟩ := h T kV doc pm an cdv ct us its ws h1 rT.length.symm h2
    refine BindsTo.of_looks fun M => ?_
    rw [e1]
    exact looks_items X lT oT (.of_pure e2)
end
section
variable {X : Cx} {CX : CXT} {k : Nat} {f : Addr} {fd : FuncData} {ps ks : List Str} {sp : Sp} {E : XK} {x : Str} {p pos : Pos} {kws : List Keyword} {tk : TA} {g : List Value → List Value → List Value} {gV : List V → List V → List V}
/-- f(k = v, ..) -/
theorem pe_callN0 (F : FnOk X.prog X.w X.K X.mg X.base CX k f fd ps sp) (hr : Room k X.A) (hg : Gl X x) (hm : X.mg x = some (.ref f)) (hk : PySem.W.keepIn X.K (.ref f) = true) (hb : KBn X.K fd ps 0 ks g gV) (hx : Passes CX X E)
    (hkw : PK X kws tk) (hall : (backToKw pos (keywordEach kws X.env)).all (·.1.isSome) = true := by rfl) (hks : (backToKw pos (keywordEach kws X.env)).filterMap (·.1) = ks := by rfl)
    (hdb : (x == ("__debug__" : Str)) = false := by decide) (hpl : ((backTo pos (starEach [] X.env)).any (·.1) || (backToKw pos (keywordEach kws X.env)).any (·.1.isNone)) = false := by rfl) :
    PE X (.Call (.Name x p) [] kws pos) (tCallN 0 ks.length sp gV E tNil tk) := by
  refine ⟨fun pins s σ H Q I h => ?_⟩
  refine wpAny_Call_Name_kw (ld_glob I hg hm ?_ hdb)
  refine PySem.W.callWith_KW0 (h₀ := X.base) I.ok.mod.kin hk hall ?_ hpl
  refine thn (hkw.run pos pins s σ H _ I h) fun ws s2 ⟨zs, H2, I2, rz, l1, l2, q2⟩ => ⟨I2.kIn, ?_⟩
  rw [hks]
  exact run_fnN (us := []) (vs := []) F hr hb hx I2 .nil rz rfl l2 q2
end
/-! ### texts of numbers -/
theorem str_nil (x : Str) : Str.empty ++ x = x := ext_tl (by rw [tl_append]; rfl)
theorem natDigits_len {n k : Nat} (hk : 0 < k) (h : n < 10 ^ k) : (numL n).length ≤ k := numL_len hk h
/-- the signs of an int -/
def intL (a : Int) : List Nat := if a < 0 then 45 :: numL a.natAbs else numL a.natAbs
theorem tl_int (a : Int) : tl (Str.ofString (toString a)) = intL a := by
  cases a with
  | ofNat n => exact tl_num n
  | negSucc n =>
    unfold intL
    rw [if_pos (by omega), tl_ofString]
    show ("-" ++ Nat.repr (n + 1)).toList.map Char.toNat = 45 :: numL (n + 1)
    rw [String.toList_append, List.map_append, Nat.toList_repr]
    rfl
theorem numL_len1000 {n : Nat} (h : n < 2 ^ 1000) : (numL n).length ≤ 1000 := numL_len (by decide) (Nat.lt_of_lt_of_le h (Nat.pow_le_pow_left (by decide) _))
theorem len_int {a : Int} (h : a.natAbs < 2 ^ 1000) : (Str.ofString (toString a)).length ≤ 1001 := by
  rw [len_tl, tl_int]
  have := numL_len1000 h
  unfold intL
  split
  · rw [List.length_cons]
    omega
  · omega
/-- what a text of digits is worth -/
def isDig (c : Nat) : Bool := decide (48 ≤ c) && decide (c ≤ 57)
def rdD (cs : List Nat) : Option Nat := if (1 ≤ cs.length ∧ cs.length ≤ 40) ∧ cs.all isDig = true ∧ ¬ (1 < cs.length ∧ cs.head? = some 48) then some (NumText.digitsVal cs) else none
def optV : Option Nat → V
  | none => .non
  | some n => .int n
/-- a text as value reads it -/
def rdP (cs : List Nat) : List Nat × Option (List Nat) := match par [47] [] cs with
  | none => (cs, none)
  | some (a, b) => (a, some b)
def rdB : Option (List Nat) → Option Nat
  | none => some 1
  | some u => match rdD u with
    | some b => if 2 ≤ b then some b else none
    | none => none
def rdF (below : Bool) : Option Nat → Option Nat → Option (Int × Int)
  | some b, some t => if (below && decide (t = 0)) || decide (Nat.gcd t b ≠ 1) then none else some (if below then -(t : Int) else (t : Int), (b : Int))
  | _, _ => none
def rdV (cs : List Nat) : Option (Int × Int) :=
  rdF (decide (cs.take 1 = [45])) (rdB (rdP (if decide (cs.take 1 = [45]) = true then cs.drop 1 else cs)).2) (rdD (rdP (if decide (cs.take 1 = [45]) = true then cs.drop 1 else cs)).1)
theorem par_split {s : Nat} : ∀ (cs acc a b : List Nat), par [s] acc cs = some (a, b) → acc ++ cs = a ++ s :: b
  | [], acc, a, b, h => by simp [par] at h
  | c :: r, acc, a, b, h => by
    by_cases e : c = s
    · subst e
      rw [par_hit (by simp [pre])] at h
      injection h with h
      injection h with h1 h2
      rw [← h1, ← h2]
      rfl
    · rw [par_miss (pre_of_head [] r e)] at h
      have := par_split r (acc ++ [c]) a b h
      rw [← this]
      simp
end EL
namespace EL
open PySem PySem.Spec PyProof.Rows L2 He TL
theorem tl_cut_to (z : Str) (k : Nat) : tl (cutS z none (some (k : Int))) = (tl z).take k := by
  show ((tl z).drop (HT.sIx z.length 0 none)).take (HT.sIx z.length z.length (some (k : Int)) - HT.sIx z.length 0 none) = (tl z).take k
  rw [HT.sIx_none, HT.sIx_nat, List.drop_zero, Nat.sub_zero, len_tl]
  by_cases h : k ≤ (tl z).length
  · rw [Nat.min_eq_left h]
  · rw [Nat.min_eq_right (by omega), List.take_length, List.take_of_length_le (by omega)]
theorem tl_cut_from (z : Str) (k : Nat) : tl (cutS z (some (k : Int)) none) = (tl z).drop k := by
  show ((tl z).drop (HT.sIx z.length 0 (some (k : Int)))).take (HT.sIx z.length z.length none - HT.sIx z.length 0 (some (k : Int))) = (tl z).drop k
  rw [HT.sIx_none, HT.sIx_nat, len_tl]
  by_cases h : k ≤ (tl z).length
  · rw [Nat.min_eq_left h, List.take_of_length_le (by rw [List.length_drop]; omega)]
  · rw [Nat.min_eq_right (by omega), List.drop_length, List.drop_of_length_le (by omega), List.take_nil]
theorem tl_digits : tl ("0123456789" : Str) = [48, 49, 50, 51, 52, 53, 54, 55, 56, 57] := by decide +kernel
theorem mem_digits (c : Nat) : decide (c ∈ tl ("0123456789" : Str)) = isDig c := by
  rw [tl_digits]
  unfold isDig
  rw [← Bool.decide_and]
  refine decide_eq_decide.mpr ?_
  simp only [List.mem_cons, List.not_mem_nil, or_false]
  omega
theorem str_one {c : Nat} {y : Str} {d : Nat} (hy : tl y = [d]) : decide (V.str ⟨#[c]⟩ = V.str y) = decide (c = d) := by
  refine decide_eq_decide.mpr ⟨fun e => ?_, fun e => ?_⟩
  · have e1 : (⟨#[c]⟩ : Str) = y := by injection e
    rw [← e1] at hy
    have h2 : [c] = [d] := hy
    injection h2
  · have e1 : (⟨#[c]⟩ : Str) = y := ext_tl (by rw [hy, e])
    rw [e1]
theorem allDigits_of {cs : List Nat} (h : cs.all isDig = true) : NumText.AllDigits cs := fun c hc => by
  have := List.all_eq_true.mp h c hc
  unfold isDig at this
  rw [Bool.and_eq_true, decide_eq_true_eq, decide_eq_true_eq] at this
  exact this
theorem str_eq_tl {x y : Str} : decide (V.str x = V.str y) = decide (tl x = tl y) := decide_eq_decide.mpr ⟨fun e => by injection e with e; rw [e], fun e => by rw [ext_tl e]⟩
/-- a statement, then the rest, with a word between them -/
def tMid (t u : TS) : TS := fun D σ H => ∃ Mid : L2.St → Hp → Prop, t { D with nx := Mid } σ H ∧ ∀ σ' H', Mid σ' H' → u D σ' H'
theorem pss_mid {X : Cx} {st : Stmt} {rest : List Stmt} {t u : TS} (h1 : PS X st t) (h2 : PSs X rest u) : PSs X (st :: rest) (tMid t u) := by
  refine ⟨fun pins s σ H D I h => ?_⟩
  obtain ⟨Mid, hm, hu⟩ := h
  refine wpAny_execs_cons (thn (h1.run pins s σ H { D with nx := Mid } I hm) fun f s1 q => ?_)
  cases f with
  | next =>
    obtain ⟨σ', H', I', q⟩ := q
    exact h2.run pins s1 σ' H' D I' (hu σ' H' q)
  | ret v => exact q
  | brk => exact q
  | cont => exact q
end EL
namespace EL
open PySem PySem.Spec PyProof.Rows L2 He TL
/-! ### more facts of K, as Bools -/
theorem exG {l : List Bool} {b : Bool} (m : l.all id = true) (i : Nat) (h : l[i]? = some b) : b = true := List.all_eq_true.mp m b (List.mem_of_getElem? h)
def excCB (K : PySem.W.Frag) (D : Addr) : Bool := eqO (PySem.W.findIn K (.ref D) "__getattribute__") (some (some (.builtin "BaseException.__getattribute__"))) && (eqO (PySem.W.findIn K (.ref D) "__getattr__") (some none) &&
  (decide (PySem.W.subIn K (.ref D) (.type "BaseException") = some true) && (PySem.W.hasDictIn K D && (eqO (PySem.W.findIn K (.ref D) "__class__") (some (some (.builtin "object.__class__"))) &&
  (eqO (PySem.W.specialIn K (.builtin "object.__class__") "__get__") (some (some (.builtin "getset_descriptor.__get__"))) && (decide (PySem.W.takesIn K (.builtin "object.__class__") = some true) && decide (PySem.W.mroIn K D (.type "object") = some true)))))))
theorem excCB_ok {K : PySem.W.Frag} {D : Addr} (h : excCB K D = true) : ExcC K D := by
  obtain ⟨h1, h⟩ := ba h
  obtain ⟨h2, h⟩ := ba h
  obtain ⟨h3, h⟩ := ba h
  obtain ⟨h4, h⟩ := ba h
  obtain ⟨h5, h⟩ := ba h
  obtain ⟨h6, h⟩ := ba h
  obtain ⟨h7, h8⟩ := ba h
  exact ⟨eqO_ok h1, eqO_ok h2, of_decide_eq_true h3, h4, eqO_ok h5, eqO_ok h6, of_decide_eq_true h7, of_decide_eq_true h8⟩
/-- isinstance(e, c), e the exception of the class at D that the suite holds -/
theorem call_isX {X : Cx} {a : Addr} {oe : Obj} {pn : List (Addr × Obj)} {cls : Value} {d : Option Addr} (D : Addr) (C : ExcC X.K D) (hz : Zc cls d oe) (hf : ∃ vs, oe.data = .fields vs) :
    CallR (X.suite a ((a, oe) :: pn)) (.builtin "isinstance") (fun xs H Q => cls = .ref D ∧ d = none ∧ rIsE X.K D a xs H Q) := by
  intro pins s σ H xs us Q I r h
  obtain ⟨rfl, rfl, h⟩ := h
  exact call_isE C hz hf pins s σ H xs us Q I r h
/-! ### the law's source of draws -/
/-- the list [cells, place, digits, state] -/
def Src (H : Hp) (p l : Addr) : Prop := ∃ (ns : List Int) (i : Nat) (c r : Int), H p = some (.lst [.ref l, .int i, .int c, .int r]) ∧ H l = some (.lst (ns.map V.int)) ∧ 0 ≤ c ∧ 0 ≤ r ∧ r < 2147483647
/-- all but p is as it was -/
def But (p : Addr) (H H' : Hp) : Prop := ∀ b o, H b = some o → b ≠ p → H' b = some o
theorem But.refl (p : Addr) (H : Hp) : But p H H := fun _ _ h _ => h
theorem But.trans {p : Addr} {H H1 H2 : Hp} (a : But p H H1) (b : But p H1 H2) : But p H H2 := fun c o h n => b c o (a c o h n) n
theorem But.of {p : Addr} {H H' : Hp} (s : Same H H') : But p H H' := fun b o h _ => s b o h
theorem but_upd {p : Addr} {H : Hp} {o : HO} : But p H (upd H p o) := fun b x h n => by rw [upd_ne n]; exact h
theorem Src.same {H H' : Hp} {p l : Addr} (s : Same H H') (h : Src H p l) : Src H' p l := by
  obtain ⟨ns, i, c, r, h1, h2, h3⟩ := h
  exact ⟨ns, i, c, r, s _ _ h1, s _ _ h2, h3⟩
theorem Src.lst {H : Hp} {p l : Addr} (h : Src H p l) : ∃ xs, H p = some (.lst xs) := by
  obtain ⟨ns, i, c, r, h1, _⟩ := h
  exact ⟨_, h1⟩
theorem Src.lst2 {H : Hp} {p l : Addr} (h : Src H p l) : ∃ xs, H l = some (.lst xs) := by
  obtain ⟨ns, i, c, r, h1, h2, _⟩ := h
  exact ⟨_, h2⟩
theorem Src.ne {H : Hp} {p l : Addr} (h : Src H p l) : l ≠ p := fun e => by
  obtain ⟨ns, i, c, r, h1, h2, _⟩ := h
  subst e
  rw [h1] at h2
  injection h2 with h2
  injection h2 with h2
  cases ns with
  | nil => cases h2
  | cons x r => injection h2 with h2; cases h2
/-- another thing changes -/
theorem Src.but {H H' : Hp} {p l x : Addr} (s : But x H H') (h : Src H p l) (h1 : p ≠ x) (h2 : l ≠ x) : Src H' p l := by
  obtain ⟨ns, i, c, r, k1, k2, h3⟩ := h
  exact ⟨ns, i, c, r, s _ _ k1 h1, s _ _ k2 h2, h3⟩
theorem But.seqT {K : PySem.W.Frag} {p a : Addr} {H H' : Hp} {xs : List V} (s : But p H H') (hp : ∃ ys, H p = some (.lst ys)) (h : SqT K H a xs) : SqT K H' a xs := by
  obtain ⟨ys, hp⟩ := hp
  rcases h with (h | ⟨o, h⟩) | h
  · exact .inl (.inl (s _ _ h (ne_of h hp (by intro z; cases z))))
  · exact .inl (.inr ⟨o, s _ _ h (ne_of h hp (by intro z; cases z))⟩)
  · exact .inr h
end EL
namespace EL
open PySem PySem.Spec PyProof.Rows L2 He TL
/-! ### a written value is read back -/
def txtV (a b : Int) : Str := if b = 1 then (toString a : String) else ((toString a : String) : Str) ++ "/" ++ ((toString b : String) : Str)
theorem numL_head {n : Nat} (h : 1 ≤ n) : (numL n).head? ≠ some 48 := by
  induction n using Nat.strongRecOn with
  | _ n ih =>
    by_cases h10 : n < 10
    · rw [numL_lt h10]
      intro e
      have e2 : 48 + n = 48 := Option.some.inj e
      omega
    · rw [numL_step (by omega)]
      have hh := ih (n / 10) (by omega) (by omega)
      cases hc : numL (n / 10) with
      | nil => exact absurd hc (numL_ne _)
      | cons x r =>
        rw [hc] at hh
        exact hh
theorem rdD_num {n : Nat} (h : n < 10 ^ 40) : rdD (numL n) = some n := by
  unfold rdD
  have hl : (numL n).length ≤ 40 := numL_len (by decide) h
  have h1 : 1 ≤ (numL n).length := by
    cases hc : numL n with
    | nil => exact absurd hc (numL_ne _)
    | cons x r => simp
  rw [if_pos, numL_val]
  refine ⟨⟨h1, hl⟩, ?_, ?_⟩
  · refine List.all_eq_true.mpr fun c hc => ?_
    have := numL_digits n c hc
    unfold isDig
    rw [Bool.and_eq_true, decide_eq_true_eq, decide_eq_true_eq]
    exact this
  · rintro ⟨h2, h3⟩
    by_cases h0 : n < 10
    · rw [numL_lt h0] at h2
      exact absurd h2 (Nat.lt_irrefl 1)
    · exact numL_head (by omega) h3
theorem tl_txtV (a b : Int) : tl (txtV a b) = if b = 1 then intL a else intL a ++ 47 :: intL b := by
  unfold txtV
  by_cases h : b = 1
  · rw [if_pos h, if_pos h]
    exact tl_int a
  · rw [if_neg h, if_neg h, tl_append, tl_append, tl_int, tl_int, show tl ("/" : Str) = [47] by decide +kernel, List.append_assoc]
    rfl
theorem numL_first (n : Nat) : (numL n).take 1 ≠ [45] := fun e => by
  have : (45 : Nat) ∈ (numL n).take 1 := by rw [e]; simp
  exact numL_free (n := n) (s := 45) (.inl (by decide)) (List.mem_of_mem_take this)
theorem numL_app_first (n : Nat) (r : List Nat) : (numL n ++ r).take 1 ≠ [45] := fun e => by
  cases hc : numL n with
  | nil => exact absurd hc (numL_ne _)
  | cons x q =>
    rw [hc] at e
    have := numL_first n
    rw [hc] at this
    exact this e
theorem rdP_num (n : Nat) : rdP (numL n) = (numL n, none) := by
  unfold rdP
  rw [par_none1 (numL_free (.inl (by decide)))]
theorem rdP_two (n m : Nat) : rdP (numL n ++ 47 :: numL m) = (numL n, some (numL m)) := by
  unfold rdP
  rw [show numL n ++ 47 :: numL m = numL n ++ ([47] ++ numL m) from rfl, par_part1 (numL_free (.inl (by decide)))]
  rfl
theorem rdV_txt {a b : Int} (h : Low a b) (ha : a.natAbs < 10 ^ 40) (hb : b.natAbs < 10 ^ 40) : rdV (tl (txtV a b)) = some (a, b) := by
  obtain ⟨hb0, hg⟩ := h
  have hg' : Nat.gcd a.natAbs b.natAbs = 1 := by unfold cd at hg; omega
  have hbL : intL b = numL b.natAbs := by
    unfold intL
    rw [if_neg (by omega)]
  -- the body behind the sign, by its parts
  have body : ∀ cs : List Nat, cs = (if b = 1 then numL a.natAbs else numL a.natAbs ++ 47 :: numL b.natAbs) → rdB (rdP cs).2 = some b.natAbs ∧ rdD (rdP cs).1 = some a.natAbs := by
    intro cs hcs
    by_cases h1 : b = 1
    · rw [if_pos h1] at hcs
      rw [hcs, rdP_num]
      refine ⟨?_, rdD_num ha⟩
      rw [h1]
      rfl
    · rw [if_neg h1] at hcs
      rw [hcs, rdP_two]
      refine ⟨?_, rdD_num ha⟩
      simp only [rdB, rdD_num hb]
      exact if_pos (by omega)
  rw [tl_txtV]
  unfold rdV
  by_cases hn : a < 0
  · have e : (if b = 1 then intL a else intL a ++ 47 :: intL b) = 45 :: (if b = 1 then numL a.natAbs else numL a.natAbs ++ 47 :: numL b.natAbs) := by
      unfold intL
      rw [if_pos hn, if_neg (show ¬ b < 0 by omega)]
      split <;> rfl
    rw [e]
    obtain ⟨e1, e2⟩ := body _ rfl
    rw [show decide ((45 :: (if b = 1 then numL a.natAbs else numL a.natAbs ++ 47 :: numL b.natAbs)).take 1 = [45]) = true from rfl, if_pos rfl, List.drop_one, List.tail_cons, e1, e2]
    show (if (true && decide (a.natAbs = 0) || decide (Nat.gcd a.natAbs b.natAbs ≠ 1)) = true then none else some (-(a.natAbs : Int), (b.natAbs : Int))) = _
    rw [if_neg]
    · rw [show -(a.natAbs : Int) = a by omega, show (b.natAbs : Int) = b by omega]
    · rw [decide_eq_false (show ¬ a.natAbs = 0 by omega), Bool.and_false, Bool.false_or]
      exact fun z => of_decide_eq_true z hg'
  · have e : (if b = 1 then intL a else intL a ++ 47 :: intL b) = (if b = 1 then numL a.natAbs else numL a.natAbs ++ 47 :: numL b.natAbs) := by
      unfold intL
      rw [if_neg hn, if_neg (show ¬ b < 0 by omega)]
    rw [e]
    have hf : (if b = 1 then numL a.natAbs else numL a.natAbs ++ 47 :: numL b.natAbs).take 1 ≠ [45] := by
      split
      · exact numL_first _
      · exact numL_app_first _ _
    obtain ⟨e1, e2⟩ := body _ rfl
    rw [decide_eq_false hf, if_neg Bool.false_ne_true, e1, e2]
    show (if (false && decide (a.natAbs = 0) || decide (Nat.gcd a.natAbs b.natAbs ≠ 1)) = true then none else some ((a.natAbs : Int), (b.natAbs : Int))) = _
    rw [if_neg]
    · rw [show (a.natAbs : Int) = a by omega, show (b.natAbs : Int) = b by omega]
    · rw [Bool.false_and, Bool.false_or]
      exact fun z => of_decide_eq_true z hg'
theorem nrm_abs (t b : Int) : (nrm t b).1.natAbs ≤ t.natAbs ∧ (nrm t b).2.natAbs ≤ b.natAbs := by
  have k : ∀ x g : Int, g ∣ x → (x / g).natAbs ≤ x.natAbs := fun x g h => by
    rw [Int.natAbs_ediv_of_dvd h]
    exact Nat.div_le_self _ _
  unfold nrm
  split
  · have h1 := k (-t) _ (cd_dvd_l (-t) (-b))
    have h2 := k (-b) _ (cd_dvd_r (-t) (-b))
    rw [Int.natAbs_neg] at h1 h2
    exact ⟨h1, h2⟩
  · exact ⟨k t _ (cd_dvd_l t b), k b _ (cd_dvd_r t b)⟩
theorem nrm_neg {t b : Int} (h : b < 0) : nrm (-t) (-b) = nrm t b := by
  unfold nrm
  rw [if_pos h, if_neg (by omega)]
end EL
namespace EL
open PySem PySem.Spec PyProof.Rows L2 He TL
/-! ### texts of values, the other way about -/
theorem digitsVal_snoc' (cs : List Nat) (d : Nat) : NumText.digitsVal (cs ++ [d]) = NumText.digitsVal cs * 10 + (d - 48) := by
  unfold NumText.digitsVal
  rw [List.foldl_append]
  rfl
theorem snoc_of {cs : List Nat} (h : cs ≠ []) : ∃ i d, cs = i ++ [d] := ⟨cs.dropLast, cs.getLast h, (List.dropLast_concat_getLast h).symm⟩
theorem numL_back : ∀ (k : Nat) (cs : List Nat), cs.length = k → cs ≠ [] → cs.all isDig = true → ¬ (1 < cs.length ∧ cs.head? = some 48) → numL (NumText.digitsVal cs) = cs ∧ (cs.head? ≠ some 48 → 1 ≤ NumText.digitsVal cs)
  | 0, cs, hk, hne, _, _ => absurd (List.length_eq_zero_iff.mp hk) hne
  | k + 1, cs, hk, hne, ha, hz => by
    obtain ⟨i, d, rfl⟩ := snoc_of hne
    rw [List.all_append, Bool.and_eq_true] at ha
    have hd : 48 ≤ d ∧ d ≤ 57 := by
      have := ha.2
      simp only [List.all_cons, List.all_nil, Bool.and_true, isDig, Bool.and_eq_true, decide_eq_true_eq] at this
      exact this
    rw [digitsVal_snoc']
    cases hi : i with
    | nil =>
      have e : NumText.digitsVal [] = 0 := rfl
      rw [e, Nat.zero_mul, Nat.zero_add, numL_lt (by omega)]
      refine ⟨?_, fun hh => ?_⟩
      · show [48 + (d - 48)] = [d]
        rw [show 48 + (d - 48) = d by omega]
      · have : d ≠ 48 := fun z => hh (by rw [z]; rfl)
        omega
    | cons x r =>
      have hl : i.length = k := by
        rw [List.length_append, List.length_singleton] at hk
        omega
      have hh : (i ++ [d]).head? = i.head? := by rw [hi]; rfl
      have h48 : i.head? ≠ some 48 := fun z => hz ⟨by rw [List.length_append, hi]; simp, by rw [hh]; exact z⟩
      obtain ⟨e1, e2⟩ := numL_back k i hl (by rw [hi]; simp) ha.1 (fun z => h48 z.2)
      have e3 := e2 h48
      rw [← hi]
      refine ⟨?_, fun _ => by omega⟩
      rw [numL_step (by omega), show (NumText.digitsVal i * 10 + (d - 48)) / 10 = NumText.digitsVal i by omega, show (NumText.digitsVal i * 10 + (d - 48)) % 10 = d - 48 by omega, e1, show 48 + (d - 48) = d by omega]
theorem rdD_inv {cs : List Nat} {n : Nat} (h : rdD cs = some n) : cs = numL n ∧ n < 10 ^ 40 := by
  unfold rdD at h
  split at h
  · rename_i c
    injection h with h
    have hne : cs ≠ [] := fun e => by rw [e] at c; exact absurd c.1.1 (by decide)
    have e := (numL_back cs.length cs rfl hne c.2.1 c.2.2).1
    rw [h] at e
    refine ⟨e.symm, ?_⟩
    have hl : (numL n).length ≤ 40 := by rw [e]; exact c.1.2
    exact Nat.lt_of_not_le fun hge => by
      have : ∀ (k m : Nat), 10 ^ k ≤ m → k + 1 ≤ (numL m).length := by
        intro k
        induction k with
        | zero =>
          intro m _
          cases hm : numL m with
          | nil => exact absurd hm (numL_ne _)
          | cons x r => simp
        | succ k ih =>
          intro m hm
          have h10 : 10 ≤ m := Nat.le_trans (by rw [Nat.pow_succ]; have : 0 < 10 ^ k := Nat.pow_pos (by decide); omega) hm
          rw [numL_step h10, List.length_append]
          have := ih (m / 10) ((Nat.le_div_iff_mul_le (by decide)).mpr (by rw [Nat.pow_succ] at hm; exact hm))
          simp only [List.length_singleton]
          omega
      have := this 40 n hge
      omega
  · cases h
theorem spl_par {s : Nat} : ∀ (cs acc : List Nat), spl [s] 0 acc cs = (match par [s] acc cs with | none => [acc ++ cs] | some (a, b) => a :: spl [s] 0 [] b)
  | [], acc => by
    rw [spl_nil]
    simp [par]
  | c :: r, acc => by
    by_cases e : c = s
    · subst e
      rw [spl_hit (by simp [pre]), par_hit (by simp [pre])]
      rfl
    · rw [spl_miss (pre_of_head [] r e), par_miss (pre_of_head [] r e), spl_par r (acc ++ [c])]
      cases par [s] (acc ++ [c]) r with
      | none => simp
      | some ab => rfl
theorem par_some {s : Nat} : ∀ (cs acc : List Nat), s ∈ cs → ∃ a b, par [s] acc cs = some (a, b)
  | [], _, h => by cases h
  | c :: r, acc, h => by
    by_cases e : c = s
    · subst e
      exact ⟨acc, r, by rw [par_hit (by simp [pre])]; rfl⟩
    · rw [par_miss (pre_of_head [] r e)]
      exact par_some r _ (by
        rcases List.mem_cons.mp h with z | z
        · exact absurd z.symm e
        · exact z)
theorem rdD_free {cs : List Nat} (h : 47 ∈ cs) : rdD cs = none := by
  unfold rdD
  refine if_neg fun c => ?_
  have := List.all_eq_true.mp c.2.1 47 h
  exact absurd this (by decide)
/-- what read_value takes, text_of writes -/
theorem rdV_inv {cs : List Nat} {a b : Int} (h : rdV cs = some (a, b)) : tl (txtV a b) = cs ∧ Low a b ∧ a.natAbs < 10 ^ 40 ∧ b.natAbs < 10 ^ 40 := by
  unfold rdV at h
  generalize hbd : (if decide (cs.take 1 = [45]) = true then cs.drop 1 else cs) = bd at h
  cases hB : rdB (rdP bd).2 with
  | none =>
    rw [hB] at h
    cases h
  | some n =>
    cases hD : rdD (rdP bd).1 with
    | none =>
      rw [hB, hD] at h
      cases h
    | some m =>
      rw [hB, hD] at h
      generalize hbl : decide (cs.take 1 = [45]) = below at *
      have h' : (if (below && decide (m = 0) || decide (Nat.gcd m n ≠ 1)) = true then none else some (if below then -(m : Int) else (m : Int), (n : Int))) = some (a, b) := h
      split at h'
      · cases h'
      · rename_i c
        injection h' with h'
        injection h' with ea eb
        have hg : Nat.gcd m n = 1 := by
          cases hd : decide (Nat.gcd m n ≠ 1) with
          | true => rw [hd, Bool.or_true] at c; exact absurd rfl c
          | false => exact Decidable.not_not.mp (of_decide_eq_false hd)
        have hbz : below = true → m ≠ 0 := fun hb z => by
          rw [hb, z] at c
          exact c rfl
        obtain ⟨e1, m40⟩ := rdD_inv hD
        -- the body
        have body : bd = (if n = 1 then numL m else numL m ++ 47 :: numL n) ∧ 1 ≤ n ∧ n < 10 ^ 40 := by
          unfold rdP at hB e1
          cases hp : par [47] [] bd with
          | none =>
            rw [hp] at hB e1
            have en : 1 = n := Option.some.inj hB
            rw [if_pos en.symm]
            exact ⟨e1, by omega, by rw [← en]; decide⟩
          | some xy =>
            obtain ⟨x, y⟩ := xy
            rw [hp] at hB e1
            have hB' : (match rdD y with | some b => if 2 ≤ b then some b else none | none => none) = some n := hB
            cases hy : rdD y with
            | none =>
              rw [hy] at hB'
              cases hB'
            | some k =>
              rw [hy] at hB'
              have hB2 : (if 2 ≤ k then some k else none) = some n := hB'
              split at hB2
              · injection hB2 with hk
                subst hk
                obtain ⟨e2, k40⟩ := rdD_inv hy
                rw [if_neg (by omega)]
                have e3 : x = numL m := e1
                refine ⟨?_, by omega, k40⟩
                rw [← e3, ← e2]
                exact (par_split _ _ _ _ hp)
              · cases hB2
        obtain ⟨hbody, hn1, n40⟩ := body
        have hcs : cs = if below = true then 45 :: bd else bd := by
          cases below with
          | true =>
            have ht := of_decide_eq_true hbl
            rw [if_pos rfl] at hbd ⊢
            rw [← hbd, ← List.singleton_append, ← ht, List.take_append_drop]
          | false =>
            rw [if_neg Bool.false_ne_true] at hbd ⊢
            exact hbd
        have ebn : b.natAbs = n := by omega
        have eam : a.natAbs = m := by
          rw [← ea]
          split <;> omega
        refine ⟨?_, ⟨by omega, ?_⟩, by omega, by omega⟩
        · rw [tl_txtV, hcs, hbody]
          have hb1 : (b = 1) ↔ (n = 1) := by omega
          have hib : intL b = numL n := by
            unfold intL
            rw [if_neg (by omega), ebn]
          have hia : intL a = if below = true then 45 :: numL m else numL m := by
            unfold intL
            rw [eam]
            cases hbe : below with
            | true =>
              rw [hbe] at ea hbz
              have hm := hbz rfl
              rw [if_pos rfl] at ea ⊢
              rw [if_pos (by omega)]
            | false =>
              rw [hbe] at ea
              rw [if_neg Bool.false_ne_true] at ea ⊢
              rw [if_neg (by omega)]
          rw [hia, hib]
          by_cases h1 : n = 1
          · rw [if_pos h1, if_pos (hb1.mpr h1)]
          · rw [if_neg h1, if_neg (fun z => h1 (hb1.mp z))]
            cases below <;> rfl
        · unfold cd
          rw [eam, ebn, hg]
          rfl
theorem call_str_bool {X : Cx} : CallR X (.type "str") (fun xs H Q => ∃ b : Bool, xs = [.bl b] ∧ Q (.str (if b then "True" else "False")) H) := by
  intro pins s σ H xs us Q I r h
  obtain ⟨b, rfl, q⟩ := h
  obtain ⟨u, rfl, ru⟩ := vals1 r
  cases ru
  exact PySem.P.str_of_bool ⟨.str _, H, I.tok _, ⟨_, rfl⟩, q⟩
end EL
namespace EL
open PySem PySem.Spec PyProof.Rows L2 He TL ClX
/-! ### the head with defs at any address -/
def fnWA (K : PySem.W.Frag) (a : Addr) : FnW := match K.lookup a with
  | some ⟨_, _, .func fd, _⟩ => some (fd.name, fd.qualname, fd.params, fd.body, fd.scope, fd.globals, fd.closure, fd.builtins)
  | _ => none
structure DefE where
  ad : PySem.W.Frag → Addr
  name : Str
  qual : Str
  params : Arguments
  body : List Stmt
  scope : Scope
  dfl : List Dv := []
def DefE.val (d : DefE) : FnW := some (d.name, d.qual, d.params, .stmts d.body, d.scope, mainGlobals, [], builtinsNs)
def DefE.dvs (K : PySem.W.Frag) (d : DefE) : List V := d.dfl.map (Dv.v K)
def DefE.ok (K : PySem.W.Frag) (d : DefE) : Bool := PySem.W.keepIn K (.ref (d.ad K)) && (match K.lookup (d.ad K) with
  | some ⟨_, _, .func fd, _⟩ => PySem.W.codeIn K fd.code d.qual && dflB K fd.defaults (d.dvs K)
  | _ => false)
theorem DefE.funD {K : PySem.W.Frag} {d : DefE} (e : fnWA K (d.ad K) = d.val) (c : d.ok K = true) : ∃ fd, FunD K d.name d.qual d.params d.body d.scope (d.dvs K) [] (d.ad K) fd := by
  obtain ⟨kp, c2⟩ := ba c
  unfold fnWA at e
  cases q : K.lookup (d.ad K) with
  | none =>
    rw [q] at c2
    cases c2
  | some o =>
    obtain ⟨oc, od, dt, osl⟩ := o
    rw [q] at c2 e
    cases dt with
    | func fd =>
      obtain ⟨n1, n2, n3, n4, n5, n6, n7, n8, n9, n10, n11, n12, n13, n14, n15⟩ := fd
      have e2 : (some (n1, n2, n3, n4, n5, n6, n7, n15) : FnW) = some (d.name, d.qual, d.params, .stmts d.body, d.scope, mainGlobals, [], builtinsNs) := e
      simp only [Option.some.injEq, Prod.mk.injEq] at e2
      obtain ⟨h1, h2, h3, h4, h5, h6, h7, h8⟩ := e2
      subst h1 h2 h3 h4 h5 h6 h7 h8
      have c3 : (PySem.W.codeIn K n13 d.qual && dflB K n8 (d.dvs K)) = true := c2
      obtain ⟨k1, k3⟩ := ba c3
      exact ⟨_, ⟨oc, od, n8, n9, n10, n11, n12, n13, n14, osl, rfl, q, k1, dflB_ok k3, .inl rfl⟩, kp⟩
    | _ => cases c2
def obsE (fa : List Fa) (fn : List DefE) (ex : PySem.W.Frag → Bool) (K : PySem.W.Frag) : AlM := (((fa.all fun f => f.ok K) && fn.all fun d => d.ok K, fn.map fun d => fnWA K (d.ad K)), ex K)
def obsEG (n : Nat) (fa : List Fa) (fn : List DefE) (ex : PySem.W.Frag → Bool) (g : Addr → Option Obj) : AlM := obsE fa fn ex (frG g (He5.asA g n))
def valE (fn : List DefE) : AlM := ((true, fn.map DefE.val), true)
def SaysE (fa : List Fa) (fn : List DefE) (ex : PySem.W.Frag → Bool) (K : PySem.W.Frag) : Prop := obsE fa fn ex K = valE fn
def hookE (n : Nat) (fa : List Fa) (fn : List DefE) (ex : PySem.W.Frag → Bool) : PySem.W.Hook where
  α := AlM
  obs := fun s => obsEG n fa fn ex s.heap.get?
  val := fun _ => valE fn
  says := fun _ h => ∃ K : PySem.W.Frag, K.In h ∧ SaysE fa fn ex K
  of := fun _ _ e => ⟨_, frG_in, e⟩
  keeps := fun _ _ _ ⟨K, hK, c⟩ k => ⟨K, PySem.W.Frag.In.keeps hK k, c⟩
theorem obsEG_eq {n : Nat} {fa : List Fa} {fn : List DefE} {ex : PySem.W.Frag → Bool} {g : Addr → Option Obj} {s : Shared} (h : ∀ a, g a = s.heap.get? a) : obsEG n fa fn ex g = (hookE n fa fn ex).obs s := by
  have e : g = s.heap.get? := funext h
  rw [e] <;> rfl
section
variable {fa : List Fa} {fn : List DefE} {ex : PySem.W.Frag → Bool} {K : PySem.W.Frag}
theorem SaysE.fact (c : SaysE fa fn ex K) (i : Nat) {f : Fa} (h : fa[i]? = some f := by rfl) : f.ok K = true := by
  have c1 := (ba (show ((fa.all fun f => f.ok K) && fn.all fun d => d.ok K) = true from congrArg (fun z : AlM => z.1.1) c)).1
  exact List.all_eq_true.mp c1 f (List.mem_of_getElem? h)
theorem SaysE.ex_ (c : SaysE fa fn ex K) : ex K = true := congrArg (fun z : AlM => z.2) c
theorem SaysE.def_ (c : SaysE fa fn ex K) (i : Nat) {d : DefE} (h : fn[i]? = some d := by rfl) : ∃ fd, FunD K d.name d.qual d.params d.body d.scope (d.dvs K) [] (d.ad K) fd := by
  have c2 := (ba (show ((fa.all fun f => f.ok K) && fn.all fun d => d.ok K) = true from congrArg (fun z : AlM => z.1.1) c)).2
  have e : fn.map (fun d => fnWA K (d.ad K)) = fn.map DefE.val := congrArg (fun z : AlM => z.1.2) c
  have e2 : (fn.map fun d => fnWA K (d.ad K))[i]? = (fn.map DefE.val)[i]? := by rw [e]
  rw [List.getElem?_map, List.getElem?_map, h] at e2
  exact DefE.funD (Option.some.inj e2) (List.all_eq_true.mp c2 d (List.mem_of_getElem? h))
end
/-! ### own classes -/
def kdL : List Kd := [.non, .bl, .int, .str, .lst, .tup, .dct]
theorem kdL_all (T : Kd) : T ∈ kdL := by cases T <;> decide
/-- what of the text an own class has -/
structure OC (K : PySem.W.Frag) (C : Addr) : Prop where
  cl : Cls K C
  ca : PySem.W.findIn K (.ref C) "__class__" = some (some (.builtin "object.__class__"))
  hn : PySem.W.specialIn K (.builtin "object.__class__") "__get__" = some (some (.builtin "getset_descriptor.__get__"))
  tk : PySem.W.takesIn K (.builtin "object.__class__") = some true
  ob : PySem.W.mroIn K C (.type "object") = some true
  to : ∀ T : Kd, PySem.W.kitOne K (.ref C) (.type (kdN T)) = some false
  of : ∀ T : Kd, PySem.W.kitOne K (.type (kdN T)) (.ref C) = some false
  self : PySem.W.kitOne K (.ref C) (.ref C) = some true
def ocB (K : PySem.W.Frag) (C : Addr) : Bool := (PySem.W.plainGet K C Str.empty && (PySem.W.hasDictIn K C && (PySem.W.plainOver K C && eqO (PySem.W.findIn K (.ref C) "__setattr__") (some (some (.builtin "object.__setattr__")))))) &&
  (eqO (PySem.W.findIn K (.ref C) "__class__") (some (some (.builtin "object.__class__"))) && (eqO (PySem.W.specialIn K (.builtin "object.__class__") "__get__") (some (some (.builtin "getset_descriptor.__get__"))) &&
  (decide (PySem.W.takesIn K (.builtin "object.__class__") = some true) && (decide (PySem.W.mroIn K C (.type "object") = some true) && ((kdL.all fun T => decide (PySem.W.kitOne K (.ref C) (.type (kdN T)) = some false)) &&
  ((kdL.all fun T => decide (PySem.W.kitOne K (.type (kdN T)) (.ref C) = some false)) && decide (PySem.W.kitOne K (.ref C) (.ref C) = some true)))))))
theorem ocB_ok {K : PySem.W.Frag} {C : Addr} (h : ocB K C = true) : OC K C := by
  obtain ⟨h1, h⟩ := ba h
  obtain ⟨a1, h1⟩ := ba h1
  obtain ⟨a2, h1⟩ := ba h1
  obtain ⟨a3, a4⟩ := ba h1
  obtain ⟨h2, h⟩ := ba h
  obtain ⟨h3, h⟩ := ba h
  obtain ⟨h4, h⟩ := ba h
  obtain ⟨h5, h⟩ := ba h
  obtain ⟨h6, h⟩ := ba h
  obtain ⟨h7, h8⟩ := ba h
  exact ⟨⟨a1, a2, a3, eqO_ok a4⟩, eqO_ok h2, eqO_ok h3, of_decide_eq_true h4, of_decide_eq_true h5, fun T => of_decide_eq_true (List.all_eq_true.mp h6 T (kdL_all T)), fun T => of_decide_eq_true (List.all_eq_true.mp h7 T (kdL_all T)), of_decide_eq_true h8⟩
theorem OC.ty {K : PySem.W.Frag} {C : Addr} (c : OC K C) {H : Hp} {a dx : Addr} {fs : List (Str × V)} (h : H a = some (.ins C dx fs)) : TyX K H (.ref a) (.ref C) := .base (.ins h c.cl c.ca c.hn c.tk c.ob)
/-- an instance as a thing -/
theorem OC.th {K : PySem.W.Frag} {C : Addr} (c : OC K C) {H : Hp} {a dx : Addr} {fs : List (Str × V)} (h : H a = some (.ins C dx fs)) : ThOk K H (.ref a) .o := ⟨.ref C, c.ty h, c.to⟩
theorem OC.isD {K : PySem.W.Frag} {C : Addr} (c : OC K C) (d : PyData) : PySem.W.kitOne K (.type (tyn d)) (.ref C) = some false := c.of (kd d)
/-! ### calls of methods, of static methods; making -/
def tMethE (C : Addr) (m : Str) (sp : Sp) (E : L2.St → XK) (ta : TE) (t : TA) : TE := fun σ H Q => ta σ H fun x H1 => ∃ a dx fs, x = .ref a ∧ H1 a = some (.ins C dx fs) ∧ fs.lookup m = none ∧ t σ H1 fun vs H2 => sp (x :: vs) H2 Q (E σ)
def tMakeE (C : Addr) (sp : Sp) (E : L2.St → XK) (t : TA) : TE := fun σ H Q => t σ H fun vs H1 => ∀ x dx, H1 x = Option.none → H1 dx = Option.none → dx ≠ x →
  sp (V.ref x :: vs) (upd (upd H1 dx (.own x)) x (.ins C dx [])) (fun v H2 => v = .non ∧ Q (.ref x) H2) (E σ)
def tSm (C : Addr) (sp : Sp) (E : L2.St → XK) (ta : TE) (t : TA) : TE := fun σ H Q => ta σ H fun x H1 => x = .ref C ∧ t σ H1 fun vs H2 => sp vs H2 Q (E σ)
structure Sm (K : PySem.W.Frag) (C : Addr) (m : Str) (f : Addr) : Prop where
  rd : CRead K C (.type "type")
  at_ : ∃ p, PySem.W.findCls K (.ref C) (.type "type") m = some (.get (.builtin "staticmethod.__get__") (.ref p) .none (.ref C)) ∧ ∃ rest, PySem.W.recIn K p "staticmethod" = some (.ref f :: rest)
  kp : PySem.W.keepIn K (.ref f) = true
def smB (K : PySem.W.Frag) (C : Addr) (m : Str) : Bool := PySem.W.readsIn K C (.type "type") && (eqO (PySem.W.specialIn K (.ref C) "__getattribute__") (some (some (.builtin "type.__getattribute__"))) &&
  (He5.wrapB K C "staticmethod" "staticmethod.__get__" m && PySem.W.keepIn K (.ref (He5.wf K C "staticmethod" m))))
theorem smB_ok {K : PySem.W.Frag} {C : Addr} {m : Str} (h : smB K C m = true) : Sm K C m (He5.wf K C "staticmethod" m) := by
  obtain ⟨h1, h⟩ := ba h
  obtain ⟨h2, h⟩ := ba h
  obtain ⟨h3, h4⟩ := ba h
  obtain ⟨k1, k2⟩ := He5.wrapB_ok h3
  exact ⟨⟨h1, eqO_ok h2⟩, ⟨_, k1, k2⟩, h4⟩
section
variable {X : Cx} {CX : CXT} {k : Nat} {C f : Addr} {m x : Str} {sp : Sp} {E : L2.St → XK} {o e : Expr} {es : List Expr} {ta : TE} {t : TA} {p apos pos : Pos} {pl : Sem Bool}
theorem pe_methE (he : PE X o ta) (c : Cls X.K C) (hm : Meth X.K C m f) (F : FnR X.prog X.w X.K X.mg X.base CX k f sp) (hr : Room k X.A) (hx : ∀ σ, PassesAt CX X σ (E σ)) (ha : PA X (e :: es) t)
    (hst : starEach (e :: es) X.env = (false, eval e X.env) :: starEach es X.env := by rfl) (hpl : (backTo pos (starEach es X.env)).any (·.1) = false := by rfl)
    (ht : eval (.Call (.Attribute o m apos) (e :: es) [] pos) X.env = (do
      let ov ← eval o X.env
      standAt apos.atName
      let (f, first) ← holding [ov] (getMethod ov m pl)
      callWith pos f first (backTo pos (starEach (e :: es) X.env)) (backToKw pos (keywordEach [] X.env))) := by rfl) :
    PE X (.Call (.Attribute o m apos) (e :: es) [] pos) (tMethE C m sp E ta t) := by
  refine ⟨fun pins s σ H Q I h => ?_⟩
  refine PySem.W.methodCall_KW (pl := pl) (thn (he.run pins s σ H _ I h) fun u s1 ⟨x, H1, I1, rx, a, dx, fs, ex, ea, l, q⟩ => ?_) ht
  subst ex
  obtain rfl : u = Value.ref a := rx
  refine getmeth_ok I1 ea c hm l ?_
  refine PySem.W.callWith_K (first := [.ref a]) (h₀ := X.base) I.ok.mod.kin hm.kp (thn (ha.run pos pins s1 σ H1 _ I1 q) fun us s2 ⟨vs, H2, I2, r, q2⟩ => ⟨I2.kIn, ?_⟩) hst hpl
  exact run_fnRS (us := .ref a :: us) (vs := .ref a :: vs) F hr (hx σ) I2 (.cons rfl r) q2
theorem pe_methE0 (he : PE X o ta) (c : Cls X.K C) (hm : Meth X.K C m f) (F : FnR X.prog X.w X.K X.mg X.base CX k f sp) (hr : Room k X.A) (hx : ∀ σ, PassesAt CX X σ (E σ))
    (ht : eval (.Call (.Attribute o m apos) [] [] pos) X.env = (do
      let ov ← eval o X.env
      standAt apos.atName
      let (f, first) ← holding [ov] (getMethod ov m pl)
      callWith pos f first (backTo pos (starEach [] X.env)) (backToKw pos (keywordEach [] X.env))) := by rfl) :
    PE X (.Call (.Attribute o m apos) [] [] pos) (tMethE C m sp E ta tNil) := by
  refine ⟨fun pins s σ H Q I h => ?_⟩
  refine PySem.W.methodCall_KW (pl := pl) (thn (he.run pins s σ H _ I h) fun u s1 ⟨x, H1, I1, rx, a, dx, fs, ex, ea, l, q⟩ => ?_) ht
  subst ex
  obtain rfl : u = Value.ref a := rx
  refine getmeth_ok I1 ea c hm l ?_
  exact PySem.W.callWith_K0 (first := [.ref a]) I1.kIn hm.kp (run_fnRS (us := [.ref a]) (vs := [.ref a]) F hr (hx σ) I1 (.cons rfl .nil) q)
theorem pe_smE (he : PE X o ta) (c : Sm X.K C m f) (F : FnR X.prog X.w X.K X.mg X.base CX k f sp) (hr : Room k X.A) (hx : ∀ σ, PassesAt CX X σ (E σ)) (ha : PA X (e :: es) t)
    (hst : starEach (e :: es) X.env = (false, eval e X.env) :: starEach es X.env := by rfl) (hpl : (backTo pos (starEach es X.env)).any (·.1) = false := by rfl)
    (ht : eval (.Call (.Attribute o m apos) (e :: es) [] pos) X.env = (do
      let ov ← eval o X.env
      standAt apos.atName
      let (f, first) ← holding [ov] (getMethod ov m pl)
      callWith pos f first (backTo pos (starEach (e :: es) X.env)) (backToKw pos (keywordEach [] X.env))) := by rfl) :
    PE X (.Call (.Attribute o m apos) (e :: es) [] pos) (tSm C sp E ta t) := by
  refine ⟨fun pins s σ H Q I h => ?_⟩
  refine PySem.W.methodCall_KW (pl := pl) (thn (he.run pins s σ H _ I h) fun u s1 ⟨x, H1, I1, rx, ex, q⟩ => ?_) ht
  subst ex
  obtain rfl : u = Value.ref C := rx
  obtain ⟨pa, h1, rest, h2⟩ := c.at_
  refine PySem.W.method_cls I1.kIn c.rd.ga (PySem.W.cls_bind I1.kIn c.rd.rd h1 ?_)
  refine wpAny_call (PySem.W.sm_get (s := { s1 with toks := s1.toks + 1 }) I1.kIn h2 (PySem.W.handed_on rfl ?_))
  have I2 := I1.tok (s1.toks + 1)
  refine PySem.W.callWith_K (first := []) (h₀ := X.base) I.ok.mod.kin c.kp (thn (ha.run pos pins _ σ H1 _ I2 q) fun us s2 ⟨vs, H2, I3, r, q2⟩ => ⟨I3.kIn, ?_⟩) hst hpl
  exact run_fnRS (us := us) (vs := vs) F hr (hx σ) I3 r q2
theorem run_makeE {pins : List (Addr × Obj)} {σ : L2.St} {H : Hp} {s : Shared} {Q : VK} {us : List Value} {vs : List V} (M : Mk X.K C f) (F : FnR X.prog X.w X.K X.mg X.base CX k f sp) (hr : Room (k + 1) X.A) (hx : PassesAt CX X σ (E σ)) (I : Inv X pins σ H s) (r : Vals vs us)
    (h : ∀ x dx, H x = Option.none → H dx = Option.none → dx ≠ x → sp (V.ref x :: vs) (upd (upd H dx (.own x)) x (.ins C dx [])) (fun v H2 => v = .non ∧ Q (.ref x) H2) (E σ)) :
    wpAny (model X.prog X.w) X.A (call (.ref C) us) (EP X pins σ Q) X.xe s := by
  have hq := h (s.heap.objs.size + 1) s.heap.objs.size (I.hok.fresh (Nat.le_succ _)) (I.hok.fresh (Nat.le_refl _)) (Nat.ne_of_lt (Nat.lt_succ_self _))
  have I2 := Inv.made (C := C) I
  have r2 : Vals (V.ref (s.heap.objs.size + 1) :: vs) (Value.ref (s.heap.objs.size + 1) :: us) := .cons rfl r
  refine wpAny_call (make_map (f := f) I.kIn M.makes M.init (beq_iff_eq.mp M.fn) (codeAny_mono (F _ X.stack _ _ (Value.ref (s.heap.objs.size + 1) :: us) _ _ (E σ) (hr.make C us []) (I2.env0.make C us []) r2 hq) fun r s' hq' => ?_))
  cases r with
  | error e => exact hx pins _ _ e s' I2 hq'
  | ok fl =>
    cases fl with
    | ret u =>
      obtain ⟨v, H', I3, rv, ev, q3⟩ := I2.after hq'
      subst ev
      exact ⟨rv, ⟨V.ref (s.heap.objs.size + 1), H', I3, rfl, q3⟩⟩
    | next => exact False.elim hq'
    | brk => exact False.elim hq'
    | cont => exact False.elim hq'
theorem pe_makeE (M : Mk X.K C f) (F : FnR X.prog X.w X.K X.mg X.base CX k f sp) (hr : Room (k + 1) X.A) (hm : X.mg x = some (.ref C)) (hx : ∀ σ, PassesAt CX X σ (E σ)) (ha : PA X (e :: es) t) (hg : Gl X x := by rfl) (hdb : (x == ("__debug__" : Str)) = false := by decide)
    (he : starEach (e :: es) X.env = (false, eval e X.env) :: starEach es X.env := by rfl) (hpl : (backTo pos (starEach es X.env)).any (·.1) = false := by rfl) : PE X (.Call (.Name x p) (e :: es) [] pos) (tMakeE C sp E t) := by
  refine ⟨fun pins s σ H Q I h => ?_⟩
  refine wpAny_Call_Name_kw (ld_glob I hg hm ?_ hdb)
  refine PySem.W.callWith_K (h₀ := X.base) I.ok.mod.kin M.kp (thn (ha.run pos pins s σ H _ I h) fun us s1 ⟨vs, H1, I1, r, q⟩ => ⟨I1.kIn, ?_⟩) he hpl
  exact run_makeE M F hr (hx σ) I1 r q
end
/-- nothing is let out -/
theorem px0 {X : Cx} : ∀ σ, PassesAt CX0 X σ ((fun _ => E0) σ) := fun _ _ _ _ _ _ _ h => h.elim
theorem pxq {X : Cx} : ∀ σ, PassesAt (L2.CX X.prog X.w) X σ ((fun _ => E0) σ) := fun σ pins H s e s' I h => passL pins σ H s e s' I h
theorem pxx {X : Cx} {W : WX} (tk : Takes X W) : ∀ σ, PassesAt (L2.CX X.prog X.w) X σ (WE W σ) := fun σ => passAt tk σ
/-! from a def's body to its promise, wherever it stands -/
section
variable {P : Program} {w : World} {K : PySem.W.Frag} {mg : Str → Option Value} {base : Heap} {CX : CXT} {k : Nat} {x qual : Str} {sp : Sp} {params : Arguments} {body : List Stmt} {scope : Scope} {f : Addr} {fd : FuncData} {ps N : List Str}
theorem fnN (F : FunD K x qual params body scope [] [] f fd)
    (hb : ∀ (kV doc pm : Value) (an : Option Addr) (cdv ct : Value) (us : List Value), us.length = ps.length → bindArgs (PySem.W.fnOf x qual params body scope .none kV doc pm an cdv ct) ⟨us, []⟩ = pure (ps.zip us))
    (S : FnScope N ps scope) (len : ∀ vs H Q E, sp vs H Q E → vs.length = ps.length)
    (hbody : ∀ (cdv : Value) (A : Around) (outer : List Env) (s : Shared) (H : Hp) (vs : List V) (Q : VK) (E : XK), Room k (A.deeper (envOfC qual scope s.heap.objs.size f cdv)) → sp vs H Q E →
      ∃ t, PSs (cxOf CX P w K mg base N qual scope f cdv A outer s H E) body t ∧ t { nx := fun _ H' => Q .non H', rt := Q } (start N vs) H) : FnR P w K mg base CX (k + 1) f sp :=
  ((F.ok S len hbody).raw (F.bindsN hb) .nil).imp fun vs H Q E h => by rw [List.append_nil]; exact h
end
end EL
namespace EX
open PySem PySem.W PySem.Calls PyProof.Rows PySem.HandSPX
/-! ### an own error with a field: super().__init__('..'); self.f = f -/
def xiB (fl msg : Str) (j : Nat) (p0 p1 p2 p3 p4 p5 q1 q2 q3 q4 : Pos) : List Stmt :=
  [.Expr (.Call (.Attribute (.Call (.Name "super" p0) [] [] p1) "__init__" p2) [.Constant (.str msg) j p3] [] p4) p5, .Assign [.Attribute (.Name "self" q1) fl q2] (.Name fl q3) q4]
/-- its head and its scope -/
structure XSc (params : Arguments) (scope : Scope) (fl : Str) : Prop where
  bind : ∀ (name q : Str) (body : List Stmt) (doc pm : Value) (an : Option Addr) (cdv ct : Value) (cc : Addr) (u v : Value), bindArgs (ksFn name q params body scope .none .none doc pm an cdv ct cc) ⟨[u, v], []⟩ = pure [(("self" : Str), u), (fl, v)]
  head : ∃ ar : Arg, (params.posonlyargs ++ params.args).head? = some ar ∧ ar.arg = "self"
  ks : scope.names.lookup ("super" : Str) = some .globalImplicit
  kc : scope.names.lookup ("__class__" : Str) = some .free
  kself : scope.names.lookup ("self" : Str) = some .local
  kf : scope.names.lookup fl = some .local
  kind : scope.kind = .function
  ncell : ∀ x ∈ scope.names, x.2 ≠ .cell
  co : scope.isCoroutine = false
  gen : scope.isGenerator = false
  ne : fl ≠ "self"
  dbg : (fl == ("__debug__" : Str)) = false
/-- what the written part says of the class at C and of its __init__ at fI -/
structure XTxt (K : Frag) (C fI cc cda : Addr) (fl file : Str) : Prop where
  cls : ∃ nm q N bs bm sn sub ab col dd k0 k1 k2 k3 k5, K.lookup C = some (excClassObj nm q C N bs bm true sn sub ab col dd k0 k1 k2 k3 k5 "ValueError.__new__") ∧ refsVE bm = true
  sa : findIn K (.ref C) "__setattr__" = some (some (.builtin "object.__setattr__"))
  noN : findIn K (.ref C) fl = some none
  iC : findIn K (.ref C) "__init__" = some (some (.ref fI))
  tC : typeIn K (.ref fI) = some (.type "function")
  ve : subIn K (.ref C) (.type "ValueError") = some true
  self : mroIn K C (.ref C) = some true
  sup : ks_superIn K C C "__init__" = some (some (.builtin "ValueError.__init__"))
  tp : nsIn K cStatics "thirdparty.any" = some none
  cell : ∃ cl cld csl, K.lookup cc = some ⟨cl, cld, .cell (some (.ref C)), csl⟩
  code : ∃ ccl cdd vs ccs tf, K.lookup cda = some ⟨ccl, cdd, .fields vs, ccs⟩ ∧ vs[2]? = some (.str file tf)
  fn : ∃ (oc : Value) (od : Option Addr) (doc pm : Value) (an : Option Addr) (ct : Value) (osl : Array (Option Value)) (q : Str) (params : Arguments) (scope : Scope) (msg : Str) (j : Nat) (p0 p1 p2 p3 p4 p5 q1 q2 q3 q4 : Pos),
    K.lookup fI = some ⟨oc, od, .func (ksFn "__init__" q params (xiB fl msg j p0 p1 p2 p3 p4 p5 q1 q2 q3 q4) scope .none .none doc pm an (.ref cda) ct cc), osl⟩ ∧ codeIn K (.ref cda) q = true ∧ XSc params scope fl ∧ (p2.endLine == p4.line) = true
/-- what __init__ leaves of a fresh exception at x -/
structure InitEnd (h h' : Heap) (x C dx t1 : Addr) (fl : Str) (v : Value) : Prop where
  keep : ∀ b o, b ≠ x → h.get? b = some o → h'.get? b = some o
  obj : h'.get? x = some { cls := .ref C, dict := some dx, data := .fields #[.ref t1, .none, .none, .none, .bool false, .none] }
  dbig : h.objs.size ≤ dx
  dne : dx ≠ x
  ns : h'.Ns1 dx (fun y => if y = fl then some v else none)
structure OwnMade (h h' : Heap) (e C d : Addr) (fl : Str) (v : Value) : Prop where
  keep : ∀ b o, h.get? b = some o → h'.get? b = some o
  new : h.objs.size ≤ e
  obj : ∃ oe vs, h'.get? e = some oe ∧ oe.cls = .ref C ∧ oe.dict = some d ∧ oe.data = .fields vs ∧ vs[1]? = some .none
  dbig : h.objs.size ≤ d
  dne : d ≠ e
  ns : h'.Ns1 d (fun y => if y = fl then some v else none)
theorem meth_eq {o e : Expr} {name : Str} {p2 p4 : Pos} {env : Env} (hl : (p2.endLine == p4.line) = true) : eval (.Call (.Attribute o name p2) [e] [] p4) env = (do
      let ov ← attributeBase o name env (eval o env)
      standAt p2.atName
      let (f, first) ← holding [ov] (calleeOf (methodCallForm 1 (backTo p4 (starEach [e] env)) []) o env ov name)
      callWith p4 f first (backTo p4 (starEach [e] env)) []) := by
  show (attributeBase o name env (eval o env) >>= fun ov => standAt p2.atName >>= fun _ => methodCall o name p2 p4 env ov 1 (backTo p4 (starEach [e] env)) []) = _
  have x : ∀ ov, methodCall o name p2 p4 env ov 1 (backTo p4 (starEach [e] env)) [] = (holding [ov] (calleeOf (methodCallForm 1 (backTo p4 (starEach [e] env)) []) o env ov name) >>= fun z => callWith p4 z.1 z.2 (backTo p4 (starEach [e] env)) []) := fun ov => by
    unfold methodCall methodCallPos
    simp only [hl, Bool.or_true, if_true, pure_bind]
  simp only [x]
section
variable {prog : Program} {w : World} {A : Around} {E : Value → Shared → Prop} {R : Result → Shared → Prop} {s : Shared} {K : Frag} {C fI cc cda : Addr} {fl file : Str} {mg mb : Str → Option Value}
/-- the wrapper of ValueError.__init__ called -/
theorem call_mw {h : Heap} {g : Array GenState} {d : Drawn} {t : Nat} {os : OsState} {u e t0 : Addr} {rest : List Value} {Q : Value → Shared → Prop}
    (hC : ∃ nm q N bs bm sn sub ab col dd k0 k1 k2 k3 k5, h.get? C = some (excClassObj nm q C N bs bm true sn sub ab col dd k0 k1 k2 k3 k5 "ValueError.__new__")) (he : h.get? e = some (excO C t0)) (hu : h.get? u = some (kxs_mw "ValueError.__init__" e)) (hrest : rest.length ≤ sizeLine)
    (hq : ∀ h' t1, (∀ b o, b ≠ e → h.get? b = some o → h'.get? b = some o) → h'.get? e = some (excO C t1) → Q .none ⟨h', g, d, t, os⟩) :
    wpAny (model prog w) A (call (.ref u) rest) Q E ⟨h, g, d, t, os⟩ := by
  obtain ⟨nm, q, N, bs, bm, sn, sub, ab, col, dd, k0, k1, k2, k3, k5, hC⟩ := hC
  refine wpAny_call (codeAny_of_tree ?_)
  show wpAny _ A.in1 (callAny (.ref u) ⟨rest, []⟩) _ _ _
  simp only [callAny]
  refine wpAny_bind (wpAny_load hu ?_)
  simp only [kxs_mw, show (Value.type "method-wrapper" == Value.type "method" || Value.type "method-wrapper" == Value.type "builtin_function_or_method" || Value.type "method-wrapper" == Value.type "method-wrapper") = true by decide, if_true]
  refine KFB.if_so (by decide) ?_
  refine wpAny_bind (check_bound_init F.excBase_ValueError.toExcCallFacts hC he rfl ?_)
  refine wpAny_bind (wpAny_pure (wpAny_pure ?_))
  refine ⟨plainId_quiet F.excBase_ValueError.init.plain _, codeAny_builtin F.excBase_ValueError.initEntry ?_⟩
  exact exc_init_tree (cls := .ref C) (t0 := t0) (dv := none) (c2 := .none) (c3 := .none) (b4 := .bool false) he hrest fun h' k e' _ => hq h' _ k e'
theorem kept_but {h h' : Heap} {x : Addr} (X : K.In h) (hx : K.lookup x = none) (k : ∀ b o, b ≠ x → h.get? b = some o → h'.get? b = some o) : K.In h' := fun a o e =>
  k a o (fun z => by rw [z, hx] at e; cases e) (X a o e)
theorem xf_init (T : XTxt K C fI cc cda fl file) {x t0 : Addr} {v : Value} (X : K.In s.heap) (hlim : s.heap.NoLimit) (hx : s.heap.get? x = some (excO C t0)) (hnx : K.lookup x = none) (hroom : A.depth < recursionLimit)
    (G : s.heap.Ns mainGlobals mg) (hsu : mg "super" = none) (Bn : s.heap.Ns builtinsNs mb) (hb : mb "super" = some (.type "super")) (hfile : ((prog.main.file : Str) == file) = true) (htop : (prog.main.scope.names.lookup ("super" : Str)).isSome = false)
    (hq : ∀ h' tk dx t1, InitEnd s.heap h' x C dx t1 fl v → R (.ok (.ret .none)) { s with heap := h', toks := tk }) :
    codeAny (model prog w) A (.call (.ref fI) ⟨[.ref x, v], []⟩) R s := by
  obtain ⟨oc, od, doc, pm, an, ct, osl, q, params, scope, msg, j, p0, p1, p2, p3, p4, p5, q1, q2, q3, q4, ho, hcd, S, hl⟩ := T.fn
  obtain ⟨nm, cq, N, bs, bm, sn, sub, ab, col, dd, k0, k1, k2, k3, k5, hC, hbm⟩ := T.cls
  obtain ⟨cl, cld, csl, hcell⟩ := T.cell
  obtain ⟨ccl, cdd, vs, ccs, tf, hcode, hvs⟩ := T.code
  obtain ⟨ar, har, hara⟩ := S.head
  have hcl : clsIn K C = some { name := nm, bases := bs, mro := .ref C :: bm, ns := N, qualname := cq, hasDict := true, slotNames := sn, subclasses := sub, abstract := ab, collection := col, hasDel := false } := by unfold clsIn; rw [hC] <;> rfl
  refine ks_codeAny_call_defAt (fd := ksFn "__init__" q params (xiB fl msg j p0 p1 p2 p3 p4 p5 q1 q2 q3 q4) scope .none .none doc pm an (.ref cda) ct cc) (binds := [(("self" : Str), .ref x), (fl, v)]) hroom (X _ _ ho) rfl hlim (codeRec_of X hcd) rfl (BindsTo.of_eq (S.bind ..)) S.ncell ?_ (fun h₁ hn k => ?_) S.co S.gen S.kind
  · intro y hy
    rcases List.mem_cons.mp hy with rfl | hy
    · exact S.kself
    · rcases List.mem_cons.mp hy with rfl | hy
      · exact S.kf
      · cases hy
  have vself : ([(("self" : Str), Value.ref x), (fl, v)] : List (Str × Value)).reverse.lookup ("self" : Str) = some (.ref x) := by
    show List.lookup ("self" : Str) [(fl, v), (("self" : Str), Value.ref x)] = _
    have e : (("self" : Str) == fl) = false := by simpa using Ne.symm S.ne
    simp [List.lookup, e]
  have vfl : ([(("self" : Str), Value.ref x), (fl, v)] : List (Str × Value)).reverse.lookup fl = some v := by
    show List.lookup fl [(fl, v), (("self" : Str), Value.ref x)] = _
    simp [List.lookup]
  obtain ⟨hh, g, d, t, os⟩ := s
  dsimp only at hn k X hlim hx G Bn
  have X₁ : K.In h₁ := X.keeps k
  have hx₁ := k _ _ hx
  show _root_.PySem.wpAt _ _ (.func _ (ksEnv q scope hh.objs.size fI (.ref cda) cc)) (execs (xiB fl msg j p0 p1 p2 p3 p4 p5 q1 q2 q3 q4) (ksEnv q scope hh.objs.size fI (.ref cda) cc)) _ _ _
  refine ks_wpAt_execs_cons (ks_wpAt_Expr_any (ks_wpAt_MethodCall ?_ (meth_eq hl)) (by unfold interactive; simp [S.kind]))
  refine ks_wpAt_super_base (env := ksEnv q scope hh.objs.size fI (.ref cda) cc) S.ks S.kc (by decide) rfl (X₁ _ _ ho) rfl har rfl (X₁ _ _ hcode) rfl hvs hfile htop ?_
  refine ks_loadName_global S.kind S.ks (loadGlobal_builtin (env := ksEnv q scope hh.objs.size fI (.ref cda) cc) (G.keeps k) hsu (Bn.keeps k) hb ⟨rfl, ?_⟩)
  refine wpAny_loadName_free S.kind S.kc rfl ⟨_, X₁ _ _ hcell, rfl⟩ ?_
  rw [hara]
  refine wpAny_loadName_local S.kind S.kself hn vself ?_
  refine ks_wpAny_isType_cls (X₁ _ _ hC) rfl ⟨rfl, ?_⟩
  refine ks_wpAny_call_super (X₁ _ _ hC) rfl hx₁ rfl (fun c e => by cases e) (looks_mroIn X₁ T.self) (fun h₂ e₂ k₂ => ?_)
  have X₂ : K.In h₂ := X₁.keeps k₂
  have hx₂ := k₂ _ _ hx₁
  have I₂ : InstAt h₂ x (excO C t0) C none := ⟨hx₂, rfl, rfl, trivial⟩
  have hI : Looks (model prog w) h₂ (isInstance (.ref x) (.type "ValueError")) true := I₂.type.andThen (looks_subIn X₂ T.ve)
  have hsp := T.sup
  unfold ks_superIn at hsp
  rw [hcl] at hsp
  refine kxs_getMethod kxs_ValueError e₂ (looks_opaque X₂ T.tp) (l₀ := .ref C :: bm) (fun A Q E s k q => wpAny_bind ((looks_clsIn X₂ hcl) A _ E s k (wpAny_pure q))) rfl X₂ hsp hI (ks_ne X₂ I₂ hcl) (by decide) ?_
  have hu₃ : (h₂.push (kxs_mw "ValueError.__init__" x)).get? h₂.objs.size = some (kxs_mw "ValueError.__init__" x) := Heap.get?_push_at rfl rfl
  have k₃ : ∀ b o, h₂.get? b = some o → (h₂.push (kxs_mw "ValueError.__init__" x)).get? b = some o := fun b o e => Heap.get?_push_of_some _ e
  dsimp only
  refine kxs_callWith (i := "ValueError.__init__") (x := x) rfl ?_
  refine evalArgs_plain (spliced_cons (wpAny_Constant_str (k := j) (pos := p3) (spliced_nil ⟨hu₃, ?_⟩)))
  have hxL : hh.objs.size ≠ x := Nat.ne_of_gt (Heap.lt_size hx)
  refine call_mw (C := C) (e := x) (t0 := t0) ⟨nm, cq, N, bs, bm, sn, sub, ab, col, dd, k0, k1, k2, k3, k5, k₃ _ _ (X₂ _ _ hC)⟩ (k₃ _ _ hx₂) hu₃ (by show 1 ≤ sizeLine; decide) fun h₄ t1 k₄ hx₄ => ?_
  have X₄ : K.In h₄ := kept_but (X₂.keeps k₃) hnx k₄
  have k04 : ∀ b o, b ≠ x → hh.get? b = some o → h₄.get? b = some o := fun b o hbx e => k₄ b o hbx (k₃ b o (k₂ b o (k b o e)))
  obtain ⟨oL, es, ep, hL, rr⟩ := hn
  have hn₄ : h₄.Ns hh.objs.size (fun x_1 => ([(("self" : Str), Value.ref x), (fl, v)] : List (Str × Value)).reverse.lookup x_1) := ⟨oL, es, ep, k₄ _ _ hxL (k₃ _ _ (k₂ _ _ hL)), rr⟩
  have z1 : hh.objs.size < h₄.objs.size := hn₄.lt
  refine ks_wpAt_execs_cons (wpAt_of_wpAny (plainObj_wpAny_Assign_Attribute ?_))
  refine wpAny_Name (wpAny_loadName_local S.kind S.kf hn₄ vfl ?_) S.dbg
  refine wpAny_Name (wpAny_loadName_local S.kind S.kself hn₄ vself ?_) (by decide)
  refine set_plain X₄ (ox := excO C t1) (od := none) ⟨hx₄, rfl, rfl, trivial⟩ T.sa ?_
  refine exc_osa X₄ hx₄ hcl (show refsVE (.ref C :: bm) = true from hbm) rfl T.noN (fun h₅ tk₅ dx k₅ dn dne hx₅ hn₅ => ?_)
  refine wpAt_of_wpAny (wpAny_execs_nil ?_)
  exact hq h₅ tk₅ dx t1 ⟨fun b o hbx e => k₅ b o hbx (k04 b o hbx e), hx₅, Nat.le_of_lt (Nat.lt_of_lt_of_le z1 dn), dne, hn₅⟩
theorem xf_made (T : XTxt K C fI cc cda fl file) {v : Value} (X : K.In s.heap) (hlim : s.heap.NoLimit) (hroom : A.depth + 1 < recursionLimit)
    (G : s.heap.Ns mainGlobals mg) (hsu : mg "super" = none) (Bn : s.heap.Ns builtinsNs mb) (hb : mb "super" = some (.type "super")) (hfile : ((prog.main.file : Str) == file) = true) (htop : (prog.main.scope.names.lookup ("super" : Str)).isSome = false)
    (hq : ∀ h' tk e d, OwnMade s.heap h' e C d fl v → R (.ok (.ret (.ref e))) { s with heap := h', toks := tk }) :
    codeAny (model prog w) A (.call (.ref C) ⟨[v], []⟩) R s := by
  obtain ⟨nm, q, N, bs, bm, sn, sub, ab, col, dd, k0, k1, k2, k3, k5, hC, hbm⟩ := T.cls
  obtain ⟨hp, g, dr, tk, os⟩ := s
  have k : ∀ b o, hp.get? b = some o → ((hp.push (kdv_tup [v])).push (excO C hp.objs.size)).get? b = some o := fun b o e => Heap.get?_push_of_some _ (Heap.get?_push_of_some _ e)
  have hget : ((hp.push (kdv_tup [v])).push (excO C hp.objs.size)).get? (hp.objs.size + 1) = some (excO C hp.objs.size) := by heap_get
  have hnx : K.lookup (hp.objs.size + 1) = none := by
    cases e : K.lookup (hp.objs.size + 1) with
    | none => rfl
    | some o =>
      have z : hp.get? (hp.objs.size + 1) = some o := X _ _ e
      exact absurd (Nat.lt_of_succ_lt (Heap.lt_size z)) (Nat.lt_irrefl _)
  refine call_own F.excBase_ValueError (fun X => refsVE_contains X bm hbm) (X _ _ hC) (looks_findIn X T.iC) (fun self => bind_fn X self T.tC) (by show 1 ≤ sizeLine; decide) ?_
  refine xf_init (s := ⟨(hp.push (kdv_tup [v])).push (excO C hp.objs.size), g, dr, tk, os⟩) T (X.keeps k) (hlim.keeps k) hget hnx ?_ (G.keeps k) hsu (Bn.keeps k) hb hfile htop fun h' tk' dx t1 ⟨k', hx, dn, dne, hns⟩ => ?_
  · show A.depth + 1 < recursionLimit
    exact hroom
  · have old : ∀ b o, hp.get? b = some o → h'.get? b = some o := fun b o e => k' b o (Nat.ne_of_lt (Nat.lt_succ_of_lt (Heap.lt_size e))) (k b o e)
    have z : hp.objs.size + 1 + 1 ≤ dx := by
      first
        | (simpa only [Heap.size_push] using dn)
        | exact dn
        | (have q := dn; rw [Heap.size_push, Heap.size_push] at q; exact q)
    exact ⟨rfl, hq h' tk' (hp.objs.size + 1) dx ⟨old, Nat.le_succ _, ⟨_, _, hx, rfl, rfl, rfl, rfl⟩, Nat.le_trans (Nat.le_trans (Nat.le_succ _) (Nat.le_succ _)) z, dne, hns⟩⟩
end
end EX
namespace EL
open PySem PySem.Spec PyProof.Rows L2 He TL
/-- the program's file, no own super -/
structure PF (P : Program) (file : Str) : Prop where
  file : ((P.main.file : Str) == file) = true
  top : (P.main.scope.names.lookup ("super" : Str)).isSome = false
/-- an own error with the field fl -/
structure XT (K : PySem.W.Frag) (mg : Str → Option Value) (x fl file : Str) : Prop where
  t : ∃ cc cda, EX.XTxt K (ga K x) (ma K (ga K x) "__init__") cc cda fl file
  g : mg x = some (.ref (ga K x))
  su : mg "super" = none
  kp : PySem.W.keepIn K (.ref (ga K x)) = true
  ex : PySem.W.subIn K (.ref (ga K x)) (.type "BaseException") = some true
  ty : PySem.W.typeIn K (.ref (ga K x)) = some (.type "type")
theorem relO_one {fl : Str} {v : V} {v' : Value} (r : RelV v v') (f : Str) : RelO (List.lookup f [(fl, v)]) (if f = fl then some v' else none) := by
  by_cases hw : f = fl
  · subst hw
    rw [if_pos rfl]
    have q : List.lookup f [(f, v)] = some v := by simp [List.lookup]
    rw [q]
    exact r
  · rw [if_neg hw]
    have qw : (f == fl) = false := by simpa using hw
    have q2 : List.lookup f [(fl, v)] = none := by simp [List.lookup, qw]
    rw [q2]
    trivial
section
variable {X : Cx} {x fl file : Str}
def tMkX (C : Addr) (fl : Str) (ta : TA) : L2.St → Hp → XK → Prop := fun σ H Q => ta σ H fun vs H1 => ∃ v, vs = [v] ∧ ∀ d, H1 d = none → Q (.ref C) (some d) (upd H1 d (.xd [(fl, v)]))
theorem pmk_xf {a : Expr} {ta : TA} {p pos : Pos} {k : Nat} (hP : PF X.prog file) (T : XT X.K X.mg x fl file) (hr : Room k X.A) (ha : PA X [a] ta) (hg : Gl X x := by rfl) (hdb : (x == ("__debug__" : Str)) = false := by decide)
    (he : starEach (a :: []) X.env = (false, eval a X.env) :: starEach [] X.env := by rfl) (hpl : (backTo pos (starEach [] X.env)).any (·.1) = false := by rfl) :
    PMk X (.Call (.Name x p) [a] [] pos) (tMkX (ga X.K x) fl ta) := by
  intro pins s σ H Q I h
  refine wpAny_Call_Name_kw (ld_glob I hg T.g ?_ hdb)
  refine PySem.W.callWith_K (h₀ := X.base) I.ok.mod.kin T.kp (thn (ha.run pos pins s σ H _ I h) fun us s1 hh => ?_) he hpl
  obtain ⟨vs, H1, I1, r1, v, ev, q1⟩ := hh
  subst ev
  refine ⟨I1.kIn, ?_⟩
  cases r1 with
  | cons rv rn =>
    rename_i v' us'
    cases rn
    show wpAny _ _ (call (.ref (ga X.K x)) [v']) _ _ _
    have hlim := I1.nolimit
    obtain ⟨cc, cda, TT⟩ := T.t
    obtain ⟨mb, hmb, hmb2⟩ := I1.mod.blt
    have G1 : s1.heap.Ns mainGlobals X.mg := I1.mod.glob.keeps I1.bk
    have B1 : s1.heap.Ns builtinsNs mb := hmb.keeps I1.bk
    have hsu : mb "super" = some (.type "super") := (hmb2 _ (by decide +kernel)).trans (by decide +kernel)
    obtain ⟨hp, g, dr, tk, os⟩ := s1
    refine wpAny_call (EX.xf_made TT I1.kIn hlim (by have := hr.dp; omega) G1 T.su B1 hsu hP.file hP.top fun h' tk' e d M => ?_)
    show MkP X pins σ Q (.ref e) ⟨h', g, dr, tk', os⟩
    obtain ⟨oe, fv, hoe, hc, hd, hdat, h1⟩ := M.obj
    have hns := M.ns
    obtain ⟨G', g1, g2⟩ := restrict h' fun b => decide (b ≠ e)
    have gk : ∀ b, b ≠ e → G'.get? b = h'.get? b := fun b hb => g1 b (decide_eq_true hb)
    have ge : G'.get? e = none := g2 e (by simp)
    have old : ∀ b o, hp.get? b = some o → G'.get? b = some o := fun b o q => (gk b (Nat.ne_of_lt (Nat.lt_of_lt_of_le (Heap.lt_size q) M.new))).trans (M.keep b o q)
    have ob : ObjOk X.prog X.w (upd H1 d (.xd [(fl, v)])) G' d (.xd [(fl, v)]) :=
      ⟨_, hns.at (fun o q => (gk d M.dne).trans q), fun f => relO_one rv f⟩
    have J : Inv X pins σ (upd H1 d (.xd [(fl, v)])) ⟨G', g, dr, tk', os⟩ := I1.laid (t' := tk') old M.dbig ob
    refine ⟨e, oe, fv, ⟨G', g, dr, tk', os⟩, _, .ref (ga X.K x), some d, rfl, J, fun b o q => ?_, ge, hoe, ⟨hc, hd⟩, hdat, h1, ?_, rfl, I1.bare, raises_own T.ex T.ty, q1 d (I1.hok.fresh M.dbig)⟩
    · by_cases hb : b = e
      · have q' : G'.get? b = some o := q
        rw [hb, ge] at q'; cases q'
      · exact (gk b hb).symm.trans q
    · rw [upd_ne (Ne.symm M.dne)]
      exact I1.hok.fresh M.new
/-- raise C(e), C an own error with a field -/
theorem rsx {a : Expr} {ta : TA} {W : WX} {p pos pos2 : Pos} {k : Nat} (hc : X.calm = true) (tk : Takes X W) (hP : PF X.prog file) (T : XT X.K X.mg x fl file) (hr : Room k X.A) (ha : PA X [a] ta) (hg : Gl X x := by rfl) (hdb : (x == ("__debug__" : Str)) = false := by decide)
    (he : starEach (a :: []) X.env = (false, eval a X.env) :: starEach [] X.env := by rfl) (hpl : (backTo pos (starEach [] X.env)).any (·.1) = false := by rfl) :
    PS X (.Raise (some (.Call (.Name x p) [a] [] pos)) none pos2) (fun _ σ H => tMkX (ga X.K x) fl ta σ H fun cls d H' => W cls d σ H') := ps_raise hc tk (pmk_xf hP T hr ha hg hdb he hpl)
end
end EL
namespace EL
open PySem PySem.W PySem.Spec PyProof.Rows He
/-! ### the facts of such an error, from the head -/
def xclB (K : Frag) (C : Addr) : Bool := match K.lookup C with
  | some ⟨.type "type", _, .cls cd, sl⟩ => (match cd.mro, sl.toList with
    | .ref C' :: bm, [_, _, _, _, some (.builtin n), _] => C' == C && n == "ValueError.__new__" && !cd.hasDel && cd.hasDict && HandSPX.refsVE bm
    | _, _ => false)
  | _ => false
theorem xclB_ok {K : Frag} {C : Addr} (q : xclB K C = true) : ∃ nm q N bs bm sn sub ab col dd k0 k1 k2 k3 k5, K.lookup C = some (excClassObj nm q C N bs bm true sn sub ab col dd k0 k1 k2 k3 k5 "ValueError.__new__") ∧ HandSPX.refsVE bm = true := by
  unfold xclB at q
  split at q
  · rename_i dd cd sl ho
    split at q
    · rename_i C' bm k0 k1 k2 k3 n k5 hm hs
      simp only [Bool.and_eq_true, beq_iff_eq, Bool.not_eq_true'] at q
      obtain ⟨⟨⟨⟨rfl, rfl⟩, hdel⟩, hdi⟩, ht⟩ := q
      obtain ⟨nm, bs, mro, ns, qn, hd, sn, sub, ab, col, del⟩ := cd
      dsimp only at hm hdel hdi
      subst hm hdel hdi
      have hsl : sl = #[k0, k1, k2, k3, some (.builtin "ValueError.__new__"), k5] := by
        obtain ⟨l⟩ := sl
        simp only at hs
        rw [hs]
      subst hsl
      exact ⟨nm, qn, ns, bs, bm, sn, sub, ab, col, dd, k0, k1, k2, k3, k5, ho, ht⟩
    · cases q
  · cases q
/-- closure, code, defaults of its __init__ -/
def xfnB (K : Frag) (C f : Addr) (q file : Str) : Bool := match K.lookup f with
  | some ⟨_, _, .func fd, _⟩ => (match fd.closure, fd.code, fd.defaults, fd.kwdefaults with
    | [(_, cc)], .ref cda, .none, .none => (match K.lookup cc with
      | some ⟨_, _, .cell (some (.ref D)), _⟩ => decide (D = C)
      | _ => false) && ((match K.lookup cda with
      | some ⟨_, _, .fields vs, _⟩ => (match (vs[2]? : Option Value) with
        | some (Value.str fi _) => decide (fi = file)
        | _ => false)
      | _ => false) && codeIn K (.ref cda) q)
    | _, _, _, _ => false)
  | _ => false
def xtB (K : Frag) (x fl file : Str) : Bool := xclB K (ga K x) && (eqO (findIn K (.ref (ga K x)) "__setattr__") (some (some (.builtin "object.__setattr__"))) && (eqO (findIn K (.ref (ga K x)) fl) (some none) &&
  (eqO (findIn K (.ref (ga K x)) "__init__") (some (some (.ref (ma K (ga K x) "__init__")))) && (decide (typeIn K (.ref (ma K (ga K x) "__init__")) = some (.type "function")) && (decide (subIn K (.ref (ga K x)) (.type "ValueError") = some true) &&
  (decide (mroIn K (ga K x) (.ref (ga K x)) = some true) && (eqO (ks_superIn K (ga K x) (ga K x) "__init__") (some (some (.builtin "ValueError.__init__"))) && (eqO (nsIn K cStatics "thirdparty.any") (some none) &&
  (keepIn K (.ref (ga K x)) && (decide (subIn K (.ref (ga K x)) (.type "BaseException") = some true) && (decide (typeIn K (.ref (ga K x)) = some (.type "type")) && (L2.xfB K (ga K x) && xfnB K (ga K x) (ma K (ga K x) "__init__") (x ++ ".__init__") file))))))))))))
/-- what of a def with a closure is looked at (the cells' places not) -/
def fnWX (K : Frag) (a : Addr) : FnW := match K.lookup a with
  | some ⟨_, _, .func fd, _⟩ => some (fd.name, fd.qualname, fd.params, fd.body, fd.scope, fd.globals, fd.closure.map fun z => (z.1, 0), fd.builtins)
  | _ => none
structure DefX where
  cls : Str
  fl : Str
  st : Stmt
def DefX.val (d : DefX) : FnW := some ("__init__", d.cls ++ ".__init__", L2.defArgs d.st, .stmts (L2.defBody d.st), L2.defScope d.st, mainGlobals, [("__class__", 0)], builtinsNs)
def DefX.ad (K : Frag) (d : DefX) : Addr := ma K (ga K d.cls) "__init__"
/-- its text, as it was written -/
structure XW (d : DefX) : Prop where
  sc : EX.XSc (L2.defArgs d.st) (L2.defScope d.st) d.fl
  body : ∃ (msg : Str) (j : Nat) (p0 p1 p2 p3 p4 p5 q1 q2 q3 q4 : Pos), L2.defBody d.st = EX.xiB d.fl msg j p0 p1 p2 p3 p4 p5 q1 q2 q3 q4 ∧ (p2.endLine == p4.line) = true
theorem xt_of {K : Frag} {mg : Str → Option Value} {file : Str} {d : DefX} (W : XW d) (e : fnWX K (d.ad K) = d.val) (g : mg d.cls = some (.ref (ga K d.cls))) (su : mg "super" = none) (h : xtB K d.cls d.fl file = true) : XT K mg d.cls d.fl file ∧ L2.XfC K (ga K d.cls) ∧ findIn K (.ref (ga K d.cls)) d.fl = some none := by
  obtain ⟨h1, h⟩ := ba h
  obtain ⟨h2, h⟩ := ba h
  obtain ⟨h3, h⟩ := ba h
  obtain ⟨h4, h⟩ := ba h
  obtain ⟨h5, h⟩ := ba h
  obtain ⟨h6, h⟩ := ba h
  obtain ⟨h7, h⟩ := ba h
  obtain ⟨h8, h⟩ := ba h
  obtain ⟨h9, h⟩ := ba h
  obtain ⟨h10, h⟩ := ba h
  obtain ⟨h11, h⟩ := ba h
  obtain ⟨h12, h⟩ := ba h
  obtain ⟨h13, h14⟩ := ba h
  refine ⟨⟨?_, g, su, h10, of_decide_eq_true h11, of_decide_eq_true h12⟩, L2.xfB_ok h13, eqO_ok h3⟩
  unfold xfnB at h14
  unfold fnWX at e
  unfold DefX.ad at e
  split at h14
  · rename_i oc od fd osl lk
    rw [lk] at e
    obtain ⟨n1, n2, n3, n4, n5, n6, n7, n8, n9, n10, n11, n12, n13, n14, n15⟩ := fd
    have e2 : (some (n1, n2, n3, n4, n5, n6, n7.map (fun z => (z.1, (0 : Addr))), n15) : FnW) = (some (("__init__" : Str), d.cls ++ ".__init__", L2.defArgs d.st, FuncBody.stmts (L2.defBody d.st), L2.defScope d.st, mainGlobals, [(("__class__" : Str), (0 : Addr))], builtinsNs) : FnW) := e
    simp only [Option.some.injEq, Prod.mk.injEq] at e2
    obtain ⟨z1, z2, z3, z4, z5, z6, z7, z8⟩ := e2
    dsimp only at h14
    split at h14
    · rename_i nm cc cda
      obtain ⟨k1, k⟩ := ba h14
      obtain ⟨k2, k3⟩ := ba k
      subst z1 z2 z3 z4 z5 z6 z8
      have hnm : nm = "__class__" := by
        simp only [List.map_cons, List.map_nil, List.cons.injEq, Prod.mk.injEq] at z7
        exact z7.1.1
      subst hnm
      refine ⟨cc, cda, xclB_ok h1, eqO_ok h2, eqO_ok h3, eqO_ok h4, of_decide_eq_true h5, of_decide_eq_true h6, of_decide_eq_true h7, eqO_ok h8, eqO_ok h9, ?_, ?_, ?_⟩
      · split at k1
        · rename_i cl cld D csl lc
          rw [of_decide_eq_true k1] at lc
          exact ⟨_, _, _, lc⟩
        · cases k1
      · split at k2
        · rename_i ccl cdd vs ccs lc
          split at k2
          · rename_i fi tf hv
            rw [of_decide_eq_true k2] at hv
            exact ⟨_, _, _, _, _, lc, hv⟩
          · cases k2
        · cases k2
      · obtain ⟨msg, j, p0, p1, p2, p3, p4, p5, q1, q2, q3, q4, hb, hl⟩ := W.body
        rw [hb] at lk
        exact ⟨oc, od, _, _, _, _, osl, _, _, _, msg, j, p0, p1, p2, p3, p4, p5, q1, q2, q3, q4, lk, k3, W.sc, hl⟩
    · cases h14
  · cases h14
end EL
namespace EL
open PySem PySem.Spec PyProof.Rows L2 He TL
/-! ### the head with such errors -/
abbrev AlX : Type := AlM × List FnW
def obsX (fa : List Fa) (fn : List DefE) (xn : List DefX) (ex : PySem.W.Frag → Bool) (K : PySem.W.Frag) : AlX := (obsE fa fn ex K, xn.map fun d => fnWX K (d.ad K))
def obsXG (n : Nat) (fa : List Fa) (fn : List DefE) (xn : List DefX) (ex : PySem.W.Frag → Bool) (g : Addr → Option Obj) : AlX := obsX fa fn xn ex (frG g (He5.asA g n))
def valX (fn : List DefE) (xn : List DefX) : AlX := (valE fn, xn.map DefX.val)
def SaysX (fa : List Fa) (fn : List DefE) (xn : List DefX) (ex : PySem.W.Frag → Bool) (K : PySem.W.Frag) : Prop := obsX fa fn xn ex K = valX fn xn
def hookX (n : Nat) (fa : List Fa) (fn : List DefE) (xn : List DefX) (ex : PySem.W.Frag → Bool) : PySem.W.Hook where
  α := AlX
  obs := fun s => obsXG n fa fn xn ex s.heap.get?
  val := fun _ => valX fn xn
  says := fun _ h => ∃ K : PySem.W.Frag, K.In h ∧ SaysX fa fn xn ex K
  of := fun _ _ e => ⟨_, frG_in, e⟩
  keeps := fun _ _ _ ⟨K, hK, c⟩ k => ⟨K, PySem.W.Frag.In.keeps hK k, c⟩
theorem obsXG_eq {n : Nat} {fa : List Fa} {fn : List DefE} {xn : List DefX} {ex : PySem.W.Frag → Bool} {g : Addr → Option Obj} {s : Shared} (h : ∀ a, g a = s.heap.get? a) : obsXG n fa fn xn ex g = (hookX n fa fn xn ex).obs s := by
  have e : g = s.heap.get? := funext h
  rw [e] <;> rfl
section
variable {fa : List Fa} {fn : List DefE} {xn : List DefX} {ex : PySem.W.Frag → Bool} {K : PySem.W.Frag}
theorem SaysX.e (c : SaysX fa fn xn ex K) : SaysE fa fn ex K := congrArg (fun z : AlX => z.1) c
theorem SaysX.xd (c : SaysX fa fn xn ex K) (i : Nat) {d : DefX} (h : xn[i]? = some d := by rfl) : fnWX K (d.ad K) = d.val := by
  have e : xn.map (fun d => fnWX K (d.ad K)) = xn.map DefX.val := congrArg (fun z : AlX => z.2) c
  have e2 : (xn.map fun d => fnWX K (d.ad K))[i]? = (xn.map DefX.val)[i]? := by rw [e]
  rw [List.getElem?_map, List.getElem?_map, h] at e2
  exact Option.some.inj e2
end
end EL
namespace EL
open PySem PySem.Spec PyProof.Rows L2 He TL
/-! ### own dunders of instances with a dict -/
section
variable {X : Cx} {CX : CXT} {k : Nat} {C g : Addr} {sp : Sp} {E : XK}
theorem ins_at {pins : List (Addr × Obj)} {σ : L2.St} {H : Hp} {s : Shared} {a dx : Addr} {fs : List (Str × V)} (I : Inv X pins σ H s) (h : H a = some (.ins C dx fs)) : ∃ ox od, PySem.W.InstAt s.heap a ox C od ∧ ox.data = .plain := by
  obtain ⟨mA, O, _⟩ := ins_get I.hok h
  obtain ⟨od, J, _⟩ := O.look
  exact ⟨_, _, J, rfl⟩
/-- len(x) of an instance -/
def rLenO (C : Addr) (sp : Sp) (E : XK) : List V → Hp → VK → Prop := fun xs H Q => ∃ a dx fs, xs = [V.ref a] ∧ H a = some (.ins C dx fs) ∧ sp [.ref a] H (fun z H' => ∃ n : Int, z = .int n ∧ (0 ≤ n ∧ n < 2 ^ 63) ∧ Q z H') E
theorem call_lenO (hm : Meth X.K C "__len__" g) (F : FnR X.prog X.w X.K X.mg X.base CX k g sp) (hr : Room (k + 1) X.A) (hx : Passes CX X E) : CallR X (.builtin "len") (rLenO C sp E) := by
  intro pins s σ H xs us Q I r h
  obtain ⟨a, dx, fs, rfl, ha, q⟩ := h
  obtain ⟨u, rfl, ru⟩ := r.one
  cases (show u = Value.ref a from ru)
  obtain ⟨ox, od, J, _⟩ := ins_at I ha
  obtain ⟨m, hF⟩ := I.fr
  refine PySem.W.len_K hF I.ok.mod.kin J hm.at_ hm.fn (wpAny_mono (wpAny_call (SlX.run_at (us := [.ref a]) (ws := [.ref a]) F (Room.in1 hr) I.env0.in1 hx I (.cons rfl .nil) q)) (fun w s' z => ?_) fun _ _ x => x)
  obtain ⟨z', H', I', rz, n, en, hn, qz⟩ := z
  subst en
  obtain ⟨t, e⟩ := (show ∃ t, w = Value.int n t from rz)
  cases e
  exact ⟨hn, .int n, H', I'.tok _, ⟨_, rfl⟩, qz⟩
/-- x op y, x an instance of the class at C whose def for op is at g; y a thing whose type has no say first -/
def rCmpO (K : PySem.W.Frag) (C : Addr) (sp : Sp) (E : XK) : R2 := fun x y H Q => ∃ a dx fs t, x = .ref a ∧ H a = some (.ins C dx fs) ∧ TyX K H y t ∧ PySem.W.notFirst K C t = true ∧ sp [x, y] H Q E
theorem op_cmpO {op : CmpOp} (hop : ∀ a b, compareOp op a b = richCompare op a b) (hs : PySem.W.findIn X.K (.ref C) (cmpInfo op).2.1 = some (some (.ref g))) (hf : PySem.W.isFn X.K (.ref g) = true) (F : FnR X.prog X.w X.K X.mg X.base CX k g sp)
    (hr : Room k X.A) (hx : Passes CX X E) : OpR X (compareOp op) (rCmpO X.K C sp E) := by
  intro pins s σ H x y v u Q I rx ry h
  obtain ⟨a, dx, fs, t, rfl, ha, ty, hn, q⟩ := h
  cases (show v = Value.ref a from rx)
  obtain ⟨ox, od, J, _⟩ := ins_at I ha
  obtain ⟨P, Z, p, _⟩ := kit_of I ry ty
  obtain ⟨m, hF⟩ := I.fr
  rw [hop]
  refine PySem.W.cmp_K (op := op) (tb := t) hr.units0 hF I.ok.mod.kin J (Z.ty _ _ I.kIn p) hn hs hf ?_
  refine wpAny_mono (run_fnR (us := [.ref a, u]) (vs := [.ref a, y]) F hr hx I (.cons rfl (.cons ry .nil)) q |> wpAny_call) (fun w s' z => ?_) fun _ _ x => x
  obtain ⟨z', H', I', rz, qz⟩ := z
  exact SlX.cmpback rz ⟨z', H', I', rz, qz⟩
/-- y in x, x an instance with an own __contains__ that answers a bool -/
def rInO (C : Addr) (sp : Sp) (E : XK) (neg : Bool) : R2 := fun y x H Q => ∃ a dx fs, x = .ref a ∧ H a = some (.ins C dx fs) ∧ sp [x, y] H (fun z H' => ∃ b : Bool, z = .bl b ∧ Q (.bl (if neg then !b else b)) H') E
theorem op_inO (hm : Meth X.K C "__contains__" g) (F : FnR X.prog X.w X.K X.mg X.base CX k g sp) (hr : Room k X.A) (hx : Passes CX X E) : OpR X (compareOp .In) (rInO C sp E false) := by
  intro pins s σ H y x u v Q I ry rx h
  obtain ⟨a, dx, fs, rfl, ha, q⟩ := h
  cases (show v = Value.ref a from rx)
  obtain ⟨ox, od, J, _⟩ := ins_at I ha
  obtain ⟨m, hF⟩ := I.fr
  refine PySem.W.in_K hF I.ok.mod.kin J hm.at_ hm.fn (wpAny_mono (wpAny_call (run_fnR (us := [.ref a, u]) (vs := [.ref a, y]) F hr hx I (.cons rfl (.cons ry .nil)) q)) (fun w s' z => ?_) fun _ _ x => x)
  obtain ⟨z', H', I', rz, b, eb, qz⟩ := z
  subst eb
  cases (show w = Value.bool b from rz)
  exact wpAny_truthy_bool ⟨.bl b, H', I', rfl, qz⟩
theorem op_notInO (hm : Meth X.K C "__contains__" g) (F : FnR X.prog X.w X.K X.mg X.base CX k g sp) (hr : Room k X.A) (hx : Passes CX X E) : OpR X (compareOp .NotIn) (rInO C sp E true) := by
  intro pins s σ H y x u v Q I ry rx h
  obtain ⟨a, dx, fs, rfl, ha, q⟩ := h
  cases (show v = Value.ref a from rx)
  obtain ⟨ox, od, J, _⟩ := ins_at I ha
  obtain ⟨m, hF⟩ := I.fr
  refine PySem.W.notIn_K hF I.ok.mod.kin J hm.at_ hm.fn (wpAny_mono (wpAny_call (run_fnR (us := [.ref a, u]) (vs := [.ref a, y]) F hr hx I (.cons rfl (.cons ry .nil)) q)) (fun w s' z => ?_) fun _ _ x => x)
  obtain ⟨z', H', I', rz, b, eb, qz⟩ := z
  subst eb
  cases (show w = Value.bool b from rz)
  exact wpAny_truthy_bool ⟨.bl (!b), H', I', rfl, qz⟩
/-- ~x -/
theorem un_invO (hm : Meth X.K C "__invert__" g) (F : FnR X.prog X.w X.K X.mg X.base CX k g sp) (hr : Room k X.A) (hx : Passes CX X E) : UnR X (unaryOp .Invert) (fun x H Q => ∃ a dx fs, x = .ref a ∧ H a = some (.ins C dx fs) ∧ sp [x] H Q E) := by
  intro pins s σ H x v Q I rx h
  obtain ⟨a, dx, fs, rfl, ha, q⟩ := h
  cases (show v = Value.ref a from rx)
  obtain ⟨ox, od, J, _⟩ := ins_at I ha
  obtain ⟨m, hF⟩ := I.fr
  exact PySem.W.ksp_inv hF I.ok.mod.kin J hm.at_ hm.fn (wpAny_call (run_fnR (us := [.ref a]) (vs := [.ref a]) F hr hx I (.cons rfl .nil) q))
/-- x op y, two instances of the class at C -/
def rBinO (C : Addr) (sp : Sp) (E : XK) : R2 := fun x y H Q => ∃ a dx fs b dy gs, x = .ref a ∧ y = .ref b ∧ H a = some (.ins C dx fs) ∧ H b = some (.ins C dy gs) ∧ sp [x, y] H Q E
theorem op_binO {op : Operator} (hc : PySem.W.selfFirst X.K C = true) (hs : PySem.W.findIn X.K (.ref C) (PySem.dunder op.info.2) = some (some (.ref g))) (hf : PySem.W.isFn X.K (.ref g) = true) (F : FnR X.prog X.w X.K X.mg X.base CX k g sp)
    (hr : Room k X.A) (hx : Passes CX X E) : OpR X (binaryOp op) (rBinO C sp E) := by
  intro pins s σ H x y v u Q I rx ry h
  obtain ⟨a, dx, fs, b, dy, gs, rfl, rfl, ha, hb, q⟩ := h
  cases (show v = Value.ref a from rx)
  cases (show u = Value.ref b from ry)
  obtain ⟨ox, od, J, _⟩ := ins_at I ha
  obtain ⟨ox', od', J', _⟩ := ins_at I hb
  obtain ⟨m, hF⟩ := I.fr
  refine PySem.W.binop_K hF I.ok.mod.kin J J'.type hc hs hf ?_
  refine wpAny_mono (wpAny_call (run_fnR (us := [.ref a, .ref b]) (vs := [.ref a, .ref b]) F hr hx I (.cons rfl (.cons rfl .nil)) q)) (fun w s' z => ?_) fun _ _ x => x
  obtain ⟨z', H', I', rz, qz⟩ := z
  exact SlX.cmpback rz ⟨z', H', I', rz, qz⟩
end
end EL
namespace EL
open PySem PySem.Spec PyProof.Rows L2 He TL
/-! ### several except clauses, each with a name (slot i) or without -/
/-- a clause: its class, the slot of its name, its suite's reading -/
abbrev Cl1 : Type := Value × Option Nat × (Addr → Value → Option Addr → TS)
def wMix (K : PySem.W.Frag) (Wout : WX) (D : Ends) : List Cl1 → WX
  | [] => Wout
  | (c, none, ts) :: r => fun cls d σ H => ∃ b, PySem.W.exmOne K cls c = some b ∧ (b = true → ∀ a, H a = none → ts a cls d D σ H) ∧ (b = false → wMix K Wout D r cls d σ H)
  | (c, some i, ts) :: r => fun cls d σ H => ∃ b, PySem.W.exmOne K cls c = some b ∧
      (b = true → ∀ a, H a = none → ts a cls d { nx := fun σ' H' => D.nx (σ'.set i none) H', rt := D.rt, bk := fun σ' H' => D.bk (σ'.set i none) H', ct := fun σ' H' => D.ct (σ'.set i none) H' } (σ.set i (some (.ref a))) H) ∧
      (b = false → wMix K Wout D r cls d σ H)
inductive HdsMix (X : Cx) : List ExceptHandler → List Cl1 → Prop
  | nil : HdsMix X [] []
  | one {x : Str} {c : Value} {ts : Addr → Value → Option Addr → TS} {b₀ : Stmt} {suite : List Stmt} {np pos' : Pos} {hds : List ExceptHandler} {l : List Cl1} (hc : Names X x c)
      (hsu : ∀ (a : Addr) (oe : Obj) (cls : Value) (d : Option Addr) (pn : List (Addr × Obj)), Zc cls d oe → (∃ vs, oe.data = .fields vs) → PSs (X.suite a ((a, oe) :: pn)) (b₀ :: suite) (ts a cls d)) (r : HdsMix X hds l) :
      HdsMix X (.ExceptHandler (some (.Name x np)) none (b₀ :: suite) pos' :: hds) ((c, none, ts) :: l)
  | as_ {x n : Str} {i : Nat} {c : Value} {ts : Addr → Value → Option Addr → TS} {b₀ : Stmt} {suite : List Stmt} {np pos' : Pos} {hds : List ExceptHandler} {l : List Cl1} (hi : X.N[i]? = some n) (hln : X.env.kindOf n = some .local) (hc : Names X x c)
      (hsu : ∀ (a : Addr) (oe : Obj) (cls : Value) (d : Option Addr) (pn : List (Addr × Obj)), Zc cls d oe → (∃ vs, oe.data = .fields vs) → PSs (X.suite a ((a, oe) :: pn)) (b₀ :: suite) (ts a cls d)) (r : HdsMix X hds l) :
      HdsMix X (.ExceptHandler (some (.Name x np)) (some n) (b₀ :: suite) pos' :: hds) ((c, some i, ts) :: l)
section
variable {X : Cx} {body : List Stmt} {h₀ : ExceptHandler} {hds : List ExceptHandler} {l : List Cl1} {pos : Pos} {tb : WX → TS} {Wout : WX}
theorem ps_try_mix (hs : X.stack = X.env :: X.outer) (hf : X.env.frame = some X.env.locals) (hN : X.N.Nodup) (tk : Takes X Wout)
    (hb : ∀ (W : WX) (pn : List (Addr × Obj)) (xe : Value → Shared → Prop), Takes (X.tr pn xe) W → PassesOwn (model X.prog X.w) X.A X.env xe → PSs (X.tr pn xe) body (tb W))
    (hh : HdsMix X (h₀ :: hds) l) : PS X (.Try body (h₀ :: hds) [] [] pos) (fun D σ H => tb (wMix X.K Wout D l) D σ H) := by
  refine ⟨fun pins s σ H D I h => ?_⟩
  have ok := I.ok
  have hfr : X.A.frames = some (X.env :: X.outer) := by rw [ok.frames, hs]
  refine wpAny_Try_except ?_
  refine wpAny_mono ((hb (wMix X.K Wout D l) (X.pn ++ pins) (fun e s₁ => wpAny (model X.prog X.w) X.A (noteFrame e X.env) (fun _ s₂ => wpAny (model X.prog X.w) X.A (setFlight e none) (fun _ s₃ =>
    wpAny (model X.prog X.w) X.A (handleBy e X.env (h₀ :: hds)) (SP X pins D) X.xe s₃) X.xe s₂) X.xe s₁) (fun u s' xx => ?_) PassesOwn.looking).run [] s σ H D (I.toTry _) h) (fun f s1 hsp => ?_) (fun e s1 he => he)
  · -- the catch
    obtain ⟨a, B, sI, pins', σ', H', cls, d, rfl, J', nb, up, sky, na, os, ag, w⟩ := xx
    have J : Inv X pins σ' H' sI := J'.ofTry ok
    have sky' : Sky B (X.env :: X.outer) a (Zc cls d) X.env.locals s'.heap := by rw [← hs]; exact sky
    show wpAny (model X.prog X.w) X.A (noteFrame (.ref a) X.env) _ _ _
    refine Sky.land Zc.steady hfr hf sky' fun h3 fl3 up3 => ?_
    have J3 : Inv X pins σ' H' { s' with heap := h3 } := J.landed nb fl3.1 (up.trans up3) os ag
    obtain ⟨oe3, vs3, he3, hz3, hd3⟩ := fl3.there
    have notFr : ∀ {h : Heap} {o : Obj} {vs : Array Value}, h.FunFrames B (X.env :: X.outer) → h.get? a = some o → o.data = .fields vs → a ∉ frs (X.env :: X.outer) := fun {h o vs} ff e dd hm => by
      obtain ⟨_, o', e', hnf⟩ := ff.mem hm
      rw [e] at e'; cases e'
      exact hnf _ dd
    have nfr := notFr fl3.2.2.1 he3 hd3
    have nL : a ≠ X.env.locals := fun z => nfr (List.mem_filterMap.mpr ⟨X.env, List.mem_cons_self, by rw [hf, z]⟩)
    have nF : a ∉ X.fs := fun hm => by
      obtain ⟨e, he, q⟩ := List.mem_filterMap.mp hm
      exact nfr (List.mem_filterMap.mpr ⟨e, List.mem_cons_of_mem _ he, q⟩)
    have S3 := J3.suite he3 hd3 na nL nF
    have test : ∀ {x : Str} {c : Value} {np : Pos} {Q : Value → Shared → Prop} {E : Value → Shared → Prop}, Names X x c → Q c { s' with heap := h3 } → wpAny (model X.prog X.w) (X.A.mark (some (.ref a))) (eval (.Name x np) X.env) Q E { s' with heap := h3 } := fun {x c np Q E} hc q => by
      obtain ⟨hg, hdbg, hm | ⟨hm, hv, hnn⟩⟩ := hc
      · exact ld_glob (X := X.suite a ((a, oe3) :: (X.pn ++ pins))) S3 hg hm q hdbg
      · exact ld_blt (X := X.suite a ((a, oe3) :: (X.pn ++ pins))) S3 hg hm hv q hnn hdbg
    have LT : PySem.W.Looks (model X.prog X.w) h3 (typeOf (.ref a)) cls := fun A Q E s k q => wpAny_typeOf_ref (k _ _ he3) (by rw [hz3.1]; exact q)
    have go : ∀ {hds' : List ExceptHandler} {l' : List Cl1}, HdsMix X hds' l' → wMix X.K Wout D l' cls d σ' H' →
        wpAny (model X.prog X.w) X.A (handleBy (.ref a) X.env hds') (SP X pins D) X.xe { s' with heap := h3 } := by
      intro hds' l' hk
      induction hk with
      | nil =>
        intro w
        refine wpAny_handleBy_nil ?_
        obtain ⟨k1, k2, k3, oe, vs, T, oT, ts', he, hz, hd, h1, hr⟩ := id fl3
        unfold PySem.passOn
        refine wpAny_bind (wpAny_field he hd h1 ?_)
        rw [if_neg (show ¬ ((Value.ref T == Value.none) = true) from by simp)]
        have fin : wpAny (model X.prog X.w) X.A (setFlight (.ref a) X.env.frame) (fun _ s4 => wpAny (model X.prog X.w) X.A (throw (.ref a) : Sem Flow) (SP X pins D) X.xe s4) X.xe { s' with heap := h3 } := by
          rw [hf]
          refine HandSPX.setFlight_upZ fl3 fun h4 hh4 up4 => wpAny_throw (tk _ _ ?_)
          exact ⟨a, B, sI, pins, σ', H', cls, d, rfl, J, nb, (up.trans up3).trans up4, .inr (.inr (by rw [hs]; exact hh4)), na, os, ag, w⟩
        first
          | exact wpAny_bind (wpAny_pure (wpAny_bind fin))
          | exact wpAny_bind fin
      | @one x c ts b₀ suite np pos' hds2 l2 hc hsu r ih =>
        intro w
        obtain ⟨b, hb1, hyes, hno⟩ := w
        refine wpAny_handleBy_cons (codeAny_handlers_test ?_) (by intro q; cases q)
        have LM := PySem.W.exm_one (M := model X.prog X.w) (J3.kIn) LT hb1
        refine test hc (LM.here ?_)
        cases b with
        | true =>
          refine codeAny_handlers_suite ?_
          refine HandSPX.lands_againZ fl3 fun h4 fl4 up4 => ?_
          have J4 : Inv X pins σ' H' { s' with heap := h4 } := J.landed nb fl4.1 ((up.trans up3).trans up4) os ag
          obtain ⟨oe4, vs4, he4, hz4, hd4⟩ := fl4.there
          have S4 := J4.suite he4 hd4 na nL nF
          refine wpAny_mono ((hsu a oe4 cls d (X.pn ++ pins) hz4 ⟨_, hd4⟩).run [] _ _ H' _ S4 (hyes rfl a na)) (fun f s6 hsp => ?_) (fun _ _ z => False.elim z)
          cases f with
          | next =>
            obtain ⟨σ6, H6, S6, q6⟩ := hsp
            exact ⟨_, _, S6.unsuite ok, q6⟩
          | brk =>
            obtain ⟨σ6, H6, S6, q6⟩ := hsp
            exact ⟨_, _, S6.unsuite ok, q6⟩
          | cont =>
            obtain ⟨σ6, H6, S6, q6⟩ := hsp
            exact ⟨_, _, S6.unsuite ok, q6⟩
          | ret u =>
            obtain ⟨v6, σ6, H6, S6, r6, q6⟩ := hsp
            exact ⟨_, _, _, S6.unsuite ok, r6, q6⟩
        | false =>
          show wpAny _ X.A (handleBy (.ref a) X.env hds2) _ _ _
          exact ih (hno rfl)
      | @as_ x n i c ts b₀ suite np pos' hds2 l2 hi hln hc hsu r ih =>
        intro w
        obtain ⟨b, hb1, hyes, hno⟩ := w
        have hloc : Loc X.env.scope n := .inl hln
        refine wpAny_handleBy_cons (codeAny_handlers_test ?_) (by intro q; cases q)
        have LM := PySem.W.exm_one (M := model X.prog X.w) (J3.kIn) LT hb1
        refine test hc (LM.here ?_)
        cases b with
        | true =>
          refine codeAny_handlers_suite_as ?_
          refine HandSPX.lands_againZ fl3 fun h4 fl4 up4 => ?_
          have J4 : Inv X pins σ' H' { s' with heap := h4 } := J.landed nb fl4.1 ((up.trans up3).trans up4) os ag
          obtain ⟨oe4, vs4, he4, hz4, hd4⟩ := fl4.there
          have S4 := J4.suite he4 hd4 na nL nF
          refine store_ok (X := X.suite a ((a, oe4) :: (X.pn ++ pins))) (v := .ref a) S4 hN hi hloc rfl (fun s5 S5 => ?_) (.inr hln)
          refine wpAny_mono ((hsu a oe4 cls d (X.pn ++ pins) hz4 ⟨_, hd4⟩).run [] s5 _ H' _ S5 (hyes rfl a na)) (fun f s6 hsp => ?_) (fun _ _ z => False.elim z)
          have end_ : ∀ {σ6 : L2.St} {H6 : Hp} {Q : Shared → Prop}, Inv (X.suite a ((a, oe4) :: (X.pn ++ pins))) [] σ6 H6 s6 → (∀ s7, Inv X pins (σ6.set i none) H6 s7 → Q s7) →
              wpAny (model X.prog X.w) X.A (do bindName X.env n .none; unbindBehindTheSuite X.env n pos') (fun _ s7 => Q s7) X.xe s6 := fun {σ6 H6 Q} S6 hq => gone_ok (S6.unsuite ok) hN hi hln hq
          cases f with
          | next =>
            obtain ⟨σ6, H6, S6, q6⟩ := hsp
            exact end_ S6 fun s7 J7 => ⟨_, _, J7, q6⟩
          | brk =>
            obtain ⟨σ6, H6, S6, q6⟩ := hsp
            exact end_ S6 fun s7 J7 => ⟨_, _, J7, q6⟩
          | cont =>
            obtain ⟨σ6, H6, S6, q6⟩ := hsp
            exact end_ S6 fun s7 J7 => ⟨_, _, J7, q6⟩
          | ret u =>
            obtain ⟨v6, σ6, H6, S6, r6, q6⟩ := hsp
            exact end_ S6 fun s7 J7 => ⟨_, _, _, J7, r6, q6⟩
        | false =>
          show wpAny _ X.A (handleBy (.ref a) X.env hds2) _ _ _
          exact ih (hno rfl)
    exact go hh w
  · cases f with
    | next =>
      obtain ⟨σ', H', J', q⟩ := hsp
      exact wpAny_execs_nil ⟨σ', H', J'.ofTry ok, q⟩
    | brk =>
      obtain ⟨σ', H', J', q⟩ := hsp
      exact ⟨σ', H', J'.ofTry ok, q⟩
    | cont =>
      obtain ⟨σ', H', J', q⟩ := hsp
      exact ⟨σ', H', J'.ofTry ok, q⟩
    | ret u =>
      obtain ⟨v, σ', H', J', r, q⟩ := hsp
      exact ⟨v, σ', H', J'.ofTry ok, r, q⟩
end
end EL
namespace EL
open PySem PySem.Spec PyProof.Rows L2 He TL
/-! ### dict comprehensions whose keys are ints, texts or tuples of them -/
/-- the empty dict, either way -/
inductive NilD : HO → Prop where
  | k : NilD (.dK [])
  | t : NilD (.dT [])
theorem NilD.ok {P : Program} {w : World} {H : Hp} {o : HO} (n : NilD o) (h : Heap) (hb : sysModules < h.objs.size) : ObjOk P w H (h.push { cls := .type "dict", data := .dict #[] }) h.objs.size o := by
  cases n with
  | k => exact dk_empty h hb
  | t => exact dt_empty h hb
theorem put_by {X : Cx} {pins : List (Addr × Obj)} {σ : L2.St} {H H' : Hp} {s : Shared} {E : Value → Shared → Prop} {D : Addr} {y v : V} {u r : Value} {Q : Unit → Shared → Prop} (hu : X.A.units < cLine) (I : Inv X pins σ H s) (g : DPut H D y v H')
    (ry : RelV y u) (rv : RelV v r) (h : ∀ s', Inv X pins σ H' s' → Q () s') : wpAny (model X.prog X.w) X.A (dictSet D u r) Q E s := by
  rcases g with ⟨kvs, k, e, ey, l, eH⟩ | ⟨kvs, k, b, e, ey, eb, l, eH⟩
  · subst ey
    subst eH
    exact d_dictSet I e l ry rv h
  · subst ey
    subst eH
    obtain rfl : u = Value.ref b := ry
    obtain ⟨z, hd, xs, rel, dd⟩ := dt_of I.hok e
    refine wpAny_dictSet_heap (hsz := by rw [← Paired.length rel]; exact z) (show (tupleKind (mixKind X.prog X.w)).room X.A from hu) (key_of I.hok eb) dd fun h' dd' hs => h _ ?_
    obtain ⟨q, es, ep, hq, c2, c3, c4, _, c5⟩ := dd'
    have lz : (putK kvs k v).length ≤ sizeLine := by have := length_putK kvs k v; omega
    exact d_write I (by rw [e]; trivial) hs ⟨q, hq⟩ ⟨lz, hd, _, (rel.put k eb rv).keeps fun c ys ec => (upd_ne (ne_of ec e (fun z => nomatch z))).trans ec, q, es, ep, hq, c2, c3, c4, c5⟩
section
variable {X : Cx}
abbrev DcStep (g : TG) (tt : TT) (tk tv : TE) (vs : List Nat) (σ : L2.St) (D : Addr) (Nx : Hp → Prop) (x : V) (H : Hp) : Prop := g x (wipe σ vs) H fun σ2 H2 => wipe σ2 vs = wipe σ vs ∧ tt σ2 H2 fun b H3 =>
  if b = true then tk σ2 H3 fun y H4 => tv σ2 H4 fun z H5 => ∃ H6, DPut H5 D y z H6 ∧ Nx H6 else Nx H3
def tDcG (o0 : HO) (wi : TI) (g : TG) (tt : TT) (tk tv : TE) (vs : List Nat) : TE := fun σ H Q => wi σ H fun J H1 => ∀ D, H1 D = none → ∃ W : Nat → Nat → Hp → Prop, (∃ m, W 0 m (upd H1 D o0)) ∧ ∀ i m H, W i m H →
  (J.stop i H ∧ Q (.ref D) H) ∨ (J.go i H ∧ ∃ Nx : Hp → Prop, (∀ H', Nx H' → ∃ m', m' < m ∧ W (i + 1) m' H') ∧ ∀ x H', J.yld i H x H' → DcStep g tt tk tv vs σ D Nx x H')
theorem pe_dcG {o0 : HO} {kx vx tg iter : Expr} {ifs : List Expr} {scope : Scope} {own : List (Str × Nat)} {pos : Pos} {wi : TI} {g : TG} {tt : TT} {tk tv : TE} (n0 : NilD o0) (hu : X.A.units < cLine) (hc : X.calm = true) (hN : X.N.Nodup) (hi : PI X tg iter wi) (ok : BlkOk X.N X.env.scope scope own)
    (hg : ∀ (s : Shared) (H : Hp) (C : Addr) (cl : List (Str × Addr)) (fp : List Addr), PG (X.blk s H scope (compEnvC scope cl C X.env) fp) tg g) (ht : ∀ (s : Shared) (H : Hp) (C : Addr) (cl : List (Str × Addr)) (fp : List Addr), PTs (X.blk s H scope (compEnvC scope cl C X.env) fp) ifs tt)
    (hk : ∀ (s : Shared) (H : Hp) (C : Addr) (cl : List (Str × Addr)) (fp : List Addr), PE (X.blk s H scope (compEnvC scope cl C X.env) fp) kx tk)
    (hv : ∀ (s : Shared) (H : Hp) (C : Addr) (cl : List (Str × Addr)) (fp : List Addr), PE (X.blk s H scope (compEnvC scope cl C X.env) fp) vx tv) (hs : ∀ x, foldedSetIterable iter X.env x = pure x := by intro _; rfl) :
    PE X (.DictComp kx vx [⟨tg, iter, ifs, 0⟩] scope pos) (tDcG o0 wi g tt tk tv (own.map (·.2))) := by
  refine ⟨fun pins s σ H Q I h => ?_⟩
  rw [arm_eval_DictComp]
  have cl : ∀ y ∈ scope.names, y.2 = .free → ∃ c, X.env.cells.lookup y.1 = some c := fun y hy e => (ok.free y hy e).elim (fun k => I.ok.has _ (.inl k)) (fun k => I.ok.has _ (.inr k))
  refine wpAny_comprehension_free (use := none) rfl hs (closure_ok cl) ok.kind (fun y hy e => by rw [ok.uniq y hy, e]) (thn (hi.run pins s σ H _ I h) fun xv s1 hx => thn hx fun itv s2 h2 => ?_)
  obtain ⟨it, fp, tn, J, H2, e, I2, T, st2, f2, q⟩ := h2
  subst e
  refine wpAny_newObj_type (newEnv_comp ?_)
  generalize hD : s2.heap.objs.size = D
  obtain ⟨W, ⟨m0, w0⟩, turn⟩ := q D (I2.hok.fresh (Nat.le_of_eq hD))
  -- the new dict
  have h3 : ∃ s3 : Shared, ({ s2 with heap := s2.heap.push { cls := .type "dict", data := .dict #[] } } : Shared) = s3 := ⟨_, rfl⟩
  obtain ⟨s3, hs3⟩ := h3
  have hh3 : s3.heap = s2.heap.push { cls := .type "dict", data := .dict #[] } := by rw [← hs3]
  have h4 : ∃ H3, upd H2 D o0 = H3 := ⟨_, rfl⟩
  obtain ⟨H3, hH3⟩ := h4
  have I3 : Inv X pins σ H3 s3 := by
    rw [← hs3, ← hH3]
    refine I2.laid (t' := s2.toks) (fun b o e => Heap.get?_push_of_some _ e) (Nat.le_of_eq hD) ?_
    rw [← hD]
    exact n0.ok s2.heap I2.big
  rw [hH3] at w0
  have lt2 : ∀ b ∈ fp, b < s2.heap.objs.size := fun b hb => let ⟨o, e, _⟩ := T.obj _ _ st2 b hb; Heap.lt_size e
  have f3 : ∀ b ∈ fp, FpOk X pins H3 b ∧ b < s3.heap.objs.size := fun b hb => by
    refine ⟨⟨?_, (f2 b hb).2⟩, by rw [hh3, Heap.size_push]; exact Nat.lt_succ_of_lt (lt2 b hb)⟩
    rw [← hH3, upd_ne (by rw [← hD]; exact Nat.ne_of_lt (lt2 b hb))]
    exact (f2 b hb).1
  have I4 := block_start I3 ok hN f3
  rw [hs3]
  show codeAny _ _ (.compStart (.DictComp kx vx [⟨tg, iter, ifs, 0⟩] scope pos) 0 (.ref it) (.ref D) (compEnvC scope (cellsFrom (s3.heap.objs.size + 1) scope.names (cloFrom X.env.cells scope.names [])) s3.heap.objs.size X.env)) (compPost (model X.prog X.w) X.A X.xe none _ (.ref D) s3.heap.objs.size) { s3 with heap := pushCells (s3.heap.push { cls := .type "dict", data := .dict #[] }) scope.names }
  have pg := hg s3 H3 s3.heap.objs.size (cellsFrom (s3.heap.objs.size + 1) scope.names (cloFrom X.env.cells scope.names [])) fp
  have pt := ht s3 H3 s3.heap.objs.size (cellsFrom (s3.heap.objs.size + 1) scope.names (cloFrom X.env.cells scope.names [])) fp
  have pk := hk s3 H3 s3.heap.objs.size (cellsFrom (s3.heap.objs.size + 1) scope.names (cloFrom X.env.cells scope.names [])) fp
  have pv := hv s3 H3 s3.heap.objs.size (cellsFrom (s3.heap.objs.size + 1) scope.names (cloFrom X.env.cells scope.names [])) fp
  generalize hce : compEnvC scope (cellsFrom (s3.heap.objs.size + 1) scope.names (cloFrom X.env.cells scope.names [])) s3.heap.objs.size X.env = ce at I4 pg pt pk pv ⊢
  have cL : ce.locals = s3.heap.objs.size := by rw [← hce]; rfl
  have st4 : tn 0 (pushCells (s3.heap.push { cls := .type "dict", data := .dict #[] }) scope.names) := T.keep _ _ _ st2 fun b _ o e => pushCells_keeps _ _ _ _ (Heap.get?_push_of_some _ (by rw [hh3]; exact Heap.get?_push_of_some _ e))
  generalize hs4 : ({ s3 with heap := pushCells (s3.heap.push { cls := .type "dict", data := .dict #[] }) scope.names } : Shared) = s4 at I4 ⊢
  have st4' : tn 0 s4.heap := by rw [← hs4]; exact st4
  have stat : ∀ {σ' : L2.St} {H' : Hp} {s' : Shared}, Inv (X.blk s3 H3 scope ce fp) [] σ' H' s' → (∀ b ∈ fp, H' b = none) → ∀ b ∈ fp, FpOk (X.blk s3 H3 scope ce fp) [] H' b := fun I' hn b hb =>
    ⟨hn b hb, (I'.ok.exf b hb).1, I'.ok.exfs b hb, .inl hb, fun x c e => (I'.ok.exf b hb).2 x c e, fun p hp => by cases hp⟩
  have loop : codeAny (model X.prog X.w) X.A (.compLoop (.DictComp kx vx [⟨tg, iter, ifs, 0⟩] scope pos) 0 (.ref it) (.ref D) ce) (compPost (model X.prog X.w) X.A X.xe none (EP X pins σ Q) (.ref D) s3.heap.objs.size) s4 := by
    refine compLoop_anyD (fun n s' => ∃ i H', Inv (X.blk s3 H3 scope ce fp) [] (wipe σ (own.map (·.2))) H' s' ∧ tn i s'.heap ∧ (∀ b ∈ fp, H' b = none) ∧ W i n H') ?_ m0 ⟨0, H3, I4, st4', fun b hb => (f3 b hb).1.1, w0⟩
    rintro n s5 ⟨i, H5, I5, st5, n5, w5⟩
    rcases turn i n H5 w5 with ⟨stop, qq⟩ | ⟨go, Nx, hNx, step⟩
    · refine thnF (T.done (X.blk s3 H3 scope ce fp) rfl rfl rfl hc i [] s5 _ H5 (fun _ _ => False) I5 (stat I5 n5) st5 stop) fun r s6 ⟨hr, I6⟩ => ?_
      subst hr
      have I7 : Inv X pins σ H5 s6 := I3.call' (ch := fp) I6.os I6.base I6.hok I6.bare fun b hb => ⟨(f3 b hb).1.2.2.2.1, (f3 b hb).1.2.1, (f3 b hb).1.2.2.2.2.1, (f3 b hb).1.2.2.2.2.2⟩
      have nC : H5 s3.heap.objs.size = none := by rw [← cL]; exact I6.free
      obtain ⟨m, hn, _⟩ := I6.loc
      obtain ⟨a0, a1, a2, a3, a4, a5⟩ := I3.fpOk (Nat.le_refl _) nC
      refine ⟨m, by rw [← cL]; exact hn, fun h'' sb => ?_⟩
      exact ⟨.ref D, H5, I7.turned (t' := s6.toks) (fun b o hb e => (sb.2 b hb).trans e) a0 a1 a3 a4 a5, rfl, qq⟩
    · refine thnF (T.item (X.blk s3 H3 scope ce fp) rfl rfl rfl hc i [] s5 _ H5 (fun _ _ => False) I5 (stat I5 n5) st5 go) fun r s6 ⟨u, hr, h6⟩ => ?_
      subst hr
      refine thnF h6 fun _ s7 ⟨x, H7, I7, r7, y7, st7, n7⟩ => ?_
      refine thnF (pg.run _ s7 _ H7 x u _ (I7.pinned (stat I7 n7) (T.obj _ _ st7)) r7 (step x H7 y7)) fun _ s8 ⟨σ8, H8, I8, hw8, q8⟩ => ?_
      refine thnF (pt.run _ s8 σ8 H8 _ I8 q8) fun b s9 ⟨H9, I9, q9⟩ => ?_
      have fin : ∀ {s' : Shared} {H' : Hp}, Inv (X.blk s3 H3 scope ce fp) ([] ++ pinsAt fp s7.heap) σ8 H' s' → Nx H' → ∃ m, m < n ∧ ∃ i H', Inv (X.blk s3 H3 scope ce fp) [] (wipe σ (own.map (·.2))) H' s' ∧ tn i s'.heap ∧ (∀ b ∈ fp, H' b = none) ∧ W i m H' := fun {s' H'} I' nx => by
        obtain ⟨m', hm, w'⟩ := hNx H' nx
        have pin' : ∀ b ∈ fp, ∀ o, s7.heap.get? b = some o → s'.heap.get? b = some o ∧ H' b = none := fun b hb o e =>
          let z := I'.pin (b, o) (List.mem_append_right _ (List.mem_append_right _ (mem_pinsAt hb e)))
          ⟨z.1, z.2.1⟩
        refine ⟨m', hm, i + 1, H', (I'.unpinned (pins := [])).weak (by rw [← hw8, wipe_length]) (fun j v e => (wipe_some (by rw [hw8]; exact e)).1), T.keep _ _ _ st7 fun b hb o e => (pin' b hb o e).1, fun b hb => ?_, w'⟩
        obtain ⟨o, e, _⟩ := T.obj _ _ st7 b hb
        exact (pin' b hb o e).2
      cases b with
      | false => exact fin I9 q9
      | true =>
        refine thnF (pk.run _ s9 σ8 H9 _ I9 q9) fun z s10 ⟨yk, H10, I10, r10, q10⟩ => ?_
        refine thnF (pv.run _ s10 σ8 H10 _ I10 q10) fun z2 s11 ⟨yv, H11, I11, r11, H12, dp, nx⟩ => ?_
        exact put_by (X := X.blk s3 H3 scope ce fp) hu I11 dp r10 r11 fun s12 I12 => fin I12 nx
  exact codeAny_compStart_dict loop (T.self X.A 0 _ _ _ st4' loop)
/-- the turns of such a comprehension -/
theorem dcG_it {J : It} {n : Nat} {G : Hp → Prop} {Y : Nat → Hp → V → Hp → Prop} (w : L2.Walk J n G Y) {o0 : HO} {g : TG} {tt : TT} {tk tv : TE} {vs : List Nat} {σ : L2.St} {H1 : Hp} {D : Addr} {Qd : Hp → Prop} (Pv : Nat → Hp → Prop) (h0 : Pv 0 (upd H1 D o0)) (hG : ∀ i H, i ≤ n → Pv i H → G H)
    (hs : ∀ i x H H', i < n → Pv i H → Y i H x H' → DcStep g tt tk tv vs σ D (Pv (i + 1)) x H') (hd : ∀ H, Pv n H → Qd H) :
    ∃ W : Nat → Nat → Hp → Prop, (∃ m, W 0 m (upd H1 D o0)) ∧ ∀ i m H, W i m H → (J.stop i H ∧ Qd H) ∨ (J.go i H ∧ ∃ Nx : Hp → Prop, (∀ H', Nx H' → ∃ m', m' < m ∧ W (i + 1) m' H') ∧ ∀ x H', J.yld i H x H' → DcStep g tt tk tv vs σ D Nx x H') := by
  refine ⟨fun i m H => m + i = n ∧ Pv i H, ⟨n, rfl, h0⟩, fun i m H ⟨hm, p⟩ => ?_⟩
  have q := hG i H (by omega) p
  cases m with
  | zero =>
    have e : i = n := by omega
    subst e
    exact .inl ⟨w.stops H q, hd H p⟩
  | succ m => exact .inr ⟨w.goes i H (by omega) q, Pv (i + 1), fun H' p' => ⟨m, Nat.lt_succ_self m, by omega, p'⟩, fun x H' y => hs i x H H' (by omega) p (w.yields i H x H' (by omega) q y)⟩
end
end EL
namespace EL
open PySem PySem.Spec PyProof.Rows L2 He TL
/-! ### what may change: the objects in S; tuples never -/
def Rig : HO → Bool
  | .tup _ => true
  | .frz _ _ => true
  | _ => false
structure Md (S : List Addr) (H H' : Hp) : Prop where
  out : ∀ b o, H b = some o → b ∉ S → H' b = some o
  rig : ∀ b o, H b = some o → Rig o = true → H' b = some o
section
variable {S S' : List Addr} {H H1 H2 : Hp} {K : PySem.W.Frag} {a p : Addr} {o o' : HO}
theorem Md.refl (S : List Addr) (H : Hp) : Md S H H := ⟨fun _ _ h _ => h, fun _ _ h _ => h⟩
theorem Md.of (s : Same H H1) : Md S H H1 := ⟨fun b o h _ => s b o h, fun b o h _ => s b o h⟩
theorem Md.trans (x : Md S H H1) (y : Md S H1 H2) : Md S H H2 := ⟨fun b o h n => y.out b o (x.out b o h n) n, fun b o h r => y.rig b o (x.rig b o h r) r⟩
theorem Md.mono (x : Md S H H1) (h : ∀ b ∈ S, b ∈ S') : Md S' H H1 := ⟨fun b o e n => x.out b o e fun z => n (h b z), x.rig⟩
theorem Md.upd (e : H a = some o) (r : Rig o = false) (m : a ∈ S) : Md S H (upd H a o') :=
  ⟨fun b u h n => (upd_ne (fun z : b = a => n (by rw [z]; exact m))).trans h, fun b u h ru => (upd_ne (fun z : b = a => by rw [z, e] at h; cases h; rw [r] at ru; cases ru)).trans h⟩
/-- what is new is not seen from before -/
theorem Md.new (x : Md (p :: S) H1 H2) (s : Same H H1) (n : H p = none) : Md S H H2 :=
  ⟨fun b u h m => x.out b u (s b u h) (fun z => (List.mem_cons.mp z).elim (fun z => ne_of_none h n z) m), fun b u h r => x.rig b u (s b u h) r⟩
theorem Md.newM (x : Md (p :: S) H1 H2) (s : Md S H H1) (n : H p = none) : Md S H H2 :=
  ⟨fun b u h m => x.out b u (s.out b u h m) (fun z => (List.mem_cons.mp z).elim (fun z => ne_of_none h n z) m), fun b u h r => x.rig b u (s.rig b u h r) r⟩
theorem Md.same (x : Md [] H H1) : Same H H1 := fun b o h => x.out b o h (by simp)
theorem But.md (b : But p H H1) (e : H p = some o) (r : Rig o = false) : Md [p] H H1 :=
  ⟨fun c u h n => b c u h (fun z => n (by rw [z]; simp)), fun c u h ru => b c u h (fun z => by rw [z, e] at h; cases h; rw [r] at ru; cases ru)⟩
theorem Md.but (x : Md [p] H H1) : But p H H1 := fun b o h n => x.out b o h (by simp [n])
theorem Md.sqT (x : Md S H H1) {xs : List V} (h : SqT K H a xs) : SqT K H1 a xs := by
  rcases h with (h | ⟨o, h⟩) | h
  · exact .inl (.inl (x.rig _ _ h rfl))
  · exact .inl (.inr ⟨o, x.rig _ _ h rfl⟩)
  · exact .inr h
end
mutual
def noL : PyData → Bool
  | .list _ => false
  | .dict _ => false
  | .tuple xs => noLs xs
  | .none => true
  | .bool _ => true
  | .int _ => true
  | .str _ => true
def noLs : List PyData → Bool
  | [] => true
  | x :: r => noL x && noLs r
end
mutual
theorem Md.dp {S : List Addr} {K : PySem.W.Frag} {H H' : Hp} (s : Md S H H') : ∀ {d : PyData} {v : V}, noL d = true → Dp K H v d → Dp K H' v d
  | _, _, _, .non => .non
  | _, _, _, .bl b => .bl b
  | _, _, _, .int i => .int i
  | _, _, _, .str x => .str x
  | _, _, n, .lst h a => by cases n
  | _, _, n, .tup h a => .tup (s.sqT h) (Md.dpAll s n a)
theorem Md.dpAll {S : List Addr} {K : PySem.W.Frag} {H H' : Hp} (s : Md S H H') : ∀ {ds : List PyData} {vs : List V}, noLs ds = true → DpAll K H vs ds → DpAll K H' vs ds
  | _, _, _, .nil => .nil
  | _, _, n, .cons a b => .cons (Md.dp s (Bool.and_eq_true_iff.mp n).1 a) (Md.dpAll s (Bool.and_eq_true_iff.mp n).2 b)
end
/-- data without lists, laid and not deep -/
structure Pd (d : PyData) : Prop where
  nl : noL d = true
  cl : d.canLay0 = true
  dp : d.depth ≤ 16
theorem Pd.shaped {d : PyData} (h : Pd d) : SeqAt.shaped d = true := Bool.and_eq_true_iff.mpr ⟨h.cl, decide_eq_true (Nat.le_trans h.dp (by decide))⟩
def Pds (ds : List PyData) : Prop := ∀ d ∈ ds, Pd d
theorem Pds.nl : ∀ {ds : List PyData}, Pds ds → noLs ds = true
  | [], _ => rfl
  | d :: r, h => Bool.and_eq_true_iff.mpr ⟨(h d (by simp)).nl, Pds.nl fun x hx => h x (by simp [hx])⟩
theorem Pds.cl : ∀ {ds : List PyData}, Pds ds → PyData.canLayAll0 ds = true
  | [], _ => rfl
  | d :: r, h => Bool.and_eq_true_iff.mpr ⟨(h d (by simp)).cl, Pds.cl fun x hx => h x (by simp [hx])⟩
theorem Pds.dp : ∀ {ds : List PyData}, Pds ds → PyData.depthAll ds ≤ 16
  | [], _ => Nat.zero_le _
  | d :: r, h => Nat.max_le.mpr ⟨(h d (by simp)).dp, Pds.dp fun x hx => h x (by simp [hx])⟩
theorem Pds.shaped {ds : List PyData} (h : Pds ds) : SeqAt.shaped (.list ds) = true := Bool.and_eq_true_iff.mpr ⟨h.cl, decide_eq_true (by show PyData.depthAll ds + 1 ≤ 64; have := h.dp; omega)⟩
theorem Pds.snoc {ds : List PyData} {d : PyData} (h : Pds ds) (k : Pd d) : Pds (ds ++ [d]) := fun x hx => (List.mem_append.mp hx).elim (h x) fun z => by cases List.mem_singleton.mp z; exact k
theorem Pds.refl {ds : List PyData} (h : Pds ds) : PyData.eqv (.list ds) (.list ds) = true := SeqAt.eqv_refl _ h.cl
theorem DpAll.snoc {K : PySem.W.Frag} {H : Hp} {v : V} {d : PyData} (k : Dp K H v d) : ∀ {ds : List PyData} {vs : List V}, DpAll K H vs ds → DpAll K H (vs ++ [v]) (ds ++ [d])
  | _, _, .nil => .cons k .nil
  | _, _, .cons a b => .cons a (DpAll.snoc k b)
theorem DpAll.get {K : PySem.W.Frag} {H : Hp} : ∀ {ds : List PyData} {vs : List V} {i : Nat} {v : V}, DpAll K H vs ds → vs[i]? = some v → ∃ d, ds[i]? = some d ∧ Dp K H v d
  | _, _, 0, _, .cons a b, e => by cases e; exact ⟨_, rfl, a⟩
  | _, _, i + 1, _, .cons a b, e => DpAll.get (i := i) b e
/-! ### a caught error that has a dict: isinstance, where the answer is yes -/
theorem kit_yes {K : PySem.W.Frag} {x t c : Value} {Hq : Heap → Prop} (ty : ∀ (M : Model) (h : Heap), K.In h → Hq h → PySem.W.Looks M h (typeOf x) t) (e : PySem.W.kitOne K t c = some true) : Answers (fun s => K.In s.heap ∧ Hq s.heap) x c true := by
  intro dep tk prog w A R s hs
  obtain ⟨⟨X, p⟩, hq⟩ := hs
  obtain ⟨h0, g, d, tt, os⟩ := s
  have LT := ty (model prog w) h0 X p
  unfold PySem.W.kitOne at e
  unfold Builtin.«isinstance.nested»
  refine wpAny_bind (LT.at ?_)
  by_cases q : (t == c) = true
  · rw [if_pos q]
    first
      | exact wpAny_bind (wpAny_rule (hq tt))
      | exact wpAny_bind (wpAny_rule (wpAny_pure (hq tt)))
      | exact wpAny_pure (hq tt)
      | exact wpAny_bind (wpAny_pure (hq tt))
  · rw [if_neg q] at e
    rw [if_neg q]
    obtain ⟨k1, k2, k3⟩ := PySem.W.kit_cls (M := model prog w) X e
    refine wpAny_bind (k1.at ?_)
    rw [if_pos (by decide)]
    k_delta "plainIsInstance"
    refine wpAny_bind (wpAny_bind (k2.at ?_))
    simp only [Bool.not_true, Bool.false_eq_true, if_false]
    refine wpAny_bind ((LT.andThen k3).at ?_)
    first
      | exact wpAny_pure (wpAny_pure (hq tt))
      | (simp only [if_true]; first | exact wpAny_pure (wpAny_pure (hq tt)) | exact wpAny_pure (hq tt) | exact wpAny_bind (wpAny_pure (wpAny_pure (hq tt))))
def rIsY (K : PySem.W.Frag) (cls : Value) (a : Addr) : List V → Hp → VK → Prop := fun xs H Q => ∃ (c : V) (cv : Value), xs = [.ref a, c] ∧ (∀ u, RelV c u → u = cv) ∧ PySem.W.kitOne K cls cv = some true ∧ Q (.bl true) H
theorem call_isY {X : Cx} {a : Addr} {oe : Obj} {pn : List (Addr × Obj)} {cls : Value} {d : Option Addr} (hz : Zc cls d oe) : CallR (X.suite a ((a, oe) :: pn)) (.builtin "isinstance") (rIsY X.K cls a) := by
  intro pins s σ H xs us Q I r h
  obtain ⟨c, cv, rfl, hcv, e, q⟩ := h
  cases r with
  | cons rx rr =>
    cases rr with
    | cons rt rr =>
      cases rr
      cases rx
      cases hcv _ rt
      obtain ⟨hget, _⟩ := I.pin (a, oe) (List.mem_append.mpr (.inl List.mem_cons_self))
      refine call_isinstance (S := fun _ R s => (X.K.In s.heap ∧ s.heap.get? a = some oe) ∧ ∀ tk, R (.ok (.ret (.bool true))) { s with toks := tk })
        (fun prog w A R s hs => isinstance_outer (kit_yes (Hq := fun h => h.get? a = some oe) (t := cls) (fun M h _ e0 A Q E s k q => wpAny_typeOf_ref (k _ _ e0) (by rw [hz.1]; exact q)) e 0 _ prog w A R s hs) (fun z => nomatch z)) ⟨⟨I.kIn, hget⟩, fun tk => ?_⟩
      exact ⟨.bl true, H, I.kept (t' := tk) fun _ _ z => z, rfl, q⟩
/-! ### defs with defaults at any address -/
theorem fnD {P : Program} {w : World} {K : PySem.W.Frag} {mg : Str → Option Value} {base : Heap} {CX : CXT} {k : Nat} {x qual : Str} {sp : Sp} {params : Arguments} {body : List Stmt} {scope : Scope} {f : Addr} {fd : FuncData} {ps : List Str} {dvs : List V}
    (F : FunD K x qual params body scope dvs [] f fd) (ok : FnOk P w K mg base CX k f fd ps sp) (n j : Nat) (hd : dvs ≠ []) (hn : n + (dvs.length - j) = ps.length)
    (h : ∀ (T : Addr) (kV doc pm : Value) (an : Option Addr) (cdv ct : Value) (us its : List Value), us.length = n → its.length = dvs.length →
      ∃ k, bindArgs (PySem.W.fnOf x qual params body scope (.ref T) kV doc pm an cdv ct) ⟨us, []⟩ = seqItems? (.ref T) >>= k ∧ k (some its.toArray) = pure (ps.zip (us ++ its.drop j))) :
    FnR P w K mg base CX k f (fun vs H Q E => sp (vs ++ dvs.drop j) H Q E) := by
  obtain ⟨ds, h1, h2⟩ := F.binds1 n j hd hn h
  exact ok.raw h2 h1
/-- C() by an __init__ whose parameters all have defaults -/
theorem pe_makeE0 {X : Cx} {CX : CXT} {k : Nat} {C f : Addr} {x : Str} {sp : Sp} {E : L2.St → XK} {p pos : Pos} (M : Mk X.K C f) (F : FnR X.prog X.w X.K X.mg X.base CX k f sp) (hr : Room (k + 1) X.A) (hm : X.mg x = some (.ref C)) (hx : ∀ σ, PassesAt CX X σ (E σ)) (hg : Gl X x := by rfl) (hdb : (x == ("__debug__" : Str)) = false := by decide) :
    PE X (.Call (.Name x p) [] [] pos) (tMakeE C sp E tNil) := by
  refine ⟨fun pins s σ H Q I h => ?_⟩
  refine wpAny_Call_Name_kw (ld_glob I hg hm ?_ hdb)
  exact PySem.W.callWith_K0 (first := []) I.kIn M.kp (run_makeE (us := []) (vs := []) M F hr (hx σ) I .nil h)
def tupAB (K : PySem.W.Frag) (a : Addr) : Bool := match K.lookup a with
  | some ⟨.type c, _, .seq its _, _⟩ => decide (c = "tuple") && decide (its = #[])
  | _ => false
theorem tupAB_ok {K : PySem.W.Frag} {a : Addr} (h : tupAB K a = true) (H : Hp) : SqT K H a [] := by
  unfold tupAB at h
  split at h
  · rename_i c od its n osl q
    obtain ⟨h1, h2⟩ := ba h
    have e2 := of_decide_eq_true h2
    subst e2
    exact .inr ⟨_, #[], n, q, congrArg Value.type (of_decide_eq_true h1), rfl, by decide, .nil⟩
  · cases h
theorem tYes_of {σ : L2.St} {H : Hp} {F G : Hp → Prop} (h : F H) : tYes σ H fun b H3 => if b = true then F H3 else G H3 := by
  show if true = true then F H else G H
  rw [if_pos rfl]
  exact h
/-- try .. except X: with a name for its reading (a loop's body) -/
def tTryO (K : PySem.W.Frag) (c : Value) (ts : Addr → Value → Option Addr → TS) (Wout : WX) (tb : WX → TS) : TS := fun D σ H => tb (wOnly K c ts Wout D) D σ H
theorem ps_tryO {X : Cx} {x : Str} {c : Value} {body suite : List Stmt} {b₀ : Stmt} {np pos pos' : Pos} {tb : WX → TS} {ts : Addr → Value → Option Addr → TS} {Wout : WX} (hs : X.stack = X.env :: X.outer) (hf : X.env.frame = some X.env.locals) (hc : Names X x c) (tk : Takes X Wout)
    (hb : ∀ (W : WX) (pn : List (Addr × Obj)) (xe : Value → Shared → Prop), Takes (X.tr pn xe) W → PassesOwn (model X.prog X.w) X.A X.env xe → PSs (X.tr pn xe) body (tb W))
    (hsu : ∀ (a : Addr) (oe : Obj) (cls : Value) (d : Option Addr) (pn : List (Addr × Obj)), Zc cls d oe → (∃ vs, oe.data = .fields vs) → PSs (X.suite a ((a, oe) :: pn)) (b₀ :: suite) (ts a cls d)) :
    PS X (.Try body [.ExceptHandler (some (.Name x np)) none (b₀ :: suite) pos'] [] [] pos) (tTryO X.K c ts Wout tb) := ps_try_only hs hf hc tk hb hsu
end EL
namespace EL
open PySem PySem.Spec PyProof.Rows L2 He TL
/-! ### an exception that leaves a comprehension -/
theorem note_same {ce env : Env} (h : ce.frame = env.frame) (x : Value) : noteFrame x ce = noteFrame x env := by
  unfold noteFrame PySem.frameOf
  rw [h]
theorem comp_leave {X : Cx} {W : WX} (tk : Takes X W) (hs : X.stack = X.env :: X.outer) (hf : X.env.frame = some X.env.locals) {pins : List (Addr × Obj)} {σ : L2.St} {H : Hp} {s s' : Shared} (I : Inv X pins σ H s) {C : Addr} {m : Str → Option Value} (hn : s.heap.Ns C m) (hC : FpOk X pins H C)
    {E : XK} (hW : ∀ cls d H', E cls d H' → W cls d σ H') {e : Value} (c : L2.CX X.prog X.w X.stack H s E e s') {ce : Env} (hce : ce.frame = X.env.frame) {what : String} {E₁ : Value → Shared → Prop} :
    wpAny (model X.prog X.w) X.A (noteFrame e ce) (fun _ s1 => ∃ m, s1.heap.Ns C m ∧ ∀ h', Heap.SameBut C s1.heap h' → wpAny (model X.prog X.w) X.A (passOn what e ce : Sem Value) (fun _ _ => False) X.xe { s1 with heap := h' }) E₁ s' := by
  obtain ⟨a, B, H', cls, d, rfl, fl, hok, ub, na, os, ag, hE⟩ := c
  obtain ⟨oC, es, ep, gC, dC, rC⟩ := hn
  obtain ⟨f0, f1, f2, f3, f4, f5⟩ := hC
  have nfC : C ∉ frs X.stack := by
    rw [hs]
    intro z
    obtain ⟨env, he, q⟩ := List.mem_filterMap.mp z
    rcases List.mem_cons.mp he with rfl | he
    · rw [hf] at q
      exact f1 (Option.some.inj q).symm
    · exact f2 (List.mem_filterMap.mpr ⟨env, he, q⟩)
  have bC : B.get? C = some oC := ub.keep C oC gC f0 nfC
  obtain ⟨oe, vs, T, oT, ts, he, hz, hd, h1, hnT, hTe, hT, hdT, h3⟩ := fl.2.2.2
  have sC : s'.heap.get? C = some oC := fl.1 _ _ bC
  have aC : a ≠ C := fun z => by rw [z, sC] at he; cases he; rw [dC] at hd; cases hd
  have TC : T ≠ C := fun z => by rw [z, sC] at hT; cases hT; rw [dC] at hdT; cases hdT
  -- the three heaps without C
  obtain ⟨Gs, gs1, gs2⟩ := restrict s.heap fun b => decide (b ≠ C)
  obtain ⟨B', b1, b2⟩ := restrict B fun b => decide (b ≠ C)
  obtain ⟨Q', q1, q2⟩ := restrict s'.heap fun b => decide (b ≠ C)
  have gsS : ∀ b o, Gs.get? b = some o → b ≠ C ∧ s.heap.get? b = some o := fun b o h => by
    by_cases z : b = C
    · rw [gs2 b (by simp [z])] at h; cases h
    · exact ⟨z, (gs1 b (decide_eq_true z)).symm.trans h⟩
  have bS : ∀ b o, B'.get? b = some o → b ≠ C ∧ B.get? b = some o := fun b o h => by
    by_cases z : b = C
    · rw [b2 b (by simp [z])] at h; cases h
    · exact ⟨z, (b1 b (decide_eq_true z)).symm.trans h⟩
  have qS : ∀ b o, Q'.get? b = some o → b ≠ C ∧ s'.heap.get? b = some o := fun b o h => by
    by_cases z : b = C
    · rw [q2 b (by simp [z])] at h; cases h
    · exact ⟨z, (q1 b (decide_eq_true z)).symm.trans h⟩
  have IP : Inv X pins σ H { s with heap := Gs } := I.turned (t' := s.toks) (fun b o hb e => (gs1 b (decide_eq_true hb)).trans e) f0 f1 f3 f4 f5
  have hC' : H' C = none := ub.free C oC gC f0
  have stB : B'.StaysIn Q' := fun b o h => (q1 b (decide_eq_true (bS b o h).1)).trans (fl.1 b o (bS b o h).2)
  have ff : Q'.FunFrames B' X.stack := by
    have go : ∀ l : List Env, C ∉ frs l → s'.heap.FunFrames B l → Q'.FunFrames B' l := by
      intro l
      induction l with
      | nil => intro _ _; trivial
      | cons env r ih =>
        rintro hc ⟨k1, ⟨L, o, k2, k3, k4, k5⟩, k6⟩
        have LC : L ≠ C := fun z => hc (List.mem_filterMap.mpr ⟨env, List.mem_cons_self, by rw [k2, z]⟩)
        refine ⟨k1, ⟨L, o, k2, (b1 L (decide_eq_true LC)).trans k3, (q1 L (decide_eq_true LC)).trans k4, k5⟩, ih (fun z => hc ?_) k6⟩
        obtain ⟨env', h1, h2⟩ := List.mem_filterMap.mp z
        exact List.mem_filterMap.mpr ⟨env', List.mem_cons_of_mem _ h1, h2⟩
    exact go _ nfC fl.2.2.1
  have aB' : ∀ {b : Addr}, B.get? b = none → B'.get? b = none := fun {b} h => by
    cases q : B'.get? b with
    | none => rfl
    | some o => rw [(bS b o q).2] at h; cases h
  have fl' : HandSPX.FlyingZ B' X.stack a (Zc cls d) Q' := ⟨stB, aB' fl.2.1, ff, oe, vs, T, oT, ts, (q1 a (decide_eq_true aC)).trans he, hz, hd, h1, aB' hnT, hTe, (q1 T (decide_eq_true TC)).trans hT, hdT, h3⟩
  have hok' : HOk X.prog X.w H' B' := fun b o h => (hok b o h).stay (fun c u hc q => by
    have hcC : c ≠ C := fun z => by
      rcases hc with hc | hc
      · rw [hc] at z; rw [z, hC'] at h; cases h
      · rw [z, hC'] at hc; cases hc
    exact (b1 c (decide_eq_true hcC)).trans q) (fun _ q => q) (fun _ _ q => q)
  have ub' : UB (frs X.stack) H H' Gs B' Q' :=
    ⟨fun b o h1 h2 h3 => (b1 b (decide_eq_true (gsS b o h1).1)).trans (ub.keep b o (gsS b o h1).2 h2 h3), fun b o h1 h2 => by
      obtain ⟨sl, e⟩ := ub.slot b o (gsS b o h1).2 h2
      exact ⟨sl, (q1 b (decide_eq_true (gsS b o h1).1)).trans e⟩, fun b o h1 h2 => ub.free b o (gsS b o h1).2 h2, fun b o h1 h2 => by
      obtain ⟨o', e⟩ := ub.there b o (gsS b o h1).2 h2
      exact ⟨o', (b1 b (decide_eq_true (gsS b o h1).1)).trans e⟩, ub.tups, ub.frzs, ub.tbls⟩
  have xx : XE X W (.ref a) { s' with heap := Q' } := XE.of_call IP hW ⟨a, B', H', cls, d, rfl, fl', hok', ub', na, os, ag, hE⟩
  obtain ⟨a2, B0, sI, pins2, σ2, H2, cls2, d2, ea, I2, nb, up, sky, na2, os2, ag2, w2⟩ := xx
  obtain rfl : a = a2 := by injection ea
  have qa : Q'.get? a = some oe := (q1 a (decide_eq_true aC)).trans he
  have fl0 : HandSPX.FlyingZ B0 X.stack a (Zc cls2 d2) s'.heap := by
    rcases sky with ⟨_, _, _, oe', vs', he', _, hd', h1'⟩ | ⟨k1, k2, k3, oe', vs', T', oT', ts', he', hz', hd', h1', hnT', hTe', hT', hdT', h3'⟩ | ⟨_, _, _, oe', vs', T', oT', ts', he', _, hd', h1', _, _, hT', hdT', h3'⟩
    · have e1 : oe = oe' := Option.some.inj (qa.symm.trans he')
      subst e1
      rw [hd] at hd'
      cases hd'
      rw [h1] at h1'
      cases h1'
    · refine ⟨fun b o h => (qS b o (k1 b o h)).2, k2, k3.of_keeps (fun b o h _ => ⟨o, (qS b o h).2, rfl⟩), oe', vs', T', oT', ts', (qS _ _ he').2, hz', hd', h1', hnT', hTe', (qS _ _ hT').2, hdT', h3'⟩
    · have e1 : oe = oe' := Option.some.inj (qa.symm.trans he')
      subst e1
      rw [hd] at hd'
      cases hd'
      rw [h1] at h1'
      cases h1'
      have e2 : oT = oT' := Option.some.inj (((q1 T (decide_eq_true TC)).trans hT).symm.trans hT')
      subst e2
      rw [hdT] at hdT'
      cases hdT'
      rw [h3] at h3'
      cases h3'
  have B0C : B0.get? C = none := by
    cases q : B0.get? C with
    | none => rfl
    | some o =>
      have : B0.StaysIn Q' := by
        rcases sky with ⟨k, _⟩ | ⟨k, _⟩ | ⟨k, _⟩ <;> exact k
      exact absurd rfl (qS C o (this C o q)).1
  rw [note_same hce]
  have hfr : X.A.frames = some (X.env :: X.outer) := by rw [I.ok.frames, hs]
  rw [hs] at fl0
  refine HandSPX.looks_onZ Zc.steady hfr hf fl0 fun h1' held up1 => ?_
  obtain ⟨sl, eC⟩ := up1 C oC sC (fun vs z => by rw [dC] at z; cases z)
  refine ⟨m, ⟨_, es, ep, eC, dC, rC⟩, fun h2 sb => ?_⟩
  -- held, whatever became of C
  obtain ⟨j1, j2, j3, oe4, vs4, T4, oT4, ts4, he4, hz4, hd4, h14, hnT4, hTe4, hT4, hdT4, h34⟩ := held
  have a4 : a ≠ C := aC
  have T4C : T4 ≠ C := fun z => by rw [z, eC] at hT4; cases hT4; rw [dC] at hdT4; cases hdT4
  have k2 : ∀ b, b ≠ C → ∀ o, h1'.get? b = some o → h2.get? b = some o := fun b hb o h => (sb.2 b hb).trans h
  have ff2 : h2.FunFrames B0 (X.env :: X.outer) := by
    have go : ∀ l : List Env, C ∉ frs l → h1'.FunFrames B0 l → h2.FunFrames B0 l := by
      intro l
      induction l with
      | nil => intro _ _; trivial
      | cons env r ih =>
        rintro hc ⟨k1, ⟨L, o, l2, l3, l4, l5⟩, k6⟩
        have LC : L ≠ C := fun z => hc (List.mem_filterMap.mpr ⟨env, List.mem_cons_self, by rw [l2, z]⟩)
        refine ⟨k1, ⟨L, o, l2, l3, k2 _ LC _ l4, l5⟩, ih (fun z => hc ?_) k6⟩
        obtain ⟨env', h1, h2⟩ := List.mem_filterMap.mp z
        exact List.mem_filterMap.mpr ⟨env', List.mem_cons_of_mem _ h1, h2⟩
    exact go _ (by rw [← hs]; exact nfC) j3
  have held2 : HandSPX.HeldZ B0 (X.env :: X.outer) a (Zc cls2 d2) X.env.locals h2 :=
    ⟨fun b o h => k2 b (fun z => by rw [z, B0C] at h; cases h) o (j1 b o h), j2, ff2, oe4, vs4, T4, oT4, ts4, k2 _ a4 _ he4, hz4, hd4, h14, hnT4, hTe4, k2 _ T4C _ hT4, hdT4, h34⟩
  unfold PySem.passOn
  refine wpAny_bind (wpAny_field (k2 _ a4 _ he4) hd4 h14 ?_)
  rw [if_neg (show ¬ ((Value.ref T4 == Value.none) = true) from by simp)]
  have fin : wpAny (model X.prog X.w) X.A (setFlight (.ref a) ce.frame) (fun _ s4 => wpAny (model X.prog X.w) X.A (throw (.ref a) : Sem Value) (fun _ _ => False) X.xe s4) X.xe { s' with heap := h2 } := by
    rw [hce, hf]
    refine HandSPX.setFlight_onZ held2 fun h5 hh5 up5 => wpAny_throw (tk _ _ ?_)
    refine ⟨a, B0, sI, pins2, σ2, H2, cls2, d2, rfl, I2, nb, fun b o h hnf => ?_, .inr (.inr (by rw [hs]; exact hh5)), na2, os2, ag2, w2⟩
    obtain ⟨s1, u1⟩ := up b o h hnf
    obtain ⟨z, u1'⟩ := qS _ _ u1
    obtain ⟨s2, u2⟩ := up1 b _ u1' hnf
    obtain ⟨s3, u3⟩ := up5 b _ (k2 b z _ u2) hnf
    exact ⟨s3, u3⟩
  first
    | exact wpAny_bind (wpAny_pure (wpAny_bind fin))
    | exact wpAny_bind fin
/-- what is wanted behind a comprehension's block, its own environment known -/
def cpX (M : Model) (A : Around) (E : Value → Shared → Prop) (use : Option (Value → Sem Unit)) (Q : Value → Shared → Prop) (acc : Value) (ce : Env) (r : Result) (s' : Shared) : Prop :=
  match r with
  | .ok _ => compPost M A E use Q acc ce.locals r s'
  | .error x => ∃ m, s'.heap.Ns ce.locals m ∧ ∀ h', Heap.SameBut ce.locals s'.heap h' → wpAny M A (passOn "comprehension.variables-let-go" x ce : Sem Value) (fun _ _ => False) E { s' with heap := h' }
theorem comp_freeX {M : Model} {A : Around} {E : Value → Shared → Prop} {s : Shared} {env : Env} {e : Expr} {scope : Scope} {pos : Pos} {newAcc first : Sem Value} {g : Comprehension} {gs : List Comprehension} {cl : List (Str × Addr)} {use : Option (Value → Sem Unit)} {Q : Value → Shared → Prop}
    (hcl : clausesOf e = g :: gs) (hs : ∀ x, foldedSetIterable g.iter env x = pure x) (hclos : closureFor scope env = pure cl) (hkind : scope.kind = .function) (hnames : ∀ x ∈ scope.names, x.2 = .local → scope.names.lookup x.1 = some .local)
    (h : wpAny M A first (fun x s₁ => wpAny M A (pyIter x) (fun it s₂ => wpAny M A newAcc (fun acc s₃ => wpAny M A (newFunctionEnv scope env.globals cl [] env.qual none .none (some env)) (fun cenv s₄ =>
      codeAny M A (.compStart e 0 it acc { cenv with scope := relabel scope env }) (cpX M A E use Q acc { cenv with scope := relabel scope env }) s₄) E s₃) E s₂) E s₁) E s) :
    wpAny M A (comprehension e scope env pos newAcc false first use) Q E s := by
  unfold comprehension
  rw [hclos, hcl]
  have up : ∀ {α : Type} {t : Sem α} {P P' : α → Shared → Prop} {s : Shared}, wpAny M A t P E s → (∀ a s, P a s → P' a s) → wpAny M A t P' E s := fun h k => wpAny_mono h k fun _ _ z => z
  refine wpAny_bind (up h fun x s₁ h₁ => wpAny_bind (wpAny_standAt (wpAny_bind (wpAny_of_eq (hs x) (wpAny_bind (wpAny_holding (up h₁ fun it s₂ h₂ => wpAny_standIf (wpAny_bind (up h₂ fun acc s₃ h₃ => wpAny_bind (wpAny_pure (wpAny_bind (up h₃ fun cenv s₄ h₄ => ?_))))))))))))
  dsimp only
  have hv : ∀ x ∈ (scope.names.filter fun x => (x.2 == .local || x.2 == .cell) && x.1 != (".0" : Str)).reverse, x.2 = .local → Env.kindOf { cenv with scope := relabel scope env } x.1 = some .local := fun x hx hl => lookup_relabel_local (hnames x (List.mem_filter.mp (List.mem_reverse.mp hx)).1 hl)
  refine wpAny_holding (wpAny_bind (wpAny_attempt (wpAny_holding (wpAny_run (codeAny_mono h₄ fun r s' hr => ?_)))))
  cases r with
  | ok f =>
    cases use with
    | none =>
      obtain ⟨m, hn, hq⟩ := hr
      exact wpAny_bind (wpAny_holding (wpAny_comp_letGo (cenv := { cenv with scope := relabel scope env }) hkind _ s' m hv hn fun h' m' _ hs' => wpAny_pure (hq h' hs')))
    | some u =>
      refine wpAny_bind (wpAny_rule (wpAny_bind (wpAny_holding (up hr fun _ s2 hr' => ?_))))
      obtain ⟨m, hn, hq⟩ := hr'
      refine wpAny_bind (wpAny_comp_letGo (cenv := { cenv with scope := relabel scope env }) hkind _ s2 m (fun x hx hl => ?_) hn fun h' m' _ hs' => wpAny_pure (hq h' hs'))
      exact (List.mem_append.mp hx).elim (fun z => hv x (List.mem_of_mem_drop z) hl) (fun z => hv x (List.mem_of_mem_take z) hl)
  | error x =>
    obtain ⟨m, hn, hq⟩ := hr
    exact wpAny_bind (wpAny_holding (wpAny_comp_letGo (cenv := { cenv with scope := relabel scope env }) hkind _ s' m hv hn fun h' m' _ hs' => up (hq h' hs') (fun _ _ f => f.elim)))
/-- a block that lets exceptions out -/
abbrev blx (X : Cx) (s : Shared) (H : Hp) (scope : Scope) (cenv : Env) (fp : List Addr) (xe : Value → Shared → Prop) : Cx := { X.blk s H scope cenv fp with xe := xe }
theorem _root_.L2.Inv.toBlx {X : Cx} {s0 : Shared} {H0 : Hp} {scope : Scope} {ce : Env} {fp : List Addr} {xe : Value → Shared → Prop} {pins : List (Addr × Obj)} {σ : L2.St} {H : Hp} {s : Shared} (I : Inv (X.blk s0 H0 scope ce fp) pins σ H s) : Inv (EL.blx X s0 H0 scope ce fp xe) pins σ H s :=
  ⟨⟨I.ok.mod, I.ok.kind, I.ok.glob, I.ok.blt, I.ok.above, I.ok.inj, I.ok.has, I.ok.cab, I.ok.hd, I.ok.frames, I.ok.stk, I.ok.exf, I.ok.bs, I.ok.bsz, I.ok.noex, I.ok.exfs, I.ok.funs, I.ok.frf⟩, I.os, I.bare, I.base, I.loc, I.cell, I.free, I.freeC, I.pin, I.hok, I.len⟩
theorem _root_.L2.Inv.ofBlx {X : Cx} {s0 : Shared} {H0 : Hp} {scope : Scope} {ce : Env} {fp : List Addr} {xe : Value → Shared → Prop} {pins : List (Addr × Obj)} {σ : L2.St} {H : Hp} {s : Shared} (I : Inv (EL.blx X s0 H0 scope ce fp xe) pins σ H s) : Inv (X.blk s0 H0 scope ce fp) pins σ H s :=
  ⟨⟨I.ok.mod, I.ok.kind, I.ok.glob, I.ok.blt, I.ok.above, I.ok.inj, I.ok.has, I.ok.cab, I.ok.hd, I.ok.frames, I.ok.stk, I.ok.exf, I.ok.bs, I.ok.bsz, I.ok.noex, I.ok.exfs, I.ok.funs, I.ok.frf⟩, I.os, I.bare, I.base, I.loc, I.cell, I.free, I.freeC, I.pin, I.hok, I.len⟩
section
variable {X : Cx}
/-- [elt for target in iter if ..] whose elt may raise: te by what is let out -/
abbrev LcStep (g : TG) (tt : TT) (te : TE) (vs : List Nat) (σ : L2.St) (D : Addr) (Nx : Hp → Prop) (x : V) (H : Hp) : Prop := g x (wipe σ vs) H fun σ2 H2 => wipe σ2 vs = wipe σ vs ∧ tt σ2 H2 fun b H3 =>
  if b = true then te σ2 H3 fun y H4 => ∃ acc, H4 D = some (.lst acc) ∧ acc.length < sizeLine ∧ Nx (upd H4 D (.lst (acc ++ [y]))) else Nx H3
def tLcX (W : WX) (wi : TI) (g : TG) (tt : TT) (te : XK → TE) (vs : List Nat) : TE := fun σ H Q => wi σ H fun J H1 => ∀ D, H1 D = none → ∃ V : Nat → Nat → Hp → Prop, (∃ m, V 0 m (upd H1 D (.lst []))) ∧ ∀ i m H, V i m H →
  (J.stop i H ∧ Q (.ref D) H) ∨ (J.go i H ∧ ∃ Nx : Hp → Prop, (∀ H', Nx H' → ∃ m', m' < m ∧ V (i + 1) m' H') ∧ ∀ x H', J.yld i H x H' → LcStep g tt (te (WE W σ)) vs σ D Nx x H')
theorem lcX_core {pins : List (Addr × Obj)} {s : Shared} {σ : L2.St} {H : Hp} {Q : VK} {W : WX} {elt tg iter : Expr} {ifs : List Expr} {scope : Scope} {own : List (Str × Nat)} {pos pos' : Pos} {wi : TI} {g : TG} {tt : TT} {te : XK → TE} {use : Option (Value → Sem Unit)} {Qf : Value → Shared → Prop}
    (tk : Takes X W) (hst : X.stack = X.env :: X.outer) (hfm : X.env.frame = some X.env.locals) (hc : X.calm = true) (hN : X.N.Nodup) (I : Inv X pins σ H s) (hi : PI X tg iter wi) (ok : BlkOk X.N X.env.scope scope own)
    (hg : ∀ (s : Shared) (H : Hp) (C : Addr) (cl : List (Str × Addr)) (fp : List Addr), PG (X.blk s H scope (compEnvC scope cl C X.env) fp) tg g) (ht : ∀ (s : Shared) (H : Hp) (C : Addr) (cl : List (Str × Addr)) (fp : List Addr), PTs (X.blk s H scope (compEnvC scope cl C X.env) fp) ifs tt)
    (he : ∀ (s : Shared) (H : Hp) (C : Addr) (cl : List (Str × Addr)) (fp : List Addr) (xe : Value → Shared → Prop) (E : XK), (∀ σ', PassesAt (L2.CX X.prog X.w) (EL.blx X s H scope (compEnvC scope cl C X.env) fp xe) σ' E) → PE (EL.blx X s H scope (compEnvC scope cl C X.env) fp xe) elt (te E)) (hs : ∀ x, foldedSetIterable iter X.env x = pure x)
    (h : tLcX W wi g tt te (own.map (·.2)) σ H Q)
    (hRR : ∀ D C s' m H', Inv X pins σ H' s' → Q (.ref D) H' → s'.heap.Ns C m → FpOk X pins H' C → compPost (model X.prog X.w) X.A X.xe use Qf (.ref D) C (.ok .next) s') :
    wpAny (model X.prog X.w) X.A (comprehension (.ListComp elt [⟨tg, iter, ifs, 0⟩] scope pos) scope X.env pos' (newList []) false (eval iter X.env) use) Qf X.xe s := by
  have cl : ∀ y ∈ scope.names, y.2 = .free → ∃ c, X.env.cells.lookup y.1 = some c := fun y hy e => (ok.free y hy e).elim (fun k => I.ok.has _ (.inl k)) (fun k => I.ok.has _ (.inr k))
  refine comp_freeX (use := use) rfl hs (closure_ok cl) ok.kind (fun y hy e => by rw [ok.uniq y hy, e]) (thn (hi.run pins s σ H _ I h) fun xv s1 hx => thn hx fun itv s2 h2 => ?_)
  obtain ⟨it, fp, tn, J, H2, e, I2, T, st2, f2, q⟩ := h2
  subst e
  refine wpAny_newObj_type (newEnv_comp ?_)
  generalize hD : s2.heap.objs.size = D
  obtain ⟨V, ⟨m0, w0⟩, turn⟩ := q D (I2.hok.fresh (Nat.le_of_eq hD))
  obtain ⟨s3, hs3⟩ : ∃ s3 : Shared, ({ s2 with heap := s2.heap.push { cls := .type "list", data := .seq ([] : List Value).toArray } } : Shared) = s3 := ⟨_, rfl⟩
  have hh3 : s3.heap = s2.heap.push { cls := .type "list", data := .seq ([] : List Value).toArray } := by rw [← hs3]
  obtain ⟨H3, hH3⟩ : ∃ H3, upd H2 D (.lst []) = H3 := ⟨_, rfl⟩
  have I3 : Inv X pins σ H3 s3 := by
    rw [← hs3, ← hH3]
    refine I2.laid (t' := s2.toks) (fun b o e => Heap.get?_push_of_some _ e) (Nat.le_of_eq hD) ?_
    rw [← hD]
    exact ⟨Nat.zero_le _, [], 0, .nil, Heap.get?_push_size _ rfl⟩
  rw [hH3] at w0
  have lt2 : ∀ b ∈ fp, b < s2.heap.objs.size := fun b hb => let ⟨o, e, _⟩ := T.obj _ _ st2 b hb; Heap.lt_size e
  have f3 : ∀ b ∈ fp, FpOk X pins H3 b ∧ b < s3.heap.objs.size := fun b hb => by
    refine ⟨⟨?_, (f2 b hb).2⟩, by rw [hh3, Heap.size_push]; exact Nat.lt_succ_of_lt (lt2 b hb)⟩
    rw [← hH3, upd_ne (by rw [← hD]; exact Nat.ne_of_lt (lt2 b hb))]
    exact (f2 b hb).1
  have I4 := block_start I3 ok hN f3
  rw [hs3]
  show codeAny _ _ (.compStart (.ListComp elt [⟨tg, iter, ifs, 0⟩] scope pos) 0 (.ref it) (.ref D) (compEnvC scope (cellsFrom (s3.heap.objs.size + 1) scope.names (cloFrom X.env.cells scope.names [])) s3.heap.objs.size X.env)) (cpX (model X.prog X.w) X.A X.xe use Qf (.ref D) (compEnvC scope (cellsFrom (s3.heap.objs.size + 1) scope.names (cloFrom X.env.cells scope.names [])) s3.heap.objs.size X.env)) { s3 with heap := pushCells (s3.heap.push { cls := .type "dict", data := .dict #[] }) scope.names }
  have pg := hg s3 H3 s3.heap.objs.size (cellsFrom (s3.heap.objs.size + 1) scope.names (cloFrom X.env.cells scope.names [])) fp
  have pt := ht s3 H3 s3.heap.objs.size (cellsFrom (s3.heap.objs.size + 1) scope.names (cloFrom X.env.cells scope.names [])) fp
  have pe0 := he s3 H3 s3.heap.objs.size (cellsFrom (s3.heap.objs.size + 1) scope.names (cloFrom X.env.cells scope.names [])) fp
  have cF : (compEnvC scope (cellsFrom (s3.heap.objs.size + 1) scope.names (cloFrom X.env.cells scope.names [])) s3.heap.objs.size X.env).frame = X.env.frame := rfl
  generalize hce : compEnvC scope (cellsFrom (s3.heap.objs.size + 1) scope.names (cloFrom X.env.cells scope.names [])) s3.heap.objs.size X.env = ce at I4 pg pt pe0 cF ⊢
  have cL : ce.locals = s3.heap.objs.size := by rw [← hce]; rfl
  have st4 : tn 0 (pushCells (s3.heap.push { cls := .type "dict", data := .dict #[] }) scope.names) := T.keep _ _ _ st2 fun b _ o e => pushCells_keeps _ _ _ _ (Heap.get?_push_of_some _ (by rw [hh3]; exact Heap.get?_push_of_some _ e))
  generalize hs4 : ({ s3 with heap := pushCells (s3.heap.push { cls := .type "dict", data := .dict #[] }) scope.names } : Shared) = s4 at I4 ⊢
  have st4' : tn 0 s4.heap := by rw [← hs4]; exact st4
  have stat : ∀ {σ' : L2.St} {H' : Hp} {s' : Shared}, Inv (X.blk s3 H3 scope ce fp) [] σ' H' s' → (∀ b ∈ fp, H' b = none) → ∀ b ∈ fp, FpOk (X.blk s3 H3 scope ce fp) [] H' b := fun I' hn b hb =>
    ⟨hn b hb, (I'.ok.exf b hb).1, I'.ok.exfs b hb, .inl hb, fun x c e => (I'.ok.exf b hb).2 x c e, fun p hp => by cases hp⟩
  -- the def's own view of a state within the block
  have back : ∀ {pins' : List (Addr × Obj)} {σ' : L2.St} {H' : Hp} {s' : Shared}, Inv (X.blk s3 H3 scope ce fp) pins' σ' H' s' → Inv X pins σ H' s' ∧ (∃ m, s'.heap.Ns ce.locals m) ∧ FpOk X pins H' ce.locals := fun {pins' σ' H' s'} I6 => by
    have nC : H' s3.heap.objs.size = none := by rw [← cL]; exact I6.free
    obtain ⟨m, hn, _⟩ := I6.loc
    exact ⟨I3.call' (ch := fp) I6.os I6.base I6.hok I6.bare fun b hb => ⟨(f3 b hb).1.2.2.2.1, (f3 b hb).1.2.1, (f3 b hb).1.2.2.2.2.1, (f3 b hb).1.2.2.2.2.2⟩, ⟨m, hn⟩, by rw [cL]; exact I3.fpOk (Nat.le_refl _) nC⟩
  have pe := pe0 (notedBy (model X.prog X.w) X.A ce fun e s' => cpX (model X.prog X.w) X.A X.xe use Qf (.ref D) ce (.error e) s') (WE W σ) (fun σ' pins' H' s' e s2' I' c => by
    obtain ⟨J1, ⟨m, hn⟩, J2⟩ := back I'.ofBlx
    exact comp_leave tk hst hfm J1 hn J2 (fun _ _ _ z => z) c cF)
  have loop : codeAny (model X.prog X.w) X.A (.compLoop (.ListComp elt [⟨tg, iter, ifs, 0⟩] scope pos) 0 (.ref it) (.ref D) ce) (cpX (model X.prog X.w) X.A X.xe use Qf (.ref D) ce) s4 := by
    refine compLoop_any (fun n s' => ∃ i H', Inv (X.blk s3 H3 scope ce fp) [] (wipe σ (own.map (·.2))) H' s' ∧ tn i s'.heap ∧ (∀ b ∈ fp, H' b = none) ∧ V i n H') ?_ m0 ⟨0, H3, I4, st4', fun b hb => (f3 b hb).1.1, w0⟩
    rintro n s5 ⟨i, H5, I5, st5, n5, w5⟩
    rcases turn i n H5 w5 with ⟨stop, qq⟩ | ⟨go, Nx, hNx, step⟩
    · refine thnF (T.done (X.blk s3 H3 scope ce fp) rfl rfl rfl hc i [] s5 _ H5 (fun _ _ => False) I5 (stat I5 n5) st5 stop) fun r s6 ⟨hr, I6⟩ => ?_
      subst hr
      obtain ⟨J1, ⟨m, hn⟩, J2⟩ := back I6
      exact hRR D ce.locals s6 m H5 J1 qq hn J2
    · refine thnF (T.item (X.blk s3 H3 scope ce fp) rfl rfl rfl hc i [] s5 _ H5 (fun _ _ => False) I5 (stat I5 n5) st5 go) fun r s6 ⟨u, hr, h6⟩ => ?_
      subst hr
      refine thnF h6 fun _ s7 ⟨x, H7, I7, r7, y7, st7, n7⟩ => ?_
      refine thnF (pg.run _ s7 _ H7 x u _ (I7.pinned (stat I7 n7) (T.obj _ _ st7)) r7 (step x H7 y7)) fun _ s8 ⟨σ8, H8, I8, hw8, q8⟩ => ?_
      refine thnF (pt.run _ s8 σ8 H8 _ I8 q8) fun b s9 ⟨H9, I9, q9⟩ => ?_
      have fin : ∀ {s' : Shared} {H' : Hp}, Inv (X.blk s3 H3 scope ce fp) ([] ++ pinsAt fp s7.heap) σ8 H' s' → Nx H' → ∃ m, m < n ∧ ∃ i H', Inv (X.blk s3 H3 scope ce fp) [] (wipe σ (own.map (·.2))) H' s' ∧ tn i s'.heap ∧ (∀ b ∈ fp, H' b = none) ∧ V i m H' := fun {s' H'} I' nx => by
        obtain ⟨m', hm, w'⟩ := hNx H' nx
        have pin' : ∀ b ∈ fp, ∀ o, s7.heap.get? b = some o → s'.heap.get? b = some o ∧ H' b = none := fun b hb o e =>
          let z := I'.pin (b, o) (List.mem_append_right _ (List.mem_append_right _ (mem_pinsAt hb e)))
          ⟨z.1, z.2.1⟩
        refine ⟨m', hm, i + 1, H', (I'.unpinned (pins := [])).weak (by rw [← hw8, wipe_length]) (fun j v e => (wipe_some (by rw [hw8]; exact e)).1), T.keep _ _ _ st7 fun b hb o e => (pin' b hb o e).1, fun b hb => ?_, w'⟩
        obtain ⟨o, e, _⟩ := T.obj _ _ st7 b hb
        exact (pin' b hb o e).2
      cases b with
      | false => exact fin I9 q9
      | true =>
        refine thn (pe.run _ s9 σ8 H9 _ I9.toBlx q9) fun z s10 ⟨yv, H10, I10, r10, acc, hD10, hz10, nx⟩ => ?_
        exact app_ok (X := X.blk s3 H3 scope ce fp) I10.ofBlx hD10 hz10 r10 fun s11 I11 => fin I11 nx
  exact codeAny_compStart_list loop (T.self X.A 0 _ _ _ st4' loop)
theorem pe_lcX {W : WX} {elt tg iter : Expr} {ifs : List Expr} {scope : Scope} {own : List (Str × Nat)} {pos : Pos} {wi : TI} {g : TG} {tt : TT} {te : XK → TE} (tk : Takes X W) (hst : X.stack = X.env :: X.outer) (hfm : X.env.frame = some X.env.locals) (hc : X.calm = true) (hN : X.N.Nodup) (hi : PI X tg iter wi) (ok : BlkOk X.N X.env.scope scope own)
    (hg : ∀ (s : Shared) (H : Hp) (C : Addr) (cl : List (Str × Addr)) (fp : List Addr), PG (X.blk s H scope (compEnvC scope cl C X.env) fp) tg g) (ht : ∀ (s : Shared) (H : Hp) (C : Addr) (cl : List (Str × Addr)) (fp : List Addr), PTs (X.blk s H scope (compEnvC scope cl C X.env) fp) ifs tt)
    (he : ∀ (s : Shared) (H : Hp) (C : Addr) (cl : List (Str × Addr)) (fp : List Addr) (xe : Value → Shared → Prop) (E : XK), (∀ σ', PassesAt (L2.CX X.prog X.w) (EL.blx X s H scope (compEnvC scope cl C X.env) fp xe) σ' E) → PE (EL.blx X s H scope (compEnvC scope cl C X.env) fp xe) elt (te E)) (hs : ∀ x, foldedSetIterable iter X.env x = pure x := by intro _; rfl) :
    PE X (.ListComp elt [⟨tg, iter, ifs, 0⟩] scope pos) (tLcX W wi g tt te (own.map (·.2))) := by
  refine ⟨fun pins s σ H Q I h => ?_⟩
  rw [arm_eval_ListComp]
  refine lcX_core tk hst hfm hc hN I hi ok hg ht he hs h fun D C s' m H' I' q hn f => ⟨m, hn, fun h2 sb => ?_⟩
  obtain ⟨f0, f1, f2, f3, f4, f5⟩ := f
  exact ⟨.ref D, H', I'.turned (t' := s'.toks) (fun b o hb e => (sb.2 b hb).trans e) f0 f1 f3 f4 f5, rfl, q⟩
theorem ps_setLcX {W : WX} {i : Nat} {y : Str} {py : Pos} {elt tg iter : Expr} {ifs : List Expr} {scope : Scope} {own : List (Str × Nat)} {pos spos : Pos} {wi : TI} {g : TG} {tt : TT} {te : XK → TE} (tk : Takes X W) (hst : X.stack = X.env :: X.outer) (hfm : X.env.frame = some X.env.locals) (hc : X.calm = true) (hN : X.N.Nodup) (hy : X.N[i]? = some y) (hyl : X.env.scope.names.lookup y = some .local)
    (hsw : swapsWith (.ListComp elt [⟨tg, iter, ifs, 0⟩] scope pos) (some (.Name y py)) spos.line X.env = pure true) (hi : PI X tg iter wi) (ok : BlkOk X.N X.env.scope scope own)
    (hg : ∀ (s : Shared) (H : Hp) (C : Addr) (cl : List (Str × Addr)) (fp : List Addr), PG (X.blk s H scope (compEnvC scope cl C X.env) fp) tg g) (ht : ∀ (s : Shared) (H : Hp) (C : Addr) (cl : List (Str × Addr)) (fp : List Addr), PTs (X.blk s H scope (compEnvC scope cl C X.env) fp) ifs tt)
    (he : ∀ (s : Shared) (H : Hp) (C : Addr) (cl : List (Str × Addr)) (fp : List Addr) (xe : Value → Shared → Prop) (E : XK), (∀ σ', PassesAt (L2.CX X.prog X.w) (EL.blx X s H scope (compEnvC scope cl C X.env) fp xe) σ' E) → PE (EL.blx X s H scope (compEnvC scope cl C X.env) fp xe) elt (te E)) (hs : ∀ x, foldedSetIterable iter X.env x = pure x := by intro _; rfl) :
    PS X (.Assign [.Name y py] (.ListComp elt [⟨tg, iter, ifs, 0⟩] scope pos) spos) (tAsg (tLcX W wi g tt te (own.map (·.2))) (gName i)) := by
  refine ⟨fun pins s σ H D I h => ?_⟩
  rw [exec_Assign_Name_used _ _ _ _ hsw]
  refine wpAny_bind (wpAny_standAt (wpAny_bind ?_))
  show wpAny _ X.A (do let _ ← comprehension (.ListComp elt [⟨tg, iter, ifs, 0⟩] scope pos) scope X.env (firstIterPos [⟨tg, iter, ifs, 0⟩] pos) (newList []) false (eval iter X.env) (some (assign (.Name y py) X.env))) _ _ s
  have h' : tLcX W wi g tt te (own.map (·.2)) σ H (fun x H1 => gName i x σ H1 D.nx) := h
  refine wpAny_bind (thn (lcX_core (Qf := fun _ s' => SP X pins D .next s') tk hst hfm hc hN I hi ok hg ht he hs h' fun L C s' m H' I' q hn f => ?_) fun _ s' hq => wpAny_pure (wpAny_pure hq))
  obtain ⟨f0, f1, f2, f3, f4, f5⟩ := f
  refine wpAny_assign_Name (store_ok2 (v := V.ref L) I' hN hy (.inl hyl) rfl (fun s2 I2 ⟨a, sb, ha⟩ => ?_) (.inr hyl))
  have haC : C ≠ a := ha.elim (fun z => by rw [z]; exact f1) (fun z e => f4 y a z e.symm)
  exact ⟨m, hn.sameBut sb haC, fun h3 sb3 => ⟨_, H', I2.turned (t' := s2.toks) (fun b o hb e => (sb3.2 b hb).trans e) f0 f1 f3 f4 f5, q⟩⟩
theorem lcX_it {J : It} {n : Nat} {G : Hp → Prop} {Y : Nat → Hp → V → Hp → Prop} (w : L2.Walk J n G Y) {g : TG} {tt : TT} {te : TE} {vs : List Nat} {σ : L2.St} {H1 : Hp} {D : Addr} {Qd : Hp → Prop} (Pv : Nat → Hp → Prop) (h0 : Pv 0 (upd H1 D (.lst []))) (hG : ∀ i H, i ≤ n → Pv i H → G H)
    (hs : ∀ i x H H', i < n → Pv i H → Y i H x H' → LcStep g tt te vs σ D (Pv (i + 1)) x H') (hd : ∀ H, Pv n H → Qd H) :
    ∃ V : Nat → Nat → Hp → Prop, (∃ m, V 0 m (upd H1 D (.lst []))) ∧ ∀ i m H, V i m H → (J.stop i H ∧ Qd H) ∨ (J.go i H ∧ ∃ Nx : Hp → Prop, (∀ H', Nx H' → ∃ m', m' < m ∧ V (i + 1) m' H') ∧ ∀ x H', J.yld i H x H' → LcStep g tt te vs σ D Nx x H') := by
  refine ⟨fun i m H => m + i = n ∧ Pv i H, ⟨n, rfl, h0⟩, fun i m H ⟨hm, p⟩ => ?_⟩
  have q := hG i H (by omega) p
  cases m with
  | zero =>
    have e : i = n := by omega
    subst e
    exact .inl ⟨w.stops H q, hd H p⟩
  | succ m => exact .inr ⟨w.goes i H (by omega) q, Pv (i + 1), fun H' p' => ⟨m, Nat.lt_succ_self m, by omega, p'⟩, fun x H' y => hs i x H H' (by omega) p (w.yields i H x H' (by omega) q y)⟩
/-- a call of a def that may raise, what it lets out being taken as hx says -/
theorem clP {CX : CXT} {k : Nat} {x : Str} {sp : Sp} {E : XK} {e : Expr} {es : List Expr} {t : TA} {p pos : Pos} (hx : ∀ σ, PassesAt CX X σ E) (D : Dn X.prog X.w X.K X.mg X.base CX k x sp) (hr : Room k X.A) (ha : PA X (e :: es) t) (hg : Gl X x := by rfl)
    (hdb : (x == ("__debug__" : Str)) = false := by decide) (he : starEach (e :: es) X.env = (false, eval e X.env) :: starEach es X.env := by rfl) (hpl : (backTo pos (starEach es X.env)).any (·.1) = false := by rfl) :
    PE X (.Call (.Name x p) (e :: es) [] pos) (tCallS sp (fun _ => E) t) := pe_fn D.r hr hg D.g D.kp hx ha hdb he hpl
end
/-! ### an instance called, what it lets out by the caller's slots -/
def tCallOE (C : Addr) (sp : Sp) (E : L2.St → XK) (tf : TE) (t : TA) : TE := fun σ H Q => tf σ H fun y H1 => ∃ a, y = V.ref a ∧ t σ H1 fun vs H2 => (∃ dx fs, H2 a = some (.ins C dx fs)) ∧ sp (V.ref a :: vs) H2 Q (E σ)
theorem pe_callOE {X : Cx} {CX : CXT} {k : Nat} {C g : Addr} {sp : Sp} {E : L2.St → XK} {fe e : Expr} {es : List Expr} {tf : TE} {t : TA} {pos : Pos} (hf : PE X fe tf) (c : StX.CallO X.K C g) (F : FnR X.prog X.w X.K X.mg X.base CX k g sp) (hr : Room k X.A) (hx : ∀ σ, PassesAt CX X σ (E σ)) (ha : PA X (e :: es) t)
    (ht : eval (.Call fe (e :: es) [] pos) X.env = (do callWith pos (← eval fe X.env) [] (backTo pos (starEach (e :: es) X.env)) (backToKw pos (keywordEach [] X.env))) := by rfl)
    (he : starEach (e :: es) X.env = (false, eval e X.env) :: starEach es X.env := by rfl) (hpl : (backTo pos (starEach es X.env)).any (·.1) = false := by rfl) : PE X (.Call fe (e :: es) [] pos) (tCallOE C sp E tf t) := by
  refine ⟨fun pins s σ H Q I h => ?_⟩
  refine Call_ (thn (hf.run pins s σ H _ I h) fun u s1 ⟨y, H1, I1, ry, a, ey, q⟩ => ?_) ht
  subst ey
  cases (show u = Value.ref a from ry)
  refine StX.callO_with (thn (ha.run pos pins s1 σ H1 _ I1 q) fun us s2 ⟨vs, H2, I2, r, hi, q2⟩ => ?_) he hpl
  obtain ⟨ox, od, J, hd⟩ := StX.insC_at (C := C) I2 (.inr hi)
  refine ⟨⟨C, ox, od, J, hd⟩, wpAny_call (PySem.W.kco_code I2.kIn J hd c.at_ c.fn c.fi (codeAny_mono (F X.A X.stack s2 H2 (.ref a :: us) (.ref a :: vs) Q (E σ) hr I2.env0 (.cons rfl r) q2) fun r s' hq => ?_))⟩
  cases r with
  | error e => exact hx σ pins _ s2 e s' I2 hq
  | ok fl =>
    cases fl with
    | ret u => exact I2.after hq
    | next => exact False.elim hq
    | brk => exact False.elim hq
    | cont => exact False.elim hq
def callOB (K : PySem.W.Frag) (C : Addr) : Bool := eqO (PySem.W.findIn K (.ref C) "__call__") (some (some (.ref (ma K C "__call__")))) && (PySem.W.isFn K (.ref (ma K C "__call__")) && PySem.W.fnIn K (ma K C "__call__"))
theorem callOB_ok {K : PySem.W.Frag} {C : Addr} (h : callOB K C = true) : StX.CallO K C (ma K C "__call__") := by
  obtain ⟨h1, h⟩ := ba h
  obtain ⟨h2, h3⟩ := ba h
  exact ⟨eqO_ok h1, h2, h3⟩
/-! ### facts of dunders; the operators of two instances of one class -/
def dunB (K : PySem.W.Frag) (C : Addr) (m : Str) : Bool := eqO (PySem.W.findIn K (.ref C) m) (some (some (.ref (ma K C m)))) && PySem.W.isFn K (.ref (ma K C m))
theorem dunB_ok {K : PySem.W.Frag} {C : Addr} {m : Str} (h : dunB K C m = true) : PySem.W.findIn K (.ref C) m = some (some (.ref (ma K C m))) ∧ PySem.W.isFn K (.ref (ma K C m)) = true := by
  obtain ⟨h1, h2⟩ := ba h
  exact ⟨eqO_ok h1, h2⟩
/-! ### a dict of the top with text keys -/
def nsStrB (K : PySem.W.Frag) (d : Addr) (z y : Str) : Bool := match PySem.W.nsIn K d z with
  | some (some (.str x _)) => decide (x = y)
  | _ => false
theorem nsStrB_ok {K : PySem.W.Frag} {d : Addr} {z y : Str} (h : nsStrB K d z y = true) : ∃ u, PySem.W.nsIn K d z = some (some u) ∧ RelV (.str y) u := by
  unfold nsStrB at h
  split at h
  · rename_i x t q
    cases of_decide_eq_true h
    exact ⟨_, q, t, rfl⟩
  · cases h
theorem kdct {K : PySem.W.Frag} {w : World} {a : Addr} {z y : Str} (D : ∃ es n, KDict K w a es n) (h : ∃ u, PySem.W.nsIn K a z = some (some u) ∧ RelV (.str y) u) : KDct K w a z (.str y) := by
  obtain ⟨es, n, D⟩ := D
  obtain ⟨u, h1, h2⟩ := h
  exact ⟨es, n, u, D.at_, D.lit, h1, h2⟩
abbrev AlY : Type := AlX × List (Option (List (Option (Str × Int))))
def obsY (fa : List Fa) (fn : List DefE) (xn : List DefX) (ts : List Tab) (ex : PySem.W.Frag → Bool) (K : PySem.W.Frag) : AlY := (obsX fa fn xn ex K, ts.map fun t => dicW K (t.1 K))
def obsYG (n : Nat) (fa : List Fa) (fn : List DefE) (xn : List DefX) (ts : List Tab) (ex : PySem.W.Frag → Bool) (g : Addr → Option Obj) : AlY := obsY fa fn xn ts ex (frG g (He5.asA g n))
def valY (fn : List DefE) (xn : List DefX) (ts : List Tab) (w : World) : AlY := (valX fn xn, ts.map fun t => some (keysIn w.params t.2))
def SaysY (fa : List Fa) (fn : List DefE) (xn : List DefX) (ts : List Tab) (ex : PySem.W.Frag → Bool) (w : World) (K : PySem.W.Frag) : Prop := obsY fa fn xn ts ex K = valY fn xn ts w
def hookY (n : Nat) (fa : List Fa) (fn : List DefE) (xn : List DefX) (ts : List Tab) (ex : PySem.W.Frag → Bool) : PySem.W.Hook where
  α := AlY
  obs := fun s => obsYG n fa fn xn ts ex s.heap.get?
  val := fun w => valY fn xn ts w
  says := fun w h => ∃ K : PySem.W.Frag, K.In h ∧ SaysY fa fn xn ts ex w K
  of := fun _ _ e => ⟨_, frG_in, e⟩
  keeps := fun _ _ _ ⟨K, hK, c⟩ k => ⟨K, PySem.W.Frag.In.keeps hK k, c⟩
theorem obsYG_eq {n : Nat} {fa : List Fa} {fn : List DefE} {xn : List DefX} {ts : List Tab} {ex : PySem.W.Frag → Bool} {g : Addr → Option Obj} {s : Shared} (h : ∀ a, g a = s.heap.get? a) : obsYG n fa fn xn ts ex g = (hookY n fa fn xn ts ex).obs s := by
  have e : g = s.heap.get? := funext h
  rw [e] <;> rfl
section
variable {fa : List Fa} {fn : List DefE} {xn : List DefX} {ts : List Tab} {ex : PySem.W.Frag → Bool} {w : World} {K : PySem.W.Frag}
theorem SaysY.x (c : SaysY fa fn xn ts ex w K) : SaysX fa fn xn ex K := congrArg (fun z : AlY => z.1) c
theorem SaysY.tab (c : SaysY fa fn xn ts ex w K) (i : Nat) {t : Tab} (h : ts[i]? = some t := by rfl) : ∃ es n, KDict K w (t.1 K) es n := by
  have e2 : (ts.map fun t => dicW K (t.1 K))[i]? = (ts.map fun t => some (keysIn w.params t.2))[i]? := congrArg (fun z : AlY => z.2[i]?) c
  rw [List.getElem?_map, List.getElem?_map, h] at e2
  exact dicW_ok (Option.some.inj e2)
end
/-! ### lists or tuples -/
theorem PI.or_ {X : Cx} {tg e : Expr} {w1 w2 : TI} (h1 : PI X tg e w1) (h2 : PI X tg e w2) : PI X tg e (fun σ H R => w1 σ H R ∨ w2 σ H R) :=
  ⟨fun pins s σ H R I h => h.elim (fun z => h1.run pins s σ H R I z) (fun z => h2.run pins s σ H R I z)⟩
theorem PE.or_ {X : Cx} {e : Expr} {t1 t2 : TE} (h1 : PE X e t1) (h2 : PE X e t2) : PE X e (fun σ H Q => t1 σ H Q ∨ t2 σ H Q) :=
  ⟨fun pins s σ H Q I h => h.elim (fun z => h1.run pins s σ H Q I z) (fun z => h2.run pins s σ H Q I z)⟩
theorem SqL.new {K : PySem.W.Frag} {H H' : Hp} {S : List Addr} {a : Addr} {xs : List V} (h : SqL K H a xs) (m : Md S H H') (n : ∀ b ∈ S, H b = none) : SqL K H' a xs := by
  rcases h with (h | ⟨o, h⟩) | h
  · exact .inl (.inl (m.out _ _ h fun z => by rw [n a z] at h; cases h))
  · exact .inl (.inr ⟨o, m.out _ _ h fun z => by rw [n a z] at h; cases h⟩)
  · exact .inr h
theorem kit_any2 (K : PySem.W.Frag) (A B : Kd) (d : PyData) : PySem.W.kitAny K (.type (tyn d)) [.type (kdN A), .type (kdN B)] = some (isTy A d || isTy B d) := by
  unfold PySem.W.kitAny
  rw [kit_d K A d]
  cases isTy A d with
  | true => rfl
  | false =>
    show PySem.W.kitAny K (.type (tyn d)) [.type (kdN B)] = _
    unfold PySem.W.kitAny
    rw [kit_d K B d]
    cases isTy B d with
    | true => rfl
    | false => rfl
theorem u65 {k : Nat} {A : Around} (r : Room k A) : A.units + 65 < cLine := by have := r.un; omega
/-- x is True, x is False: x a truth value or None -/
def rIsBN : R2 := fun x y H Q => ∃ b : Bool, y = .bl b ∧ ((x = .non ∧ Q (.bl false) H) ∨ ∃ a : Bool, x = .bl a ∧ Q (.bl (decide (a = b))) H)
theorem op_isBN {X : Cx} : OpR X (compareOp .Is) rIsBN := by
  intro pins s σ H x y v u Q I rx ry h
  obtain ⟨b, rfl, ⟨rfl, q⟩ | ⟨a, rfl, q⟩⟩ := h
  · cases (show v = Value.none from rx)
    cases (show u = Value.bool b from ry)
    exact wpAny_is_other rfl (fun z => nomatch z) ⟨.bl false, H, I, rfl, q⟩
  · exact op_is_bl pins s σ H _ _ v u Q I rx ry ⟨a, b, rfl, rfl, q⟩
end EL
namespace K05
open PySem PySem.Spec PyProof.Rows L2 He TL EL
def topS (i : Nat) : Stmt := PySem.Challenge.pw_endlessasks_k05_whole_conditions_hold.main.body.getD i (.Pass ⟨0, 0, 0, 0⟩)
abbrev s_is_whole : Stmt := (topS 8)
abbrev s_common_divisor : Stmt := (topS 9)
abbrev s_is_value : Stmt := (topS 10)
abbrev s_less : Stmt := (topS 11)
abbrev s_stands : Stmt := (topS 12)
abbrev s_is_term : Stmt := (topS 16)
abbrev s_is_atom : Stmt := (topS 17)
abbrev s_value_at : Stmt := (topS 18)
abbrev s_Conditions___init__ : Stmt := (inClass (topS 19) 0)
abbrev s_Conditions___and__ : Stmt := (inClass (topS 19) 5)
abbrev s_Conditions___invert__ : Stmt := (inClass (topS 19) 7)
abbrev s_Conditions_hold : Stmt := (inClass (topS 19) 8)
abbrev s_Maker___init__ : Stmt := (inClass (topS 20) 0)
abbrev s_Maker_terms : Stmt := (inClass (topS 20) 1)
abbrev s_Maker___len__ : Stmt := (inClass (topS 20) 2)
abbrev s_Maker___eq__ : Stmt := (inClass (topS 20) 3)
abbrev s_Maker___call__ : Stmt := (inClass (topS 20) 4)
abbrev s__law_begin : Stmt := (topS 22)
abbrev s__law_draw : Stmt := (topS 23)
abbrev s__law_value : Stmt := (topS 24)
abbrev s__law_term : Stmt := (topS 25)
abbrev s__law_row : Stmt := (topS 26)
abbrev s__law_at : Stmt := (topS 27)
abbrev s__law_stands : Stmt := (topS 28)
abbrev s__law_due : Stmt := (topS 29)
abbrev s__law_held : Stmt := (topS 30)
abbrev s__law_row_made : Stmt := (topS 31)
abbrev s__law_makers : Stmt := (topS 32)
abbrev s_law : Stmt := (topS 33)
theorem sc_is_whole : FnScope ["thing"] ["thing"] (defScope s_is_whole) := ⟨rfl, rfl, rfl, by decide +kernel, rfl, by decide +kernel, by decide +kernel⟩
theorem sc_common_divisor : FnScope ["one", "other"] ["one", "other"] (defScope s_common_divisor) := ⟨rfl, rfl, rfl, by decide +kernel, rfl, by decide +kernel, by decide +kernel⟩
theorem sc_is_value : FnScope ["thing"] ["thing"] (defScope s_is_value) := ⟨rfl, rfl, rfl, by decide +kernel, rfl, by decide +kernel, by decide +kernel⟩
theorem sc_less : FnScope ["one", "other"] ["one", "other"] (defScope s_less) := ⟨rfl, rfl, rfl, by decide +kernel, rfl, by decide +kernel, by decide +kernel⟩
theorem sc_stands : FnScope ["sign", "left", "right"] ["sign", "left", "right"] (defScope s_stands) := ⟨rfl, rfl, rfl, by decide +kernel, rfl, by decide +kernel, by decide +kernel⟩
theorem sc_is_term : FnScope ["thing"] ["thing"] (defScope s_is_term) := ⟨rfl, rfl, rfl, by decide +kernel, rfl, by decide +kernel, by decide +kernel⟩
theorem sc_is_atom : FnScope ["thing"] ["thing"] (defScope s_is_atom) := ⟨rfl, rfl, rfl, by decide +kernel, rfl, by decide +kernel, by decide +kernel⟩
theorem sc_value_at : FnScope ["term", "rows", "row"] ["term", "rows"] (defScope s_value_at) := ⟨rfl, rfl, rfl, by decide +kernel, rfl, by decide +kernel, by decide +kernel⟩
theorem sc_Conditions___init__ : FnScope ["self", "atoms", "kept", "atom"] ["self", "atoms"] (defScope s_Conditions___init__) := ⟨rfl, rfl, rfl, by decide +kernel, rfl, by decide +kernel, by decide +kernel⟩
theorem sc_Conditions___and__ : FnScope ["self", "other"] ["self", "other"] (defScope s_Conditions___and__) := ⟨rfl, rfl, rfl, by decide +kernel, rfl, by decide +kernel, by decide +kernel⟩
theorem sc_Conditions___invert__ : FnScope ["self", "sign", "left", "right"] ["self"] (defScope s_Conditions___invert__) := ⟨rfl, rfl, rfl, by decide +kernel, rfl, by decide +kernel, by decide +kernel⟩
theorem sc_Conditions_hold : FnScope ["self", "old", "first", "second", "rows", "pairs", "sign", "left", "right"] ["self", "old", "first", "second"] (defScope s_Conditions_hold) := ⟨rfl, rfl, rfl, by decide +kernel, rfl, by decide +kernel, by decide +kernel⟩
theorem sc_Maker___init__ : FnScope ["self", "terms", "kept", "term"] ["self", "terms"] (defScope s_Maker___init__) := ⟨rfl, rfl, rfl, by decide +kernel, rfl, by decide +kernel, by decide +kernel⟩
theorem sc_Maker_terms : FnScope ["self"] ["self"] (defScope s_Maker_terms) := ⟨rfl, rfl, rfl, by decide +kernel, rfl, by decide +kernel, by decide +kernel⟩
theorem sc_Maker___len__ : FnScope ["self"] ["self"] (defScope s_Maker___len__) := ⟨rfl, rfl, rfl, by decide +kernel, rfl, by decide +kernel, by decide +kernel⟩
theorem sc_Maker___eq__ : FnScope ["self", "other"] ["self", "other"] (defScope s_Maker___eq__) := ⟨rfl, rfl, rfl, by decide +kernel, rfl, by decide +kernel, by decide +kernel⟩
theorem sc_Maker___call__ : FnScope ["self", "old", "first", "second", "rows", "term"] ["self", "old", "first", "second"] (defScope s_Maker___call__) := ⟨rfl, rfl, rfl, by decide +kernel, rfl, by decide +kernel, by decide +kernel⟩
theorem sc__law_begin : FnScope ["_law_script"] ["_law_script"] (defScope s__law_begin) := ⟨rfl, rfl, rfl, by decide +kernel, rfl, by decide +kernel, by decide +kernel⟩
theorem sc__law_draw : FnScope ["_law_source", "_law_limit", "_law_cell", "_law_digit"] ["_law_source", "_law_limit"] (defScope s__law_draw) := ⟨rfl, rfl, rfl, by decide +kernel, rfl, by decide +kernel, by decide +kernel⟩
theorem sc__law_value : FnScope ["_law_source", "_law_offset", "_law_top"] ["_law_source", "_law_offset"] (defScope s__law_value) := ⟨rfl, rfl, rfl, by decide +kernel, rfl, by decide +kernel, by decide +kernel⟩
theorem sc__law_term : FnScope ["_law_source", "_law_offset", "_law_kind"] ["_law_source", "_law_offset"] (defScope s__law_term) := ⟨rfl, rfl, rfl, by decide +kernel, rfl, by decide +kernel, by decide +kernel⟩
theorem sc__law_row : FnScope ["_law_source", "_law_offset", "_law_row_here", "_law_turn"] ["_law_source", "_law_offset"] (defScope s__law_row) := ⟨rfl, rfl, rfl, by decide +kernel, rfl, by decide +kernel, by decide +kernel⟩
theorem sc__law_at : FnScope ["_law_term_here", "_law_rows", "_law_row_here"] ["_law_term_here", "_law_rows"] (defScope s__law_at) := ⟨rfl, rfl, rfl, by decide +kernel, rfl, by decide +kernel, by decide +kernel⟩
theorem sc__law_stands : FnScope ["_law_sign", "_law_one", "_law_other", "_law_left", "_law_right"] ["_law_sign", "_law_one", "_law_other"] (defScope s__law_stands) := ⟨rfl, rfl, rfl, by decide +kernel, rfl, by decide +kernel, by decide +kernel⟩
theorem sc__law_due : FnScope ["_law_atoms", "_law_rows", "_law_atom"] ["_law_atoms", "_law_rows"] (defScope s__law_due) := ⟨rfl, rfl, rfl, by decide +kernel, rfl, by decide +kernel, by decide +kernel⟩
theorem sc__law_held : FnScope ["_law_made", "_law_rows", "_law_actual", "e"] ["_law_made", "_law_rows"] (defScope s__law_held) := ⟨rfl, rfl, rfl, by decide +kernel, rfl, by decide +kernel, by decide +kernel⟩
theorem sc__law_row_made : FnScope ["_law_maker", "_law_rows", "_law_row_here"] ["_law_maker", "_law_rows"] (defScope s__law_row_made) := ⟨rfl, rfl, rfl, by decide +kernel, rfl, by decide +kernel, by decide +kernel⟩
theorem sc__law_makers : FnScope ["_law_source", "_law_rows", "_law_offset", "_law_terms", "_law_turn", "_law_handed", "_law_maker", "_law_due_here", "_law_term_here", "_law_row_here", "_law_refused", "_law_odd"] ["_law_source", "_law_rows", "_law_offset"] (defScope s__law_makers) := ⟨rfl, rfl, rfl, by decide +kernel, rfl, by decide +kernel, by decide +kernel⟩
theorem sc_law : FnScope ["_law_script", "_law_source", "_law_offset", "_law_rows", "_law_atoms", "_law_turn", "_law_sign", "_law_atom", "_law_due_here", "_law_made", "_law_both", "_law_alone", "_law_held_here", "_law_opposite"] ["_law_script"] (defScope s_law) := ⟨rfl, rfl, rfl, by decide +kernel, rfl, by decide +kernel, by decide +kernel⟩
structure Txt (K : PySem.W.Frag) (mg : Str → Option Value) : Prop where
  g_is_whole : mg "is_whole" = some (.ref (ga K "is_whole"))
  g_common_divisor : mg "common_divisor" = some (.ref (ga K "common_divisor"))
  g_is_value : mg "is_value" = some (.ref (ga K "is_value"))
  g_less : mg "less" = some (.ref (ga K "less"))
  g_stands : mg "stands" = some (.ref (ga K "stands"))
  g_is_term : mg "is_term" = some (.ref (ga K "is_term"))
  g_is_atom : mg "is_atom" = some (.ref (ga K "is_atom"))
  g_value_at : mg "value_at" = some (.ref (ga K "value_at"))
  g__law_begin : mg "_law_begin" = some (.ref (ga K "_law_begin"))
  g__law_draw : mg "_law_draw" = some (.ref (ga K "_law_draw"))
  g__law_value : mg "_law_value" = some (.ref (ga K "_law_value"))
  g__law_term : mg "_law_term" = some (.ref (ga K "_law_term"))
  g__law_row : mg "_law_row" = some (.ref (ga K "_law_row"))
  g__law_at : mg "_law_at" = some (.ref (ga K "_law_at"))
  g__law_stands : mg "_law_stands" = some (.ref (ga K "_law_stands"))
  g__law_due : mg "_law_due" = some (.ref (ga K "_law_due"))
  g__law_held : mg "_law_held" = some (.ref (ga K "_law_held"))
  g__law_row_made : mg "_law_row_made" = some (.ref (ga K "_law_row_made"))
  g__law_makers : mg "_law_makers" = some (.ref (ga K "_law_makers"))
  g_law : mg "law" = some (.ref (ga K "law"))
  g_NotSingle : mg "NotSingle" = some (.ref (ga K "NotSingle"))
  g_Conditions : mg "Conditions" = some (.ref (ga K "Conditions"))
  g_Maker : mg "Maker" = some (.ref (ga K "Maker"))
  x_AskError : XC K mg "AskError"
  x_NoCell : XC K mg "NoCell"
  x_NoCondition : XC K mg "NoCondition"
  g_SIGNS : mg "SIGNS" = some (.ref (ga K "SIGNS"))
  g_NEGATED : mg "NEGATED" = some (.ref (ga K "NEGATED"))
  g_PLACES : mg "PLACES" = some (.ref (ga K "PLACES"))
  g_MOST_COLUMNS : ∃ u, mg "MOST_COLUMNS" = some u ∧ RelV (.int 3) u
  z_ValueError : mg "ValueError" = none
  z_super : mg "super" = none
  z_isinstance : mg "isinstance" = none
  z_int : mg "int" = none
  z_bool : mg "bool" = none
  z_abs : mg "abs" = none
  z_tuple : mg "tuple" = none
  z_len : mg "len" = none
  z_str : mg "str" = none
  z_list : mg "list" = none
  z_range : mg "range" = none
  e_NoCell_NoCell : PySem.W.exmOne K (.ref (ga K "NoCell")) (.ref (ga K "NoCell")) = some true
  m_Conditions : Mk K (ga K "Conditions") (ma K (ga K "Conditions") "__init__")
  h_Conditions___and__ : Meth K (ga K "Conditions") "__and__" (ma K (ga K "Conditions") "__and__")
  h_Conditions___invert__ : Meth K (ga K "Conditions") "__invert__" (ma K (ga K "Conditions") "__invert__")
  h_Conditions_hold : Meth K (ga K "Conditions") "hold" (ma K (ga K "Conditions") "hold")
  m_Maker : Mk K (ga K "Maker") (ma K (ga K "Maker") "__init__")
  h_Maker_terms : Meth K (ga K "Maker") "terms" (ma K (ga K "Maker") "terms")
  h_Maker___len__ : Meth K (ga K "Maker") "__len__" (ma K (ga K "Maker") "__len__")
  h_Maker___eq__ : Meth K (ga K "Maker") "__eq__" (ma K (ga K "Maker") "__eq__")
  h_Maker___call__ : Meth K (ga K "Maker") "__call__" (ma K (ga K "Maker") "__call__")
  n_Conditions_kept_atoms : NoAttr K (ga K "Conditions") "kept_atoms"
  n_Maker_kept_terms : NoAttr K (ga K "Maker") "kept_terms"
  f_is_whole : ∃ fd, FunD K "is_whole" "is_whole" (defArgs s_is_whole) (defBody s_is_whole) (defScope s_is_whole) ([] : List V) [] (ga K "is_whole") fd
  f_common_divisor : ∃ fd, FunD K "common_divisor" "common_divisor" (defArgs s_common_divisor) (defBody s_common_divisor) (defScope s_common_divisor) ([] : List V) [] (ga K "common_divisor") fd
  f_is_value : ∃ fd, FunD K "is_value" "is_value" (defArgs s_is_value) (defBody s_is_value) (defScope s_is_value) ([] : List V) [] (ga K "is_value") fd
  f_less : ∃ fd, FunD K "less" "less" (defArgs s_less) (defBody s_less) (defScope s_less) ([] : List V) [] (ga K "less") fd
  f_stands : ∃ fd, FunD K "stands" "stands" (defArgs s_stands) (defBody s_stands) (defScope s_stands) ([] : List V) [] (ga K "stands") fd
  f_is_term : ∃ fd, FunD K "is_term" "is_term" (defArgs s_is_term) (defBody s_is_term) (defScope s_is_term) ([] : List V) [] (ga K "is_term") fd
  f_is_atom : ∃ fd, FunD K "is_atom" "is_atom" (defArgs s_is_atom) (defBody s_is_atom) (defScope s_is_atom) ([] : List V) [] (ga K "is_atom") fd
  f_value_at : ∃ fd, FunD K "value_at" "value_at" (defArgs s_value_at) (defBody s_value_at) (defScope s_value_at) ([] : List V) [] (ga K "value_at") fd
  f_Conditions___init__ : ∃ fd, FunD K "__init__" "Conditions.__init__" (defArgs s_Conditions___init__) (defBody s_Conditions___init__) (defScope s_Conditions___init__) ([.ref (dflAt ("Conditions", some "__init__") 0 K)] : List V) [] (ma K (ga K "Conditions") "__init__") fd
  f_Conditions___and__ : ∃ fd, FunD K "__and__" "Conditions.__and__" (defArgs s_Conditions___and__) (defBody s_Conditions___and__) (defScope s_Conditions___and__) ([] : List V) [] (ma K (ga K "Conditions") "__and__") fd
  f_Conditions___invert__ : ∃ fd, FunD K "__invert__" "Conditions.__invert__" (defArgs s_Conditions___invert__) (defBody s_Conditions___invert__) (defScope s_Conditions___invert__) ([] : List V) [] (ma K (ga K "Conditions") "__invert__") fd
  f_Conditions_hold : ∃ fd, FunD K "hold" "Conditions.hold" (defArgs s_Conditions_hold) (defBody s_Conditions_hold) (defScope s_Conditions_hold) ([] : List V) [] (ma K (ga K "Conditions") "hold") fd
  f_Maker___init__ : ∃ fd, FunD K "__init__" "Maker.__init__" (defArgs s_Maker___init__) (defBody s_Maker___init__) (defScope s_Maker___init__) ([] : List V) [] (ma K (ga K "Maker") "__init__") fd
  f_Maker_terms : ∃ fd, FunD K "terms" "Maker.terms" (defArgs s_Maker_terms) (defBody s_Maker_terms) (defScope s_Maker_terms) ([] : List V) [] (ma K (ga K "Maker") "terms") fd
  f_Maker___len__ : ∃ fd, FunD K "__len__" "Maker.__len__" (defArgs s_Maker___len__) (defBody s_Maker___len__) (defScope s_Maker___len__) ([] : List V) [] (ma K (ga K "Maker") "__len__") fd
  f_Maker___eq__ : ∃ fd, FunD K "__eq__" "Maker.__eq__" (defArgs s_Maker___eq__) (defBody s_Maker___eq__) (defScope s_Maker___eq__) ([] : List V) [] (ma K (ga K "Maker") "__eq__") fd
  f_Maker___call__ : ∃ fd, FunD K "__call__" "Maker.__call__" (defArgs s_Maker___call__) (defBody s_Maker___call__) (defScope s_Maker___call__) ([] : List V) [] (ma K (ga K "Maker") "__call__") fd
  f__law_begin : ∃ fd, FunD K "_law_begin" "_law_begin" (defArgs s__law_begin) (defBody s__law_begin) (defScope s__law_begin) ([] : List V) [] (ga K "_law_begin") fd
  f__law_draw : ∃ fd, FunD K "_law_draw" "_law_draw" (defArgs s__law_draw) (defBody s__law_draw) (defScope s__law_draw) ([] : List V) [] (ga K "_law_draw") fd
  f__law_value : ∃ fd, FunD K "_law_value" "_law_value" (defArgs s__law_value) (defBody s__law_value) (defScope s__law_value) ([] : List V) [] (ga K "_law_value") fd
  f__law_term : ∃ fd, FunD K "_law_term" "_law_term" (defArgs s__law_term) (defBody s__law_term) (defScope s__law_term) ([] : List V) [] (ga K "_law_term") fd
  f__law_row : ∃ fd, FunD K "_law_row" "_law_row" (defArgs s__law_row) (defBody s__law_row) (defScope s__law_row) ([] : List V) [] (ga K "_law_row") fd
  f__law_at : ∃ fd, FunD K "_law_at" "_law_at" (defArgs s__law_at) (defBody s__law_at) (defScope s__law_at) ([] : List V) [] (ga K "_law_at") fd
  f__law_stands : ∃ fd, FunD K "_law_stands" "_law_stands" (defArgs s__law_stands) (defBody s__law_stands) (defScope s__law_stands) ([] : List V) [] (ga K "_law_stands") fd
  f__law_due : ∃ fd, FunD K "_law_due" "_law_due" (defArgs s__law_due) (defBody s__law_due) (defScope s__law_due) ([] : List V) [] (ga K "_law_due") fd
  f__law_held : ∃ fd, FunD K "_law_held" "_law_held" (defArgs s__law_held) (defBody s__law_held) (defScope s__law_held) ([] : List V) [] (ga K "_law_held") fd
  f__law_row_made : ∃ fd, FunD K "_law_row_made" "_law_row_made" (defArgs s__law_row_made) (defBody s__law_row_made) (defScope s__law_row_made) ([] : List V) [] (ga K "_law_row_made") fd
  f__law_makers : ∃ fd, FunD K "_law_makers" "_law_makers" (defArgs s__law_makers) (defBody s__law_makers) (defScope s__law_makers) ([] : List V) [] (ga K "_law_makers") fd
  f_law : ∃ fd, FunD K "law" "law" (defArgs s_law) (defBody s_law) (defScope s_law) ([] : List V) [] (ga K "law") fd
  dc0 : ∀ H : Hp, SqT K H (dflAt ("Conditions", some "__init__") 0 K) []
  c_NoCell : ExcC K (ga K "NoCell")
  k_NoCell_ValueError : PySem.W.kitOne K (.ref (ga K "NoCell")) (.type "ValueError") = some true
  o_Conditions : OC K (ga K "Conditions")
  o_Maker : OC K (ga K "Maker")
  q_Maker : StX.CallO K (ga K "Maker") (ma K (ga K "Maker") "__call__")
  u_Maker___eq__ : PySem.W.findIn K (.ref (ga K "Maker")) "__eq__" = some (some (.ref (ma K (ga K "Maker") "__eq__"))) ∧ PySem.W.isFn K (.ref (ma K (ga K "Maker") "__eq__")) = true
  u_Conditions___and__ : PySem.W.findIn K (.ref (ga K "Conditions")) "__and__" = some (some (.ref (ma K (ga K "Conditions") "__and__"))) ∧ PySem.W.isFn K (.ref (ma K (ga K "Conditions") "__and__")) = true
  sf_Conditions : PySem.W.selfFirst K (ga K "Conditions") = true
  nf_Maker : PySem.W.notFirst K (ga K "Maker") (.ref (ga K "Maker")) = true
  v_NEGATED_0 : ∃ u, PySem.W.nsIn K (ga K "NEGATED") "<" = some (some u) ∧ RelV (.str "<=") u
  v_NEGATED_1 : ∃ u, PySem.W.nsIn K (ga K "NEGATED") "<=" = some (some u) ∧ RelV (.str "<") u
  v_NEGATED_2 : ∃ u, PySem.W.nsIn K (ga K "NEGATED") "=" = some (some u) ∧ RelV (.str "!=") u
  v_NEGATED_3 : ∃ u, PySem.W.nsIn K (ga K "NEGATED") "!=" = some (some u) ∧ RelV (.str "=") u
  t_PLACES : ∀ H : Hp, SqT K H (ga K "PLACES") [.str "old", .str "first", .str "second"]
  t_SIGNS : ∀ H : Hp, SqT K H (ga K "SIGNS") [.str "<", .str "<=", .str "=", .str "!="]
end K05
namespace K05
open PySem PySem.Spec PyProof.Rows L2 He TL EL
section
variable {P : Program} {w : World} {K : PySem.W.Frag} {mg : Str → Option Value} {base : Heap}
/-! is_whole -/
def spIsWhole (K : PySem.W.Frag) : Sp := fun vs H Q _ => ∃ v th, vs = [v] ∧ ThOk K H v th ∧ Q (.bl (isWholeT th)) H
theorem d_is_whole (T : Txt K mg) : Dn P w K mg base CX0 1 "is_whole" (spIsWhole K) := by
  obtain ⟨fd, F⟩ := T.f_is_whole
  refine dnN T.g_is_whole F (fun _ _ _ _ _ _ us hl => match us, hl with | [_], _ => rfl) sc_is_whole (fun vs H Q E h => ?_) (fun cdv A outer s H vs Q E hr h => ?_)
  · obtain ⟨v, th, rfl, _⟩ := h
    rfl
  · obtain ⟨v, th, rfl, ht, q⟩ := h
    obtain ⟨t, ty, ki⟩ := ht.ty
    refine ⟨_, PSs.nox (pss_one (ps_ret (pe_and (pe_callB call_isi (by rfl) T.z_isinstance (by decide +kernel) (pa_cons (pv 0) (pa_cons (pe_bltn (v := .ty "int") (by rfl) T.z_int (by decide +kernel) rfl) pa_nil))) (pe_one (pe_not (pe_callB call_isi (by rfl) T.z_isinstance (by decide +kernel) (pa_cons (pv 0) (pa_cons (pe_bltn (v := .ty "bool") (by rfl) T.z_bool (by decide +kernel) rfl) pa_nil)))))))), ?_⟩
    refine ⟨_, rfl, _, _, t, _, _, rfl, .ty _, ty, ki .int, _, rfl, ie (fun h1 => ?_) (fun h1 => ?_)⟩
    · refine ⟨_, rfl, _, _, t, _, _, rfl, .ty _, ty, ki .bl, _, rfl, ?_⟩
      have e : isWholeT th = !th.is .bl := by unfold isWholeT; rw [h1]; rfl
      rw [e] at q
      exact q
    · have e : isWholeT th = false := by unfold isWholeT; rw [h1]; rfl
      rw [e] at q
      exact q
/-! common_divisor -/
def spCD : Sp := fun vs H Q _ => ∃ a b : Int, vs = [.int a, .int b] ∧ Q (.int (cd a b)) H
theorem d_common_divisor (T : Txt K mg) : Dn P w K mg base CX0 1 "common_divisor" spCD := by
  obtain ⟨fd, F⟩ := T.f_common_divisor
  refine dnN T.g_common_divisor F (fun _ _ _ _ _ _ us hl => match us, hl with | [_, _], _ => rfl) sc_common_divisor (fun vs H Q E h => ?_) (fun cdv A outer s H vs Q E hr h => ?_)
  · obtain ⟨a, b, rfl, _⟩ := h
    rfl
  · obtain ⟨a, b, rfl, q⟩ := h
    refine ⟨_, PSs.nox (pss_cons (ps_par (i := 0) (j := 1) (by rfl) sc_common_divisor.nd rfl rfl (by decide) rfl rfl (pa_cons (pe_callB call_abs (by rfl) T.z_abs (by decide +kernel) (pa_cons (pv 0) pa_nil)) (pa_cons (pe_callB call_abs (by rfl) T.z_abs (by decide +kernel) (pa_cons (pv 1) pa_nil)) pa_nil)) (by rfl))
      (pss_cons (ps_while PassesOwn.never (pt_cmpR op_gt (pv 1) pe_int (nomark _))
      (pss_one (ps_par (i := 0) (j := 1) (by rfl) sc_common_divisor.nd rfl rfl (by decide) rfl rfl (pa_cons (pv 1) (pa_cons (pe_op op_mod (pv 0) (pv 1)) pa_nil)) (by rfl))))
      (pss_one (ps_ret (pv 0))))), ?_⟩
    refine ⟨_, rfl, _, rfl, _, rfl, _, rfl, _, _, rfl, ?_⟩
    refine ⟨fun m σ H' => ∃ x y : Nat, m = y ∧ σ = [some (.int x), some (.int y)] ∧ H' = H ∧ Nat.gcd x y = Nat.gcd a.natAbs b.natAbs, ⟨b.natAbs, a.natAbs, b.natAbs, rfl, ?_, rfl, rfl⟩, ?_⟩
    · have e : ∀ z : Int, (if z < 0 then -z else z) = (z.natAbs : Int) := fun z => by split <;> omega
      show [some (V.int _), some (V.int _)] = _
      rw [e, e]
    · rintro m σ H' ⟨x, y, em, rfl, rfl, hg⟩
      subst m
      refine ⟨_, rfl, _, _, rfl, rfl, _, rfl, ie (fun h1 => ?_) (fun h1 => ?_)⟩
      · have hy : 0 < y := by
          have := of_decide_eq_true h1
          omega
        refine ⟨_, fun σ' H2 hN => hN, _, rfl, _, rfl, _, rfl, _, _, rfl, rfl, (by show (0 : Int) < (y : Int); omega), _, _, rfl, ?_⟩
        exact ⟨x % y, Nat.mod_lt _ hy, y, x % y, rfl, rfl, rfl, by rw [← hg, Nat.gcd_comm x y, Nat.gcd_rec y x, Nat.gcd_comm]⟩
      · have hy : y = 0 := by
          have := of_decide_eq_false h1
          omega
        refine ⟨_, rfl, ?_⟩
        subst hy
        rw [Nat.gcd_zero_right] at hg
        unfold cd at q
        rw [← hg] at q
        exact q
/-! is_value -/
def spIsValue (K : PySem.W.Frag) : Sp := fun vs H Q _ => ∃ v th, vs = [v] ∧ ThOk K H v th ∧ Q (.bl (isValT th)) H
theorem d_is_value (T : Txt K mg) : Dn P w K mg base CX0 2 "is_value" (spIsValue K) := by
  obtain ⟨fd, F⟩ := T.f_is_value
  have D_is_whole := d_is_whole (P := P) (w := w) (base := base) T
  have D_common_divisor := d_common_divisor (P := P) (w := w) (base := base) T
  refine dnN T.g_is_value F (fun _ _ _ _ _ _ us hl => match us, hl with | [_], _ => rfl) sc_is_value (fun vs H Q E h => ?_) (fun cdv A outer s H vs Q E hr h => ?_)
  · obtain ⟨v, th, rfl, _⟩ := h
    rfl
  · obtain ⟨v, th, rfl, ht, q⟩ := h
    obtain ⟨t, ty, ki⟩ := ht.ty
    refine ⟨_, PSs.nox (pss_cons (ps_if (PW.pt (pw_or (pt_not (pt_val (pe_callB call_isi (by rfl) T.z_isinstance (by decide +kernel) (pa_cons (pv 0) (pa_cons (pe_bltn (v := .ty "tuple") (by rfl) T.z_tuple (by decide +kernel) rfl) pa_nil))))) (pw_or1 (pt_cmpR op_ne (pe_callB call_len_seq (by rfl) T.z_len (by decide +kernel) (pa_cons (pv 0) pa_nil)) pe_int (nomark _))))) (pss_one (ps_ret pe_bl)) pss_nil)
      (pss_cons (ps_if (PW.pt (pw_or (pt_not (pt_val (cl D_is_whole (hr.mono (by decide)) (pa_cons (pe_ix ix_tup (pv 0) pe_int (fun _ _ => rfl)) pa_nil)))) (pw_or (pt_not (pt_val (cl D_is_whole (hr.mono (by decide)) (pa_cons (pe_ix ix_tup (pv 0) pe_int (fun _ _ => rfl)) pa_nil)))) (pw_or1 (pt_cmpR op_lt (pe_ix ix_tup (pv 0) pe_int (fun _ _ => rfl)) pe_int (nomark _)))))) (pss_one (ps_ret pe_bl)) pss_nil)
      (pss_one (ps_ret (pe_cmpR op_eq (cl D_common_divisor (hr.mono (by decide)) (pa_cons (pe_ix ix_tup (pv 0) pe_int (fun _ _ => rfl)) (pa_cons (pe_ix ix_tup (pv 0) pe_int (fun _ _ => rfl)) pa_nil))) pe_int (nomark _)))))), ?_⟩
    refine ⟨_, rfl, _, _, t, _, _, rfl, .ty _, ty, ki .tup, _, rfl, ?_⟩
    by_cases hn : ∃ ds, th = .d (.tuple ds)
    · obtain ⟨ds, rfl⟩ := hn
      refine iteF ?_
      cases ht with
      | @tup a xs _ hS hA =>
      refine ⟨_, rfl, _, _, rfl, .inr hS, rfl, _, rfl, ?_⟩
      by_cases hl : xs.length = 2
      · match xs, hl with
        | [v0, v1], _ =>
        match ds, hA with
        | [d0, d1], .cons h0 (.cons h1 .nil) =>
        refine iteF ?_
        -- is_whole(thing[0])
        refine ⟨_, rfl, _, _, 0, v0, rfl, rfl, hS, atI_nat (j := 0) rfl, v0, .d d0, rfl, h0, _, rfl, ?_⟩
        rw [isWholeT_d]
        by_cases w0 : ∃ a, d0 = .int a
        · obtain ⟨a0, rfl⟩ := w0
          refine iteF ?_
          refine ⟨_, rfl, _, _, 1, v1, rfl, rfl, hS, atI_nat (j := 1) rfl, v1, .d d1, rfl, h1, _, rfl, ?_⟩
          rw [isWholeT_d]
          by_cases w1 : ∃ b, d1 = .int b
          · obtain ⟨b0, rfl⟩ := w1
            refine iteF ?_
            cases h0
            cases h1
            refine ⟨_, rfl, _, _, 1, _, rfl, rfl, hS, atI_nat (j := 1) rfl, _, _, rfl, rfl, _, rfl, ie (fun c => ?_) (fun c => ?_)⟩
            · have e : isValT (.d (.tuple [.int a0, .int b0])) = false := by
                show (!decide (b0 < 1) && decide (cd a0 b0 = 1)) = false
                rw [c]
                rfl
              rw [e] at q
              exact q
            · have e : isValT (.d (.tuple [.int a0, .int b0])) = decide (V.int (cd a0 b0) = V.int 1) := by
                show (!decide (b0 < 1) && decide (cd a0 b0 = 1)) = decide (V.int (cd a0 b0) = V.int 1)
                rw [c]
                simp
              rw [e] at q
              exact ⟨_, rfl, _, _, 0, _, rfl, rfl, hS, atI_nat (j := 0) rfl, _, rfl, _, _, 1, _, rfl, rfl, hS, atI_nat (j := 1) rfl, _, _, rfl, rfl, q⟩
          · have e2 : isWholeD d1 = false := by
              cases d1 <;> first | rfl | exact absurd ⟨_, rfl⟩ w1
            rw [e2]
            have e : isValT (.d (.tuple [.int a0, d1])) = false := by
              cases d1 <;> first | rfl | exact absurd ⟨_, rfl⟩ w1
            rw [e] at q
            exact q
        · have e2 : isWholeD d0 = false := by
            cases d0 <;> first | rfl | exact absurd ⟨_, rfl⟩ w0
          rw [e2]
          have e : isValT (.d (.tuple [d0, d1])) = false := by
            cases d0 <;> first | rfl | exact absurd ⟨_, rfl⟩ w0
          rw [e] at q
          exact q
      · have e2 : decide (V.int (xs.length : Int) = V.int 2) = false := decide_eq_false fun z => hl (by injection z; omega)
        rw [e2]
        have hdl : ds.length ≠ 2 := by
          rw [← DpAll.length hA]
          exact hl
        have e : isValT (.d (.tuple ds)) = false := by
          match ds, hdl with
          | [], _ => rfl
          | [_], _ => simp [isValT, isValD]
          | [_, _], h => exact absurd rfl h
          | _ :: _ :: _ :: _, _ => simp [isValT, isValD]
        rw [e] at q
        exact q
    · have e1 : th.is .tup = false := by
        cases th with
        | o => rfl
        | d d => cases d <;> first | rfl | exact absurd ⟨_, rfl⟩ hn
      rw [e1]
      have e : isValT th = false := by
        cases th with
        | o => rfl
        | d d => cases d <;> first | rfl | exact absurd ⟨_, rfl⟩ hn
      rw [e] at q
      exact q
/-! _law_begin -/
def spBegin (K : PySem.W.Frag) : Sp := fun vs H Q _ => ∃ (a : Addr) (ns : List Int), vs = [.ref a] ∧ SqL K H a (ns.map V.int) ∧ ∀ p l H', H p = none → H l = none → Same H H' → Src H' p l → Q (.ref p) H'
theorem cut_map (ns : List Int) (lo hi : Option Int) : ∃ ms : List Int, cutV (ns.map V.int) lo hi = ms.map V.int := by
  unfold cutV
  rw [← List.map_drop, ← List.map_take]
  exact ⟨_, rfl⟩
theorem d_begin (T : Txt K mg) : Dn P w K mg base CX0 1 "_law_begin" (spBegin K) := by
  obtain ⟨fd, F⟩ := T.f__law_begin
  refine dnN T.g__law_begin F (fun _ _ _ _ _ _ us hl => match us, hl with | [_], _ => rfl) sc__law_begin (fun vs H Q E h => ?_) (fun cdv A outer s H vs Q E hr h => ?_)
  · obtain ⟨a, ns, rfl, _⟩ := h
    rfl
  · obtain ⟨a, ns, rfl, hS, q⟩ := h
    refine ⟨_, PSs.nox (pss_one (ps_ret (pe_lst (pa_cons (pe_callTy call_list_of (by rfl) T.z_list (by decide +kernel) (pa_cons (pe_slice sl_list (pv 0) po_none (po_some pe_int)) pa_nil)) (pa_cons pe_int (pa_cons pe_int (pa_cons pe_int pa_nil))))))), ?_⟩
    obtain ⟨ms, hm⟩ := cut_map ns none (some 63)
    refine ⟨_, rfl, _, rfl, _, _, rfl, hS, fun c nc => ?_⟩
    rw [hm]
    generalize eH1 : upd H c _ = H1
    have s1 : Same H H1 := eH1 ▸ same_upd nc
    have h1 : H1 c = some _ := eH1 ▸ upd_same
    refine ⟨_, _, rfl, .inl (SqL.of h1), fun l nl => ?_⟩
    generalize eH2 : upd H1 l _ = H2
    have s2 : Same H1 H2 := eH2 ▸ same_upd nl
    have h2 : H2 l = some _ := eH2 ▸ upd_same
    refine ⟨(by show 4 ≤ sizeLine; decide), fun p np => ?_⟩
    generalize eH3 : upd H2 p _ = H3
    have s3 : Same H2 H3 := eH3 ▸ same_upd np
    have h3 : H3 p = some _ := eH3 ▸ upd_same
    exact q p l H3 (s1.free (s2.free np)) (s1.free nl) (s1.trans (s2.trans s3)) ⟨ms, 0, 0, 7, h3, s3 _ _ h2, by omega, by omega, by omega⟩
/-! _law_draw -/
def spDraw : Sp := fun vs H Q _ => ∃ (p l : Addr) (L : Int), vs = [.ref p, .int L] ∧ 0 < L ∧ L ≤ 1000000000000000000 ∧ Src H p l ∧ ∀ (n : Int) (H' : Hp), 0 ≤ n → n < L → Src H' p l → But p H H' → Q (.int n) H'
theorem mulok {i j : Int} {a : Nat} (h1 : i.natAbs < 2 ^ 70) (h2 : j.natAbs < 2 ^ 70) : CMulW i j := wide_mul h1 h2 (by decide) (by decide) (by decide)
theorem pow18 : ((10 : Int) ^ (18 : Int).toNat) = 1000000000000000000 := by decide +kernel
theorem d_draw (T : Txt K mg) : Dn P w K mg base CX0 1 "_law_draw" spDraw := by
  obtain ⟨fd, F⟩ := T.f__law_draw
  refine dnN T.g__law_draw F (fun _ _ _ _ _ _ us hl => match us, hl with | [_, _], _ => rfl) sc__law_draw (fun vs H Q E h => ?_) (fun cdv A outer s H vs Q E hr h => ?_)
  · obtain ⟨p, l, L, rfl, _⟩ := h
    rfl
  · obtain ⟨p, l, L, rfl, hL0, hL1, hS, q⟩ := h
    obtain ⟨ns, i, c, r, h1, h2, hc, hr0, hr1⟩ := id hS
    have npl : l ≠ p := hS.ne
    have hpw : CPow 10 18 := ⟨by decide, by decide, by decide⟩
    refine ⟨_, PSs.nox (pss_mid (ps_if (PW.pt (pw_and (pt_cmpR op_lt (pe_ix ix_list (pv 0) pe_int (fun _ _ => rfl)) (pe_op op_pow pe_int pe_int) (nomark _)) (pw_and1 (pt_cmpR op_lt (pe_ix ix_list (pv 0) pe_int (fun _ _ => rfl)) (pe_callB call_len_seq (by rfl) T.z_len (by decide +kernel) (pa_cons (pe_ix ix_list (pv 0) pe_int (fun _ _ => rfl)) pa_nil)) (nomark _))))) (pss_cons (ps_set (i := 2) sc__law_draw.nd rfl (.inl rfl) (pe_callTy call_int1 (by rfl) T.z_int (by decide +kernel) (pa_cons (pe_ix ix_list (pe_ix ix_list (pv 0) pe_int (fun _ _ => rfl)) (pe_ix ix_list (pv 0) pe_int (fun _ _ => rfl)) (fun _ _ => rfl)) pa_nil)))
      (pss_cons (ps_asg (pe_op op_add (pe_ix ix_list (pv 0) pe_int (fun _ _ => rfl)) pe_int) (pg_sub (pv 0) pe_int set_list))
      (pss_cons (ps_asg pe_int (pg_sub (pv 0) pe_int set_list))
      (pss_mid (ps_if (pt_cmpR op_ge (pv 2) (pe_op op_pow pe_int pe_int) (nomark _)) (pss_one (ps_asg (pv 2) (pg_sub (pv 0) pe_int set_list))) pss_nil)
      (pss_one (ps_asg (pe_op op_mod (pe_op op_add (pe_op op_add (pe_op op_mulW (pe_ix ix_list (pv 0) pe_int (fun _ _ => rfl)) pe_int) (pe_op op_mod (pv 2) pe_int)) pe_int) pe_int) (pg_sub (pv 0) pe_int set_list))))))) pss_nil)
      (pss_cons (ps_if (pt_cmpR op_ge (pe_ix ix_list (pv 0) pe_int (fun _ _ => rfl)) (pe_op op_pow pe_int pe_int) (nomark _)) (pss_cons (ps_set (i := 3) sc__law_draw.nd rfl (.inl rfl) (pe_op op_mod (pe_ix ix_list (pv 0) pe_int (fun _ _ => rfl)) (pv 1)))
      (pss_cons (ps_asg (pe_op op_fdivW (pe_ix ix_list (pv 0) pe_int (fun _ _ => rfl)) (pv 1)) (pg_sub (pv 0) pe_int set_list))
      (pss_one (ps_ret (pv 3))))) pss_nil)
      (pss_cons (ps_asg (pe_op op_mod (pe_op op_add (pe_op op_mulW (pe_ix ix_list (pv 0) pe_int (fun _ _ => rfl)) pe_int) pe_int) pe_int) (pg_sub (pv 0) pe_int set_list))
      (pss_one (ps_ret (pe_op op_mod (pe_op op_fdivW (pe_ix ix_list (pv 0) pe_int (fun _ _ => rfl)) pe_int) (pv 1))))))), ?_⟩
    refine ⟨fun σ' H' => ∃ v2, σ' = [some (.ref p), some (.int L), v2, none] ∧ Src H' p l ∧ But p H H', ?_, ?_⟩
    · -- the first test
      refine ⟨_, rfl, _, _, 2, _, rfl, rfl, SqL.of h1, atI_nat (j := 2) rfl, _, _, rfl, rfl, hpw, _, _, rfl, rfl, _, rfl, ie (fun c1 => ?_) (fun c1 => ?_)⟩
      · refine ⟨_, rfl, _, _, 1, _, rfl, rfl, SqL.of h1, atI_nat (j := 1) rfl, _, rfl, _, _, 0, _, rfl, rfl, SqL.of h1, atI_nat (j := 0) rfl, _, _, rfl, .inl (SqL.of h2), _, _, rfl, rfl, _, rfl, ie (fun c2 => ?_) (fun c2 => ?_)⟩
        · have c2 := of_decide_eq_true c2
          rw [List.length_map] at c2
          have hi : i < ns.length := by omega
          have hg : (ns.map V.int)[i]? = some (.int ns[i]) := by
            rw [List.getElem?_map, List.getElem?_eq_getElem hi]
            rfl
          generalize ns[i] = z at hg
          -- _law_cell = int(_law_source[0][_law_source[1]])
          refine ⟨_, rfl, _, _, 0, _, rfl, rfl, SqL.of h1, atI_nat (j := 0) rfl, _, rfl, _, _, 1, _, rfl, rfl, SqL.of h1, atI_nat (j := 1) rfl, _, _, _, _, rfl, rfl, SqL.of h2, atI_nat hg, .inl ⟨_, rfl, ?_⟩⟩
          -- _law_source[1] = _law_source[1] + 1
          refine ⟨_, rfl, _, _, 1, _, rfl, rfl, SqL.of h1, atI_nat (j := 1) rfl, _, _, rfl, rfl, _, rfl, p, _, 1, 1, rfl, rfl, h1, rfl, ?_⟩
          generalize e3 : upd H p _ = H3
          have b3 : But p H H3 := e3 ▸ but_upd
          have h3 : H3 p = some (.lst [.ref l, .int (i + 1), .int c, .int r]) := e3 ▸ upd_same
          -- _law_source[2] = 0
          refine ⟨_, rfl, p, _, 2, 2, rfl, rfl, h3, rfl, ?_⟩
          generalize e4 : upd H3 p _ = H4
          have b4 : But p H3 H4 := e4 ▸ but_upd
          have h4 : H4 p = some (.lst [.ref l, .int (i + 1), .int 0, .int r]) := e4 ▸ upd_same
          -- if _law_cell >= 10 ** 18: _law_source[2] = _law_cell
          refine ⟨fun σ' H' => ∃ c' : Int, 0 ≤ c' ∧ σ' = [some (.ref p), some (.int L), some (.int z), none] ∧ But p H H' ∧ H' p = some (.lst [.ref l, .int (i + 1), .int c', .int r]), ?_, ?_⟩
          · refine ⟨_, rfl, _, _, rfl, rfl, hpw, _, _, rfl, rfl, _, rfl, ie (fun c3 => ?_) (fun c3 => ?_)⟩
            · have c3 := of_decide_eq_true c3
              rw [pow18] at c3
              refine ⟨_, rfl, _, rfl, p, _, 2, 2, rfl, rfl, h4, rfl, ?_⟩
              exact ⟨z, by omega, rfl, b3.trans (b4.trans but_upd), upd_same⟩
            · exact ⟨0, by omega, rfl, b3.trans b4, h4⟩
          · rintro σ' H5 ⟨c', hc', rfl, b5, h5⟩
            have hm : CMulW r 48271 := mulok (a := 0) (by omega) (by decide)
            have hmod : 0 ≤ (r * 48271 + z % 2147483629 + 11) % 2147483647 ∧ (r * 48271 + z % 2147483629 + 11) % 2147483647 < 2147483647 := ⟨Int.emod_nonneg _ (by decide), Int.emod_lt_of_pos _ (by decide)⟩
            refine ⟨_, rfl, _, _, 3, _, rfl, rfl, SqL.of h5, atI_nat (j := 3) rfl, _, _, rfl, rfl, hm, _, rfl, _, _, rfl, rfl, (by show (0 : Int) < 2147483629; decide), _, _, rfl, rfl, _, _, rfl, rfl, _, _, rfl, rfl, (by show (0 : Int) < 2147483647; decide), _, rfl, p, _, 3, 3, rfl, rfl, h5, rfl, ?_⟩
            exact ⟨_, rfl, ⟨ns, i + 1, c', _, upd_same, by rw [upd_ne npl]; exact b5 _ _ h2 npl, hc', hmod.1, hmod.2⟩, b5.trans but_upd⟩
        · exact ⟨none, rfl, hS, .refl _ _⟩
      · exact ⟨none, rfl, hS, .refl _ _⟩
    · rintro σ' H1 ⟨v2, rfl, hS1, b1⟩
      clear h1 h2 hc hr0 hr1 npl
      obtain ⟨ns, i, c, r, h1, h2, hc, hr0, hr1⟩ := id hS1
      have npl : l ≠ p := hS1.ne
      refine ⟨_, rfl, _, _, 2, _, rfl, rfl, SqL.of h1, atI_nat (j := 2) rfl, _, _, rfl, rfl, hpw, _, _, rfl, rfl, _, rfl, ie (fun c1 => ?_) (fun c1 => ?_)⟩
      · refine ⟨_, rfl, _, _, 2, _, rfl, rfl, SqL.of h1, atI_nat (j := 2) rfl, _, rfl, _, _, rfl, rfl, hL0, ?_⟩
        have hdv : CDivW c L := wide_div hL0 (b := 64) (by omega) (by decide) (by decide)
        refine ⟨_, rfl, _, _, 2, _, rfl, rfl, SqL.of h1, atI_nat (j := 2) rfl, _, rfl, _, _, rfl, rfl, hdv, _, rfl, p, _, 2, 2, rfl, rfl, h1, rfl, ?_⟩
        refine ⟨_, rfl, ?_⟩
        refine q (c % L) _ (Int.emod_nonneg _ (by omega)) (Int.emod_lt_of_pos _ hL0) ⟨ns, i, c / L, r, upd_same, by rw [upd_ne npl]; exact h2, Int.ediv_nonneg hc (by omega), hr0, hr1⟩ (b1.trans but_upd)
      · have hm : CMulW r 39373 := mulok (a := 0) (by omega) (by decide)
        have hmod : 0 ≤ (r * 39373 + 12820163) % 2147483647 ∧ (r * 39373 + 12820163) % 2147483647 < 2147483647 := ⟨Int.emod_nonneg _ (by decide), Int.emod_lt_of_pos _ (by decide)⟩
        refine ⟨_, rfl, _, _, 3, _, rfl, rfl, SqL.of h1, atI_nat (j := 3) rfl, _, _, rfl, rfl, hm, _, _, rfl, rfl, _, _, rfl, rfl, (by show (0 : Int) < 2147483647; decide), _, rfl, p, _, 3, 3, rfl, rfl, h1, rfl, ?_⟩
        generalize e3 : upd H1 p _ = H3
        have b3 : But p H1 H3 := e3 ▸ but_upd
        have h3 : H3 p = some (.lst [.ref l, .int i, .int c, .int ((r * 39373 + 12820163) % 2147483647)]) := e3 ▸ upd_same
        generalize (r * 39373 + 12820163) % 2147483647 = r2 at *
        have hdv : CDivW r2 16 := ⟨by decide, by decide⟩
        refine ⟨_, rfl, _, _, 3, _, rfl, rfl, SqL.of h3, atI_nat (j := 3) rfl, _, _, rfl, rfl, hdv, _, rfl, _, _, rfl, rfl, hL0, ?_⟩
        exact q (r2 / 16 % L) _ (Int.emod_nonneg _ (by omega)) (Int.emod_lt_of_pos _ hL0) ⟨ns, i, c, r2, h3, b3 _ _ h2 npl, hc, hmod.1, hmod.2⟩ (b1.trans b3)
/-! is_term -/
def plV : List V := [.str "old", .str "first", .str "second"]
def sgV : List V := [.str "<", .str "<=", .str "=", .str "!="]
def colD : PyData → Bool
  | .int i => decide (0 ≤ i) && decide (i < 3)
  | _ => false
def termD (z : Str) (d : PyData) : Bool := if decide (V.str z = V.str "value") = true then isValD d else inV (.str z) plV && colD d
def isTermD : PyData → Bool
  | .tuple [.str z, d] => termD z d
  | _ => false
def isTermT : Th → Bool
  | Th.d x => isTermD x
  | Th.o => false
def spIsTerm (K : PySem.W.Frag) : Sp := fun vs H Q _ => ∃ v th, vs = [v] ∧ ThOk K H v th ∧ Q (.bl (isTermT th)) H
theorem d_is_term (T : Txt K mg) : Dn P w K mg base CX0 3 "is_term" (spIsTerm K) := by
  obtain ⟨fd, F⟩ := T.f_is_term
  have D_is_whole := d_is_whole (P := P) (w := w) (base := base) T
  have D_is_value := d_is_value (P := P) (w := w) (base := base) T
  refine dnN T.g_is_term F (fun _ _ _ _ _ _ us hl => match us, hl with | [_], _ => rfl) sc_is_term (fun vs H Q E h => ?_) (fun cdv A outer s H vs Q E hr h => ?_)
  · obtain ⟨v, th, rfl, _⟩ := h
    rfl
  · obtain ⟨v, th, rfl, ht, q⟩ := h
    obtain ⟨t, ty, ki⟩ := ht.ty
    refine ⟨_, PSs.nox (pss_cons (ps_if (PW.pt (pw_or (pt_not (pt_val (pe_callB call_isi (by rfl) T.z_isinstance (by decide +kernel) (pa_cons (pv 0) (pa_cons (pe_bltn (v := .ty "tuple") (by rfl) T.z_tuple (by decide +kernel) rfl) pa_nil))))) (pw_or (pt_cmpR op_ne (pe_callB call_len_seq (by rfl) T.z_len (by decide +kernel) (pa_cons (pv 0) pa_nil)) pe_int (nomark _)) (pw_or1 (pt_not (pt_val (pe_callB call_isi (by rfl) T.z_isinstance (by decide +kernel) (pa_cons (pe_ix ix_tup (pv 0) pe_int (fun _ _ => rfl)) (pa_cons (pe_bltn (v := .ty "str") (by rfl) T.z_str (by decide +kernel) rfl) pa_nil))))))))) (pss_one (ps_ret pe_bl)) pss_nil)
      (pss_cons (ps_if (pt_cmpR op_eq (pe_ix ix_tup (pv 0) pe_int (fun _ _ => rfl)) pe_str (nomark _)) (pss_one (ps_ret (cl D_is_value (hr.mono (by decide)) (pa_cons (pe_ix ix_tup (pv 0) pe_int (fun _ _ => rfl)) pa_nil)))) pss_nil)
      (pss_one (ps_ret (pe_and (pe_cmpR op_in_seq (pe_ix ix_tup (pv 0) pe_int (fun _ _ => rfl)) (pe_glob (v := .ref (ga K "PLACES")) (by rfl) T.g_PLACES rfl) (by rfl)) (pe_and (cl D_is_whole (hr.mono (by decide)) (pa_cons (pe_ix ix_tup (pv 0) pe_int (fun _ _ => rfl)) pa_nil)) (pe_one (pe_chain op_le op_lt pe_int (pe_ix ix_tup (pv 0) pe_int (fun _ _ => rfl)) (pe_gv T.g_MOST_COLUMNS))))))))), ?_⟩
    refine ⟨_, rfl, _, _, t, _, _, rfl, .ty _, ty, ki .tup, _, rfl, ?_⟩
    by_cases hn : ∃ ds, th = .d (.tuple ds)
    · obtain ⟨ds, rfl⟩ := hn
      refine iteF ?_
      cases ht with
      | @tup a xs _ hS hA =>
      refine ⟨_, rfl, _, _, rfl, .inr hS, rfl, _, rfl, ?_⟩
      by_cases hl : xs.length = 2
      · match xs, hl with
        | [v0, v1], _ =>
        match ds, hA with
        | [d0, d1], .cons h0 (.cons h1 .nil) =>
        refine iteF ?_
        refine ⟨_, rfl, _, _, 0, v0, rfl, rfl, hS, atI_nat (j := 0) rfl, _, _, _, _, _, rfl, .ty _, Dp.ty h0, kit_d K .str d0, _, rfl, ?_⟩
        by_cases w0 : ∃ z, d0 = .str z
        · obtain ⟨z, rfl⟩ := w0
          cases h0
          refine iteF ?_
          have e : isTermT (.d (.tuple [.str z, d1])) = termD z d1 := rfl
          rw [e] at q
          unfold termD at q
          refine ⟨_, rfl, _, _, 0, _, rfl, rfl, hS, atI_nat (j := 0) rfl, rfl, _, rfl, ie (fun c => ?_) (fun c => ?_)⟩
          · rw [if_pos c] at q
            exact ⟨_, rfl, _, _, 1, _, rfl, rfl, hS, atI_nat (j := 1) rfl, v1, .d d1, rfl, h1, q⟩
          · rw [c, if_neg Bool.false_ne_true] at q
            refine ⟨_, rfl, _, _, 0, _, rfl, rfl, hS, atI_nat (j := 0) rfl, _, _, rfl, .inr (T.t_PLACES _), rfl, rfl, _, rfl, ie (fun c1 => ?_) (fun c1 => ?_)⟩
            · have c1' : inV (.str z) plV = true := c1
              rw [c1', Bool.true_and] at q
              refine ⟨_, rfl, _, _, 1, _, rfl, rfl, hS, atI_nat (j := 1) rfl, v1, .d d1, rfl, h1, _, rfl, ?_⟩
              rw [isWholeT_d]
              by_cases w1 : ∃ b, d1 = .int b
              · obtain ⟨b, rfl⟩ := w1
                cases h1
                refine iteT ?_
                have q : Q (.bl (decide (0 ≤ b) && decide (b < 3))) H := q
                refine ⟨_, rfl, _, _, 1, _, rfl, rfl, hS, atI_nat (j := 1) rfl, _, _, rfl, rfl, _, rfl, ie (fun c2 => ?_) (fun c2 => ?_)⟩
                · rw [c2, Bool.true_and] at q
                  exact ⟨_, _, rfl, rfl, q⟩
                · rw [c2] at q
                  exact q
              · have e2 : isWholeD d1 = false := by
                  cases d1 <;> first | rfl | exact absurd ⟨_, rfl⟩ w1
                rw [e2]
                have e3 : colD d1 = false := by
                  cases d1 <;> first | rfl | exact absurd ⟨_, rfl⟩ w1
                rw [e3] at q
                exact q
            · have c1' : inV (.str z) plV = false := c1
              rw [c1', Bool.false_and] at q
              exact q
        · have e2 : isTy .str d0 = false := by
            cases d0 <;> first | rfl | exact absurd ⟨_, rfl⟩ w0
          rw [e2]
          have e : isTermT (.d (.tuple [d0, d1])) = false := by
            cases d0 <;> first | rfl | exact absurd ⟨_, rfl⟩ w0
          rw [e] at q
          exact q
      · have e2 : decide (V.int (xs.length : Int) = V.int 2) = false := decide_eq_false fun z => hl (by injection z; omega)
        rw [e2]
        have hdl : ds.length ≠ 2 := by
          rw [← DpAll.length hA]
          exact hl
        have e : isTermT (.d (.tuple ds)) = false := by
          match ds, hdl with
          | [], _ => rfl
          | [_], _ => simp [isTermT, isTermD]
          | [_, _], h => exact absurd rfl h
          | _ :: _ :: _ :: _, _ => simp [isTermT, isTermD]
        rw [e] at q
        exact q
    · have e1 : th.is .tup = false := by
        cases th with
        | o => rfl
        | d d => cases d <;> first | rfl | exact absurd ⟨_, rfl⟩ hn
      rw [e1]
      have e : isTermT th = false := by
        cases th with
        | o => rfl
        | d d => cases d <;> first | rfl | exact absurd ⟨_, rfl⟩ hn
      rw [e] at q
      exact q
/-! is_atom -/
def isAtomD : PyData → Bool
  | .tuple [.str z, d1, d2] => inV (.str z) sgV && (isTermD d1 && isTermD d2)
  | _ => false
def isAtomT : Th → Bool
  | Th.d x => isAtomD x
  | Th.o => false
def spIsAtom (K : PySem.W.Frag) : Sp := fun vs H Q _ => ∃ v th, vs = [v] ∧ ThOk K H v th ∧ Q (.bl (isAtomT th)) H
theorem d_is_atom (T : Txt K mg) : Dn P w K mg base CX0 4 "is_atom" (spIsAtom K) := by
  obtain ⟨fd, F⟩ := T.f_is_atom
  have D_is_term := d_is_term (P := P) (w := w) (base := base) T
  refine dnN T.g_is_atom F (fun _ _ _ _ _ _ us hl => match us, hl with | [_], _ => rfl) sc_is_atom (fun vs H Q E h => ?_) (fun cdv A outer s H vs Q E hr h => ?_)
  · obtain ⟨v, th, rfl, _⟩ := h
    rfl
  · obtain ⟨v, th, rfl, ht, q⟩ := h
    obtain ⟨t, ty, ki⟩ := ht.ty
    refine ⟨_, PSs.nox (pss_cons (ps_if (PW.pt (pw_or (pt_not (pt_val (pe_callB call_isi (by rfl) T.z_isinstance (by decide +kernel) (pa_cons (pv 0) (pa_cons (pe_bltn (v := .ty "tuple") (by rfl) T.z_tuple (by decide +kernel) rfl) pa_nil))))) (pw_or (pt_cmpR op_ne (pe_callB call_len_seq (by rfl) T.z_len (by decide +kernel) (pa_cons (pv 0) pa_nil)) pe_int (nomark _)) (pw_or1 (pt_not (pt_val (pe_callB call_isi (by rfl) T.z_isinstance (by decide +kernel) (pa_cons (pe_ix ix_tup (pv 0) pe_int (fun _ _ => rfl)) (pa_cons (pe_bltn (v := .ty "str") (by rfl) T.z_str (by decide +kernel) rfl) pa_nil))))))))) (pss_one (ps_ret pe_bl)) pss_nil)
      (pss_one (ps_ret (pe_and (pe_cmpR op_in_seq (pe_ix ix_tup (pv 0) pe_int (fun _ _ => rfl)) (pe_glob (v := .ref (ga K "SIGNS")) (by rfl) T.g_SIGNS rfl) (by rfl)) (pe_and (cl D_is_term (hr.mono (by decide)) (pa_cons (pe_ix ix_tup (pv 0) pe_int (fun _ _ => rfl)) pa_nil)) (pe_one (cl D_is_term (hr.mono (by decide)) (pa_cons (pe_ix ix_tup (pv 0) pe_int (fun _ _ => rfl)) pa_nil)))))))), ?_⟩
    refine ⟨_, rfl, _, _, t, _, _, rfl, .ty _, ty, ki .tup, _, rfl, ?_⟩
    by_cases hn : ∃ ds, th = .d (.tuple ds)
    · obtain ⟨ds, rfl⟩ := hn
      refine iteF ?_
      cases ht with
      | @tup a xs _ hS hA =>
      refine ⟨_, rfl, _, _, rfl, .inr hS, rfl, _, rfl, ?_⟩
      by_cases hl : xs.length = 3
      · match xs, hl with
        | [v0, v1, v2], _ =>
        match ds, hA with
        | [d0, d1, d2], .cons h0 (.cons h1 (.cons h2 .nil)) =>
        refine iteF ?_
        refine ⟨_, rfl, _, _, 0, v0, rfl, rfl, hS, atI_nat (j := 0) rfl, _, _, _, _, _, rfl, .ty _, Dp.ty h0, kit_d K .str d0, _, rfl, ?_⟩
        by_cases w0 : ∃ z, d0 = .str z
        · obtain ⟨z, rfl⟩ := w0
          cases h0
          refine iteF ?_
          have e : isAtomT (.d (.tuple [.str z, d1, d2])) = (inV (.str z) sgV && (isTermD d1 && isTermD d2)) := rfl
          rw [e] at q
          refine ⟨_, rfl, _, _, 0, _, rfl, rfl, hS, atI_nat (j := 0) rfl, _, _, rfl, .inr (T.t_SIGNS _), rfl, rfl, _, rfl, ie (fun c1 => ?_) (fun c1 => ?_)⟩
          · have c1' : inV (.str z) sgV = true := c1
            rw [c1', Bool.true_and] at q
            refine ⟨_, rfl, _, _, 1, _, rfl, rfl, hS, atI_nat (j := 1) rfl, v1, .d d1, rfl, h1, _, rfl, ie (fun c2 => ?_) (fun c2 => ?_)⟩
            · have c2' : isTermD d1 = true := c2
              rw [c2', Bool.true_and] at q
              exact ⟨_, rfl, _, _, 2, _, rfl, rfl, hS, atI_nat (j := 2) rfl, v2, .d d2, rfl, h2, q⟩
            · have c2' : isTermD d1 = false := c2
              rw [c2', Bool.false_and] at q
              exact q
          · have c1' : inV (.str z) sgV = false := c1
            rw [c1', Bool.false_and] at q
            exact q
        · have e2 : isTy .str d0 = false := by
            cases d0 <;> first | rfl | exact absurd ⟨_, rfl⟩ w0
          rw [e2]
          have e : isAtomT (.d (.tuple [d0, d1, d2])) = false := by
            cases d0 <;> first | rfl | exact absurd ⟨_, rfl⟩ w0
          rw [e] at q
          exact q
      · have e2 : decide (V.int (xs.length : Int) = V.int 3) = false := decide_eq_false fun z => hl (by injection z; omega)
        rw [e2]
        have hdl : ds.length ≠ 3 := by
          rw [← DpAll.length hA]
          exact hl
        have e : isAtomT (.d (.tuple ds)) = false := by
          match ds, hdl with
          | [], _ => rfl
          | [_], _ => simp [isAtomT, isAtomD]
          | [_, _], _ => simp [isAtomT, isAtomD]
          | [_, _, _], h => exact absurd rfl h
          | _ :: _ :: _ :: _ :: _, _ => simp [isAtomT, isAtomD]
        rw [e] at q
        exact q
    · have e1 : th.is .tup = false := by
        cases th with
        | o => rfl
        | d d => cases d <;> first | rfl | exact absurd ⟨_, rfl⟩ hn
      rw [e1]
      have e : isAtomT th = false := by
        cases th with
        | o => rfl
        | d d => cases d <;> first | rfl | exact absurd ⟨_, rfl⟩ hn
      rw [e] at q
      exact q
/-! less -/
def spLess (K : PySem.W.Frag) : Sp := fun vs H Q _ => ∃ (p q : Addr) (a b c d : Int), vs = [.ref p, .ref q] ∧ SqT K H p [.int a, .int b] ∧ SqT K H q [.int c, .int d] ∧ CMulW a d ∧ CMulW c b ∧ Q (.bl (decide (a * d < c * b))) H
theorem d_less (T : Txt K mg) : Dn P w K mg base CX0 1 "less" (spLess K) := by
  obtain ⟨fd, F⟩ := T.f_less
  refine dnN T.g_less F (fun _ _ _ _ _ _ us hl => match us, hl with | [_, _], _ => rfl) sc_less (fun vs H Q E h => ?_) (fun cdv A outer s H vs Q E hr h => ?_)
  · obtain ⟨p, q, a, b, c, d, rfl, _⟩ := h
    rfl
  · obtain ⟨p, q, a, b, c, d, rfl, h1, h2, m1, m2, hq⟩ := h
    refine ⟨_, PSs.nox (pss_one (ps_ret (pe_cmpR op_lt (pe_op op_mulW (pe_ix ix_tup (pv 0) pe_int (fun _ _ => rfl)) (pe_ix ix_tup (pv 1) pe_int (fun _ _ => rfl))) (pe_op op_mulW (pe_ix ix_tup (pv 1) pe_int (fun _ _ => rfl)) (pe_ix ix_tup (pv 0) pe_int (fun _ _ => rfl))) (nomark _)))), ?_⟩
    exact ⟨_, rfl, _, _, 0, _, rfl, rfl, h1, atI_nat (j := 0) rfl, _, rfl, _, _, 1, _, rfl, rfl, h2, atI_nat (j := 1) rfl, _, _, rfl, rfl, m1,
      _, rfl, _, _, 0, _, rfl, rfl, h2, atI_nat (j := 0) rfl, _, rfl, _, _, 1, _, rfl, rfl, h1, atI_nat (j := 1) rfl, _, _, rfl, rfl, m2, _, _, rfl, rfl, hq⟩

end
/-! terms, atoms and rows, as the law and the program have them -/
inductive Pl where
  | old | first | second
  deriving DecidableEq
def Pl.s : Pl → Str
  | .old => "old"
  | .first => "first"
  | .second => "second"
inductive Tm where
  | cell (p : Pl) (c : Nat)
  | val (a b : Int)
  deriving DecidableEq
inductive Sg where
  | lt | le | eq | ne
  deriving DecidableEq
def Sg.s : Sg → Str
  | .lt => "<"
  | .le => "<="
  | .eq => "="
  | .ne => "!="
structure At where
  s : Sg
  l : Tm
  r : Tm
  deriving DecidableEq
def valD (x : Int × Int) : PyData := .tuple [.int x.1, .int x.2]
def Tm.d : Tm → PyData
  | .cell p c => .tuple [.str p.s, .int (c : Nat)]
  | .val a b => .tuple [.str "value", valD (a, b)]
def At.d (a : At) : PyData := .tuple [.str a.s.s, a.l.d, a.r.d]
abbrev Row := Option (List (Int × Int))
def rowD : Row → PyData
  | none => .none
  | some l => .tuple (l.map valD)
/-- a value: lowest terms, not too great -/
structure Vl (x : Int × Int) : Prop where
  low : Low x.1 x.2
  top : x.1.natAbs < 2 ^ 70
  bot : x.2.natAbs < 2 ^ 70
def Tm.ok : Tm → Prop
  | .cell _ c => c < 3
  | .val a b => Vl (a, b)
def At.ok (a : At) : Prop := a.l.ok ∧ a.r.ok
def rowOk (r : Row) : Prop := ∀ l, r = some l → (l.length ≤ 3 ∧ ∀ x ∈ l, Vl x)
def Tm.at (r : Pl → Row) : Tm → Option (Int × Int)
  | .val a b => some (a, b)
  | .cell p c => (r p).bind fun l => l[c]?
def Sg.holds : Sg → Int × Int → Int × Int → Bool
  | .lt, x, y => decide (x.1 * y.2 < y.1 * x.2)
  | .le, x, y => !decide (y.1 * x.2 < x.1 * y.2)
  | .eq, x, y => decide (x = y)
  | .ne, x, y => !decide (x = y)
def At.at (r : Pl → Row) (a : At) : Option Bool := match a.l.at r, a.r.at r with
  | some x, some y => some (a.s.holds x y)
  | _, _ => none
def holdO (r : Pl → Row) (as : List At) : Option Bool := if (as.any fun a => (a.at r).isNone) = true then none else some (as.all fun a => decide (a.at r = some true))
theorem Pl.ne_value (p : Pl) : decide (V.str p.s = V.str "value") = false := by cases p <;> decide +kernel
theorem Pl.inj {p q : Pl} : (p.s == q.s) = decide (p = q) := by cases p <;> cases q <;> decide +kernel
theorem Sg.inj {p q : Sg} : (p.s == q.s) = decide (p = q) := by cases p <;> cases q <;> decide +kernel
theorem isVal_of {x : Int × Int} (h : Low x.1 x.2) : isValD (valD x) = true := by
  show (!decide (x.2 < 1) && decide (cd x.1 x.2 = 1)) = true
  rw [decide_eq_false (by have := h.1; omega), decide_eq_true h.2]
  rfl
theorem Tm.isTerm {t : Tm} (h : t.ok) : isTermD t.d = true := by
  cases t with
  | cell p c =>
    show termD p.s (.int (c : Nat)) = true
    unfold termD
    rw [Pl.ne_value, if_neg Bool.false_ne_true]
    have h' : c < 3 := h
    have e1 : inV (.str p.s) plV = true := by cases p <;> decide +kernel
    rw [e1]
    show (decide ((0 : Int) ≤ (c : Nat)) && decide (((c : Nat) : Int) < 3)) = true
    rw [decide_eq_true (by omega), decide_eq_true (by omega)]
    rfl
  | val a b =>
    show termD "value" (valD (a, b)) = true
    unfold termD
    rw [if_pos (by decide +kernel)]
    exact isVal_of (x := (a, b)) h.low
theorem At.isAtom {a : At} (h : a.ok) : isAtomD a.d = true := by
  show (inV (.str a.s.s) sgV && (isTermD a.l.d && isTermD a.r.d)) = true
  have e1 : inV (.str a.s.s) sgV = true := by cases a.s <;> decide +kernel
  rw [e1, Tm.isTerm h.1, Tm.isTerm h.2]
  rfl
theorem eqv_int (i j : Int) : PyData.eqv (.int i) (.int j) = decide (i = j) := by
  show (i == j) = _
  by_cases h : i = j
  · subst h; simp
  · rw [decide_eq_false h, beq_eq_false_iff_ne.mpr h]
theorem eqv_valD (x y : Int × Int) : PyData.eqv (valD x) (valD y) = decide (x = y) := by
  show (PyData.eqv (.int x.1) (.int y.1) && (PyData.eqv (.int x.2) (.int y.2) && true)) = _
  rw [eqv_int, eqv_int, Bool.and_true, ← Bool.decide_and]
  exact decide_eq_decide.mpr ⟨fun h => Prod.ext h.1 h.2, fun h => by subst h; exact ⟨rfl, rfl⟩⟩
theorem eqv_tm (x y : Tm) : PyData.eqv x.d y.d = decide (x = y) := by
  cases x with
  | cell p c =>
    cases y with
    | cell q e =>
      show ((p.s == q.s) && (PyData.eqv (.int (c : Nat)) (.int (e : Nat)) && true)) = _
      rw [Pl.inj, eqv_int, Bool.and_true, ← Bool.decide_and]
      refine decide_eq_decide.mpr ⟨fun h => ?_, fun h => by cases h; exact ⟨rfl, rfl⟩⟩
      obtain ⟨rfl, h2⟩ := h
      have : c = e := by omega
      subst this
      rfl
    | val a b =>
      show ((p.s == "value") && (PyData.eqv (.int (c : Nat)) (valD (a, b)) && true)) = _
      rw [show (p.s == ("value" : Str)) = false by cases p <;> decide +kernel, decide_eq_false (by intro h; cases h)]
      rfl
  | val a b =>
    cases y with
    | cell q e =>
      show ((("value" : Str) == q.s) && (PyData.eqv (valD (a, b)) (.int (e : Nat)) && true)) = _
      rw [show (("value" : Str) == q.s) = false by cases q <;> decide +kernel, decide_eq_false (by intro h; cases h)]
      rfl
    | val c d =>
      show ((("value" : Str) == "value") && (PyData.eqv (valD (a, b)) (valD (c, d)) && true)) = _
      rw [eqv_valD, show (("value" : Str) == "value") = true by decide +kernel, Bool.true_and, Bool.and_true]
      exact decide_eq_decide.mpr ⟨fun h => by cases h; rfl, fun h => by cases h; rfl⟩
theorem eqv_at (x y : At) : PyData.eqv x.d y.d = decide (x = y) := by
  show ((x.s.s == y.s.s) && (PyData.eqv x.l.d y.l.d && (PyData.eqv x.r.d y.r.d && true))) = _
  rw [Sg.inj, eqv_tm, eqv_tm, Bool.and_true, ← Bool.decide_and, ← Bool.decide_and]
  refine decide_eq_decide.mpr ⟨fun h => ?_, fun h => by subst h; exact ⟨rfl, rfl, rfl⟩⟩
  obtain ⟨xs, xl, xr⟩ := x
  obtain ⟨ys, yl, yr⟩ := y
  obtain ⟨h1, h2, h3⟩ := h
  dsimp only at h1 h2 h3
  subst h1 h2 h3
  rfl
theorem Pd.valD (x : Int × Int) : Pd (valD x) := ⟨rfl, rfl, by show 1 ≤ 16; decide⟩
theorem Tm.pd (t : Tm) : Pd t.d ∧ t.d.depth ≤ 2 := by
  cases t with
  | cell p c => exact ⟨⟨rfl, (show (PyData.strOk p.s && (true && true)) = true from by cases p <;> decide +kernel), by show 1 ≤ 16; decide⟩, by show 1 ≤ 2; decide⟩
  | val a b => exact ⟨⟨rfl, (show (PyData.strOk "value" && ((true && (true && true)) && true)) = true from by decide +kernel), by show 2 ≤ 16; decide⟩, by show 2 ≤ 2; decide⟩
theorem At.pd (a : At) : Pd a.d := by
  obtain ⟨h1, e1⟩ := Tm.pd a.l
  obtain ⟨h2, e2⟩ := Tm.pd a.r
  refine ⟨?_, ?_, ?_⟩
  · show (true && (noL a.l.d && (noL a.r.d && true))) = true
    rw [h1.nl, h2.nl]; rfl
  · show (PyData.strOk a.s.s && (a.l.d.canLay0 && (a.r.d.canLay0 && true))) = true
    rw [h1.cl, h2.cl, show PyData.strOk a.s.s = true by cases a.s <;> decide +kernel]; rfl
  · show max 0 (max a.l.d.depth (max a.r.d.depth 0)) + 1 ≤ 16
    omega
theorem rowD_pd (r : Row) : Pd (rowD r) := by
  cases r with
  | none => exact ⟨rfl, rfl, by decide⟩
  | some l =>
    have h : Pds (l.map valD) ∧ PyData.depthAll (l.map valD) ≤ 1 := by
      refine ⟨fun d hd => ?_, ?_⟩
      · obtain ⟨x, _, rfl⟩ := List.mem_map.mp hd
        exact Pd.valD x
      · induction l with
        | nil => exact Nat.zero_le _
        | cons x r ih => exact Nat.max_le.mpr ⟨Nat.le_refl 1, ih⟩
    exact ⟨h.1.nl, h.1.cl, by show PyData.depthAll (l.map valD) + 1 ≤ 16; have := h.2; omega⟩

end K05
namespace K05
open PySem PySem.Spec PyProof.Rows L2 He TL EL
section
variable {P : Program} {w : World} {K : PySem.W.Frag} {mg : Str → Option Value} {base : Heap}
/-! value_at -/
def rowsK (v : Pl → V) : List (Key × V) := [(.inr "old", v .old), (.inr "first", v .first), (.inr "second", v .second)]
theorem rowsK_at (v : Pl → V) (p : Pl) : valV (rowsK v) (.inr p.s) = some (v p) := by
  unfold rowsK
  cases p
  · exact valV_pos rfl
  · rw [valV_neg (by intro z; exact absurd (Sum.inr.inj z) (by decide +kernel))]
    exact valV_pos rfl
  · rw [valV_neg (by intro z; exact absurd (Sum.inr.inj z) (by decide +kernel)), valV_neg (by intro z; exact absurd (Sum.inr.inj z) (by decide +kernel))]
    exact valV_pos rfl
theorem tm_cell {H : Hp} {v : V} {p : Pl} {c : Nat} (h : Dp K H v (Tm.cell p c).d) : ∃ a, v = .ref a ∧ SqT K H a [.str p.s, .int (c : Nat)] := by
  cases h with
  | tup hS hA =>
    cases hA with
    | cons h1 hA =>
      cases hA with
      | cons h2 hA =>
        cases hA
        cases h1
        cases h2
        exact ⟨_, rfl, hS⟩
theorem tm_val {H : Hp} {v : V} {a b : Int} (h : Dp K H v (Tm.val a b).d) : ∃ q r, v = .ref q ∧ SqT K H q [.str "value", r] ∧ Dp K H r (valD (a, b)) := by
  cases h with
  | tup hS hA =>
    cases hA with
    | cons h1 hA =>
      cases hA with
      | cons h2 hA =>
        cases hA
        cases h1
        exact ⟨_, _, rfl, hS, h2⟩
theorem dp_val {H : Hp} {v : V} {x : Int × Int} (h : Dp K H v (valD x)) : ∃ q, v = .ref q ∧ SqT K H q [.int x.1, .int x.2] := by
  cases h with
  | tup hS hA =>
    cases hA with
    | cons h1 hA =>
      cases hA with
      | cons h2 hA =>
        cases hA
        cases h1
        cases h2
        exact ⟨_, rfl, hS⟩
theorem dp_row {H : Hp} {v : V} {l : List (Int × Int)} (h : Dp K H v (rowD (some l))) : ∃ q vs, v = .ref q ∧ SqT K H q vs ∧ DpAll K H vs (l.map valD) := by
  cases h with
  | tup hS hA => exact ⟨_, _, rfl, hS, hA⟩
theorem DpAll.at {H : Hp} : ∀ {ds : List PyData} {vs : List V} {i : Nat} {d : PyData}, DpAll K H vs ds → ds[i]? = some d → ∃ v, vs[i]? = some v ∧ Dp K H v d
  | _, _, 0, _, .cons a b, e => by cases e; exact ⟨_, rfl, a⟩
  | _, _, i + 1, _, .cons a b, e => DpAll.at (i := i) b e
/-- the rows by their places -/
def Rows3 (K : PySem.W.Frag) (H : Hp) (v : Pl → V) (r : Pl → Row) : Prop := ∀ p, Dp K H (v p) (rowD (r p))
theorem Rows3.same {H H' : Hp} {v : Pl → V} {r : Pl → Row} (h : Rows3 K H v r) (s : Same H H') : Rows3 K H' v r := fun p => Dp.same s (h p)
def spValueAt (K : PySem.W.Frag) : Sp := fun vs H Q E => ∃ vt rd t v r, vs = [vt, .ref rd] ∧ Dp K H vt (Tm.d t) ∧ H rd = some (.dK (rowsK v)) ∧ Rows3 K H v r ∧ (t.at r = none → E (.ref (ga K "NoCell")) none H) ∧ ∀ x y, t.at r = some x → Dp K H y (valD x) → Q y H
theorem d_value_at (T : Txt K mg) : Dn P w K mg base (L2.CX P w) 1 "value_at" (spValueAt K) := by
  obtain ⟨fd, F⟩ := T.f_value_at
  refine dnN T.g_value_at F (fun _ _ _ _ _ _ us hl => match us, hl with | [_, _], _ => rfl) sc_value_at (fun vs H Q E h => ?_) (fun cdv A outer s H vs Q E hr h => ?_)
  · obtain ⟨vt, rd, t, v, r, rfl, _⟩ := h
    rfl
  · obtain ⟨vt, rd, t, v, r, rfl, ht, hd, hR, hE, hQ⟩ := h
    refine ⟨_, (pss_cons (ps_if (pt_cmpR op_eq (pe_ix ix_tup (pv 0) pe_int (fun _ _ => rfl)) pe_str (nomark _)) (pss_one (ps_ret (pe_ix ix_tup (pv 0) pe_int (fun _ _ => rfl)))) pss_nil)
      (pss_cons (ps_set (i := 2) sc_value_at.nd rfl (.inl rfl) (pe_dget (hu_of hr) (pv 1) (pe_ix ix_tup (pv 0) pe_int (fun _ _ => rfl)) (fun _ _ => rfl)))
      (pss_cons (ps_if (PW.pt (pw_or (pt_cmpR op_isN (pv 2) pe_non (nomark _)) (pw_or1 (pt_cmpR op_ge (pe_ix ix_tup (pv 0) pe_int (fun _ _ => rfl)) (pe_callB call_len_seq (by rfl) T.z_len (by decide +kernel) (pa_cons (pv 2) pa_nil)) (nomark _))))) (pss_one (rs (by rfl) (takes_of rfl rfl rfl rfl) T.x_NoCell (by rfl))) pss_nil)
      (pss_one (ps_ret (pe_ix ix_tup (pv 2) (pe_ix ix_tup (pv 0) pe_int (fun _ _ => rfl)) (fun _ _ => rfl))))))), ?_⟩
    cases t with
    | val a b =>
      obtain ⟨q, y, rfl, hq, hy⟩ := tm_val ht
      refine ⟨_, rfl, _, _, 0, _, rfl, rfl, hq, atI_nat (j := 0) rfl, rfl, _, rfl, iteT ?_⟩
      exact ⟨_, rfl, _, _, 1, _, rfl, rfl, hq, atI_nat (j := 1) rfl, hQ (a, b) y rfl hy⟩
    | cell p c =>
      obtain ⟨q, rfl, hq⟩ := tm_cell ht
      refine ⟨_, rfl, _, _, 0, _, rfl, rfl, hq, atI_nat (j := 0) rfl, rfl, _, rfl, ?_⟩
      refine if_neg_of (Pl.ne_value p) ?_
      have hg := DGet.k (k := Sum.inr p.s) hd
      rw [rowsK_at] at hg
      refine ⟨_, rfl, _, rfl, _, _, 0, _, rfl, rfl, hq, atI_nat (j := 0) rfl, _, _, rfl, hg, ?_⟩
      have hp := hR p
      cases hr0 : r p with
      | none =>
        rw [hr0] at hp
        have e : v p = .non := by
          generalize v p = y at hp
          cases hp
          rfl
        rw [e]
        refine ⟨_, rfl, rfl, _, rfl, iteT ?_⟩
        exact hE (by show (r p).bind _ = none; rw [hr0]; rfl)
      | some l =>
        rw [hr0] at hp
        obtain ⟨ra, vs, ev, hra, hA⟩ := dp_row hp
        rw [ev]
        refine ⟨_, rfl, rfl, _, rfl, iteF ?_⟩
        have lv : vs.length = l.length := by rw [DpAll.length hA, List.length_map]
        refine ⟨_, rfl, _, _, 1, _, rfl, rfl, hq, atI_nat (j := 1) rfl, _, rfl, _, _, rfl, .inr hra, _, _, rfl, rfl, _, rfl, ie (fun c1 => ?_) (fun c1 => ?_)⟩
        · have c1' := of_decide_eq_true c1
          refine hE ?_
          show (r p).bind _ = none
          rw [hr0]
          exact List.getElem?_eq_none (by omega)
        · have c1' := of_decide_eq_false c1
          have hlt : c < l.length := by omega
          have hx : (l.map valD)[c]? = some (valD l[c]) := by rw [List.getElem?_map, List.getElem?_eq_getElem hlt]; rfl
          obtain ⟨y, hy, hdy⟩ := DpAll.at hA hx
          refine ⟨_, rfl, _, rfl, _, _, 1, _, rfl, rfl, hq, atI_nat (j := 1) rfl, _, _, _, _, rfl, rfl, hra, atI_nat hy, ?_⟩
          refine hQ l[c] y ?_ hdy
          show (r p).bind _ = _
          rw [hr0]
          exact List.getElem?_eq_getElem hlt
/-! stands -/
def spStands (K : PySem.W.Frag) : Sp := fun vs H Q _ => ∃ (g : Sg) (v1 v2 : V) (x y : Int × Int), vs = [.str g.s, v1, v2] ∧ Dp K H v1 (valD x) ∧ Dp K H v2 (valD y) ∧ Vl x ∧ Vl y ∧ Q (.bl (g.holds x y)) H
theorem vl_mul {x y : Int × Int} (h1 : Vl x) (h2 : Vl y) : CMulW x.1 y.2 := wide_mul h1.top h2.bot (by decide) (by decide) (by decide)
theorem d_stands (T : Txt K mg) : Dn P w K mg base CX0 2 "stands" (spStands K) := by
  obtain ⟨fd, F⟩ := T.f_stands
  have D_less := d_less (P := P) (w := w) (base := base) T
  refine dnN T.g_stands F (fun _ _ _ _ _ _ us hl => match us, hl with | [_, _, _], _ => rfl) sc_stands (fun vs H Q E h => ?_) (fun cdv A outer s H vs Q E hr h => ?_)
  · obtain ⟨g, v1, v2, x, y, rfl, _⟩ := h
    rfl
  · obtain ⟨g, v1, v2, x, y, rfl, h1, h2, l1, l2, hQ⟩ := h
    refine ⟨_, PSs.nox (pss_cons (ps_if (pt_cmpR op_eq (pv 0) pe_str (nomark _)) (pss_one (ps_ret (cl D_less (hr.mono (by decide)) (pa_cons (pv 1) (pa_cons (pv 2) pa_nil))))) pss_nil)
      (pss_cons (ps_if (pt_cmpR op_eq (pv 0) pe_str (nomark _)) (pss_one (ps_ret (pe_not (cl D_less (hr.mono (by decide)) (pa_cons (pv 2) (pa_cons (pv 1) pa_nil)))))) pss_nil)
      (pss_one (ps_ret (pe_cmpR op_eq (pe_cmpR (op_eqD hr.units) (pv 1) (pv 2) (nomark _)) (pe_cmpR op_eq (pv 0) pe_str (nomark _)) (nomark _)))))), ?_⟩
    obtain ⟨p, rfl, hp⟩ := dp_val h1
    obtain ⟨q, rfl, hq⟩ := dp_val h2
    have eqp : ∀ z : Bool, z = decide (x = y) → PyData.eqv (valD x) (valD y) = z := fun z e => by rw [eqv_valD, e]
    cases g with
    | lt =>
      refine ⟨_, rfl, rfl, _, rfl, iteT ?_⟩
      exact ⟨_, rfl, _, rfl, p, q, _, _, _, _, rfl, hp, hq, vl_mul l1 l2, vl_mul l2 l1, hQ⟩
    | le =>
      refine ⟨_, rfl, rfl, _, rfl, if_neg_of (by decide +kernel) ?_⟩
      refine ⟨_, rfl, rfl, _, rfl, iteT ?_⟩
      exact ⟨_, rfl, _, rfl, q, p, _, _, _, _, rfl, hq, hp, vl_mul l2 l1, vl_mul l1 l2, _, rfl, hQ⟩
    | eq =>
      refine ⟨_, rfl, rfl, _, rfl, if_neg_of (by decide +kernel) ?_⟩
      refine ⟨_, rfl, rfl, _, rfl, if_neg_of (by decide +kernel) ?_⟩
      refine ⟨_, rfl, _, rfl, _, _, h1, h2, (Pd.valD x).shaped, (Pd.valD y).shaped, _, rfl, rfl, rfl, ?_⟩
      rw [eqv_valD]
      have e : decide (V.bl (decide (x = y)) = V.bl (decide (V.str (Sg.s .eq) = V.str "="))) = Sg.holds .eq x y := by
        show _ = decide (x = y)
        by_cases h : x = y
        · rw [decide_eq_true h]; decide +kernel
        · rw [decide_eq_false h]; decide +kernel
      show Q (.bl (decide (V.bl (decide (x = y)) = V.bl (decide (V.str (Sg.s .eq) = V.str "="))))) H
      rw [e]
      exact hQ
    | ne =>
      refine ⟨_, rfl, rfl, _, rfl, if_neg_of (by decide +kernel) ?_⟩
      refine ⟨_, rfl, rfl, _, rfl, if_neg_of (by decide +kernel) ?_⟩
      refine ⟨_, rfl, _, rfl, _, _, h1, h2, (Pd.valD x).shaped, (Pd.valD y).shaped, _, rfl, rfl, rfl, ?_⟩
      rw [eqv_valD]
      have e : decide (V.bl (decide (x = y)) = V.bl (decide (V.str (Sg.s .ne) = V.str "="))) = Sg.holds .ne x y := by
        show _ = (!decide (x = y))
        by_cases h : x = y
        · rw [decide_eq_true h]; decide +kernel
        · rw [decide_eq_false h]; decide +kernel
      show Q (.bl (decide (V.bl (decide (x = y)) = V.bl (decide (V.str (Sg.s .ne) = V.str "="))))) H
      rw [e]
      exact hQ

end
end K05
namespace K05
open PySem PySem.Spec PyProof.Rows L2 He TL EL
section
variable {P : Program} {w : World} {K : PySem.W.Frag} {mg : Str → Option Value} {base : Heap}
/-! Conditions.__init__ -/
abbrev aCd (K : PySem.W.Frag) : Addr := ga K "Conditions"
def cdF (l : Addr) : List (Str × V) := putF "kept_atoms" (.ref l) []
theorem cdF_at {l : Addr} : (cdF l).lookup ("kept_atoms" : Str) = some (.ref l) := by
  unfold cdF
  rw [lookup_putF, if_pos rfl]
theorem cdF_no {l : Addr} {m : Str} (h : m ≠ "kept_atoms") : (cdF l).lookup m = none := by
  unfold cdF
  rw [lookup_putF, if_neg h]
  rfl
/-- each atom once -/
def ddS (acc : List At) (a : At) : List At := if (acc.any fun z => decide (z = a)) = true then acc else acc ++ [a]
def dd (as : List At) : List At := as.foldl ddS []
theorem dd_snoc (as : List At) (a : At) : dd (as ++ [a]) = ddS (dd as) a := by
  unfold dd
  rw [List.foldl_append]
  rfl
theorem dd_len (as : List At) : (dd as).length ≤ as.length := by
  have h : ∀ (l acc : List At), (l.foldl ddS acc).length ≤ acc.length + l.length := by
    intro l
    induction l with
    | nil => intro acc; exact Nat.le_refl _
    | cons a r ih =>
      intro acc
      have h1 := ih (ddS acc a)
      have h2 : (ddS acc a).length ≤ acc.length + 1 := by
        unfold ddS
        split
        · omega
        · rw [List.length_append]; exact Nat.le_refl _
      show (r.foldl ddS (ddS acc a)).length ≤ acc.length + (r.length + 1)
      omega
  have := h as []
  simpa [dd] using this
theorem dd_mem (as : List At) (a : At) : a ∈ dd as ↔ a ∈ as := by
  have h : ∀ (l acc : List At), a ∈ l.foldl ddS acc ↔ a ∈ acc ∨ a ∈ l := by
    intro l
    induction l with
    | nil => intro acc; simp
    | cons b r ih =>
      intro acc
      show a ∈ r.foldl ddS (ddS acc b) ↔ _
      rw [ih]
      have h2 : a ∈ ddS acc b ↔ a ∈ acc ∨ a = b := by
        unfold ddS
        split
        · rename_i hc
          obtain ⟨z, hz, e⟩ := List.any_eq_true.mp hc
          have e' := of_decide_eq_true e
          subst e'
          exact ⟨.inl, fun h => h.elim id (fun e => by rw [e]; exact hz)⟩
        · simp
      rw [h2, List.mem_cons]
      constructor
      · rintro ((h | h) | h)
        · exact .inl h
        · exact .inr (.inl h)
        · exact .inr (.inr h)
      · rintro (h | h | h)
        · exact .inl (.inl h)
        · exact .inl (.inr h)
        · exact .inr h
  have := h as []
  simpa [dd] using this
theorem any_eqv (as : List At) (a : At) : ((as.map At.d).any fun z => PyData.eqv z a.d) = as.any fun z => decide (z = a) := by
  rw [List.any_map]
  congr 1
  funext z
  exact eqv_at z a
theorem pds_at (as : List At) : Pds (as.map At.d) := fun d hd => by
  obtain ⟨a, _, rfl⟩ := List.mem_map.mp hd
  exact At.pd a
def spCd (K : PySem.W.Frag) : Sp := fun args H Q _ => ∃ x dx a vs as, args = [.ref x, .ref a] ∧ H x = some (.ins (aCd K) dx []) ∧ (SqL K H a vs ∨ SqT K H a vs) ∧ DpAll K H vs (as.map At.d) ∧ (∀ a ∈ as, At.ok a) ∧ as.length ≤ 1000 ∧
  ∀ l us H', Md [x] H H' → H l = none → H' x = some (.ins (aCd K) dx (cdF l)) → H' l = some (.lst us) → DpAll K H' us ((dd as).map At.d) → Q .non H'
theorem ok_cd (T : Txt K mg) : ∃ fd, FunD K "__init__" "Conditions.__init__" (defArgs s_Conditions___init__) (defBody s_Conditions___init__) (defScope s_Conditions___init__) ([.ref (dflAt ("Conditions", some "__init__") 0 K)] : List V) [] (ma K (ga K "Conditions") "__init__") fd ∧
    FnOk P w K mg base (L2.CX P w) 5 (ma K (ga K "Conditions") "__init__") fd ["self", "atoms"] (spCd K) := by
  obtain ⟨fd, F⟩ := T.f_Conditions___init__
  have D_is_atom := d_is_atom (P := P) (w := w) (base := base) T
  refine ⟨fd, F, F.ok sc_Conditions___init__ (fun vs H Q E h => ?_) (fun cdv A outer s H vs Q E hr h => ?_)⟩
  · obtain ⟨x, dx, a, vs, as, rfl, _⟩ := h
    rfl
  · obtain ⟨x, dx, a, vs, as, rfl, hx, ha, hA, hok, hl, hQ⟩ := h
    refine ⟨_, (pss_cons (ps_if (pt_not (pt_val (pe_callB call_isiT (by rfl) T.z_isinstance (by decide +kernel) (pa_cons (pv 1) (pa_cons (pe_tup (pa_cons (pe_bltn (v := .ty "list") (by rfl) T.z_list (by decide +kernel) rfl) (pa_cons (pe_bltn (v := .ty "tuple") (by rfl) T.z_tuple (by decide +kernel) rfl) pa_nil))) pa_nil))))) (pss_one (rs (by rfl) (takes_of rfl rfl rfl rfl) T.x_NoCondition (by rfl))) pss_nil)
      (pss_cons (ps_set (i := 2) sc_Conditions___init__.nd rfl (.inl rfl) (pe_lst pa_nil))
      (pss_cons (ps_for (passes_of rfl) rfl (PI.or_ (pi_list (pv 1)) (pi_tup (pv 1))) (pg_name (i := 3) sc_Conditions___init__.nd rfl (.inl rfl))
      (pss_cons (ps_if (pt_not (pt_val (cl D_is_atom (hr.mono (by decide)) (pa_cons (pv 3) pa_nil)))) (pss_one (rs (by rfl) (takes_of rfl rfl rfl rfl) T.x_NoCondition (by rfl))) pss_nil)
      (pss_one (ps_if (pt_cmpR (op_notInD (u65 hr)) (pv 3) (pv 2) (by rfl)) (pss_one (ps_expr (pe_bm PySem.F.plainAttrs_list PySem.F.slot_list_append PySem.F.type_list_append mt_append (pv 2) (pa_cons (pv 3) pa_nil)))) pss_nil))))
      (pss_one (ps_fld (pv 0) (pv 2) rfl))))), ?_⟩
    refine ⟨_, rfl, (by show 2 ≤ sizeLine; decide), fun tp ntp => ?_⟩
    generalize eH1 : upd H tp _ = H1
    have s1 : Same H H1 := eH1 ▸ same_upd ntp
    have e1 : H1 tp = some _ := eH1 ▸ upd_same
    have lv : vs.length = as.length := by rw [DpAll.length hA, List.length_map]
    have tyA : ∃ t, TyX K H1 (.ref a) t ∧ PySem.W.kitAny K t [.type "list", .type "tuple"] = some true := by
      rcases ha with ha | ha
      · exact ⟨_, SqL.ty (s1.seq ha), kit_any2 K .lst .tup (.list [])⟩
      · exact ⟨_, SqT.ty (Same.seqT s1 ha), kit_any2 K .lst .tup (.tuple [])⟩
    obtain ⟨t, ty, ki⟩ := tyA
    refine ⟨_, tp, _, t, _, true, rfl, e1, .cons (.ty _) (.cons (.ty _) .nil), ty, ki, _, rfl, iteF ?_⟩
    refine ⟨(by show 0 ≤ sizeLine; decide), fun kl nkl => ?_⟩
    generalize eH2 : upd H1 kl _ = H2
    have s2 : Same H1 H2 := eH2 ▸ same_upd nkl
    have e2 : H2 kl = some _ := eH2 ▸ upd_same
    have s12 := s1.trans s2
    have nk0 : H kl = none := s1.free nkl
    have hx2 := s12 _ _ hx
    have nkx : kl ≠ x := fun z => by rw [z, hx] at nk0; cases nk0
    have step : ∀ (i : Nat) (xv : V) (σ : L2.St) (H' : Hp), vs[i]? = some xv → (∃ o, σ = [some (.ref x), some (.ref a), some (.ref kl), o]) → (∃ us, H' kl = some (.lst us) ∧ DpAll K H' us ((dd (as.take i)).map At.d) ∧ Md [kl] H2 H') → ∃ at_, as[i]? = some at_ ∧ Dp K H' xv at_.d := by
      rintro i xv σ H' hg _ ⟨us, _, _, m⟩
      obtain ⟨d, hd, hdp⟩ := DpAll.get hA hg
      rw [List.getElem?_map] at hd
      cases he : as[i]? with
      | none => rw [he] at hd; cases hd
      | some at_ =>
        rw [he] at hd
        have e : at_.d = d := Option.some.inj hd
        subst e
        exact ⟨at_, rfl, m.dp (At.pd at_).nl (Dp.same s12 hdp)⟩
    have fin : ∀ H', (∃ us, H' kl = some (.lst us) ∧ DpAll K H' us ((dd (as.take as.length)).map At.d) ∧ Md [kl] H2 H') → Q .non (upd H' x (.ins (aCd K) dx (putF "kept_atoms" (.ref kl) []))) := by
      rintro H' ⟨us, eu, au, m⟩
      rw [List.take_length] at au
      have hx' := m.out _ _ hx2 (by simp; exact Ne.symm nkx)
      have mx : Md [x] H' (upd H' x (.ins (aCd K) dx (putF "kept_atoms" (.ref kl) []))) := Md.upd hx' rfl (by simp)
      have m0 : Md [x] H H' := Md.mono (S := []) (Md.newM (S := []) (m) (Md.of s12) nk0) (by simp)
      exact hQ kl us _ (m0.trans mx) nk0 upd_same (by rw [upd_ne nkx]; exact eu) (mx.dpAll (pds_at _).nl au)
    have body : ∀ (i : Nat) (xv : V) (σ : L2.St) (H' : Hp) (NX : L2.St → Hp → Prop), vs[i]? = some xv → (∃ o, σ = [some (.ref x), some (.ref a), some (.ref kl), o]) ∧ (∃ us, H' kl = some (.lst us) ∧ DpAll K H' us ((dd (as.take i)).map At.d) ∧ Md [kl] H2 H') →
        (∀ σ' H'', (∃ o, σ' = [some (.ref x), some (.ref a), some (.ref kl), o]) ∧ (∃ us, H'' kl = some (.lst us) ∧ DpAll K H'' us ((dd (as.take (i + 1))).map At.d) ∧ Md [kl] H2 H'') → NX σ' H'') →
        (∃ at_ us, Dp K H' xv (At.d at_) ∧ At.ok at_ ∧ H' kl = some (.lst us) ∧ us.length < sizeLine ∧ DpAll K H' us ((dd (as.take i)).map At.d) ∧ ((((dd (as.take i)).map At.d).any fun z => PyData.eqv z at_.d) = true → NX [some (.ref x), some (.ref a), some (.ref kl), some xv] H') ∧
          ((((dd (as.take i)).map At.d).any fun z => PyData.eqv z at_.d) = false → NX [some (.ref x), some (.ref a), some (.ref kl), some xv] (upd H' kl (.lst (us ++ [xv]))))) := by
      rintro i xv σ H' NX hg ⟨ho, us, eu, au, m⟩ hN
      obtain ⟨at_, hat, hdp⟩ := step i xv σ H' hg ho ⟨us, eu, au, m⟩
      have tk1 : as.take (i + 1) = as.take i ++ [at_] := by rw [List.take_add_one, hat]; rfl
      have hlu : us.length < sizeLine := by
        rw [DpAll.length au, List.length_map]
        have h1 := dd_len (as.take i)
        rw [List.length_take] at h1
        exact Nat.lt_of_le_of_lt (Nat.le_trans h1 (Nat.le_trans (Nat.min_le_right _ _) hl)) (by decide)
      refine ⟨at_, us, hdp, hok _ (List.mem_of_getElem? hat), eu, hlu, au, fun c => ?_, fun c => ?_⟩
      · refine hN _ _ ⟨⟨_, rfl⟩, us, eu, ?_, m⟩
        rw [any_eqv] at c
        rw [tk1, dd_snoc, ddS, if_pos c]
        exact au
      · have mu : Md [kl] H' (upd H' kl (.lst (us ++ [xv]))) := Md.upd eu rfl (by simp)
        refine hN _ _ ⟨⟨_, rfl⟩, _, upd_same, ?_, m.trans mu⟩
        rw [any_eqv] at c
        rw [tk1, dd_snoc, ddS, if_neg (by rw [c]; exact Bool.false_ne_true), List.map_append]
        exact DpAll.snoc (mu.dp (At.pd at_).nl hdp) (mu.dpAll (pds_at _).nl au)
    have start : (∃ o : Option V, ([some (.ref x), some (.ref a), some (.ref kl), none] : L2.St) = [some (.ref x), some (.ref a), some (.ref kl), o]) ∧ ∃ us, H2 kl = some (.lst us) ∧ DpAll K H2 us ((dd (as.take 0)).map At.d) ∧ Md [kl] H2 H2 := ⟨⟨none, rfl⟩, [], e2, .nil, .refl _ _⟩
    rcases ha with ha | ha
    · refine .inl ⟨_, rfl, a, rfl, ⟨_, s12.seq ha⟩, for_list (K := K) (a := a) (xs := vs) (fun i σ H' => (∃ o, σ = [some (.ref x), some (.ref a), some (.ref kl), o]) ∧ ∃ us, H' kl = some (.lst us) ∧ DpAll K H' us ((dd (as.take i)).map At.d) ∧ Md [kl] H2 H') start (fun i σ H' _ h => ?_) ?_ ?_⟩
      · obtain ⟨_, us, _, _, m⟩ := h
        exact SqL.new ha (Md.newM (S := []) m (Md.of s12) nk0) (by simp)
      · rintro i xv σ H' hg h
        obtain ⟨at_, us, hdp, hao, eu, hlu, au, h1, h2⟩ := body i xv σ H' _ hg h (fun _ _ z => z)
        obtain ⟨⟨o, rfl⟩, _⟩ := h
        refine ⟨_, rfl, xv, .d at_.d, rfl, hdp, _, rfl, ?_⟩
        rw [show isAtomT (.d at_.d) = true from At.isAtom hao]
        refine iteF ?_
        refine ⟨_, rfl, _, rfl, at_.d, _, hdp, .lst (SqL.of eu) au, (At.pd at_).shaped, (pds_at _).shaped, _, rfl, ie (fun c => ?_) (fun c => ?_)⟩
        · have c' : (((dd (as.take i)).map At.d).any fun z => PyData.eqv z at_.d) = false := by
            cases hb : (((dd (as.take i)).map At.d).any fun z => PyData.eqv z at_.d) with
            | false => rfl
            | true => rw [hb] at c; cases c
          exact ⟨_, rfl, .inl ⟨rfl, _, SqL.of eu⟩, _, rfl, kl, _, _, rfl, rfl, eu, hlu, h2 c'⟩
        · have c' : (((dd (as.take i)).map At.d).any fun z => PyData.eqv z at_.d) = true := by
            cases hb : (((dd (as.take i)).map At.d).any fun z => PyData.eqv z at_.d) with
            | true => rfl
            | false => rw [hb] at c; cases c
          exact h1 c'
      · rintro σ H' ⟨⟨o, rfl⟩, h⟩
        have h' : ∃ us, H' kl = some (.lst us) ∧ DpAll K H' us ((dd (as.take as.length)).map At.d) ∧ Md [kl] H2 H' := by rw [← lv]; exact h
        obtain ⟨us, eu, au, m⟩ := id h'
        exact ⟨_, rfl, _, rfl, _, _, _, _, rfl, m.out _ _ hx2 (by simp; exact Ne.symm nkx), T.o_Conditions.cl, T.n_Conditions_kept_atoms, (by show 0 < 1000; decide), fin H' h'⟩
    · refine .inr ⟨_, rfl, a, rfl, ⟨_, Same.seqT s12 ha⟩, for_tup (K := K) (a := a) (xs := vs) (fun i σ H' => (∃ o, σ = [some (.ref x), some (.ref a), some (.ref kl), o]) ∧ ∃ us, H' kl = some (.lst us) ∧ DpAll K H' us ((dd (as.take i)).map At.d) ∧ Md [kl] H2 H') start (fun i σ H' _ h => ?_) ?_ ?_⟩
      · obtain ⟨_, us, _, _, m⟩ := h
        exact m.sqT (Same.seqT s12 ha)
      · rintro i xv σ H' hg h
        obtain ⟨at_, us, hdp, hao, eu, hlu, au, h1, h2⟩ := body i xv σ H' _ hg h (fun _ _ z => z)
        obtain ⟨⟨o, rfl⟩, _⟩ := h
        refine ⟨_, rfl, xv, .d at_.d, rfl, hdp, _, rfl, ?_⟩
        rw [show isAtomT (.d at_.d) = true from At.isAtom hao]
        refine iteF ?_
        refine ⟨_, rfl, _, rfl, at_.d, _, hdp, .lst (SqL.of eu) au, (At.pd at_).shaped, (pds_at _).shaped, _, rfl, ie (fun c => ?_) (fun c => ?_)⟩
        · have c' : (((dd (as.take i)).map At.d).any fun z => PyData.eqv z at_.d) = false := by
            cases hb : (((dd (as.take i)).map At.d).any fun z => PyData.eqv z at_.d) with
            | false => rfl
            | true => rw [hb] at c; cases c
          exact ⟨_, rfl, .inl ⟨rfl, _, SqL.of eu⟩, _, rfl, kl, _, _, rfl, rfl, eu, hlu, h2 c'⟩
        · have c' : (((dd (as.take i)).map At.d).any fun z => PyData.eqv z at_.d) = true := by
            cases hb : (((dd (as.take i)).map At.d).any fun z => PyData.eqv z at_.d) with
            | true => rfl
            | false => rw [hb] at c; cases c
          exact h1 c'
      · rintro σ H' ⟨⟨o, rfl⟩, h⟩
        have h' : ∃ us, H' kl = some (.lst us) ∧ DpAll K H' us ((dd (as.take as.length)).map At.d) ∧ Md [kl] H2 H' := by rw [← lv]; exact h
        obtain ⟨us, eu, au, m⟩ := id h'
        exact ⟨_, rfl, _, rfl, _, _, _, _, rfl, m.out _ _ hx2 (by simp; exact Ne.symm nkx), T.o_Conditions.cl, T.n_Conditions_kept_atoms, (by show 0 < 1000; decide), fin H' h'⟩

end
end K05
namespace K05
open PySem PySem.Spec PyProof.Rows L2 He TL EL
section
variable {P : Program} {w : World} {K : PySem.W.Frag} {mg : Str → Option Value} {base : Heap}
/-! Conditions.hold -/
structure CdAt (K : PySem.W.Frag) (H : Hp) (x dx l : Addr) (as : List At) : Prop where
  hx : H x = some (.ins (aCd K) dx (cdF l))
  hl : ∃ vs, H l = some (.lst vs) ∧ DpAll K H vs (as.map At.d)
  ok : ∀ a ∈ as, At.ok a
theorem CdAt.md {H H' : Hp} {x dx l : Addr} {as : List At} {S : List Addr} (C : CdAt K H x dx l as) (m : Md S H H') (h1 : x ∉ S) (h2 : l ∉ S) : CdAt K H' x dx l as := by
  obtain ⟨hx, ⟨vs, e, a⟩, ok⟩ := C
  exact ⟨m.out _ _ hx h1, ⟨vs, m.out _ _ e h2, m.dpAll (pds_at as).nl a⟩, ok⟩
theorem CdAt.same {H H' : Hp} {x dx l : Addr} {as : List At} (C : CdAt K H x dx l as) (s : Same H H') : CdAt K H' x dx l as := C.md (S := []) (.of s) (by simp) (by simp)
def optD : Option (Int × Int) → PyData
  | some x => valD x
  | none => .none
def prD (r : Pl → Row) (a : At) : PyData := .tuple [.str a.s.s, optD (a.l.at r), optD (a.r.at r)]
theorem at_vl {r : Pl → Row} (hr : ∀ p, rowOk (r p)) {t : Tm} (h : t.ok) {x : Int × Int} (e : t.at r = some x) : Vl x := by
  cases t with
  | val a b =>
    have e' : some (a, b) = some x := e
    cases e'
    exact h
  | cell p c =>
    have e' : (r p).bind (fun l => l[c]?) = some x := e
    cases hp : r p with
    | none => rw [hp] at e'; cases e'
    | some l =>
      rw [hp] at e'
      exact (hr p l hp).2 x (List.mem_of_getElem? e')
theorem hold_none {r : Pl → Row} {as : List At} {a : At} (h : a ∈ as) (e : a.at r = none) : holdO r as = none := by
  unfold holdO
  rw [if_pos (List.any_eq_true.mpr ⟨a, h, by rw [e]; rfl⟩)]
theorem hold_some {r : Pl → Row} {as : List At} (h : ∀ a ∈ as, ∃ b, a.at r = some b) : holdO r as = some (as.all fun a => decide (a.at r = some true)) := by
  unfold holdO
  rw [if_neg]
  intro z
  obtain ⟨a, ha, e⟩ := List.any_eq_true.mp z
  obtain ⟨b, hb⟩ := h a ha
  rw [hb] at e
  cases e
theorem at_nl {r : Pl → Row} {a : At} (h : a.l.at r = none) : a.at r = none := by unfold At.at; rw [h]
theorem at_nr {r : Pl → Row} {a : At} (h : a.r.at r = none) : a.at r = none := by unfold At.at; rw [h]; cases a.l.at r <;> rfl
theorem at_ss {r : Pl → Row} {a : At} {x y : Int × Int} (h1 : a.l.at r = some x) (h2 : a.r.at r = some y) : a.at r = some (a.s.holds x y) := by unfold At.at; rw [h1, h2]
theorem at_sm {r : Pl → Row} {a : At} {b : Bool} (h : a.at r = some b) : ∃ x y, a.l.at r = some x ∧ a.r.at r = some y ∧ b = a.s.holds x y := by
  unfold At.at at h
  cases h1 : a.l.at r with
  | none => rw [h1] at h; cases h
  | some x =>
    cases h2 : a.r.at r with
    | none => rw [h1, h2] at h; cases h
    | some y => rw [h1, h2] at h; exact ⟨x, y, rfl, rfl, (Option.some.inj h).symm⟩
theorem prD_pd (r : Pl → Row) (a : At) : Pd (prD r a) := by
  have h : ∀ o, Pd (optD o) ∧ (optD o).depth ≤ 1 := fun o => by
    cases o with
    | none => exact ⟨⟨rfl, rfl, by decide⟩, by decide⟩
    | some x => exact ⟨Pd.valD x, by show 1 ≤ 1; decide⟩
  obtain ⟨h1, e1⟩ := h (a.l.at r)
  obtain ⟨h2, e2⟩ := h (a.r.at r)
  refine ⟨?_, ?_, ?_⟩
  · show (true && (noL (optD (a.l.at r)) && (noL (optD (a.r.at r)) && true))) = true
    rw [h1.nl, h2.nl]; rfl
  · show (PyData.strOk a.s.s && ((optD (a.l.at r)).canLay0 && ((optD (a.r.at r)).canLay0 && true))) = true
    rw [h1.cl, h2.cl, show PyData.strOk a.s.s = true by cases a.s <;> decide +kernel]; rfl
  · show max 0 (max (optD (a.l.at r)).depth (max (optD (a.r.at r)).depth 0)) + 1 ≤ 16
    omega
theorem at_tup {H : Hp} {v : V} {a : At} (h : Dp K H v a.d) : ∃ t v1 v2, v = .ref t ∧ SqT K H t [.str a.s.s, v1, v2] ∧ Dp K H v1 a.l.d ∧ Dp K H v2 a.r.d := by
  cases h with
  | tup hS hA =>
    cases hA with
    | cons h1 hA =>
      cases hA with
      | cons h2 hA =>
        cases hA with
        | cons h3 hA =>
          cases hA
          cases h1
          exact ⟨_, _, _, rfl, hS, h2, h3⟩
theorem pr_tup {H : Hp} {v : V} {r : Pl → Row} {a : At} (h : Dp K H v (prD r a)) : ∃ t v1 v2, v = .ref t ∧ SqT K H t [.str a.s.s, v1, v2] ∧ Dp K H v1 (optD (a.l.at r)) ∧ Dp K H v2 (optD (a.r.at r)) := by
  cases h with
  | tup hS hA =>
    cases hA with
    | cons h1 hA =>
      cases hA with
      | cons h2 hA =>
        cases hA with
        | cons h3 hA =>
          cases hA
          cases h1
          exact ⟨_, _, _, rfl, hS, h2, h3⟩
theorem getM {α β : Type} {f : α → β} {l : List α} {i : Nat} {d : β} (h : (l.map f)[i]? = some d) : ∃ a, l[i]? = some a ∧ f a = d := by
  rw [List.getElem?_map] at h
  cases e : l[i]? with
  | none => rw [e] at h; cases h
  | some a => rw [e] at h; exact ⟨a, rfl, Option.some.inj h⟩
theorem tk1 {α : Type} {l : List α} {i : Nat} {a : α} (h : l[i]? = some a) : l.take (i + 1) = l.take i ++ [a] := by
  rw [List.take_add_one, h]
  rfl
theorem merge_rows (v : Pl → V) : mergeK [] [((.inr "old" : Key), v .old), (.inr "first", v .first), (.inr "second", v .second)] = rowsK v := by
  show putK (putK (putK [] (Sum.inr "old" : Key) (v .old)) (Sum.inr "first" : Key) (v .first)) (Sum.inr "second" : Key) (v .second) = _
  have e1 : putK ([] : List (Key × V)) (.inr "old") (v .old) = [(.inr "old", v .old)] := putK_new _ rfl
  have e2 : putK [((.inr "old" : Key), v .old)] (.inr "first") (v .first) = [(.inr "old", v .old), (.inr "first", v .first)] := putK_new _ (valV_neg (by intro z; exact absurd (Sum.inr.inj z) (by decide +kernel)))
  have e3 : putK [((.inr "old" : Key), v .old), (.inr "first", v .first)] (.inr "second") (v .second) = rowsK v := putK_new _ ((valV_neg (by intro z; exact absurd (Sum.inr.inj z) (by decide +kernel))).trans (valV_neg (by intro z; exact absurd (Sum.inr.inj z) (by decide +kernel))))
  rw [e1, e2, e3]
def spHold (K : PySem.W.Frag) : Sp := fun vs H Q E => ∃ x dx l as v r, vs = [.ref x, v Pl.old, v Pl.first, v Pl.second] ∧ CdAt K H x dx l as ∧ as.length ≤ 1000 ∧ Rows3 K H v r ∧ (∀ p, rowOk (r p)) ∧
  (holdO r as = none → ∀ H', Same H H' → E (.ref (ga K "NoCell")) none H') ∧ (∀ b, holdO r as = some b → ∀ H', Same H H' → Q (.bl b) H')
theorem d_hold (T : Txt K mg) : FnR P w K mg base (L2.CX P w) 3 (ma K (ga K "Conditions") "hold") (spHold K) := by
  obtain ⟨fd, F⟩ := T.f_Conditions_hold
  have D_value_at := d_value_at (P := P) (w := w) (base := base) T
  have D_stands := d_stands (P := P) (w := w) (base := base) T
  refine fnN F (fun _ _ _ _ _ _ us hl => match us, hl with | [_, _, _, _], _ => rfl) sc_Conditions_hold (fun vs H Q E h => ?_) (fun cdv A outer s H vs Q E hr h => ?_)
  · obtain ⟨x, dx, l, as, v, r, rfl, _⟩ := h
    rfl
  · obtain ⟨x, dx, l, as, v, r, rfl, C, hlen, hR, hok, hE, hQ⟩ := h
    refine ⟨_, (pss_cons (ps_set (i := 4) sc_Conditions_hold.nd rfl (.inr rfl) (pe_disp (pps_cons pe_str (pv 1) (pps_cons pe_str (pv 2) (pps_cons pe_str (pv 3) pps_nil))) rfl rfl (by simp) (by decide)))
      (pss_cons (ps_setLcX (i := 5) (own := [("sign", 6), ("left", 7), ("right", 8)]) (g := gTup K 3 (gCons (gName 6) (gCons (gName 7) (gCons (gName 8) gNil)))) (tt := tYes) (takes_of rfl rfl rfl rfl) (by rfl) (by rfl) (by rfl) sc_Conditions_hold.nd rfl rfl (sw_true rfl rfl rfl (by decide +kernel)) (pi_list (pe_fld (pv 0) rfl)) (blkOk_by (own := [("sign", 6), ("left", 7), ("right", 8)]) (N := ["self", "old", "first", "second", "rows", "pairs", "sign", "left", "right"]) (sc := defScope s_Conditions_hold) (by decide +kernel)) (fun _ _ _ _ _ => (pg_tup rfl (pgs_cons (pg_name (i := 6) sc_Conditions_hold.nd rfl (.inl rfl) (.inr rfl)) (pgs_cons (pg_name (i := 7) sc_Conditions_hold.nd rfl (.inl rfl) (.inr rfl)) (pgs_cons (pg_name (i := 8) sc_Conditions_hold.nd rfl (.inl rfl) (.inr rfl)) pgs_nil))))) (fun _ _ _ _ _ => pts_nil) (fun _ _ _ _ _ _ _ hx => (pe_tup (pa_cons (pv 6) (pa_cons (clP hx D_value_at (hr.mono (by decide)) (pa_cons (pv 7) (pa_cons (pv 4) pa_nil))) (pa_cons (clP hx D_value_at (hr.mono (by decide)) (pa_cons (pv 8) (pa_cons (pv 4) pa_nil))) pa_nil))))))
      (pss_cons (ps_for (passes_of rfl) rfl (pi_list (pv 5)) (pg_tup rfl (pgs_cons (pg_name (i := 6) sc_Conditions_hold.nd rfl (.inl rfl)) (pgs_cons (pg_name (i := 7) sc_Conditions_hold.nd rfl (.inl rfl)) (pgs_cons (pg_name (i := 8) sc_Conditions_hold.nd rfl (.inl rfl)) pgs_nil))))
      (pss_one (ps_if (pt_not (pt_val (cl D_stands (hr.mono (by decide)) (pa_cons (pv 6) (pa_cons (pv 7) (pa_cons (pv 8) pa_nil)))))) (pss_one (ps_ret pe_bl)) pss_nil)))
      (pss_one (ps_ret pe_bl))))), ?_⟩
    intro rd nrd
    refine ⟨_, rfl, _, rfl, _, rfl, upd_same, [(.inr "old", v .old), (.inr "first", v .first), (.inr "second", v .second)], rfl, (by show 3 ≤ 15; decide), ?_⟩
    rw [upd_upd]
    rw [merge_rows]
    generalize eH1 : upd H rd _ = H1
    have s1 : Same H H1 := eH1 ▸ same_upd nrd
    have e1 : H1 rd = some _ := eH1 ▸ upd_same
    have C1 := C.same s1
    have hR1 := hR.same s1
    obtain ⟨vs, el, al⟩ := C1.hl
    have lv : vs.length = as.length := by rw [DpAll.length al, List.length_map]
    refine ⟨_, rfl, _, _, _, _, _, rfl, C1.hx, T.o_Conditions.cl, T.n_Conditions_kept_atoms, cdF_at, l, rfl, ⟨_, SqL.of el⟩, fun D nD => ?_⟩
    have nDl : D ≠ l := fun z => by rw [z, el] at nD; cases nD
    have nDr : D ≠ rd := fun z => by rw [z, e1] at nD; cases nD
    have sD : Same H1 (upd H1 D (.lst [])) := same_upd nD
    refine lcX_it (walk_list (xs := vs)) (fun i H' => (∀ a ∈ as.take i, ∃ b, a.at r = some b) ∧ ∃ us, H' D = some (.lst us) ∧ DpAll K H' us ((as.take i).map (prD r)) ∧ Md [D] (upd H1 D (.lst [])) H') ⟨fun a ha => (by cases ha), [], upd_same, .nil, .refl _ _⟩ (fun i H' _ h => ?_) ?_ ?_
    · obtain ⟨_, us, _, _, m⟩ := h
      exact SqL.of (m.out _ _ (sD _ _ el) (by simp; exact Ne.symm nDl))
    · rintro i xv H' H'' hi ⟨hg, us, eu, au, m⟩ ⟨rfl, hx⟩
      obtain ⟨d, hd, hdp⟩ := DpAll.get al hx
      obtain ⟨a, ha, rfl⟩ := getM hd
      have hdp' := m.dp (At.pd a).nl (Dp.same sD hdp)
      obtain ⟨t, v1, v2, rfl, ht, h1, h2⟩ := at_tup hdp'
      have rd' := m.out _ _ (sD _ _ e1) (by simp; exact Ne.symm nDr)
      have hR' : Rows3 K H'' v r := fun p => m.dp (rowD_pd (r p)).nl (Dp.same sD (hR1 p))
      have hao := C.ok a (List.mem_of_getElem? ha)
      have sH : Same H H'' := s1.trans (Md.newM (S := []) m (Md.of sD) nD).same
      have mem := List.mem_of_getElem? ha
      have hlu : us.length < sizeLine := by
        rw [DpAll.length au, List.length_map, List.length_take]
        exact Nat.lt_of_le_of_lt (Nat.le_trans (Nat.min_le_right _ _) hlen) (by decide)
      refine ⟨t, _, rfl, ht, rfl, _, _, rfl, _, _, rfl, _, _, rfl, rfl, rfl, tYes_of ?_⟩
      refine ⟨_, rfl, _, rfl, _, rfl, v1, rd, a.l, v, r, rfl, h1, rd', hR', fun z => hE (hold_none mem (at_nl z)) H'' sH, fun p1 y1 z1 d1 => ?_⟩
      refine ⟨_, rfl, _, rfl, v2, rd, a.r, v, r, rfl, h2, rd', hR', fun z => hE (hold_none mem (at_nr z)) H'' sH, fun p2 y2 z2 d2 => ?_⟩
      refine ⟨(by show 3 ≤ sizeLine; decide), fun q nq => ?_⟩
      generalize eH3 : upd H'' q _ = H3
      have s3 : Same H'' H3 := eH3 ▸ same_upd nq
      have e3 : H3 q = some _ := eH3 ▸ upd_same
      refine ⟨us, s3 _ _ eu, hlu, ?_⟩
      have mu : Md [D] H3 (upd H3 D (.lst (us ++ [.ref q]))) := Md.upd (s3 _ _ eu) rfl (by simp)
      refine ⟨fun b hb => ?_, _, upd_same, ?_, m.trans ((Md.of s3).trans mu)⟩
      · rw [tk1 ha] at hb
        rcases List.mem_append.mp hb with hb | hb
        · exact hg b hb
        · cases List.mem_singleton.mp hb
          exact ⟨_, at_ss z1 z2⟩
      · rw [tk1 ha, List.map_append]
        refine DpAll.snoc (mu.dp (prD_pd r a).nl (.tup (SqT.of e3) (.cons (.str _) (.cons ?_ (.cons ?_ .nil))))) (mu.dpAll (Pds.nl (fun d hd => ?_)) (DpAll.same s3 au))
        · rw [z1]; exact Dp.same s3 d1
        · rw [z2]; exact Dp.same s3 d2
        · obtain ⟨b, _, rfl⟩ := List.mem_map.mp hd
          exact prD_pd r b
    · rintro H' ⟨hg, us, eu, au, m⟩
      rw [lv] at hg au
      rw [List.take_length] at hg au
      have sH : Same H H' := s1.trans (Md.newM (S := []) m (Md.of sD) nD).same
      have ho := hold_some hg
      have lu : us.length = as.length := by rw [DpAll.length au, List.length_map]
      refine ⟨_, rfl, D, rfl, ⟨_, SqL.of eu⟩, for_list (K := K) (a := D) (xs := us) (fun i σ H2 => H' = H2 ∧ (∃ o1 o2 o3, σ = [some (.ref x), some (v .old), some (v .first), some (v .second), some (.ref rd), some (.ref D), o1, o2, o3]) ∧ ∀ a ∈ as.take i, a.at r = some true) ⟨rfl, ⟨none, none, none, rfl⟩, fun a ha => by cases ha⟩ (fun i σ H2 _ h => by rw [← h.1]; exact SqL.of eu) ?_ ?_⟩
      · rintro i xv σ H2 hgx ⟨rfl, ⟨o1, o2, o3, rfl⟩, hall⟩
        obtain ⟨d, hd, hdp⟩ := DpAll.get au hgx
        obtain ⟨a, ha, rfl⟩ := getM hd
        obtain ⟨t, y1, y2, rfl, ht, h1, h2⟩ := pr_tup hdp
        have mem := List.mem_of_getElem? ha
        obtain ⟨b, hb⟩ := hg a mem
        obtain ⟨p1, p2, z1, z2, eb⟩ := at_sm hb
        rw [z1] at h1
        rw [z2] at h2
        have hao := C.ok a mem
        refine ⟨t, _, rfl, ht, rfl, _, _, rfl, _, _, rfl, _, _, rfl, rfl, ?_⟩
        refine ⟨_, rfl, _, rfl, _, rfl, a.s, y1, y2, p1, p2, rfl, h1, h2, at_vl hok hao.1 z1, at_vl hok hao.2 z2, _, rfl, ?_⟩
        rw [← eb]
        cases b with
        | true =>
          refine iteF ?_
          refine ⟨rfl, ⟨_, _, _, rfl⟩, fun c hc => ?_⟩
          rw [tk1 ha] at hc
          rcases List.mem_append.mp hc with hc | hc
          · exact hall c hc
          · cases List.mem_singleton.mp hc
            exact hb
        | false =>
          refine iteT ?_
          refine hQ false ?_ H' sH
          rw [ho]
          congr 1
          rw [Bool.eq_false_iff]
          intro z
          have := of_decide_eq_true (List.all_eq_true.mp z a mem)
          rw [hb] at this
          cases this
      · rintro σ H2 ⟨rfl, ⟨o1, o2, o3, rfl⟩, hall⟩
        refine hQ true ?_ H' sH
        rw [lu, List.take_length] at hall
        rw [ho]
        congr 1
        exact List.all_eq_true.mpr fun a ha => decide_eq_true (hall a ha)

end
end K05
namespace K05
open PySem PySem.Spec PyProof.Rows L2 He TL EL
section
variable {P : Program} {w : World} {K : PySem.W.Frag} {mg : Str → Option Value} {base : Heap}
/-! making Conditions -/
theorem mkCd {H : Hp} {a : Addr} {vs : List V} {as : List At} {Q : Addr → Hp → Prop} {E : XK} (ha : SqL K H a vs ∨ SqT K H a vs) (hA : DpAll K H vs (as.map At.d)) (hok : ∀ a ∈ as, At.ok a) (hl : as.length ≤ 1000)
    (hQ : ∀ z dz n H', Same H H' → H z = none → H n = none → z ≠ n → CdAt K H' z dz n (dd as) → Q z H') :
    ∀ x dx, H x = none → H dx = none → dx ≠ x → spCd K [.ref x, .ref a] (upd (upd H dx (.own x)) x (.ins (aCd K) dx [])) (fun v H2 => v = .non ∧ Q x H2) E := by
  intro x dx nx ndx hne
  generalize eH1 : upd (upd H dx _) x _ = H1
  have s1 : Same H H1 := eH1 ▸ (same_upd ndx).trans (same_upd (by rw [upd_ne (Ne.symm hne)]; exact nx))
  have x1 : H1 x = some (.ins (aCd K) dx []) := eH1 ▸ upd_same
  refine ⟨x, dx, a, vs, as, rfl, x1, ha.elim (fun z => .inl (s1.seq z)) (fun z => .inr (Same.seqT s1 z)), DpAll.same s1 hA, hok, hl, fun l us H' m nl hx hu hd => ⟨rfl, ?_⟩⟩
  have sH : Same H H' := fun b o hb => m.out _ _ (s1 _ _ hb) (by simp; exact ne_of_none hb nx)
  have nl0 : H l = none := s1.free nl
  have nxl : x ≠ l := fun z => by rw [← z, x1] at nl; cases nl
  exact hQ x dx l H' sH nx nl0 nxl ⟨hx, ⟨us, hu, hd⟩, fun a ha => hok a ((dd_mem as a).mp ha)⟩
theorem d_cd1 (T : Txt K mg) : FnR P w K mg base (L2.CX P w) 5 (ma K (ga K "Conditions") "__init__") (spCd K) := by
  obtain ⟨fd, F, ok⟩ := ok_cd (P := P) (w := w) (base := base) T
  have := fnD F ok 2 1 (by simp) rfl (fun _ _ _ _ _ _ _ us its h1 h2 => match us, its, h1, h2 with | [_, _], [_], _, _ => ⟨_, rfl, rfl⟩)
  exact this.imp fun vs H Q E h => by
    rw [show ([V.ref (dflAt ("Conditions", some "__init__") 0 K)] : List V).drop 1 = [] from rfl, List.append_nil]
    exact h
theorem d_cd0 (T : Txt K mg) : FnR P w K mg base (L2.CX P w) 5 (ma K (ga K "Conditions") "__init__") (fun vs H Q E => spCd K (vs ++ [.ref (dflAt ("Conditions", some "__init__") 0 K)]) H Q E) := by
  obtain ⟨fd, F, ok⟩ := ok_cd (P := P) (w := w) (base := base) T
  exact fnD F ok 1 0 (by simp) rfl (fun _ _ _ _ _ _ _ us its h1 h2 => match us, its, h1, h2 with | [_], [_], _, _ => ⟨_, rfl, rfl⟩)
/-! & and ~ -/
def spAnd (K : PySem.W.Frag) : Sp := fun vs H Q _ => ∃ x dx l as y dy m bs, vs = [.ref x, .ref y] ∧ CdAt K H x dx l as ∧ CdAt K H y dy m bs ∧ as.length ≤ 400 ∧ bs.length ≤ 400 ∧ ∀ z dz n H', Same H H' → H z = none → H n = none → z ≠ n → CdAt K H' z dz n (dd (as ++ bs)) → Q (.ref z) H'
theorem DpAll.app {H : Hp} : ∀ {ds es : List PyData} {vs us : List V}, DpAll K H vs ds → DpAll K H us es → DpAll K H (vs ++ us) (ds ++ es)
  | _, _, _, _, .nil, h => h
  | _, _, _, _, .cons a b, h => .cons a (DpAll.app b h)
theorem d_and (T : Txt K mg) : FnR P w K mg base CX0 7 (ma K (ga K "Conditions") "__and__") (spAnd K) := by
  obtain ⟨fd, F⟩ := T.f_Conditions___and__
  have D_cd := d_cd1 (P := P) (w := w) (base := base) T
  refine fnN F (fun _ _ _ _ _ _ us hl => match us, hl with | [_, _], _ => rfl) sc_Conditions___and__ (fun vs H Q E h => ?_) (fun cdv A outer s H vs Q E hr h => ?_)
  · obtain ⟨x, dx, l, as, y, dy, m, bs, rfl, _⟩ := h
    rfl
  · obtain ⟨x, dx, l, as, y, dy, m, bs, rfl, C, D, h1, h2, hQ⟩ := h
    refine ⟨_, PSs.nox (pss_cons (ps_if (pt_not (pt_val (pe_callB call_isi (by rfl) T.z_isinstance (by decide +kernel) (pa_cons (pv 1) (pa_cons (pe_glob (v := .ref (ga K "Conditions")) (by rfl) T.g_Conditions rfl) pa_nil))))) (pss_one ps_never) pss_nil)
      (pss_one (ps_ret (pe_makeE T.m_Conditions D_cd hr T.g_Conditions pxq (pa_cons (pe_op op_cat (pe_fld (pv 0) rfl) (pe_fld (pv 1) rfl)) pa_nil))))), ?_⟩
    obtain ⟨v1, e1, a1⟩ := C.hl
    obtain ⟨v2, e2, a2⟩ := D.hl
    have l1 : v1.length = as.length := by rw [DpAll.length a1, List.length_map]
    have l2 : v2.length = bs.length := by rw [DpAll.length a2, List.length_map]
    refine ⟨_, rfl, _, _, _, _, _, rfl, .own _, T.o_Conditions.ty D.hx, T.o_Conditions.self, _, rfl, iteF ?_⟩
    refine ⟨_, rfl, _, _, _, _, _, rfl, C.hx, T.o_Conditions.cl, T.n_Conditions_kept_atoms, cdF_at, _, rfl, _, _, _, _, _, rfl, D.hx, T.o_Conditions.cl, T.n_Conditions_kept_atoms, cdF_at, l, m, _, _, rfl, rfl, e1, e2, (by rw [l1, l2]; exact Nat.le_trans (Nat.add_le_add h1 h2) (by decide)), fun p np => ?_⟩
    generalize eH1 : upd H p _ = H1
    have s1 : Same H H1 := eH1 ▸ same_upd np
    have e3 : H1 p = some _ := eH1 ▸ upd_same
    refine mkCd (Q := fun z H' => Q (.ref z) H') (as := as ++ bs) (.inl (SqL.of e3)) ?_ ?_ (by rw [List.length_append]; omega) fun z dz n H' sH nz nn hzn CD => ?_
    · rw [List.map_append]
      exact DpAll.app (DpAll.same s1 a1) (DpAll.same s1 a2)
    · exact fun a ha => (List.mem_append.mp ha).elim (C.ok a) (D.ok a)
    · exact hQ z dz n H' (s1.trans sH) (s1.free nz) (s1.free nn) hzn CD
def At.neg (a : At) : At := match a.s with
  | .lt => ⟨.le, a.r, a.l⟩
  | .le => ⟨.lt, a.r, a.l⟩
  | .eq => ⟨.ne, a.l, a.r⟩
  | .ne => ⟨.eq, a.l, a.r⟩
def spInv (K : PySem.W.Frag) : Sp := fun vs H Q _ => ∃ x dx l a, vs = [.ref x] ∧ CdAt K H x dx l [a] ∧ ∀ z dz n H', Same H H' → H z = none → H n = none → z ≠ n → CdAt K H' z dz n [At.neg a] → Q (.ref z) H'
abbrev NegD (K : PySem.W.Frag) (w : World) : Prop := ∃ es n, KDict K w (ga K "NEGATED") es n
theorem d_inv (hN : NegD K w) (T : Txt K mg) : FnR P w K mg base CX0 7 (ma K (ga K "Conditions") "__invert__") (spInv K) := by
  obtain ⟨fd, F⟩ := T.f_Conditions___invert__
  have D_cd := d_cd1 (P := P) (w := w) (base := base) T
  refine fnN F (fun _ _ _ _ _ _ us hl => match us, hl with | [_], _ => rfl) sc_Conditions___invert__ (fun vs H Q E h => ?_) (fun cdv A outer s H vs Q E hr h => ?_)
  · obtain ⟨x, dx, l, a, rfl, _⟩ := h
    rfl
  · obtain ⟨x, dx, l, a, rfl, C, hQ⟩ := h
    refine ⟨_, PSs.nox (pss_cons (ps_if (pt_cmpR op_ne (pe_callB call_len_seq (by rfl) T.z_len (by decide +kernel) (pa_cons (pe_fld (pv 0) rfl) pa_nil)) pe_int (nomark _)) (pss_one (ps_never)) pss_nil)
      (pss_cons (ps_asg (pe_ix ix_list (pe_fld (pv 0) rfl) pe_int (fun _ _ => rfl)) (pg_tup rfl (pgs_cons (pg_name (i := 1) sc_Conditions___invert__.nd rfl (.inl rfl)) (pgs_cons (pg_name (i := 2) sc_Conditions___invert__.nd rfl (.inl rfl)) (pgs_cons (pg_name (i := 3) sc_Conditions___invert__.nd rfl (.inl rfl)) pgs_nil)))))
      (pss_cons (ps_if (pt_cmpR op_in_seq (pv 1) (pe_tup (pa_cons pe_str (pa_cons pe_str pa_nil))) (by rfl)) (pss_one (ps_ret (pe_makeE T.m_Conditions D_cd hr T.g_Conditions pxq (pa_cons (pe_lst (pa_cons (pe_tup (pa_cons (pe_ix ix_kdict (pe_glob (v := .ref (ga K "NEGATED")) (by rfl) T.g_NEGATED rfl) (pv 1) (fun _ _ => rfl)) (pa_cons (pv 3) (pa_cons (pv 2) pa_nil)))) pa_nil)) pa_nil)))) pss_nil)
      (pss_one (ps_ret (pe_makeE T.m_Conditions D_cd hr T.g_Conditions pxq (pa_cons (pe_lst (pa_cons (pe_tup (pa_cons (pe_ix ix_kdict (pe_glob (v := .ref (ga K "NEGATED")) (by rfl) T.g_NEGATED rfl) (pv 1) (fun _ _ => rfl)) (pa_cons (pv 2) (pa_cons (pv 3) pa_nil)))) pa_nil)) pa_nil))))))), ?_⟩
    obtain ⟨v1, e1, a1⟩ := C.hl
    have lv : v1.length = 1 := by rw [DpAll.length a1]; rfl
    refine ⟨_, rfl, _, _, _, _, _, rfl, C.hx, T.o_Conditions.cl, T.n_Conditions_kept_atoms, cdF_at, _, _, rfl, .inl (SqL.of e1), rfl, _, rfl, ?_⟩
    refine if_neg_of (by show (!decide (V.int (v1.length : Nat) = V.int 1)) = false; rw [lv]; rfl) ?_
    match v1, lv, e1, a1 with
    | [xv], _, e1, .cons hd .nil =>
    obtain ⟨t, y1, y2, rfl, ht, h1, h2⟩ := at_tup hd
    refine ⟨_, rfl, _, _, _, _, _, rfl, C.hx, T.o_Conditions.cl, T.n_Conditions_kept_atoms, cdF_at, _, _, 0, _, rfl, rfl, SqL.of e1, atI_nat (j := 0) rfl, t, _, rfl, ht, rfl, _, _, rfl, _, _, rfl, _, _, rfl, rfl, ?_⟩
    refine ⟨_, rfl, (by show 2 ≤ sizeLine; decide), fun tp ntp => ?_⟩
    generalize eH1 : upd H tp _ = H1
    have s1 : Same H H1 := eH1 ▸ same_upd ntp
    have etp : H1 tp = some _ := eH1 ▸ upd_same
    have hao := C.ok a (by simp)
    have fin : ∀ (q p : Addr) (H2 H3 : Hp) (b : At), Same H1 H2 → Same H2 H3 → Dp K H2 (.ref q) b.d → At.ok b → b = a.neg → H3 p = some (.lst [.ref q]) → ∀ x dx, H3 x = none → H3 dx = none → dx ≠ x → spCd K [.ref x, .ref p] (upd (upd H3 dx (.own x)) x (.ins (aCd K) dx [])) (fun v H2 => v = .non ∧ Q (.ref x) H2) E0 := fun q p H2 H3 b s2 s3 hq hb e ep => by
      refine mkCd (Q := fun z H' => Q (.ref z) H') (as := [b]) (.inl (SqL.of ep)) (.cons (Dp.same s3 hq) .nil) (fun z hz => by cases List.mem_singleton.mp hz; exact hb) (by show 1 ≤ 1000; decide) fun z dz n H' sH nz nn hzn CD => ?_
      have s0 : Same H H3 := s1.trans (s2.trans s3)
      subst e
      exact hQ z dz n H' (s0.trans sH) (s0.free nz) (s0.free nn) hzn CD
    obtain ⟨g, tl_, tr⟩ := a
    cases g with
    | lt =>
      refine ⟨_, _, rfl, .inr (SqT.of etp), rfl, rfl, _, rfl, if_pos_of (by show inV (V.str "<") [V.str "<", V.str "<="] = true; decide +kernel) ?_⟩
      refine ⟨_, rfl, _, _, _, rfl, rfl, kdct hN T.v_NEGATED_0, _, rfl, _, rfl, (by show 3 ≤ sizeLine; decide), fun q nq => ?_⟩
      generalize eH2 : upd H1 q _ = H2
      have s2 : Same H1 H2 := eH2 ▸ same_upd nq
      have eq2 : H2 q = some _ := eH2 ▸ upd_same
      refine ⟨(by show 1 ≤ sizeLine; decide), fun p np => ?_⟩
      generalize eH3 : upd H2 p _ = H3
      have s3 : Same H2 H3 := eH3 ▸ same_upd np
      have ep : H3 p = some _ := eH3 ▸ upd_same
      have s02 := s1.trans s2
      exact fin q p H2 H3 ⟨.le, tr, tl_⟩ s2 s3 (.tup (SqT.of eq2) (.cons (.str _) (.cons (Dp.same s02 h2) (.cons (Dp.same s02 h1) .nil)))) ⟨hao.2, hao.1⟩ rfl ep
    | le =>
      refine ⟨_, _, rfl, .inr (SqT.of etp), rfl, rfl, _, rfl, if_pos_of (by show inV (V.str "<=") [V.str "<", V.str "<="] = true; decide +kernel) ?_⟩
      refine ⟨_, rfl, _, _, _, rfl, rfl, kdct hN T.v_NEGATED_1, _, rfl, _, rfl, (by show 3 ≤ sizeLine; decide), fun q nq => ?_⟩
      generalize eH2 : upd H1 q _ = H2
      have s2 : Same H1 H2 := eH2 ▸ same_upd nq
      have eq2 : H2 q = some _ := eH2 ▸ upd_same
      refine ⟨(by show 1 ≤ sizeLine; decide), fun p np => ?_⟩
      generalize eH3 : upd H2 p _ = H3
      have s3 : Same H2 H3 := eH3 ▸ same_upd np
      have ep : H3 p = some _ := eH3 ▸ upd_same
      have s02 := s1.trans s2
      exact fin q p H2 H3 ⟨.lt, tr, tl_⟩ s2 s3 (.tup (SqT.of eq2) (.cons (.str _) (.cons (Dp.same s02 h2) (.cons (Dp.same s02 h1) .nil)))) ⟨hao.2, hao.1⟩ rfl ep
    | eq =>
      refine ⟨_, _, rfl, .inr (SqT.of etp), rfl, rfl, _, rfl, if_neg_of (by show inV (V.str "=") [V.str "<", V.str "<="] = false; decide +kernel) ?_⟩
      refine ⟨_, rfl, _, _, _, rfl, rfl, kdct hN T.v_NEGATED_2, _, rfl, _, rfl, (by show 3 ≤ sizeLine; decide), fun q nq => ?_⟩
      generalize eH2 : upd H1 q _ = H2
      have s2 : Same H1 H2 := eH2 ▸ same_upd nq
      have eq2 : H2 q = some _ := eH2 ▸ upd_same
      refine ⟨(by show 1 ≤ sizeLine; decide), fun p np => ?_⟩
      generalize eH3 : upd H2 p _ = H3
      have s3 : Same H2 H3 := eH3 ▸ same_upd np
      have ep : H3 p = some _ := eH3 ▸ upd_same
      have s02 := s1.trans s2
      exact fin q p H2 H3 ⟨.ne, tl_, tr⟩ s2 s3 (.tup (SqT.of eq2) (.cons (.str _) (.cons (Dp.same s02 h1) (.cons (Dp.same s02 h2) .nil)))) ⟨hao.1, hao.2⟩ rfl ep
    | ne =>
      refine ⟨_, _, rfl, .inr (SqT.of etp), rfl, rfl, _, rfl, if_neg_of (by show inV (V.str "!=") [V.str "<", V.str "<="] = false; decide +kernel) ?_⟩
      refine ⟨_, rfl, _, _, _, rfl, rfl, kdct hN T.v_NEGATED_3, _, rfl, _, rfl, (by show 3 ≤ sizeLine; decide), fun q nq => ?_⟩
      generalize eH2 : upd H1 q _ = H2
      have s2 : Same H1 H2 := eH2 ▸ same_upd nq
      have eq2 : H2 q = some _ := eH2 ▸ upd_same
      refine ⟨(by show 1 ≤ sizeLine; decide), fun p np => ?_⟩
      generalize eH3 : upd H2 p _ = H3
      have s3 : Same H2 H3 := eH3 ▸ same_upd np
      have ep : H3 p = some _ := eH3 ▸ upd_same
      have s02 := s1.trans s2
      exact fin q p H2 H3 ⟨.eq, tl_, tr⟩ s2 s3 (.tup (SqT.of eq2) (.cons (.str _) (.cons (Dp.same s02 h1) (.cons (Dp.same s02 h2) .nil)))) ⟨hao.1, hao.2⟩ rfl ep

end
end K05
namespace K05
open PySem PySem.Spec PyProof.Rows L2 He TL EL
section
variable {P : Program} {w : World} {K : PySem.W.Frag} {mg : Str → Option Value} {base : Heap}
/-! Maker -/
abbrev aMk (K : PySem.W.Frag) : Addr := ga K "Maker"
def mkF (t : Addr) : List (Str × V) := putF "kept_terms" (.ref t) []
theorem mkF_at {l : Addr} : (mkF l).lookup ("kept_terms" : Str) = some (.ref l) := by
  unfold mkF
  rw [lookup_putF, if_pos rfl]
theorem mkF_no {l : Addr} {m : Str} (h : m ≠ "kept_terms") : (mkF l).lookup m = none := by
  unfold mkF
  rw [lookup_putF, if_neg h]
  rfl
def makeOk : PyData → Bool
  | .list ds => (decide (1 ≤ ds.length) && decide (ds.length ≤ 3)) && ds.all isTermD
  | .tuple ds => (decide (1 ≤ ds.length) && decide (ds.length ≤ 3)) && ds.all isTermD
  | _ => false
def itemsD : PyData → List PyData
  | .list ds => ds
  | .tuple ds => ds
  | _ => []
theorem val_noL {d : PyData} (h : isValD d = true) : noL d = true := by
  unfold isValD at h
  split at h
  · rfl
  · cases h
theorem term_noL {d : PyData} (h : isTermD d = true) : noL d = true := by
  unfold isTermD at h
  split at h
  · rename_i z e
    show (true && (noL e && true)) = true
    have : noL e = true := by
      unfold termD at h
      split at h
      · exact val_noL h
      · cases e <;> first | rfl | (rw [show colD _ = false from rfl, Bool.and_false] at h; cases h)
    rw [this]
    rfl
  · cases h
theorem terms_noL : ∀ {ds : List PyData}, ds.all isTermD = true → noLs ds = true
  | [], _ => rfl
  | d :: r, h => by
    rw [List.all_cons, Bool.and_eq_true] at h
    exact Bool.and_eq_true_iff.mpr ⟨term_noL h.1, terms_noL h.2⟩
def spMk (K : PySem.W.Frag) : Sp := fun args H Q E => ∃ x dx v d, args = [.ref x, v] ∧ H x = some (.ins (aMk K) dx []) ∧ Dp K H v d ∧ (itemsD d).length ≤ 1000 ∧ (makeOk d = false → ∀ H', Same H H' → E (.ref (ga K "NoCell")) none H') ∧
  (makeOk d = true → ∀ t us H', Md [x] H H' → H t = none → H' x = some (.ins (aMk K) dx (mkF t)) → H' t = some (.tup us) → DpAll K H' us (itemsD d) → Q .non H')
theorem d_mk (T : Txt K mg) : FnR P w K mg base (L2.CX P w) 4 (ma K (ga K "Maker") "__init__") (spMk K) := by
  obtain ⟨fd, F⟩ := T.f_Maker___init__
  have D_is_term := d_is_term (P := P) (w := w) (base := base) T
  refine fnN F (fun _ _ _ _ _ _ us hl => match us, hl with | [_, _], _ => rfl) sc_Maker___init__ (fun vs H Q E h => ?_) (fun cdv A outer s H vs Q E hr h => ?_)
  · obtain ⟨x, dx, v, d, rfl, _⟩ := h
    rfl
  · obtain ⟨x, dx, v, d, rfl, hx, hd, hlen, hE, hQ⟩ := h
    refine ⟨_, (pss_cons (ps_if (PW.pt (pw_or (pt_not (pt_val (pe_callB call_isiT (by rfl) T.z_isinstance (by decide +kernel) (pa_cons (pv 1) (pa_cons (pe_tup (pa_cons (pe_bltn (v := .ty "list") (by rfl) T.z_list (by decide +kernel) rfl) (pa_cons (pe_bltn (v := .ty "tuple") (by rfl) T.z_tuple (by decide +kernel) rfl) pa_nil))) pa_nil))))) (pw_or1 (pt_not (pt_chain op_le op_le pe_int (pe_callB call_len_seq (by rfl) T.z_len (by decide +kernel) (pa_cons (pv 1) pa_nil)) (pe_gv T.g_MOST_COLUMNS)))))) (pss_one (rs (by rfl) (takes_of rfl rfl rfl rfl) T.x_NoCell (by rfl))) pss_nil)
      (pss_cons (ps_set (i := 2) sc_Maker___init__.nd rfl (.inl rfl) (pe_lst pa_nil))
      (pss_cons (ps_for (passes_of rfl) rfl (PI.or_ (pi_list (pv 1)) (pi_tup (pv 1))) (pg_name (i := 3) sc_Maker___init__.nd rfl (.inl rfl))
      (pss_cons (ps_if (pt_not (pt_val (cl D_is_term (hr.mono (by decide)) (pa_cons (pv 3) pa_nil)))) (pss_one (rs (by rfl) (takes_of rfl rfl rfl rfl) T.x_NoCell (by rfl))) pss_nil)
      (pss_one (ps_expr (pe_bm PySem.F.plainAttrs_list PySem.F.slot_list_append PySem.F.type_list_append mt_append (pv 2) (pa_cons (pv 3) pa_nil))))))
      (pss_one (ps_fld (pv 0) (pe_callTy call_tuple_of (by rfl) T.z_tuple (by decide +kernel) (pa_cons (pv 2) pa_nil)) rfl))))), ?_⟩
    refine ⟨_, rfl, (by show 2 ≤ sizeLine; decide), fun tp ntp => ?_⟩
    generalize eH1 : upd H tp _ = H1
    have s1 : Same H H1 := eH1 ▸ same_upd ntp
    have e1 : H1 tp = some _ := eH1 ▸ upd_same
    refine ⟨_, tp, _, _, _, _, rfl, e1, .cons (.ty _) (.cons (.ty _) .nil), Dp.ty (Dp.same s1 hd), kit_any2 K .lst .tup d, _, rfl, ?_⟩
    by_cases hk : ∃ a vs, v = .ref a ∧ (isTy .lst d || isTy .tup d) = true ∧ (SqL K H a vs ∨ SqT K H a vs) ∧ DpAll K H vs (itemsD d) ∧ makeOk d = ((decide (1 ≤ (itemsD d).length) && decide ((itemsD d).length ≤ 3)) && (itemsD d).all isTermD)
    · obtain ⟨a, vs, rfl, hty, ha, hA, hmk⟩ := hk
      rw [hty]
      refine iteF ?_
      generalize itemsD d = ds at *
      have lv : vs.length = ds.length := DpAll.length hA
      have ha1 : SqL K H1 a vs ∨ SqT K H1 a vs := ha.elim (fun z => .inl (s1.seq z)) (fun z => .inr (Same.seqT s1 z))
      refine ⟨_, rfl, _, _, rfl, ha1, _, _, rfl, rfl, _, rfl, ?_⟩
      rw [lv]
      cases c1 : decide ((1 : Int) ≤ (ds.length : Nat)) with
      | false =>
        refine iteF ?_
        refine ⟨_, rfl, iteT ?_⟩
        refine hE ?_ H1 s1
        have := of_decide_eq_false c1
        rw [hmk, decide_eq_false (by omega)]
        rfl
      | true =>
        have c1' := of_decide_eq_true c1
        refine iteT ?_
        refine ⟨_, _, rfl, rfl, _, rfl, ?_⟩
        cases c2 : decide (((ds.length : Nat) : Int) ≤ 3) with
        | false =>
          refine iteT ?_
          refine hE ?_ H1 s1
          have := of_decide_eq_false c2
          rw [hmk, decide_eq_false (show ¬ ds.length ≤ 3 by omega), Bool.and_false]
          rfl
        | true =>
          have c2' := of_decide_eq_true c2
          refine iteF ?_
          have hmk2 : makeOk d = ds.all isTermD := by rw [hmk, decide_eq_true (by omega), decide_eq_true (by omega)]; rfl
          refine ⟨(by show 0 ≤ sizeLine; decide), fun kl nkl => ?_⟩
          generalize eH2 : upd H1 kl _ = H2
          have s2 : Same H1 H2 := eH2 ▸ same_upd nkl
          have e2 : H2 kl = some _ := eH2 ▸ upd_same
          have s12 := s1.trans s2
          have nk0 : H kl = none := s1.free nkl
          have hx2 := s12 _ _ hx
          have nkx : kl ≠ x := fun z => by rw [z, hx] at nk0; cases nk0
          have body : ∀ (i : Nat) (xv : V) (H' : Hp), vs[i]? = some xv → (∃ us, H' kl = some (.lst us) ∧ us = vs.take i ∧ Md [kl] H2 H' ∧ (ds.take i).all isTermD = true) →
              ∃ e us, ds[i]? = some e ∧ Dp K H' xv e ∧ H' kl = some (.lst us) ∧ us.length < sizeLine ∧ Same H H' ∧ (isTermD e = true → ∃ us', upd H' kl (.lst (us ++ [xv])) kl = some (.lst us') ∧ us' = vs.take (i + 1) ∧ Md [kl] H2 (upd H' kl (.lst (us ++ [xv]))) ∧ (ds.take (i + 1)).all isTermD = true) := by
            rintro i xv H' hg ⟨us, eu, au, m, al⟩
            obtain ⟨e, he, hdp⟩ := DpAll.get hA hg
            have hlu : us.length < sizeLine := by
              rw [au, List.length_take, lv]
              exact Nat.lt_of_le_of_lt (Nat.le_trans (Nat.min_le_right _ _) hlen) (by decide)
            have sH : Same H H' := (Md.newM (S := []) m (Md.of s12) nk0).same
            refine ⟨e, us, he, Dp.same sH hdp, eu, hlu, sH, fun ht => ?_⟩
            have mu : Md [kl] H' (upd H' kl (.lst (us ++ [xv]))) := Md.upd eu rfl (by simp)
            refine ⟨_, upd_same, ?_, m.trans mu, ?_⟩
            · rw [tk1 hg, au]
            · rw [tk1 he, List.all_append, al]
              simp [ht]
          have bad : ∀ (i : Nat) e, ds[i]? = some e → isTermD e = false → makeOk d = false := fun i e he ht => by
            rw [hmk2, Bool.eq_false_iff]
            intro z
            have := List.all_eq_true.mp z e (List.mem_of_getElem? he)
            rw [ht] at this
            cases this
          have fin : ∀ H', (∃ us, H' kl = some (.lst us) ∧ us = vs.take vs.length ∧ Md [kl] H2 H' ∧ (ds.take vs.length).all isTermD = true) → ∃ us, H' kl = some (.lst us) ∧ ∀ t, H' t = none → H' x = some (.ins (aMk K) dx []) ∧ Q .non (upd (upd H' t (.tup us)) x (.ins (aMk K) dx (putF "kept_terms" (.ref t) []))) := by
            rintro H' ⟨us, eu, au, m, al⟩
            rw [List.take_length] at au
            rw [lv, List.take_length] at al
            subst au
            have sH : Same H H' := (Md.newM (S := []) m (Md.of s12) nk0).same
            have hx' := m.out _ _ hx2 (by simp; exact Ne.symm nkx)
            refine ⟨us, eu, fun t nt => ⟨hx', ?_⟩⟩
            have s3 : Same H' (upd H' t (.tup us)) := same_upd nt
            have ntx : t ≠ x := fun z => by rw [z, hx'] at nt; cases nt
            have mx : Md [x] (upd H' t (.tup us)) (upd (upd H' t (.tup us)) x (.ins (aMk K) dx (putF "kept_terms" (.ref t) []))) := Md.upd (s3 _ _ hx') rfl (by simp)
            refine hQ (by rw [hmk2]; exact al) t us _ ((Md.of (sH.trans s3)).trans mx) (sH.free nt) upd_same (by rw [upd_ne ntx]; exact upd_same) (mx.dpAll (terms_noL al) (DpAll.same (sH.trans s3) hA))
          have start : ∃ us, H2 kl = some (.lst us) ∧ us = vs.take 0 ∧ Md [kl] H2 H2 ∧ (ds.take 0).all isTermD = true := ⟨[], e2, rfl, .refl _ _, rfl⟩
          rcases ha with ha | ha
          · refine .inl ⟨_, rfl, a, rfl, ⟨_, s12.seq ha⟩, for_list (K := K) (a := a) (xs := vs) (fun i σ H' => (∃ o, σ = [some (.ref x), some (.ref a), some (.ref kl), o]) ∧ ∃ us, H' kl = some (.lst us) ∧ us = vs.take i ∧ Md [kl] H2 H' ∧ (ds.take i).all isTermD = true) ⟨⟨none, rfl⟩, start⟩ (fun i σ H' _ h => ?_) ?_ ?_⟩
            · obtain ⟨_, us, _, _, m, _⟩ := h
              exact SqL.new ha (Md.newM (S := []) m (Md.of s12) nk0) (by simp)
            · rintro i xv σ H' hg ⟨⟨o, rfl⟩, h⟩
              obtain ⟨e, us, he, hdp, eu, hlu, sH, hN⟩ := body i xv H' hg h
              refine ⟨_, rfl, xv, .d e, rfl, hdp, _, rfl, ?_⟩
              cases ht : isTermT (.d e) with
              | false => exact iteT (hE (bad i e he ht) H' sH)
              | true => exact iteF ⟨_, rfl, .inl ⟨rfl, _, SqL.of eu⟩, _, rfl, kl, _, _, rfl, rfl, eu, hlu, ⟨_, rfl⟩, hN ht⟩
            · rintro σ H' ⟨⟨o, rfl⟩, h⟩
              obtain ⟨us, eu, hf⟩ := fin H' h
              refine ⟨_, rfl, _, _, rfl, .inl ⟨SqL.of eu, fun t nt => ?_⟩⟩
              obtain ⟨hx', q⟩ := hf t nt
              exact ⟨_, rfl, _, _, _, _, rfl, same_upd nt _ _ hx', T.o_Maker.cl, T.n_Maker_kept_terms, (by show 0 < 1000; decide), q⟩
          · refine .inr ⟨_, rfl, a, rfl, ⟨_, Same.seqT s12 ha⟩, for_tup (K := K) (a := a) (xs := vs) (fun i σ H' => (∃ o, σ = [some (.ref x), some (.ref a), some (.ref kl), o]) ∧ ∃ us, H' kl = some (.lst us) ∧ us = vs.take i ∧ Md [kl] H2 H' ∧ (ds.take i).all isTermD = true) ⟨⟨none, rfl⟩, start⟩ (fun i σ H' _ h => ?_) ?_ ?_⟩
            · obtain ⟨_, us, _, _, m, _⟩ := h
              exact m.sqT (Same.seqT s12 ha)
            · rintro i xv σ H' hg ⟨⟨o, rfl⟩, h⟩
              obtain ⟨e, us, he, hdp, eu, hlu, sH, hN⟩ := body i xv H' hg h
              refine ⟨_, rfl, xv, .d e, rfl, hdp, _, rfl, ?_⟩
              cases ht : isTermT (.d e) with
              | false => exact iteT (hE (bad i e he ht) H' sH)
              | true => exact iteF ⟨_, rfl, .inl ⟨rfl, _, SqL.of eu⟩, _, rfl, kl, _, _, rfl, rfl, eu, hlu, ⟨_, rfl⟩, hN ht⟩
            · rintro σ H' ⟨⟨o, rfl⟩, h⟩
              obtain ⟨us, eu, hf⟩ := fin H' h
              refine ⟨_, rfl, _, _, rfl, .inl ⟨SqL.of eu, fun t nt => ?_⟩⟩
              obtain ⟨hx', q⟩ := hf t nt
              exact ⟨_, rfl, _, _, _, _, rfl, same_upd nt _ _ hx', T.o_Maker.cl, T.n_Maker_kept_terms, (by show 0 < 1000; decide), q⟩
    · have e2 : (isTy .lst d || isTy .tup d) = false := by
        cases hd with
        | lst h a => exact absurd ⟨_, _, rfl, rfl, .inl h, a, rfl⟩ hk
        | tup h a => exact absurd ⟨_, _, rfl, rfl, .inr h, a, rfl⟩ hk
        | _ => rfl
      rw [e2]
      refine iteT ?_
      refine hE ?_ H1 s1
      cases d <;> first | rfl | cases e2

end
end K05
namespace K05
open PySem PySem.Spec PyProof.Rows L2 He TL EL
section
variable {P : Program} {w : World} {K : PySem.W.Frag} {mg : Str → Option Value} {base : Heap}
/-! Maker's methods -/
structure MkAt (K : PySem.W.Frag) (H : Hp) (x dx t : Addr) (ts : List Tm) : Prop where
  hx : H x = some (.ins (aMk K) dx (mkF t))
  ht : ∃ us, H t = some (.tup us) ∧ DpAll K H us (ts.map Tm.d)
  ok : ∀ a ∈ ts, Tm.ok a
theorem pds_tm (ts : List Tm) : Pds (ts.map Tm.d) ∧ PyData.depthAll (ts.map Tm.d) ≤ 2 := by
  refine ⟨fun d hd => ?_, ?_⟩
  · obtain ⟨a, _, rfl⟩ := List.mem_map.mp hd
    exact (Tm.pd a).1
  · induction ts with
    | nil => exact Nat.zero_le _
    | cons a r ih => exact Nat.max_le.mpr ⟨(Tm.pd a).2, ih⟩
theorem pd_tms (ts : List Tm) : Pd (.tuple (ts.map Tm.d)) := by
  obtain ⟨h1, h2⟩ := pds_tm ts
  exact ⟨h1.nl, h1.cl, by show PyData.depthAll (ts.map Tm.d) + 1 ≤ 16; omega⟩
theorem MkAt.dp {H : Hp} {x dx t : Addr} {ts : List Tm} (M : MkAt K H x dx t ts) : Dp K H (.ref t) (.tuple (ts.map Tm.d)) := by
  obtain ⟨us, h1, h2⟩ := M.ht
  exact .tup (SqT.of h1) h2
theorem MkAt.md {H H' : Hp} {x dx t : Addr} {ts : List Tm} {S : List Addr} (M : MkAt K H x dx t ts) (m : Md S H H') (h : x ∉ S) : MkAt K H' x dx t ts := by
  obtain ⟨hx, ⟨us, h1, h2⟩, ok⟩ := M
  exact ⟨m.out _ _ hx h, ⟨us, m.rig _ _ h1 rfl, m.dpAll (pds_tm ts).1.nl h2⟩, ok⟩
theorem MkAt.same {H H' : Hp} {x dx t : Addr} {ts : List Tm} (M : MkAt K H x dx t ts) (s : Same H H') : MkAt K H' x dx t ts := M.md (S := []) (.of s) (by simp)
theorem eqv_tms : ∀ ts us : List Tm, PyData.eqv (.tuple (ts.map Tm.d)) (.tuple (us.map Tm.d)) = decide (ts = us)
  | [], [] => rfl
  | [], _ :: _ => rfl
  | _ :: _, [] => rfl
  | t :: ts, u :: us => by
    show (PyData.eqv t.d u.d && PyData.eqv (.tuple (ts.map Tm.d)) (.tuple (us.map Tm.d))) = _
    rw [eqv_tm, eqv_tms ts us, ← Bool.decide_and]
    exact decide_eq_decide.mpr ⟨fun h => by rw [h.1, h.2], fun h => by cases h; exact ⟨rfl, rfl⟩⟩
def spMkTerms (K : PySem.W.Frag) : Sp := fun vs H Q _ => ∃ x dx t ts, vs = [.ref x] ∧ MkAt K H x dx t ts ∧ Q (.ref t) H
theorem d_mk_terms (T : Txt K mg) : FnR P w K mg base CX0 1 (ma K (ga K "Maker") "terms") (spMkTerms K) := by
  obtain ⟨fd, F⟩ := T.f_Maker_terms
  refine fnN F (fun _ _ _ _ _ _ us hl => match us, hl with | [_], _ => rfl) sc_Maker_terms (fun vs H Q E h => ?_) (fun cdv A outer s H vs Q E hr h => ?_)
  · obtain ⟨x, dx, t, ts, rfl, _⟩ := h
    rfl
  · obtain ⟨x, dx, t, ts, rfl, M, q⟩ := h
    exact ⟨_, PSs.nox (pss_one (ps_ret (pe_fld (pv 0) rfl))), _, rfl, _, _, _, _, _, rfl, M.hx, T.o_Maker.cl, T.n_Maker_kept_terms, mkF_at, q⟩
def spMkLen (K : PySem.W.Frag) : Sp := fun vs H Q _ => ∃ x dx t ts, vs = [.ref x] ∧ MkAt K H x dx t ts ∧ Q (.int (ts.length : Nat)) H
theorem d_mk_len (T : Txt K mg) : FnR P w K mg base CX0 1 (ma K (ga K "Maker") "__len__") (spMkLen K) := by
  obtain ⟨fd, F⟩ := T.f_Maker___len__
  refine fnN F (fun _ _ _ _ _ _ us hl => match us, hl with | [_], _ => rfl) sc_Maker___len__ (fun vs H Q E h => ?_) (fun cdv A outer s H vs Q E hr h => ?_)
  · obtain ⟨x, dx, t, ts, rfl, _⟩ := h
    rfl
  · obtain ⟨x, dx, t, ts, rfl, M, q⟩ := h
    obtain ⟨us, h1, h2⟩ := M.ht
    refine ⟨_, PSs.nox (pss_one (ps_ret (pe_callB call_len_seq (by rfl) T.z_len (by decide +kernel) (pa_cons (pe_fld (pv 0) rfl) pa_nil)))), _, rfl, _, _, _, _, _, rfl, M.hx, T.o_Maker.cl, T.n_Maker_kept_terms, mkF_at, _, _, rfl, .inr (SqT.of h1), ?_⟩
    rw [DpAll.length h2, List.length_map]
    exact q
def spMkEq (K : PySem.W.Frag) : Sp := fun vs H Q _ => ∃ x dx t ts y dy u us, vs = [.ref x, .ref y] ∧ MkAt K H x dx t ts ∧ MkAt K H y dy u us ∧ Q (.bl (decide (ts = us))) H
theorem d_mk_eq (T : Txt K mg) : FnR P w K mg base CX0 1 (ma K (ga K "Maker") "__eq__") (spMkEq K) := by
  obtain ⟨fd, F⟩ := T.f_Maker___eq__
  refine fnN F (fun _ _ _ _ _ _ us hl => match us, hl with | [_, _], _ => rfl) sc_Maker___eq__ (fun vs H Q E h => ?_) (fun cdv A outer s H vs Q E hr h => ?_)
  · obtain ⟨x, dx, t, ts, y, dy, u, us, rfl, _⟩ := h
    rfl
  · obtain ⟨x, dx, t, ts, y, dy, u, us, rfl, M, N, q⟩ := h
    refine ⟨_, PSs.nox (pss_one (ps_ret (pe_and (pe_callB call_isi (by rfl) T.z_isinstance (by decide +kernel) (pa_cons (pv 1) (pa_cons (pe_glob (v := .ref (ga K "Maker")) (by rfl) T.g_Maker rfl) pa_nil))) (pe_one (pe_cmpR (op_eqD hr.units) (pe_fld (pv 0) rfl) (pe_fld (pv 1) rfl) (nomark _)))))), ?_⟩
    refine ⟨_, rfl, _, _, _, _, _, rfl, .own _, T.o_Maker.ty N.hx, T.o_Maker.self, _, rfl, iteT ?_⟩
    refine ⟨_, rfl, _, _, _, _, _, rfl, M.hx, T.o_Maker.cl, T.n_Maker_kept_terms, mkF_at, _, rfl, _, _, _, _, _, rfl, N.hx, T.o_Maker.cl, T.n_Maker_kept_terms, mkF_at, _, _, M.dp, N.dp, (pd_tms ts).shaped, (pd_tms us).shaped, ?_⟩
    rw [eqv_tms]
    exact q
def mkO (r : Pl → Row) (ts : List Tm) : Option (List (Int × Int)) := if (ts.any fun t => (t.at r).isNone) = true then none else some (ts.filterMap (Tm.at r))
def spMkCall (K : PySem.W.Frag) : Sp := fun vs H Q E => ∃ x dx t ts v r, vs = [.ref x, v Pl.old, v Pl.first, v Pl.second] ∧ MkAt K H x dx t ts ∧ ts.length ≤ 1000 ∧ Rows3 K H v r ∧
  (mkO r ts = none → ∀ H', Same H H' → E (.ref (ga K "NoCell")) none H') ∧ (∀ l, mkO r ts = some l → ∀ q us H', Same H H' → H' q = some (.tup us) → DpAll K H' us (l.map valD) → Q (.ref q) H')
theorem d_mk_call (T : Txt K mg) : FnR P w K mg base (L2.CX P w) 2 (ma K (ga K "Maker") "__call__") (spMkCall K) := by
  obtain ⟨fd, F⟩ := T.f_Maker___call__
  have D_value_at := d_value_at (P := P) (w := w) (base := base) T
  refine fnN F (fun _ _ _ _ _ _ us hl => match us, hl with | [_, _, _, _], _ => rfl) sc_Maker___call__ (fun vs H Q E h => ?_) (fun cdv A outer s H vs Q E hr h => ?_)
  · obtain ⟨x, dx, t, ts, v, r, rfl, _⟩ := h
    rfl
  · obtain ⟨x, dx, t, ts, v, r, rfl, M, hlen, hR, hE, hQ⟩ := h
    refine ⟨_, (pss_cons (ps_set (i := 4) sc_Maker___call__.nd rfl (.inr rfl) (pe_disp (pps_cons pe_str (pv 1) (pps_cons pe_str (pv 2) (pps_cons pe_str (pv 3) pps_nil))) rfl rfl (by simp) (by decide)))
      (pss_one (ps_ret (pe_callTy call_tuple_of (by rfl) T.z_tuple (by decide +kernel) (pa_cons (pe_lcX (own := [("term", 5)]) (tt := tYes) (takes_of rfl rfl rfl rfl) (by rfl) (by rfl) (by rfl) sc_Maker___call__.nd (pi_tup (pe_fld (pv 0) rfl)) (blkOk_by (own := [("term", 5)]) (N := ["self", "old", "first", "second", "rows", "term"]) (sc := defScope s_Maker___call__) (by decide +kernel)) (fun _ _ _ _ _ => (pg_name (i := 5) sc_Maker___call__.nd rfl (.inl rfl))) (fun _ _ _ _ _ => pts_nil) (fun _ _ _ _ _ _ _ hx => (clP hx D_value_at (hr.mono (by decide)) (pa_cons (pv 5) (pa_cons (pv 4) pa_nil))))) pa_nil))))), ?_⟩
    intro rd nrd
    refine ⟨_, rfl, _, rfl, _, rfl, upd_same, [(.inr "old", v .old), (.inr "first", v .first), (.inr "second", v .second)], rfl, (by show 3 ≤ 15; decide), ?_⟩
    rw [upd_upd, merge_rows]
    generalize eH1 : upd H rd _ = H1
    have s1 : Same H H1 := eH1 ▸ same_upd nrd
    have e1 : H1 rd = some _ := eH1 ▸ upd_same
    have M1 := M.same s1
    have hR1 := hR.same s1
    obtain ⟨vs, el, al⟩ := M1.ht
    have lv : vs.length = ts.length := by rw [DpAll.length al, List.length_map]
    refine ⟨_, rfl, _, _, _, _, _, rfl, M1.hx, T.o_Maker.cl, T.n_Maker_kept_terms, mkF_at, t, rfl, ⟨_, SqT.of el⟩, fun D nD => ?_⟩
    have nDr : D ≠ rd := fun z => by rw [z, e1] at nD; cases nD
    have sD : Same H1 (upd H1 D (.lst [])) := same_upd nD
    refine lcX_it (walk_tup (xs := vs)) (fun i H' => (∀ a ∈ ts.take i, ∃ b, a.at r = some b) ∧ ∃ us, H' D = some (.lst us) ∧ DpAll K H' us (((ts.take i).filterMap (Tm.at r)).map valD) ∧ Md [D] (upd H1 D (.lst [])) H') ⟨fun a ha => (by cases ha), [], upd_same, .nil, .refl _ _⟩ (fun i H' _ h => ?_) ?_ ?_
    · obtain ⟨_, us, _, _, m⟩ := h
      exact m.sqT (SqT.of (sD _ _ el))
    · rintro i xv H' H'' hi ⟨hg, us, eu, au, m⟩ ⟨rfl, hx⟩
      obtain ⟨d, hd, hdp⟩ := DpAll.get al hx
      obtain ⟨a, ha, rfl⟩ := getM hd
      have hdp' := m.dp (Tm.pd a).1.nl (Dp.same sD hdp)
      have rd' := m.out _ _ (sD _ _ e1) (by simp; exact Ne.symm nDr)
      have hR' : Rows3 K H'' v r := fun p => m.dp (rowD_pd (r p)).nl (Dp.same sD (hR1 p))
      have sH : Same H H'' := s1.trans (Md.newM (S := []) m (Md.of sD) nD).same
      have mem := List.mem_of_getElem? ha
      have hlu : us.length < sizeLine := by
        rw [DpAll.length au, List.length_map]
        have h1 := List.length_filterMap_le (Tm.at r) (ts.take i)
        rw [List.length_take] at h1
        exact Nat.lt_of_le_of_lt (Nat.le_trans h1 (Nat.le_trans (Nat.min_le_right _ _) hlen)) (by decide)
      refine ⟨rfl, tYes_of ?_⟩
      refine ⟨_, rfl, _, rfl, xv, rd, a, v, r, rfl, hdp', rd', hR', fun z => hE (if_pos (List.any_eq_true.mpr ⟨a, mem, by rw [z]; rfl⟩)) H'' sH, fun p1 y1 z1 d1 => ?_⟩
      refine ⟨us, eu, hlu, ?_⟩
      have mu : Md [D] H'' (upd H'' D (.lst (us ++ [y1]))) := Md.upd eu rfl (by simp)
      refine ⟨fun b hb => ?_, _, upd_same, ?_, m.trans mu⟩
      · rw [tk1 ha] at hb
        rcases List.mem_append.mp hb with hb | hb
        · exact hg b hb
        · cases List.mem_singleton.mp hb
          exact ⟨_, z1⟩
      · rw [tk1 ha, List.filterMap_append, List.map_append]
        have e5 : [a].filterMap (Tm.at r) = [p1] := by simp [z1]
        rw [e5]
        refine DpAll.snoc (mu.dp rfl d1) (mu.dpAll (Pds.nl (fun d hd => ?_)) au)
        obtain ⟨b, _, rfl⟩ := List.mem_map.mp hd
        exact Pd.valD b
    · rintro H' ⟨hg, us, eu, au, m⟩
      rw [lv] at hg au
      rw [List.take_length] at hg au
      have sH : Same H H' := s1.trans (Md.newM (S := []) m (Md.of sD) nD).same
      refine ⟨_, _, rfl, .inl ⟨SqL.of eu, fun q nq => ?_⟩⟩
      have ho : mkO r ts = some (ts.filterMap (Tm.at r)) := by
        refine if_neg fun z => ?_
        obtain ⟨a, ha, e⟩ := List.any_eq_true.mp z
        obtain ⟨b, hb⟩ := hg a ha
        rw [hb] at e
        cases e
      exact hQ _ ho q us _ (sH.trans (same_upd nq)) upd_same (DpAll.same (same_upd nq) au)

end
end K05
namespace K05
open PySem PySem.Spec PyProof.Rows L2 He TL EL
section
variable {P : Program} {w : World} {K : PySem.W.Frag} {mg : Str → Option Value} {base : Heap}
/-! _law_value -/
theorem low1 (a : Int) : Low a 1 := ⟨by decide, by unfold cd; rw [show (1 : Int).natAbs = 1 from rfl, Nat.gcd_one_right]; rfl⟩
theorem low2 (k : Int) : Low (2 * k + 1) 2 := by
  refine ⟨by decide, ?_⟩
  unfold cd
  have h : Nat.gcd (2 * k + 1).natAbs (2 : Int).natAbs = 1 := by
    have h1 : Nat.gcd (2 * k + 1).natAbs 2 ∣ 2 := Nat.gcd_dvd_right _ _
    have h2 : Nat.gcd (2 * k + 1).natAbs 2 ∣ (2 * k + 1).natAbs := Nat.gcd_dvd_left _ _
    have h3 : Nat.gcd (2 * k + 1).natAbs 2 ≤ 2 := Nat.le_of_dvd (by decide) h1
    have h4 : 0 < Nat.gcd (2 * k + 1).natAbs 2 := Nat.gcd_pos_of_pos_right _ (by decide)
    have h5 : Nat.gcd (2 * k + 1).natAbs 2 ≠ 2 := fun z => by
      rw [z] at h2
      omega
    show Nat.gcd (2 * k + 1).natAbs 2 = 1
    omega
  rw [h]
  rfl
def spValue (K : PySem.W.Frag) : Sp := fun vs H Q _ => ∃ p l o, vs = [.ref p, .int o] ∧ o.natAbs ≤ 1000000000000000000 ∧ Src H p l ∧ ∀ x q H', Md [p] H H' → Src H' p l → H' q = some (.tup [.int (Prod.fst x), .int (Prod.snd x)]) → Vl x → x.2 ≤ 2 → Q (.ref q) H'
theorem d_value (T : Txt K mg) : Dn P w K mg base CX0 2 "_law_value" (spValue K) := by
  obtain ⟨fd, F⟩ := T.f__law_value
  have D__law_draw := d_draw (P := P) (w := w) (base := base) T
  refine dnN T.g__law_value F (fun _ _ _ _ _ _ us hl => match us, hl with | [_, _], _ => rfl) sc__law_value (fun vs H Q E h => ?_) (fun cdv A outer s H vs Q E hr h => ?_)
  · obtain ⟨p, l, o, rfl, _⟩ := h
    rfl
  · obtain ⟨p, l, o, rfl, ho, S, hQ⟩ := h
    obtain ⟨xs, hp⟩ := S.lst
    refine ⟨_, PSs.nox (pss_cons (ps_set (i := 2) sc__law_value.nd rfl (.inl rfl) (pe_op op_sub (cl D__law_draw (hr.mono (by decide)) (pa_cons (pv 0) (pa_cons pe_int pa_nil))) pe_int))
      (pss_cons (ps_if (pt_cmpR op_eq (cl D__law_draw (hr.mono (by decide)) (pa_cons (pv 0) (pa_cons pe_int pa_nil))) pe_int (nomark _)) (pss_one (ps_ret (pe_tup (pa_cons (pe_op op_add (pe_op op_mulW pe_int (pe_op op_add (pv 2) (pv 1))) pe_int) (pa_cons pe_int pa_nil))))) pss_nil)
      (pss_one (ps_ret (pe_tup (pa_cons (pe_op op_add (pv 2) (pv 1)) (pa_cons pe_int pa_nil))))))), ?_⟩
    refine ⟨_, rfl, p, l, 7, rfl, by decide, by decide, S, fun n H1 n0 n1 S1 b1 => ?_⟩
    obtain ⟨xs1, hp1⟩ := S1.lst
    refine ⟨_, _, rfl, rfl, ?_⟩
    refine ⟨_, rfl, p, l, 3, rfl, by decide, by decide, S1, fun k H2 k0 k1 S2 b2 => ?_⟩
    have m2 : Md [p] H H2 := (b1.md hp rfl).trans (b2.md hp1 rfl)
    refine ⟨rfl, _, rfl, ie (fun c => ?_) (fun c => ?_)⟩
    · have hm : CMulW 2 (n - 3 + o) := wide_mul (a := 3) (b := 70) (by decide) (by omega) (by decide) (by decide) (by decide)
      refine ⟨_, rfl, _, rfl, _, _, rfl, rfl, _, _, rfl, rfl, hm, _, _, rfl, rfl, (by show 2 ≤ sizeLine; decide), fun q nq => ?_⟩
      generalize eH3 : upd H2 q _ = H3
      have s3 : Same H2 H3 := eH3 ▸ same_upd nq
      have e3 : H3 q = some _ := eH3 ▸ upd_same
      exact hQ (2 * (n - 3 + o) + 1, 2) q H3 (m2.trans (Md.of s3)) (S2.same s3) e3 ⟨low2 _, by show (2 * (n - 3 + o) + 1).natAbs < 2 ^ 70; omega, by show (2 : Int).natAbs < 2 ^ 70; decide⟩ (by show (2 : Int) ≤ 2; decide)
    · refine ⟨_, rfl, _, rfl, _, _, rfl, rfl, (by show 2 ≤ sizeLine; decide), fun q nq => ?_⟩
      generalize eH3 : upd H2 q _ = H3
      have s3 : Same H2 H3 := eH3 ▸ same_upd nq
      have e3 : H3 q = some _ := eH3 ▸ upd_same
      exact hQ (n - 3 + o, 1) q H3 (m2.trans (Md.of s3)) (S2.same s3) e3 ⟨low1 _, by show (n - 3 + o).natAbs < 2 ^ 70; omega, by show (1 : Int).natAbs < 2 ^ 70; decide⟩ (by show (1 : Int) ≤ 2; decide)
/-! _law_term -/
def Tm.sm : Tm → Prop
  | .cell _ _ => True
  | .val _ b => b ≤ 2
def spTerm (K : PySem.W.Frag) : Sp := fun vs H Q _ => ∃ p l o, vs = [.ref p, .int o] ∧ o.natAbs ≤ 1000000000000000000 ∧ Src H p l ∧ ∀ t q H', Md [p] H H' → Src H' p l → Dp K H' (.ref q) (Tm.d t) → Tm.ok t → Tm.sm t → Q (.ref q) H'
theorem d_term (T : Txt K mg) : Dn P w K mg base CX0 3 "_law_term" (spTerm K) := by
  obtain ⟨fd, F⟩ := T.f__law_term
  have D__law_draw := d_draw (P := P) (w := w) (base := base) T
  have D__law_value := d_value (P := P) (w := w) (base := base) T
  refine dnN T.g__law_term F (fun _ _ _ _ _ _ us hl => match us, hl with | [_, _], _ => rfl) sc__law_term (fun vs H Q E h => ?_) (fun cdv A outer s H vs Q E hr h => ?_)
  · obtain ⟨p, l, o, rfl, _⟩ := h
    rfl
  · obtain ⟨p, l, o, rfl, ho, S, hQ⟩ := h
    obtain ⟨xs, hp⟩ := S.lst
    refine ⟨_, PSs.nox (pss_cons (ps_set (i := 2) sc__law_term.nd rfl (.inl rfl) (cl D__law_draw (hr.mono (by decide)) (pa_cons (pv 0) (pa_cons pe_int pa_nil))))
      (pss_cons (ps_if (pt_cmpR op_eq (pv 2) pe_int (nomark _)) (pss_one (ps_ret (pe_tup (pa_cons pe_str (pa_cons (cl D__law_value (hr.mono (by decide)) (pa_cons (pv 0) (pa_cons (pv 1) pa_nil))) pa_nil))))) pss_nil)
      (pss_one (ps_ret (pe_tup (pa_cons (pe_ix ix_list (pe_lst (pa_cons pe_str (pa_cons pe_str (pa_cons pe_str pa_nil)))) (pv 2) (fun _ _ => rfl)) (pa_cons (cl D__law_draw (hr.mono (by decide)) (pa_cons (pv 0) (pa_cons pe_int pa_nil))) pa_nil))))))), ?_⟩
    refine ⟨_, rfl, p, l, 4, rfl, by decide, by decide, S, fun n H1 n0 n1 S1 b1 => ?_⟩
    have m1 : Md [p] H H1 := b1.md hp rfl
    obtain ⟨xs1, hp1⟩ := S1.lst
    refine ⟨_, rfl, rfl, _, rfl, ie (fun c => ?_) (fun c => ?_)⟩
    · refine ⟨_, rfl, _, rfl, p, l, o, rfl, ho, S1, fun x q H2 m2 S2 e2 vl v2 => ?_⟩
      refine ⟨(by show 2 ≤ sizeLine; decide), fun q3 n3 => ?_⟩
      generalize eH3 : upd H2 q3 _ = H3
      have s3 : Same H2 H3 := eH3 ▸ same_upd n3
      have e3 : H3 q3 = some _ := eH3 ▸ upd_same
      exact hQ (.val x.1 x.2) q3 H3 (m1.trans (m2.trans (Md.of s3))) (S2.same s3) (.tup (SqT.of e3) (.cons (.str _) (.cons (.tup (SqT.of (s3 _ _ e2)) (.cons (.int _) (.cons (.int _) .nil))) .nil))) vl v2
    · have c' : n ≠ 3 := fun z => by
        have : decide (V.int n = V.int 3) = false := c
        rw [z] at this
        cases this
      refine ⟨(by show 3 ≤ sizeLine; decide), fun u nu => ?_⟩
      generalize eH2 : upd H1 u _ = H2
      have s2 : Same H1 H2 := eH2 ▸ same_upd nu
      have e2 : H2 u = some _ := eH2 ▸ upd_same
      have key : ∃ pl : Pl, atI [V.str "old", .str "first", .str "second"] n = some (.str pl.s) := by
        have : n = 0 ∨ n = 1 ∨ n = 2 := by omega
        rcases this with rfl | rfl | rfl
        · exact ⟨.old, atI_nat (j := 0) rfl⟩
        · exact ⟨.first, atI_nat (j := 1) rfl⟩
        · exact ⟨.second, atI_nat (j := 2) rfl⟩
      obtain ⟨pl, hpl⟩ := key
      refine ⟨_, rfl, u, _, _, _, rfl, rfl, SqL.of e2, hpl, ?_⟩
      refine ⟨_, rfl, p, l, 3, rfl, by decide, by decide, S1.same s2, fun k H3 k0 k1 S3 b3 => ?_⟩
      refine ⟨(by show 2 ≤ sizeLine; decide), fun q nq => ?_⟩
      generalize eH4 : upd H3 q _ = H4
      have s4 : Same H3 H4 := eH4 ▸ same_upd nq
      have e4 : H4 q = some _ := eH4 ▸ upd_same
      have m3 : Md [p] H2 H3 := b3.md (s2 _ _ hp1) rfl
      obtain ⟨kn, rfl⟩ := Int.eq_ofNat_of_zero_le k0
      exact hQ (.cell pl kn) q H4 (m1.trans ((Md.of s2).trans (m3.trans (Md.of s4)))) (S3.same s4) (.tup (SqT.of e4) (.cons (.str _) (.cons (.int _) .nil))) (by show kn < 3; omega) trivial
/-! _law_row -/
def spRow (K : PySem.W.Frag) : Sp := fun vs H Q _ => ∃ p l o, vs = [.ref p, .int o] ∧ o.natAbs ≤ 1000000000000000000 ∧ Src H p l ∧ ∀ v r H', Md [p] H H' → Src H' p l → Dp K H' v (rowD r) → rowOk r → Q v H'
theorem d_row (T : Txt K mg) : Dn P w K mg base CX0 3 "_law_row" (spRow K) := by
  obtain ⟨fd, F⟩ := T.f__law_row
  have D__law_draw := d_draw (P := P) (w := w) (base := base) T
  have D__law_value := d_value (P := P) (w := w) (base := base) T
  refine dnN T.g__law_row F (fun _ _ _ _ _ _ us hl => match us, hl with | [_, _], _ => rfl) sc__law_row (fun vs H Q E h => ?_) (fun cdv A outer s H vs Q E hr h => ?_)
  · obtain ⟨p, l, o, rfl, _⟩ := h
    rfl
  · obtain ⟨p, l, o, rfl, ho, S, hQ⟩ := h
    obtain ⟨xs, hp⟩ := S.lst
    refine ⟨_, PSs.nox (pss_cons (ps_if (pt_cmpR op_eq (cl D__law_draw (hr.mono (by decide)) (pa_cons (pv 0) (pa_cons pe_int pa_nil))) pe_int (nomark _)) (pss_one (ps_ret pe_non)) pss_nil)
      (pss_cons (ps_set (i := 2) sc__law_row.nd rfl (.inl rfl) (pe_lst pa_nil))
      (pss_cons (ps_for PassesOwn.never rfl (pi_range1 (by rfl) T.z_range (pa_cons (pe_op op_sub (pe_op op_sub pe_int (pe_op op_fdivW (cl D__law_draw (hr.mono (by decide)) (pa_cons (pv 0) (pa_cons pe_int pa_nil))) pe_int)) (pe_op op_fdivW (cl D__law_draw (hr.mono (by decide)) (pa_cons (pv 0) (pa_cons pe_int pa_nil))) pe_int)) pa_nil)) (pg_name (i := 3) sc__law_row.nd rfl (.inl rfl))
      (pss_one (ps_expr (pe_bm PySem.F.plainAttrs_list PySem.F.slot_list_append PySem.F.type_list_append mt_append (pv 2) (pa_cons (cl D__law_value (hr.mono (by decide)) (pa_cons (pv 0) (pa_cons (pv 1) pa_nil))) pa_nil)))))
      (pss_one (ps_ret (pe_callTy call_tuple_of (by rfl) T.z_tuple (by decide +kernel) (pa_cons (pv 2) pa_nil))))))), ?_⟩
    refine ⟨_, rfl, p, l, 8, rfl, by decide, by decide, S, fun n H1 n0 n1 S1 b1 => ?_⟩
    have m1 : Md [p] H H1 := b1.md hp rfl
    obtain ⟨xs1, hp1⟩ := S1.lst
    refine ⟨rfl, _, rfl, ie (fun c => ?_) (fun c => ?_)⟩
    · exact hQ .non none H1 m1 S1 .non (fun l h => by cases h)
    · refine ⟨(by show 0 ≤ sizeLine; decide), fun u nu => ?_⟩
      generalize eH2 : upd H1 u _ = H2
      have s2 : Same H1 H2 := eH2 ▸ same_upd nu
      have e2 : H2 u = some _ := eH2 ▸ upd_same
      refine ⟨_, rfl, p, l, 5, rfl, by decide, by decide, S1.same s2, fun k H3 k0 k1 S3 b3 => ?_⟩
      have m3 : Md [p] H2 H3 := b3.md (s2 _ _ hp1) rfl
      obtain ⟨xs3, hp3⟩ := S3.lst
      refine ⟨_, _, rfl, rfl, ⟨by decide, by decide⟩, _, _, rfl, rfl, ?_⟩
      refine ⟨_, rfl, p, l, 9, rfl, by decide, by decide, S3, fun j H4 j0 j1 S4 b4 => ?_⟩
      have m4 : Md [p] H3 H4 := b4.md hp3 rfl
      refine ⟨_, _, rfl, rfl, ⟨by decide, by decide⟩, _, _, rfl, rfl, ?_⟩
      have up : u ≠ p := Ne.symm (ne_of_none hp1 nu)
      have e4 : H4 u = some (.lst []) := m4.out _ _ (m3.out _ _ e2 (by simp [up])) (by simp [up])
      have m04 : Md [p] H H4 := m1.trans ((Md.of s2).trans (m3.trans m4))
      have nu0 : H u = none := by
        cases hh : H u with
        | none => rfl
        | some ob => rw [m1.out _ _ hh (by simp [up])] at nu; cases nu
      have hn : (3 - k / 3 - j / 8 : Int).toNat ≤ 3 := by omega
      generalize hnn : (3 - k / 3 - j / 8 : Int) = N at hn
      have hN : N = (N.toNat : Nat) := by omega
      refine ⟨N, (by rw [← hnn]), by omega, by omega, for_range (n := N.toNat) (fun i σ H' => (∃ o4, σ = [some (.ref p), some (.int o), some (.ref u), o4]) ∧ ∃ us lst, H' u = some (.lst us) ∧ DpAll K H' us (lst.map valD) ∧ lst.length = i ∧ (∀ x ∈ lst, Vl x) ∧ Md [p, u] H4 H' ∧ Src H' p l) ⟨⟨none, rfl⟩, [], [], e4, .nil, rfl, (fun x hx => by cases hx), .refl _ _, S4⟩ ?_ ?_⟩
      · rintro i σ H5 hi ⟨⟨o4, rfl⟩, us, lst, eu, au, el, hv, m5, S5⟩
        refine ⟨_, rfl, .inl ⟨rfl, _, SqL.of eu⟩, _, rfl, _, rfl, p, l, o, rfl, ho, S5, fun x q H6 m6 S6 e6 vl _ => ?_⟩
        have eu6 : H6 u = some (.lst us) := m6.out _ _ eu (by simp [up])
        refine ⟨u, _, _, rfl, rfl, eu6, (by rw [DpAll.length au, List.length_map, el]; exact Nat.lt_of_lt_of_le hi (Nat.le_trans hn (by decide))), ?_⟩
        have mu : Md [p, u] H6 (upd H6 u (.lst (us ++ [.ref q]))) := Md.upd eu6 rfl (by simp)
        refine ⟨⟨_, rfl⟩, _, lst ++ [x], upd_same, ?_, by rw [List.length_append, el]; rfl, fun y hy => (List.mem_append.mp hy).elim (hv y) (fun z => by cases List.mem_singleton.mp z; exact vl), m5.trans ((m6.mono (by simp)).trans mu), ?_⟩
        · rw [List.map_append]
          exact DpAll.snoc (mu.dp rfl (.tup (SqT.of e6) (.cons (.int _) (.cons (.int _) .nil)))) (mu.dpAll (Pds.nl (fun d hd => by obtain ⟨b, _, rfl⟩ := List.mem_map.mp hd; exact Pd.valD b)) (m6.dpAll (Pds.nl (fun d hd => by obtain ⟨b, _, rfl⟩ := List.mem_map.mp hd; exact Pd.valD b)) au))
        · obtain ⟨xs6, hp6⟩ := S6.lst
          obtain ⟨xl6, hl6⟩ := S6.lst2
          have ul : l ≠ u := by
            obtain ⟨xl1, hl1⟩ := S1.lst2
            exact ne_of_none hl1 nu
          exact Src.but (x := u) but_upd S6 (Ne.symm up) ul
      · rintro σ H5 ⟨⟨o4, rfl⟩, us, lst, eu, au, el, hv, m5, S5⟩
        refine ⟨_, rfl, _, _, rfl, .inl ⟨SqL.of eu, fun q nq => ?_⟩⟩
        generalize eH6 : upd H5 q _ = H6
        have s6 : Same H5 H6 := eH6 ▸ same_upd nq
        have e6 : H6 q = some _ := eH6 ▸ upd_same
        have mm : Md [p] H H6 := by
          have h1 : Md [u, p] H H6 := (m04.mono (by simp)).trans ((m5.mono (S' := [u, p]) (fun b hb => by rcases List.mem_cons.mp hb with z | z; exact List.mem_cons_of_mem _ (by rw [z]; simp); rw [List.mem_singleton.mp z]; simp)).trans (Md.of s6))
          exact ⟨fun b ob hb hn => h1.out b ob hb (fun z => by
            rcases List.mem_cons.mp z with z | z
            · rw [z, nu0] at hb; cases hb
            · exact hn z), h1.rig⟩
        refine hQ (.ref q) (some lst) H6 mm (S5.same s6) (.tup (SqT.of e6) (DpAll.same s6 au)) (fun l' h => ?_)
        cases h
        exact ⟨by omega, hv⟩
end
end K05
namespace K05
open PySem PySem.Spec PyProof.Rows L2 He TL EL
section
variable {P : Program} {w : World} {K : PySem.W.Frag} {mg : Str → Option Value} {base : Heap}
/-! _law_at -/
def rwV (v : Pl → V) : List V := [v .old, v .first, v .second]
def Pl.n : Pl → Nat
  | .old => 0
  | .first => 1
  | .second => 2
theorem rwV_at (v : Pl → V) (p : Pl) : (rwV v)[p.n]? = some (v p) := by cases p <;> rfl
def spAt (K : PySem.W.Frag) : Sp := fun vs H Q _ => ∃ vt rt t v r, vs = [vt, .ref rt] ∧ Dp K H vt (Tm.d t) ∧ SqT K H rt (rwV v) ∧ Rows3 K H v r ∧ (t.at r = none → ∀ H', Same H H' → Q .non H') ∧ ∀ x y H', t.at r = some x → Same H H' → Dp K H' y (valD x) → Q y H'
theorem d_at (T : Txt K mg) : Dn P w K mg base CX0 1 "_law_at" (spAt K) := by
  obtain ⟨fd, F⟩ := T.f__law_at
  refine dnN T.g__law_at F (fun _ _ _ _ _ _ us hl => match us, hl with | [_, _], _ => rfl) sc__law_at (fun vs H Q E h => ?_) (fun cdv A outer s H vs Q E hr h => ?_)
  · obtain ⟨vt, rt, t, v, r, rfl, _⟩ := h
    rfl
  · obtain ⟨vt, rt, t, v, r, rfl, ht, hrt, hR, hN, hQ⟩ := h
    refine ⟨_, PSs.nox (pss_cons (ps_if (pt_cmpR op_eq (pe_ix ix_tup (pv 0) pe_int (fun _ _ => rfl)) pe_str (nomark _)) (pss_one (ps_ret (pe_ix ix_tup (pv 0) pe_int (fun _ _ => rfl)))) pss_nil)
      (pss_cons (ps_set (i := 2) sc__law_at.nd rfl (.inl rfl) (pe_ix ix_tup (pv 1) (pe_bm PySem.F.plainAttrs_list PySem.F.slot_list_index PySem.F.type_list_index mt_index (pe_lst (pa_cons pe_str (pa_cons pe_str (pa_cons pe_str pa_nil)))) (pa_cons (pe_ix ix_tup (pv 0) pe_int (fun _ _ => rfl)) pa_nil)) (fun _ _ => rfl)))
      (pss_cons (ps_if (PW.pt (pw_or (pt_cmpR op_isN (pv 2) pe_non (nomark _)) (pw_or1 (pt_cmpR op_ge (pe_ix ix_tup (pv 0) pe_int (fun _ _ => rfl)) (pe_callB call_len_seq (by rfl) T.z_len (by decide +kernel) (pa_cons (pv 2) pa_nil)) (nomark _))))) (pss_one (ps_ret pe_non)) pss_nil)
      (pss_one (ps_ret (pe_ix ix_tup (pv 2) (pe_ix ix_tup (pv 0) pe_int (fun _ _ => rfl)) (fun _ _ => rfl))))))), ?_⟩
    cases t with
    | val a b =>
      obtain ⟨q, y, rfl, hq, hy⟩ := tm_val ht
      refine ⟨_, rfl, _, _, 0, _, rfl, rfl, hq, atI_nat (j := 0) rfl, rfl, _, rfl, iteT ?_⟩
      exact ⟨_, rfl, _, _, 1, _, rfl, rfl, hq, atI_nat (j := 1) rfl, hQ (a, b) y H rfl (.refl _) hy⟩
    | cell p c =>
      obtain ⟨q, rfl, hq⟩ := tm_cell ht
      refine ⟨_, rfl, _, _, 0, _, rfl, rfl, hq, atI_nat (j := 0) rfl, rfl, _, rfl, if_neg_of (Pl.ne_value p) ?_⟩
      refine ⟨_, rfl, (by show 3 ≤ sizeLine; decide), fun u nu => ?_⟩
      generalize eH1 : upd H u _ = H1
      have s1 : Same H H1 := eH1 ▸ same_upd nu
      have e1 : H1 u = some _ := eH1 ▸ upd_same
      have hq1 := Same.seqT s1 hq
      have hrt1 := Same.seqT s1 hrt
      have ix : ∃ z, ([V.str "old", .str "first", .str "second"] : List V)[p.n]? = some z ∧ eqV z (.str p.s) = true ∧ ∀ (m : Nat) (z' : V), m < p.n → ([V.str "old", .str "first", .str "second"] : List V)[m]? = some z' → eqV z' (.str p.s) = false := by
        cases p with
        | old => exact ⟨_, rfl, by decide +kernel, fun m z' hm => absurd hm (by show ¬ m < 0; omega)⟩
        | first =>
          refine ⟨_, rfl, by decide +kernel, fun m z' hm e => ?_⟩
          have : m = 0 := by have : m < 1 := hm; omega
          subst this
          cases e
          decide +kernel
        | second =>
          refine ⟨_, rfl, by decide +kernel, fun m z' hm e => ?_⟩
          have : m = 0 ∨ m = 1 := by have : m < 2 := hm; omega
          rcases this with rfl | rfl
          · cases e; decide +kernel
          · cases e; decide +kernel
      obtain ⟨z, hz1, hz2, hz3⟩ := ix
      refine ⟨.inl ⟨rfl, _, SqL.of e1⟩, _, rfl, _, _, 0, _, rfl, rfl, hq1, atI_nat (j := 0) rfl, u, _, _, p.n, z, rfl, rfl, SqL.of e1, rfl, rfl, hz1, hz2, hz3, ?_⟩
      refine ⟨_, _, _, _, rfl, rfl, hrt1, atI_nat (rwV_at v p), ?_⟩
      have hp := Dp.same s1 (hR p)
      cases hr0 : r p with
      | none =>
        rw [hr0] at hp
        have e : v p = .non := by
          generalize v p = y at hp
          cases hp
          rfl
        rw [e]
        refine ⟨_, rfl, rfl, _, rfl, iteT ?_⟩
        exact hN (by show (r p).bind _ = none; rw [hr0]; rfl) H1 s1
      | some l =>
        rw [hr0] at hp
        obtain ⟨ra, vs, ev, hra, hA⟩ := dp_row hp
        rw [ev]
        refine ⟨_, rfl, rfl, _, rfl, iteF ?_⟩
        have lv : vs.length = l.length := by rw [DpAll.length hA, List.length_map]
        refine ⟨_, rfl, _, _, 1, _, rfl, rfl, hq1, atI_nat (j := 1) rfl, _, rfl, _, _, rfl, .inr hra, _, _, rfl, rfl, _, rfl, ie (fun c1 => ?_) (fun c1 => ?_)⟩
        · have c1' := of_decide_eq_true c1
          refine hN ?_ H1 s1
          show (r p).bind _ = none
          rw [hr0]
          exact List.getElem?_eq_none (by omega)
        · have c1' := of_decide_eq_false c1
          have hlt : c < l.length := by omega
          have hx : (l.map valD)[c]? = some (valD l[c]) := by rw [List.getElem?_map, List.getElem?_eq_getElem hlt]; rfl
          obtain ⟨y, hy, hdy⟩ := DpAll.at hA hx
          refine ⟨_, rfl, _, rfl, _, _, 1, _, rfl, rfl, hq1, atI_nat (j := 1) rfl, _, _, _, _, rfl, rfl, hra, atI_nat hy, ?_⟩
          refine hQ l[c] y H1 ?_ s1 hdy
          show (r p).bind _ = _
          rw [hr0]
          exact List.getElem?_eq_getElem hlt
/-! _law_stands -/
def spLStands (K : PySem.W.Frag) : Sp := fun vs H Q _ => ∃ (g : Sg) (v1 v2 : V) (x y : Int × Int), vs = [.str g.s, v1, v2] ∧ Dp K H v1 (valD x) ∧ Dp K H v2 (valD y) ∧ Vl x ∧ Vl y ∧ Q (.bl (g.holds x y)) H
theorem vl_eq {x y : Int × Int} (h1 : Vl x) (h2 : Vl y) : decide (V.int (x.1 * y.2) = V.int (y.1 * x.2)) = decide (x = y) :=
  decide_eq_decide.mpr ⟨fun e => by
    have e' : x.1 * y.2 = y.1 * x.2 := by injection e
    obtain ⟨a, b⟩ := low_unique h1.low h2.low e'
    exact Prod.ext a b, fun e => by rw [e]⟩
theorem d_lstands (T : Txt K mg) : Dn P w K mg base CX0 1 "_law_stands" (spLStands K) := by
  obtain ⟨fd, F⟩ := T.f__law_stands
  refine dnN T.g__law_stands F (fun _ _ _ _ _ _ us hl => match us, hl with | [_, _, _], _ => rfl) sc__law_stands (fun vs H Q E h => ?_) (fun cdv A outer s H vs Q E hr h => ?_)
  · obtain ⟨g, v1, v2, x, y, rfl, _⟩ := h
    rfl
  · obtain ⟨g, v1, v2, x, y, rfl, h1, h2, l1, l2, hQ⟩ := h
    refine ⟨_, PSs.nox (pss_cons (ps_set (i := 3) sc__law_stands.nd rfl (.inl rfl) (pe_op op_mulW (pe_ix ix_tup (pv 1) pe_int (fun _ _ => rfl)) (pe_ix ix_tup (pv 2) pe_int (fun _ _ => rfl))))
      (pss_cons (ps_set (i := 4) sc__law_stands.nd rfl (.inl rfl) (pe_op op_mulW (pe_ix ix_tup (pv 2) pe_int (fun _ _ => rfl)) (pe_ix ix_tup (pv 1) pe_int (fun _ _ => rfl))))
      (pss_cons (ps_if (pt_cmpR op_eq (pv 0) pe_str (nomark _)) (pss_one (ps_ret (pe_cmpR op_lt (pv 3) (pv 4) (nomark _)))) pss_nil)
      (pss_cons (ps_if (pt_cmpR op_eq (pv 0) pe_str (nomark _)) (pss_one (ps_ret (pe_cmpR op_le (pv 3) (pv 4) (nomark _)))) pss_nil)
      (pss_cons (ps_if (pt_cmpR op_eq (pv 0) pe_str (nomark _)) (pss_one (ps_ret (pe_cmpR op_eq (pv 3) (pv 4) (nomark _)))) pss_nil)
      (pss_one (ps_ret (pe_cmpR op_ne (pv 3) (pv 4) (nomark _))))))))), ?_⟩
    obtain ⟨p, rfl, hp⟩ := dp_val h1
    obtain ⟨q, rfl, hq⟩ := dp_val h2
    refine ⟨_, rfl, _, _, 0, _, rfl, rfl, hp, atI_nat (j := 0) rfl, _, rfl, _, _, 1, _, rfl, rfl, hq, atI_nat (j := 1) rfl, _, _, rfl, rfl, vl_mul l1 l2, ?_⟩
    refine ⟨_, rfl, _, _, 0, _, rfl, rfl, hq, atI_nat (j := 0) rfl, _, rfl, _, _, 1, _, rfl, rfl, hp, atI_nat (j := 1) rfl, _, _, rfl, rfl, vl_mul l2 l1, ?_⟩
    cases g with
    | lt =>
      refine ⟨_, rfl, rfl, _, rfl, iteT ?_⟩
      exact ⟨_, rfl, _, rfl, _, _, rfl, rfl, hQ⟩
    | le =>
      refine ⟨_, rfl, rfl, _, rfl, if_neg_of (by decide +kernel) ?_⟩
      refine ⟨_, rfl, rfl, _, rfl, iteT ?_⟩
      have e : Sg.holds .le x y = decide (x.1 * y.2 ≤ y.1 * x.2) := by
        show (!decide (y.1 * x.2 < x.1 * y.2)) = _
        by_cases h : x.1 * y.2 ≤ y.1 * x.2
        · rw [decide_eq_true h, decide_eq_false (by omega)]; rfl
        · rw [decide_eq_false h, decide_eq_true (by omega)]; rfl
      rw [e] at hQ
      exact ⟨_, rfl, _, rfl, _, _, rfl, rfl, hQ⟩
    | eq =>
      refine ⟨_, rfl, rfl, _, rfl, if_neg_of (by decide +kernel) ?_⟩
      refine ⟨_, rfl, rfl, _, rfl, if_neg_of (by decide +kernel) ?_⟩
      refine ⟨_, rfl, rfl, _, rfl, iteT ?_⟩
      refine ⟨_, rfl, _, rfl, rfl, ?_⟩
      rw [vl_eq l1 l2]
      exact hQ
    | ne =>
      refine ⟨_, rfl, rfl, _, rfl, if_neg_of (by decide +kernel) ?_⟩
      refine ⟨_, rfl, rfl, _, rfl, if_neg_of (by decide +kernel) ?_⟩
      refine ⟨_, rfl, rfl, _, rfl, if_neg_of (by decide +kernel) ?_⟩
      refine ⟨_, rfl, _, rfl, rfl, ?_⟩
      rw [vl_eq l1 l2]
      exact hQ
def optB : Option Bool → V
  | none => .non
  | some b => .bl b
end
end K05
namespace K05
open PySem PySem.Spec PyProof.Rows L2 He TL EL
section
variable {P : Program} {w : World} {K : PySem.W.Frag} {mg : Str → Option Value} {base : Heap}
/-! _law_due -/
def spLDue (K : PySem.W.Frag) : Sp := fun vs H Q _ => ∃ la rt us as v r, vs = [.ref la, .ref rt] ∧ SqL K H la us ∧ DpAll K H us (as.map At.d) ∧ (∀ a ∈ as, At.ok a) ∧ SqT K H rt (rwV v) ∧ Rows3 K H v r ∧ (∀ p, rowOk (r p)) ∧ ∀ H', Same H H' → Q (optB (holdO r as)) H'
theorem d_ldue (T : Txt K mg) : Dn P w K mg base CX0 2 "_law_due" (spLDue K) := by
  obtain ⟨fd, F⟩ := T.f__law_due
  have D__law_at := d_at (P := P) (w := w) (base := base) T
  have D__law_stands := d_lstands (P := P) (w := w) (base := base) T
  refine dnN T.g__law_due F (fun _ _ _ _ _ _ us hl => match us, hl with | [_, _], _ => rfl) sc__law_due (fun vs H Q E h => ?_) (fun cdv A outer s H vs Q E hr h => ?_)
  · obtain ⟨la, rt, us, as, v, r, rfl, _⟩ := h
    rfl
  · obtain ⟨la, rt, us, as, v, r, rfl, hla, hA, hok, hrt, hR, hro, hQ⟩ := h
    refine ⟨_, PSs.nox (pss_cons (ps_for PassesOwn.never rfl (pi_list (pv 0)) (pg_name (i := 2) sc__law_due.nd rfl (.inl rfl))
      (pss_one (ps_if (PW.pt (pw_or (pt_cmpR op_isN (cl D__law_at (hr.mono (by decide)) (pa_cons (pe_ix ix_tup (pv 2) pe_int (fun _ _ => rfl)) (pa_cons (pv 1) pa_nil))) pe_non (nomark _)) (pw_or1 (pt_cmpR op_isN (cl D__law_at (hr.mono (by decide)) (pa_cons (pe_ix ix_tup (pv 2) pe_int (fun _ _ => rfl)) (pa_cons (pv 1) pa_nil))) pe_non (nomark _))))) (pss_one (ps_ret pe_non)) pss_nil)))
      (pss_cons (ps_for PassesOwn.never rfl (pi_list (pv 0)) (pg_name (i := 2) sc__law_due.nd rfl (.inl rfl))
      (pss_one (ps_if (pt_not (pt_val (cl D__law_stands (hr.mono (by decide)) (pa_cons (pe_ix ix_tup (pv 2) pe_int (fun _ _ => rfl)) (pa_cons (cl D__law_at (hr.mono (by decide)) (pa_cons (pe_ix ix_tup (pv 2) pe_int (fun _ _ => rfl)) (pa_cons (pv 1) pa_nil))) (pa_cons (cl D__law_at (hr.mono (by decide)) (pa_cons (pe_ix ix_tup (pv 2) pe_int (fun _ _ => rfl)) (pa_cons (pv 1) pa_nil))) pa_nil)))))) (pss_one (ps_ret pe_bl)) pss_nil)))
      (pss_one (ps_ret pe_bl)))), ?_⟩
    have lu : us.length = as.length := by rw [DpAll.length hA, List.length_map]
    have item : ∀ {i : Nat} {xv : V} {H' : Hp}, us[i]? = some xv → Same H H' → ∃ a t y1 y2, as[i]? = some a ∧ xv = .ref t ∧ SqT K H' t [.str a.s.s, y1, y2] ∧ Dp K H' y1 a.l.d ∧ Dp K H' y2 a.r.d := fun {i xv H'} hg s' => by
      obtain ⟨d, hd, hdp⟩ := DpAll.get hA hg
      obtain ⟨a, ha, rfl⟩ := getM hd
      obtain ⟨t, y1, y2, e, h1, h2, h3⟩ := at_tup (Dp.same s' hdp)
      exact ⟨a, t, y1, y2, ha, e, h1, h2, h3⟩
    refine ⟨_, rfl, la, rfl, ⟨_, hla⟩, for_list (K := K) (a := la) (xs := us) (fun i σ H' => Same H H' ∧ (∃ o, σ = [some (.ref la), some (.ref rt), o]) ∧ ∀ a ∈ as.take i, ∃ b, a.at r = some b) ⟨.refl _, ⟨none, rfl⟩, fun a ha => by cases ha⟩ (fun i σ H' _ h => h.1.seq hla) ?_ ?_⟩
    · rintro i xv σ H' hg ⟨s', ⟨o, rfl⟩, hall⟩
      obtain ⟨a, t, y1, y2, ha, rfl, ht, h1, h2⟩ := item hg s'
      have mem := List.mem_of_getElem? ha
      refine ⟨_, rfl, _, _, 1, _, rfl, rfl, ht, atI_nat (j := 1) rfl, _, rfl, y1, rt, a.l, v, r, rfl, h1, Same.seqT s' hrt, hR.same s', fun z H2 s2 => ?_, fun x1 w1 H2 z1 s2 dw1 => ?_⟩
      · refine ⟨rfl, _, rfl, iteT ?_⟩
        have e := hQ H2 (s'.trans s2)
        rw [hold_none mem (at_nl z)] at e
        exact e
      · obtain ⟨q1, rfl, _⟩ := dp_val dw1
        refine ⟨rfl, _, rfl, iteF ?_⟩
        have s02 := s'.trans s2
        refine ⟨_, rfl, _, _, 2, _, rfl, rfl, Same.seqT s2 ht, atI_nat (j := 2) rfl, _, rfl, y2, rt, a.r, v, r, rfl, Dp.same s2 h2, Same.seqT s02 hrt, hR.same s02, fun z H3 s3 => ?_, fun x2 w2 H3 z2 s3 dw2 => ?_⟩
        · refine ⟨rfl, _, rfl, iteT ?_⟩
          have e := hQ H3 (s02.trans s3)
          rw [hold_none mem (at_nr z)] at e
          exact e
        · obtain ⟨q2, rfl, _⟩ := dp_val dw2
          refine ⟨rfl, _, rfl, iteF ?_⟩
          refine ⟨s02.trans s3, ⟨_, rfl⟩, fun b hb => ?_⟩
          rw [tk1 ha] at hb
          rcases List.mem_append.mp hb with hb | hb
          · exact hall b hb
          · cases List.mem_singleton.mp hb
            exact ⟨_, at_ss z1 z2⟩
    · rintro σ H' ⟨s', ⟨o, rfl⟩, hall⟩
      rw [lu, List.take_length] at hall
      have ho := hold_some hall
      refine ⟨_, rfl, la, rfl, ⟨_, s'.seq hla⟩, for_list (K := K) (a := la) (xs := us) (fun i σ H' => Same H H' ∧ (∃ o, σ = [some (.ref la), some (.ref rt), o]) ∧ ∀ a ∈ as.take i, a.at r = some true) ⟨s', ⟨o, rfl⟩, fun a ha => by cases ha⟩ (fun i σ H' _ h => h.1.seq hla) ?_ ?_⟩
      · rintro i xv σ H2 hg ⟨s2, ⟨o, rfl⟩, hall2⟩
        obtain ⟨a, t, y1, y2, ha, rfl, ht, h1, h2⟩ := item hg s2
        have mem := List.mem_of_getElem? ha
        obtain ⟨b, hb⟩ := hall a mem
        obtain ⟨p1, p2, z1, z2, eb⟩ := at_sm hb
        have hao := hok a mem
        refine ⟨_, rfl, _, _, 0, _, rfl, rfl, ht, atI_nat (j := 0) rfl, ?_⟩
        refine ⟨_, rfl, _, _, 1, _, rfl, rfl, ht, atI_nat (j := 1) rfl, _, rfl, y1, rt, a.l, v, r, rfl, h1, Same.seqT s2 hrt, hR.same s2, fun z => (by rw [z1] at z; cases z), fun x1 w1 H3 e1 s3 dw1 => ?_⟩
        rw [z1] at e1
        cases e1
        have s03 := s2.trans s3
        refine ⟨_, rfl, _, _, 2, _, rfl, rfl, Same.seqT s3 ht, atI_nat (j := 2) rfl, _, rfl, y2, rt, a.r, v, r, rfl, Dp.same s3 h2, Same.seqT s03 hrt, hR.same s03, fun z => (by rw [z2] at z; cases z), fun x2 w2 H4 e2 s4 dw2 => ?_⟩
        rw [z2] at e2
        cases e2
        have s04 := s03.trans s4
        refine ⟨a.s, w1, w2, p1, p2, rfl, Dp.same s4 dw1, dw2, at_vl hro hao.1 z1, at_vl hro hao.2 z2, _, rfl, ?_⟩
        rw [← eb]
        cases b with
        | true =>
          refine iteF ⟨s04, ⟨_, rfl⟩, fun c hc => ?_⟩
          rw [tk1 ha] at hc
          rcases List.mem_append.mp hc with hc | hc
          · exact hall2 c hc
          · cases List.mem_singleton.mp hc
            exact hb
        | false =>
          refine iteT ?_
          have e := hQ H4 s04
          have e5 : (as.all fun a => decide (a.at r = some true)) = false := by
            rw [Bool.eq_false_iff]
            intro z
            have := of_decide_eq_true (List.all_eq_true.mp z a mem)
            rw [hb] at this
            cases this
          rw [ho, e5] at e
          exact e
      · rintro σ H2 ⟨s2, ⟨o, rfl⟩, hall2⟩
        rw [lu, List.take_length] at hall2
        have e := hQ H2 s2
        have e5 : (as.all fun a => decide (a.at r = some true)) = true := List.all_eq_true.mpr fun a ha => decide_eq_true (hall2 a ha)
        rw [ho, e5] at e
        exact e
/-! _law_held -/
def spHeld (K : PySem.W.Frag) : Sp := fun vs H Q _ => ∃ x dx l as rt v r, vs = [.ref x, .ref rt] ∧ CdAt K H x dx l as ∧ as.length ≤ 1000 ∧ SqT K H rt (rwV v) ∧ Rows3 K H v r ∧ (∀ p, rowOk (r p)) ∧ ∀ H', Same H H' → Q (optB (holdO r as)) H'
theorem d_held (T : Txt K mg) : Dn P w K mg base CX0 4 "_law_held" (spHeld K) := by
  obtain ⟨fd, F⟩ := T.f__law_held
  have D_hold := d_hold (P := P) (w := w) (base := base) T
  refine dnN T.g__law_held F (fun _ _ _ _ _ _ us hl => match us, hl with | [_, _], _ => rfl) sc__law_held (fun vs H Q E h => ?_) (fun cdv A outer s H vs Q E hr h => ?_)
  · obtain ⟨x, dx, l, as, rt, v, r, rfl, _⟩ := h
    rfl
  · obtain ⟨x, dx, l, as, rt, v, r, rfl, C, hlen, hrt, hR, hro, hQ⟩ := h
    refine ⟨_, PSs.nox (pss_cons (ps_try_as (i := 3) (by rfl) (by rfl) sc__law_held.nd rfl (by rfl) ⟨rfl, by decide, .inl T.x_NoCell.g⟩ takes0 (fun W pn xe tk po => (pss_one (ps_set (i := 2) sc__law_held.nd rfl (.inl rfl) (pe_methE (pv 0) T.o_Conditions.cl T.h_Conditions_hold D_hold hr (pxx tk) (pa_cons (pe_ix (show IxR _ (rIxT K) from ix_tup) (pv 1) pe_int (fun _ _ => rfl)) (pa_cons (pe_ix (show IxR _ (rIxT K) from ix_tup) (pv 1) pe_int (fun _ _ => rfl)) (pa_cons (pe_ix (show IxR _ (rIxT K) from ix_tup) (pv 1) pe_int (fun _ _ => rfl)) pa_nil)))))))
      (fun a oe cls d pn hz hf => (pss_one (ps_ret (pe_ix (show IxR _ (rIxL K) from ix_list) (pe_lst (pa_cons pe_non (pa_cons pe_int pa_nil))) (pe_callTy call_int1 (by rfl) T.z_int (by decide +kernel) (pa_cons (pe_not (pe_callB (call_isX _ T.c_NoCell hz hf) (by rfl) T.z_isinstance (by decide +kernel) (pa_cons (pv 3) (pa_cons (pe_bltn (v := .ty "ValueError") (by rfl) T.z_ValueError (by decide +kernel) rfl) pa_nil)))) pa_nil)) (fun _ _ => rfl))))))
      (pss_cons (ps_if (pt_not (pt_val (pe_callB call_isi (by rfl) T.z_isinstance (by decide +kernel) (pa_cons (pv 2) (pa_cons (pe_bltn (v := .ty "bool") (by rfl) T.z_bool (by decide +kernel) rfl) pa_nil))))) (pss_one (ps_ret pe_int)) pss_nil)
      (pss_one (ps_ret (pv 2))))), ?_⟩
    refine ⟨_, rfl, _, _, _, rfl, C.hx, cdF_no (by decide), _, rfl, _, _, 0, _, rfl, rfl, hrt, atI_nat (j := 0) rfl, _, rfl, _, _, 1, _, rfl, rfl, hrt, atI_nat (j := 1) rfl, _, rfl, _, _, 2, _, rfl, rfl, hrt, atI_nat (j := 2) rfl, ?_⟩
    refine ⟨x, dx, l, as, v, r, rfl, C, hlen, hR, hro, fun z H1 s1 => ?_, fun b z H1 s1 => ?_⟩
    · refine ⟨true, T.e_NoCell_NoCell, fun _ a _ => ?_, fun z => by cases z⟩
      refine ⟨(by show 2 ≤ sizeLine; decide), fun u nu => ?_⟩
      generalize eH2 : upd H1 u _ = H2
      have s2 : Same H1 H2 := eH2 ▸ same_upd nu
      have e2 : H2 u = some _ := eH2 ▸ upd_same
      refine ⟨_, rfl, rfl, rfl, _, _, _, rfl, fun u r => r, T.k_NoCell_ValueError, _, rfl, .inr ⟨_, rfl, ?_⟩⟩
      refine ⟨_, _, _, _, rfl, rfl, SqL.of e2, atI_nat (j := 0) rfl, ?_⟩
      have e := hQ H2 (s1.trans s2)
      rw [z] at e
      exact e
    · refine ⟨_, rfl, _, _, _, _, _, rfl, .ty _, Dp.ty (.bl b), kit_d K .bl (.bool b), _, rfl, iteF ?_⟩
      have e := hQ H1 s1
      rw [z] at e
      exact ⟨_, rfl, e⟩
/-! _law_row_made -/
def spMade (K : PySem.W.Frag) : Sp := fun vs H Q _ => ∃ x dx t ts rt v r, vs = [.ref x, .ref rt] ∧ MkAt K H x dx t ts ∧ ts.length ≤ 1000 ∧ SqT K H rt (rwV v) ∧ Rows3 K H v r ∧ ∀ y H', Same H H' → Dp K H' y (rowD (mkO r ts)) → Q y H'
theorem d_made (T : Txt K mg) : Dn P w K mg base CX0 3 "_law_row_made" (spMade K) := by
  obtain ⟨fd, F⟩ := T.f__law_row_made
  have D_call := d_mk_call (P := P) (w := w) (base := base) T
  refine dnN T.g__law_row_made F (fun _ _ _ _ _ _ us hl => match us, hl with | [_, _], _ => rfl) sc__law_row_made (fun vs H Q E h => ?_) (fun cdv A outer s H vs Q E hr h => ?_)
  · obtain ⟨x, dx, t, ts, rt, v, r, rfl, _⟩ := h
    rfl
  · obtain ⟨x, dx, t, ts, rt, v, r, rfl, M, hlen, hrt, hR, hQ⟩ := h
    refine ⟨_, PSs.nox (pss_cons (ps_try_only (by rfl) (by rfl) ⟨rfl, by decide, .inl T.x_NoCell.g⟩ takes0 (fun W pn xe tk po => (pss_one (ps_set (i := 2) sc__law_row_made.nd rfl (.inl rfl) (pe_callOE (pv 0) T.q_Maker D_call hr (pxx tk) (pa_cons (pe_ix (show IxR _ (rIxT K) from ix_tup) (pv 1) pe_int (fun _ _ => rfl)) (pa_cons (pe_ix (show IxR _ (rIxT K) from ix_tup) (pv 1) pe_int (fun _ _ => rfl)) (pa_cons (pe_ix (show IxR _ (rIxT K) from ix_tup) (pv 1) pe_int (fun _ _ => rfl)) pa_nil)))))))
      (fun a oe cls d pn hz hf => (pss_one (ps_ret pe_non))))
      (pss_one (ps_ret (pv 2)))), ?_⟩
    refine ⟨_, rfl, _, rfl, _, rfl, _, _, 0, _, rfl, rfl, hrt, atI_nat (j := 0) rfl, _, rfl, _, _, 1, _, rfl, rfl, hrt, atI_nat (j := 1) rfl, _, rfl, _, _, 2, _, rfl, rfl, hrt, atI_nat (j := 2) rfl, ⟨_, _, M.hx⟩, ?_⟩
    refine ⟨x, dx, t, ts, v, r, rfl, M, hlen, hR, fun z H1 s1 => ?_, fun l z q us H1 s1 e1 a1 => ?_⟩
    · refine ⟨true, T.e_NoCell_NoCell, fun _ a _ => ?_, fun z => by cases z⟩
      exact hQ .non H1 s1 (by rw [z]; exact .non)
    · refine ⟨_, rfl, hQ (.ref q) H1 s1 ?_⟩
      rw [z]
      exact .tup (SqT.of e1) a1
end
end K05
namespace K05
open PySem PySem.Spec PyProof.Rows L2 He TL EL
section
variable {P : Program} {w : World} {K : PySem.W.Frag} {mg : Str → Option Value} {base : Heap}
theorem mkMk {H : Hp} {v : V} {d : PyData} {Q : Addr → Hp → Prop} {E : XK} (hd : Dp K H v d) (hl : (itemsD d).length ≤ 1000) (hE : makeOk d = false → ∀ H', Same H H' → E (.ref (ga K "NoCell")) none H')
    (hQ : makeOk d = true → ∀ x dx t us H', Same H H' → H x = none → H' x = some (.ins (aMk K) dx (mkF t)) → H' t = some (.tup us) → DpAll K H' us (itemsD d) → Q x H') :
    ∀ x dx, H x = none → H dx = none → dx ≠ x → spMk K [.ref x, v] (upd (upd H dx (.own x)) x (.ins (aMk K) dx [])) (fun v H2 => v = .non ∧ Q x H2) E := by
  intro x dx nx ndx hne
  generalize eH1 : upd (upd H dx _) x _ = H1
  have s1 : Same H H1 := eH1 ▸ (same_upd ndx).trans (same_upd (by rw [upd_ne (Ne.symm hne)]; exact nx))
  have x1 : H1 x = some (.ins (aMk K) dx []) := eH1 ▸ upd_same
  refine ⟨x, dx, v, d, rfl, x1, Dp.same s1 hd, hl, fun z H' s' => hE z H' (s1.trans s'), fun z t us H' m nt hx ht hu => ⟨rfl, ?_⟩⟩
  have sH : Same H H' := fun b o hb => m.out _ _ (s1 _ _ hb) (by simp; exact ne_of_none hb nx)
  exact hQ z x dx t us H' sH nx hx ht hu
theorem make_ok {ts : List Tm} (h : ∀ t ∈ ts, Tm.ok t) (h1 : 1 ≤ ts.length) (h3 : ts.length ≤ 3) : makeOk (.list (ts.map Tm.d)) = true ∧ makeOk (.tuple (ts.map Tm.d)) = true := by
  have e : ((decide (1 ≤ (ts.map Tm.d).length) && decide ((ts.map Tm.d).length ≤ 3)) && (ts.map Tm.d).all isTermD) = true := by
    rw [List.length_map, decide_eq_true h1, decide_eq_true h3, List.all_map]
    exact List.all_eq_true.mpr fun t ht => Tm.isTerm (h t ht)
  exact ⟨e, e⟩
def dueL (r : Pl → Row) (ts : List Tm) : List PyData := ts.map fun t => optD (t.at r)
theorem due_some {r : Pl → Row} : ∀ {ts : List Tm}, (∀ t ∈ ts, ∃ b, t.at r = some b) → dueL r ts = (ts.filterMap (Tm.at r)).map valD
  | [], _ => rfl
  | t :: r', h => by
    obtain ⟨b, hb⟩ := h t (by simp)
    have ih := due_some (ts := r') fun u hu => h u (by simp [hu])
    show optD (t.at r) :: dueL r r' = _
    rw [hb, ih, List.filterMap_cons, hb]
    rfl
theorem optD_pd (o : Option (Int × Int)) : Pd (optD o) := by
  cases o with
  | none => exact ⟨rfl, rfl, by decide⟩
  | some x => exact Pd.valD x
theorem due_pds (r : Pl → Row) (ts : List Tm) : Pds (dueL r ts) := fun d hd => by
  obtain ⟨t, _, rfl⟩ := List.mem_map.mp hd
  exact optD_pd _
theorem due_any (r : Pl → Row) (ts : List Tm) : ((dueL r ts).any fun z => PyData.eqv z .none) = ts.any fun t => (t.at r).isNone := by
  unfold dueL
  rw [List.any_map]
  congr 1
  funext t
  show PyData.eqv (optD (t.at r)) .none = _
  cases t.at r <;> rfl
theorem cutV_to (us : List V) (k : Nat) : cutV us none (some (k : Int)) = us.take k := by
  show (us.drop (HT.sIx us.length 0 none)).take (HT.sIx us.length us.length (some (k : Int)) - HT.sIx us.length 0 none) = us.take k
  rw [HT.sIx_none, HT.sIx_nat, List.drop_zero, Nat.sub_zero]
  by_cases h : k ≤ us.length
  · rw [Nat.min_eq_left h]
  · rw [Nat.min_eq_right (by omega), List.take_length, List.take_of_length_le (by omega)]
theorem DpAll.take {H : Hp} : ∀ {ds : List PyData} {vs : List V} (k : Nat), DpAll K H vs ds → DpAll K H (vs.take k) (ds.take k)
  | _, _, 0, _ => .nil
  | _, _, _ + 1, .nil => .nil
  | _, _, k + 1, .cons a b => .cons a (DpAll.take k b)
theorem tm_tup {H : Hp} {v : V} {t : Tm} (h : Dp K H v t.d) : ∃ a xs ds, v = .ref a ∧ SqT K H a xs ∧ t.d = .tuple ds ∧ DpAll K H xs ds ∧ ds.length = 2 := by
  cases t with
  | cell p c =>
    cases h with
    | tup h1 h2 => exact ⟨_, _, _, rfl, h1, rfl, h2, rfl⟩
  | val a b =>
    cases h with
    | tup h1 h2 => exact ⟨_, _, _, rfl, h1, rfl, h2, rfl⟩
theorem Rows3.md {H H' : Hp} {v : Pl → V} {r : Pl → Row} {S : List Addr} (h : Rows3 K H v r) (m : Md S H H') : Rows3 K H' v r := fun p => m.dp (rowD_pd (r p)).nl (h p)
end
end K05
namespace K05
open PySem PySem.Spec PyProof.Rows L2 He TL EL
section
variable {P : Program} {w : World} {K : PySem.W.Frag} {mg : Str → Option Value} {base : Heap}
/-! _law_makers -/
def spMakers (K : PySem.W.Frag) : Sp := fun vs H Q _ => ∃ p l rt o v r, vs = [.ref p, .ref rt, .int o] ∧ o.natAbs ≤ 1000000000000000000 ∧ Src H p l ∧ SqT K H rt (rwV v) ∧ Rows3 K H v r ∧ (∀ p, rowOk (r p)) ∧ ∀ H', Q (.bl true) H'
theorem d_makers (T : Txt K mg) : Dn P w K mg base CX0 6 "_law_makers" (spMakers K) := by
  obtain ⟨fd, F⟩ := T.f__law_makers
  have D__law_draw := d_draw (P := P) (w := w) (base := base) T
  have D__law_term := d_term (P := P) (w := w) (base := base) T
  have D__law_at := d_at (P := P) (w := w) (base := base) T
  have D__law_row_made := d_made (P := P) (w := w) (base := base) T
  have D_mk := d_mk (P := P) (w := w) (base := base) T
  have D_len := d_mk_len (P := P) (w := w) (base := base) T
  have D_terms := d_mk_terms (P := P) (w := w) (base := base) T
  have D_eq := d_mk_eq (P := P) (w := w) (base := base) T
  refine dnN T.g__law_makers F (fun _ _ _ _ _ _ us hl => match us, hl with | [_, _, _], _ => rfl) sc__law_makers (fun vs H Q E h => ?_) (fun cdv A outer s H vs Q E hr h => ?_)
  · obtain ⟨p, l, rt, o, v, r, rfl, _⟩ := h
    rfl
  · obtain ⟨p, l, rt, o, v, r, rfl, ho, S, hrt, hR, hro, hQ⟩ := h
    refine ⟨_, PSs.nox (pss_cons (ps_set (i := 3) sc__law_makers.nd rfl (.inl rfl) (pe_lst pa_nil))
      (pss_cons (ps_for PassesOwn.never rfl (pi_range1 (by rfl) T.z_range (pa_cons (pe_op op_add pe_int (cl D__law_draw (hr.mono (by decide)) (pa_cons (pv 0) (pa_cons pe_int pa_nil)))) pa_nil)) (pg_name (i := 4) sc__law_makers.nd rfl (.inl rfl))
      (pss_one (ps_expr (pe_bm PySem.F.plainAttrs_list PySem.F.slot_list_append PySem.F.type_list_append mt_append (pv 3) (pa_cons (cl D__law_term (hr.mono (by decide)) (pa_cons (pv 0) (pa_cons (pv 2) pa_nil))) pa_nil)))))
      (pss_cons (ps_set (i := 5) sc__law_makers.nd rfl (.inl rfl) (pe_callTy call_list_of (by rfl) T.z_list (by decide +kernel) (pa_cons (pv 3) pa_nil)))
      (pss_cons (ps_set (i := 6) sc__law_makers.nd rfl (.inl rfl) (pe_makeE T.m_Maker D_mk (hr.mono (by decide)) T.g_Maker pxq (pa_cons (pv 5) pa_nil)))
      (pss_cons (ps_expr (pe_bm PySem.F.plainAttrs_list PySem.F.slot_list_append PySem.F.type_list_append mt_append (pv 5) (pa_cons (pe_tup (pa_cons pe_str (pa_cons pe_int pa_nil))) pa_nil)))
      (pss_cons (ps_setLc (i := 7) (own := [("_law_term_here", 8)]) (tt := tYes) (by rfl) sc__law_makers.nd rfl rfl (sw_true rfl rfl rfl (by decide +kernel)) (pi_list (pv 3)) (blkOk_by (own := [("_law_term_here", 8)]) (N := ["_law_source", "_law_rows", "_law_offset", "_law_terms", "_law_turn", "_law_handed", "_law_maker", "_law_due_here", "_law_term_here", "_law_row_here", "_law_refused", "_law_odd"]) (sc := defScope s__law_makers) (by decide +kernel)) (fun _ _ _ _ _ => (pg_name (i := 8) sc__law_makers.nd rfl (.inl rfl))) (fun _ _ _ _ _ => pts_nil) (fun _ _ _ _ _ => (cl D__law_at (hr.mono (by decide)) (pa_cons (pv 8) (pa_cons (pv 1) pa_nil)))))
      (pss_cons (ps_set (i := 9) sc__law_makers.nd rfl (.inl rfl) (pe_callTy call_tuple_of (by rfl) T.z_tuple (by decide +kernel) (pa_cons (pv 7) pa_nil)))
      (pss_mid (ps_if (pt_cmpR (op_inD (u65 hr)) pe_non (pv 7) (by rfl)) (pss_one (ps_set (i := 9) sc__law_makers.nd rfl (.inl rfl) pe_non)) pss_nil)
      (pss_cons (ps_for PassesOwn.never rfl (pi_range1 (by rfl) T.z_range (pa_cons pe_int pa_nil)) (pg_name (i := 4) sc__law_makers.nd rfl (.inl rfl))
      (pss_one (ps_if (pt_cmpR (op_neD hr.units) (cl D__law_row_made (hr.mono (by decide)) (pa_cons (pv 6) (pa_cons (pv 1) pa_nil))) (pv 9) (nomark _)) (pss_one (ps_ret pe_bl)) pss_nil)))
      (pss_cons (ps_if (PW.pt (pw_or (pt_cmpR op_ne (pe_callB (call_lenO T.h_Maker___len__ D_len (hr.mono (by decide)) pass0) (by rfl) T.z_len (by decide +kernel) (pa_cons (pv 6) pa_nil)) (pe_callB call_len_seq (by rfl) T.z_len (by decide +kernel) (pa_cons (pv 3) pa_nil)) (nomark _)) (pw_or (pt_cmpR (op_neD hr.units) (pe_methE0 (pv 6) T.o_Maker.cl T.h_Maker_terms D_terms (hr.mono (by decide)) px0) (pe_callTy call_tuple_of (by rfl) T.z_tuple (by decide +kernel) (pa_cons (pv 3) pa_nil)) (nomark _)) (pw_or1 (pt_not (pt_val (pe_callB call_isi (by rfl) T.z_isinstance (by decide +kernel) (pa_cons (pe_methE0 (pv 6) T.o_Maker.cl T.h_Maker_terms D_terms (hr.mono (by decide)) px0) (pa_cons (pe_bltn (v := .ty "tuple") (by rfl) T.z_tuple (by decide +kernel) rfl) pa_nil))))))))) (pss_one (ps_ret pe_bl)) pss_nil)
      (pss_cons (ps_if (PW.pt (pw_or (pt_cmpR op_isnot_bl (pe_cmpR (op_cmpO (fun _ _ => rfl) T.u_Maker___eq__.1 T.u_Maker___eq__.2 D_eq (hr.mono (by decide)) pass0) (pv 6) (pe_makeE T.m_Maker D_mk (hr.mono (by decide)) T.g_Maker pxq (pa_cons (pe_callTy call_tuple_of (by rfl) T.z_tuple (by decide +kernel) (pa_cons (pv 3) pa_nil)) pa_nil)) (nomark _)) pe_bl (nomark _)) (pw_or1 (pt_cmpR op_isnot_bl (pe_cmpR (op_cmpO (fun _ _ => rfl) T.u_Maker___eq__.1 T.u_Maker___eq__.2 D_eq (hr.mono (by decide)) pass0) (pv 6) (pe_makeE T.m_Maker D_mk (hr.mono (by decide)) T.g_Maker pxq (pa_cons (pe_op op_cat (pe_slice sl_list (pv 3) po_none (po_some pe_int)) (pe_lst (pa_cons (pe_tup (pa_cons pe_str (pa_cons (pe_tup (pa_cons pe_int (pa_cons pe_int pa_nil))) pa_nil))) pa_nil))) pa_nil)) (nomark _)) pe_bl (nomark _))))) (pss_one (ps_ret pe_bl)) pss_nil)
      (pss_cons (ps_set (i := 10) sc__law_makers.nd rfl (.inl rfl) pe_int)
      (pss_cons (ps_for PassesOwn.never rfl (pi_list (pe_lst (pa_cons (pe_lst pa_nil) (pa_cons (pe_op op_cat (pe_op op_cat (pe_op op_cat (pv 3) (pv 3)) (pv 3)) (pv 3)) (pa_cons pe_non (pa_cons (pe_ix ix_list (pv 3) pe_int (fun _ _ => rfl)) (pa_cons (pe_lst (pa_cons pe_non pa_nil)) (pa_cons (pe_lst (pa_cons (pe_callTy call_list_of (by rfl) T.z_list (by decide +kernel) (pa_cons (pe_ix ix_list (pv 3) pe_int (fun _ _ => rfl)) pa_nil)) pa_nil)) (pa_cons pe_str pa_nil))))))))) (pg_name (i := 11) sc__law_makers.nd rfl (.inl rfl))
      (pss_one (ps_tryO (by rfl) (by rfl) ⟨rfl, by decide, .inl T.x_NoCell.g⟩ takes0 (fun W pn xe tk po => (pss_one (ps_expr (pe_makeE T.m_Maker D_mk (hr.mono (by decide)) T.g_Maker (pxx tk) (pa_cons (pv 11) pa_nil)))))
      (fun a oe cls d pn hz hf => (pss_one (ps_set (i := 10) sc__law_makers.nd rfl (.inl rfl) (pe_op op_add (pv 10) pe_int)))))))
      (pss_one (ps_ret (pe_cmpR op_eq (pv 10) pe_int (nomark _))))))))))))))))), ?_⟩
    refine ⟨(by show 0 ≤ sizeLine; decide), fun lt nlt => ?_⟩
    generalize eH1 : upd H lt _ = H1
    have s1 : Same H H1 := eH1 ▸ same_upd nlt
    have e1 : H1 lt = some _ := eH1 ▸ upd_same
    obtain ⟨xs, hp⟩ := S.lst
    have S1 := S.same s1
    have hp1 := s1 _ _ hp
    have ltp : lt ≠ p := Ne.symm (ne_of_none hp nlt)
    have ltl : lt ≠ l := by
      obtain ⟨xl, hl⟩ := S.lst2
      exact Ne.symm (ne_of_none hl nlt)
    refine ⟨_, rfl, p, l, 3, rfl, by decide, by decide, S1, fun k H2 k0 k1 S2 b2 => ?_⟩
    have m2 : Md [p] H1 H2 := b2.md hp1 rfl
    have e2 : H2 lt = some (.lst []) := b2 _ _ e1 ltp
    refine ⟨_, _, rfl, rfl, 1 + k, rfl, by omega, by omega, for_range (n := (1 + k).toNat) (fun i σ H' => (∃ o4, σ = [some (.ref p), some (.ref rt), some (.int o), some (.ref lt), o4, none, none, none, none, none, none, none]) ∧ ∃ us ts, H' lt = some (.lst us) ∧ DpAll K H' us (ts.map Tm.d) ∧ ts.length = i ∧ (∀ t ∈ ts, Tm.ok t ∧ Tm.sm t) ∧ Md [p, lt] H2 H' ∧ Src H' p l) ⟨⟨none, rfl⟩, [], [], e2, .nil, rfl, (fun t ht => by cases ht), .refl _ _, S2⟩ ?_ ?_⟩
    · rintro i σ H3 hi ⟨⟨o4, rfl⟩, us, ts, eu, au, el, hok, m3, S3⟩
      refine ⟨_, rfl, .inl ⟨rfl, _, SqL.of eu⟩, _, rfl, _, rfl, p, l, o, rfl, ho, S3, fun t q H4 m4 S4 d4 ok4 sm4 => ?_⟩
      have eu4 : H4 lt = some (.lst us) := m4.out _ _ eu (by simp [ltp])
      refine ⟨lt, _, _, rfl, rfl, eu4, (by rw [DpAll.length au, List.length_map, el]; exact Nat.lt_trans hi (Nat.lt_of_lt_of_le (by omega : (1 + k).toNat < 5) (by decide))), ?_⟩
      have mu : Md [p, lt] H4 (upd H4 lt (.lst (us ++ [.ref q]))) := Md.upd eu4 rfl (by simp)
      refine ⟨⟨_, rfl⟩, _, ts ++ [t], upd_same, ?_, by rw [List.length_append, el]; rfl, fun y hy => (List.mem_append.mp hy).elim (hok y) (fun z => by cases List.mem_singleton.mp z; exact ⟨ok4, sm4⟩), m3.trans ((m4.mono (by simp)).trans mu), Src.but (x := lt) but_upd S4 (Ne.symm ltp) (Ne.symm ltl)⟩
      rw [List.map_append]
      exact DpAll.snoc (mu.dp (Tm.pd t).1.nl d4) (mu.dpAll (pds_tm ts).1.nl (m4.dpAll (pds_tm ts).1.nl au))
    · rintro σ H3 ⟨⟨o4, rfl⟩, us, ts, eu, au, el, hok, m3, S3⟩
      have hrt3 : SqT K H3 rt (rwV v) := m3.sqT (m2.sqT (Same.seqT s1 hrt))
      have hR3 : Rows3 K H3 v r := ((hR.same s1).md m2).md m3
      clear m3 m2 b2 S3 S2 e2 hrt hR S1 S e1 s1
      have n1 : 1 ≤ ts.length := by rw [el]; omega
      have n3 : ts.length ≤ 3 := by rw [el]; omega
      have lu : us.length = ts.length := by rw [DpAll.length au, List.length_map]
      have tok : ∀ t ∈ ts, Tm.ok t := fun t ht => (hok t ht).1
      obtain ⟨mok1, mok2⟩ := make_ok tok n1 n3
      refine ⟨_, rfl, _, _, rfl, .inl (SqL.of eu), fun hl nhl => ?_⟩
      generalize eH4 : upd H3 hl _ = H4
      have s4 : Same H3 H4 := eH4 ▸ same_upd nhl
      have e4 : H4 hl = some _ := eH4 ▸ upd_same
      refine ⟨_, rfl, ?_⟩
      refine mkMk (d := .list (ts.map Tm.d)) (.lst (SqL.of e4) (DpAll.same s4 au)) (by show (ts.map Tm.d).length ≤ 1000; rw [List.length_map]; omega) (fun z => by rw [mok1] at z; cases z) fun _ mk dmk tm ums H5 s5 nmk hmk htm hum => ?_
      have M5 : MkAt K H5 mk dmk tm ts := ⟨hmk, ⟨ums, htm, hum⟩, tok⟩
      refine ⟨_, rfl, .inl ⟨rfl, _, SqL.of (s5 _ _ e4)⟩, (by show 2 ≤ sizeLine; decide), fun tt ntt => ?_⟩
      generalize eH6 : upd H5 tt _ = H6
      have s6 : Same H5 H6 := eH6 ▸ same_upd ntt
      have e6 : H6 tt = some _ := eH6 ▸ upd_same
      have e46 : H6 hl = some (.lst us) := s6 _ _ (s5 _ _ e4)
      refine ⟨hl, _, _, rfl, rfl, e46, (by rw [lu]; exact Nat.lt_of_le_of_lt n3 (by decide)), ?_⟩
      generalize eH7 : upd H6 hl _ = H7
      have m7 : Md [hl] H6 H7 := eH7 ▸ Md.upd e46 rfl (by simp)
      have s37 : Same H3 H7 := (Md.newM (S := []) m7 (Md.of (s4.trans (s5.trans s6))) nhl).same
      have mkhl : mk ≠ hl := fun z => by rw [z, e4] at nmk; cases nmk
      have M7 : MkAt K H7 mk dmk tm ts := (M5.same s6).md m7 (by simp [mkhl])
      have eu7 := s37 _ _ eu
      have au7 := DpAll.same s37 au
      have hrt7 := Same.seqT s37 hrt3
      have hR7 := hR3.same s37
      refine ⟨_, rfl, lt, rfl, ⟨_, SqL.of eu7⟩, fun D nD => ?_⟩
      have ltD : lt ≠ D := ne_of_none eu7 nD
      have sD : Same H7 (upd H7 D (.lst [])) := same_upd nD
      refine lc_it (walk_list (xs := us)) (fun i H' => Md [D] (upd H7 D (.lst [])) H' ∧ ∃ ys, H' D = some (.lst ys) ∧ DpAll K H' ys (dueL r (ts.take i))) ⟨.refl _ _, [], upd_same, .nil⟩ (fun i H' _ h => SqL.of (h.1.out _ _ (sD _ _ eu7) (by simp [ltD]))) ?_ ?_
      · rintro i xv H' H'' hi ⟨m, ys, ey, ay⟩ ⟨rfl, hx⟩
        obtain ⟨d, hd, hdp⟩ := DpAll.get au7 hx
        obtain ⟨t, ht, rfl⟩ := getM hd
        refine ⟨rfl, tYes_of ?_⟩
        have lys : ys.length < sizeLine := by
          rw [DpAll.length ay]
          show (dueL r (ts.take i)).length < sizeLine
          unfold dueL
          rw [List.length_map, List.length_take]
          exact Nat.lt_of_le_of_lt (Nat.le_trans (Nat.min_le_right _ _) n3) (by decide)
        have go : ∀ y H4, Same H'' H4 → Dp K H4 y (optD (t.at r)) → ∃ acc, H4 D = some (.lst acc) ∧ acc.length < sizeLine ∧ Md [D] (upd H7 D (.lst [])) (upd H4 D (.lst (acc ++ [y]))) ∧ ∃ ys, upd H4 D (.lst (acc ++ [y])) D = some (.lst ys) ∧ DpAll K (upd H4 D (.lst (acc ++ [y]))) ys (dueL r (ts.take (i + 1))) := fun y H4 s4' hy => by
          have mu : Md [D] H4 (upd H4 D (.lst (ys ++ [y]))) := Md.upd (s4' _ _ ey) rfl (by simp)
          refine ⟨ys, s4' _ _ ey, lys, m.trans ((Md.of s4').trans mu), _, upd_same, ?_⟩
          rw [tk1 ht]
          unfold dueL
          rw [List.map_append]
          exact DpAll.snoc (mu.dp (optD_pd _).nl hy) (mu.dpAll (due_pds r (ts.take i)).nl (DpAll.same s4' ay))
        refine ⟨_, rfl, _, rfl, xv, rt, t, v, r, rfl, m.dp (Tm.pd t).1.nl (Dp.same sD hdp), m.sqT (Same.seqT sD hrt7), (hR7.same sD).md m, fun z H4 s4' => go .non H4 s4' (by rw [z]; exact .non), fun x y H4 z s4' hy => go y H4 s4' (by rw [z]; exact hy)⟩
      · rintro H8 ⟨m8, ys, ey, ay⟩
        rw [lu, List.take_length] at ay
        have s78 : Same H7 H8 := (Md.newM (S := []) m8 (Md.of sD) nD).same
        have pdD := due_pds r ts
        refine ⟨_, rfl, _, _, rfl, .inl ⟨SqL.of ey, fun q nq => ?_⟩⟩
        generalize eH9 : upd H8 q _ = H9
        have s9 : Same H8 H9 := eH9 ▸ same_upd nq
        have e9 : H9 q = some _ := eH9 ▸ upd_same
        have s79 := s78.trans s9
        have ey9 := s9 _ _ ey
        have ay9 := DpAll.same s9 ay
        have M9 := M7.same s79
        have hrt9 := Same.seqT s79 hrt7
        have hR9 := hR7.same s79
        have eu9 := s79 _ _ eu7
        have au9 := DpAll.same s79 au7
        refine ⟨fun σ' H' => H9 = H' ∧ ∃ y o4, σ' = [some (.ref p), some (.ref rt), some (.int o), some (.ref lt), o4, some (.ref hl), some (.ref mk), some (.ref D), none, some y, none, none] ∧ Dp K H9 y (rowD (mkO r ts)), ?_, ?_⟩
        · refine ⟨_, rfl, .none, _, .non, .lst (SqL.of ey9) ay9, rfl, pdD.shaped, _, rfl, ?_⟩
          rw [due_any]
          cases hn : (ts.any fun t => (t.at r).isNone) with
          | true =>
            refine iteT ⟨rfl, .non, _, rfl, ?_⟩
            rw [show mkO r ts = none from if_pos hn]
            exact .non
          | false =>
            refine iteF ⟨rfl, _, _, rfl, ?_⟩
            have hall : ∀ t ∈ ts, ∃ b, t.at r = some b := fun t ht => by
              cases hb : t.at r with
              | some b => exact ⟨b, rfl⟩
              | none =>
                have e : (ts.any fun t => (t.at r).isNone) = true := List.any_eq_true.mpr ⟨t, ht, by show (t.at r).isNone = true; rw [hb]; rfl⟩
                rw [hn] at e
                cases e
            rw [show mkO r ts = some (ts.filterMap (Tm.at r)) from if_neg (by rw [hn]; decide)]
            rw [due_some hall] at ay9
            exact .tup (SqT.of e9) ay9
        · rintro σ' H' ⟨rfl, y, o4', rfl, hy⟩
          have pdr := rowD_pd (mkO r ts)
          refine ⟨2, rfl, by decide, by decide, for_range (n := 2) (fun i σ H' => Same H9 H' ∧ ∃ o4, σ = [some (.ref p), some (.ref rt), some (.int o), some (.ref lt), o4, some (.ref hl), some (.ref mk), some (.ref D), none, some y, none, none]) ⟨.refl _, _, rfl⟩ ?_ ?_⟩
          · rintro i σ H' hi ⟨s', o4, rfl⟩
            refine ⟨_, rfl, _, rfl, mk, dmk, tm, ts, rt, v, r, rfl, M9.same s', by omega, Same.seqT s' hrt9, hR9.same s', fun y2 H2 s2 hy2 => ?_⟩
            refine ⟨_, rfl, _, _, hy2, Dp.same (s'.trans s2) hy, pdr.shaped, pdr.shaped, _, rfl, ?_⟩
            rw [SeqAt.eqv_refl _ pdr.cl]
            exact iteF ⟨s'.trans s2, _, rfl⟩
          · rintro σ HA ⟨sA, o4, rfl⟩
            have MA := M9.same sA
            have euA := sA _ _ eu9
            have auA := DpAll.same sA au9
            refine ⟨_, rfl, _, _, _, rfl, MA.hx, mk, dmk, tm, ts, rfl, MA, _, rfl, ⟨by omega, by omega⟩, ?_⟩
            refine ⟨_, rfl, _, _, rfl, .inl (SqL.of euA), rfl, _, rfl, ?_⟩
            rw [lu]
            refine if_neg_of (by show (!decide (V.int (ts.length : Nat) = V.int (ts.length : Nat))) = false; rw [decide_eq_true rfl]; rfl) ?_
            refine ⟨_, rfl, _, _, _, rfl, MA.hx, mkF_no (by decide), mk, dmk, tm, ts, rfl, MA, ?_⟩
            refine ⟨_, rfl, _, _, rfl, .inl ⟨SqL.of euA, fun q2 nq2 => ?_⟩⟩
            generalize eHB : upd HA q2 _ = HB
            have sB : Same HA HB := eHB ▸ same_upd nq2
            have eB : HB q2 = some _ := eHB ▸ upd_same
            have MB := MA.same sB
            have pdt := pd_tms ts
            refine ⟨_, _, MB.dp, .tup (SqT.of eB) (DpAll.same sB auA), pdt.shaped, pdt.shaped, _, rfl, ?_⟩
            rw [SeqAt.eqv_refl _ pdt.cl]
            refine iteF ?_
            refine ⟨_, rfl, _, _, _, rfl, MB.hx, mkF_no (by decide), mk, dmk, tm, ts, rfl, MB, ?_⟩
            refine ⟨_, _, _, _, _, rfl, .ty _, Dp.ty MB.dp, kit_d K .tup (.tuple (ts.map Tm.d)), _, rfl, iteF ?_⟩
            -- equal to one of the same terms
            have euB := sB _ _ euA
            have auB := DpAll.same sB auA
            refine ⟨_, rfl, _, rfl, _, _, rfl, .inl ⟨SqL.of euB, fun q3 nq3 => ?_⟩⟩
            generalize eHC : upd HB q3 _ = HC
            have sC : Same HB HC := eHC ▸ same_upd nq3
            have eC : HC q3 = some _ := eHC ▸ upd_same
            have MC := MB.same sC
            refine mkMk (d := .tuple (ts.map Tm.d)) (.tup (SqT.of eC) (DpAll.same sC auB)) (by show (ts.map Tm.d).length ≤ 1000; rw [List.length_map]; omega) (fun z => by rw [mok2] at z; cases z) fun _ m2 dm2 tm2 u2 HD sD2 _ hm2 ht2 hu2 => ?_
            have MD := MC.same sD2
            refine ⟨mk, dmk, _, _, rfl, MD.hx, T.o_Maker.ty hm2, T.nf_Maker, mk, dmk, tm, ts, m2, dm2, tm2, ts, rfl, MD, ⟨hm2, ⟨u2, ht2, hu2⟩, tok⟩, _, _, rfl, rfl, _, rfl, ?_⟩
            refine if_neg_of (by rw [decide_eq_true (rfl : ts = ts)]; rfl) ?_
            -- unlike one with another term
            have s3D : Same HA HD := sB.trans (sC.trans sD2)
            have euD := s3D _ _ euA
            have auD := DpAll.same s3D auA
            refine ⟨_, rfl, _, rfl, _, rfl, _, _, rfl, SqL.of euD, fun c1 nc1 => ?_⟩
            rw [show cutV us none (some 2) = us.take 2 from cutV_to us 2]
            generalize eHE : upd HD c1 _ = HE
            have sE : Same HD HE := eHE ▸ same_upd nc1
            have eE : HE c1 = some _ := eHE ▸ upd_same
            refine ⟨(by show 2 ≤ sizeLine; decide), fun c2 nc2 => ?_⟩
            generalize eHF : upd HE c2 _ = HF
            have sF : Same HE HF := eHF ▸ same_upd nc2
            have eF : HF c2 = some _ := eHF ▸ upd_same
            refine ⟨(by show 2 ≤ sizeLine; decide), fun c3 nc3 => ?_⟩
            generalize eHG : upd HF c3 _ = HG
            have sG : Same HF HG := eHG ▸ same_upd nc3
            have eG : HG c3 = some _ := eHG ▸ upd_same
            refine ⟨(by show 1 ≤ sizeLine; decide), fun c4 nc4 => ?_⟩
            generalize eHI : upd HG c4 _ = HI
            have sI : Same HG HI := eHI ▸ same_upd nc4
            have eI : HI c4 = some _ := eHI ▸ upd_same
            have sEI : Same HE HI := sF.trans (sG.trans sI)
            refine ⟨c1, c4, _, _, rfl, rfl, sEI _ _ eE, eI, (by rw [List.length_take]; exact Nat.le_trans (Nat.add_le_add (Nat.min_le_left _ _) (Nat.le_refl 1)) (by decide)), fun c5 nc5 => ?_⟩
            generalize eHJ : upd HI c5 _ = HJ
            have sJ : Same HI HJ := eHJ ▸ same_upd nc5
            have eJ : HJ c5 = some _ := eHJ ▸ upd_same
            have dv17 : Dp K HJ (.ref c3) (Tm.val 1 7).d := .tup (SqT.of (sJ _ _ (sI _ _ eG))) (.cons (.str _) (.cons (.tup (SqT.of (sJ _ _ (sI _ _ (sG _ _ eF)))) (.cons (.int _) (.cons (.int _) .nil))) .nil))
            have sDJ : Same HD HJ := sE.trans (sEI.trans sJ)
            have ok2 : ∀ t ∈ ts.take 2 ++ [Tm.val 1 7], Tm.ok t := fun t ht => (List.mem_append.mp ht).elim (fun z => tok t (List.mem_of_mem_take z)) (fun z => by
              cases List.mem_singleton.mp z
              exact ⟨⟨by decide, by decide +kernel⟩, by show (1 : Int).natAbs < 2 ^ 70; decide, by show (7 : Int).natAbs < 2 ^ 70; decide⟩)
            have l2 : (ts.take 2 ++ [Tm.val 1 7]).length ≤ 3 := by rw [List.length_append, List.length_take]; show min 2 ts.length + 1 ≤ 3; omega
            obtain ⟨mk2, _⟩ := make_ok ok2 (by rw [List.length_append]; exact Nat.le_add_left 1 _) l2
            have d2 : DpAll K HJ (us.take 2 ++ [.ref c3]) ((ts.take 2 ++ [Tm.val 1 7]).map Tm.d) := by
              rw [List.map_append, List.map_take]
              exact DpAll.snoc dv17 (DpAll.take 2 (DpAll.same sDJ auD))
            refine mkMk (d := .list ((ts.take 2 ++ [Tm.val 1 7]).map Tm.d)) (.lst (SqL.of eJ) d2) (by show ((ts.take 2 ++ [Tm.val 1 7]).map Tm.d).length ≤ 1000; rw [List.length_map]; omega) (fun z => by rw [mk2] at z; cases z) fun _ m3 dm3 tm3 u3 HK sK _ hm3 ht3 hu3 => ?_
            have MK := (MD.same sDJ).same sK
            refine ⟨mk, dmk, _, _, rfl, MK.hx, T.o_Maker.ty hm3, T.nf_Maker, mk, dmk, tm, ts, m3, dm3, tm3, ts.take 2 ++ [Tm.val 1 7], rfl, MK, ⟨hm3, ⟨u3, ht3, hu3⟩, ok2⟩, _, _, rfl, rfl, _, rfl, ?_⟩
            have hne : ts ≠ ts.take 2 ++ [Tm.val 1 7] := fun z => by
              have : Tm.val 1 7 ∈ ts := by rw [z]; simp
              have := (hok _ this).2
              exact absurd (show (7 : Int) ≤ 2 from this) (by decide)
            refine if_neg_of (by rw [decide_eq_false hne]; rfl) ?_
            -- odd things
            have sAK : Same HA HK := s3D.trans (sDJ.trans sK)
            have euK := sAK _ _ euA
            have auK := DpAll.same sAK auA
            clear hm3 ht3 hu3 hm2 ht2 hu2 d2 dv17 MD MC eJ eI eG eF eE eC eB
            obtain ⟨t0, ht0⟩ : ∃ t0, ts[0]? = some t0 := ⟨ts[0], List.getElem?_eq_getElem (by omega)⟩
            have hd0 : (ts.map Tm.d)[0]? = some t0.d := by rw [List.getElem?_map, ht0]; rfl
            obtain ⟨u0, hu0, hdp0⟩ := DpAll.at auK hd0
            obtain ⟨a0, x0, ds0, rfl, hS0, ed0, hA0, l0⟩ := tm_tup hdp0
            refine ⟨(by show 0 ≤ sizeLine; decide), fun b0 nb0 => ?_⟩
            generalize eJ1 : upd HK b0 _ = J1
            have t1 : Same HK J1 := eJ1 ▸ same_upd nb0
            have g1 : J1 b0 = some _ := eJ1 ▸ upd_same
            refine ⟨_, rfl, _, rfl, lt, lt, _, _, rfl, rfl, t1 _ _ euK, t1 _ _ euK, (by rw [lu]; exact Nat.le_trans (Nat.add_le_add n3 n3) (by decide)), fun b1 nb1 => ?_⟩
            generalize eJ2 : upd J1 b1 _ = J2
            have t2 : Same J1 J2 := eJ2 ▸ same_upd nb1
            have g2 : J2 b1 = some _ := eJ2 ▸ upd_same
            have k2 := t1.trans t2
            refine ⟨_, rfl, b1, lt, _, _, rfl, rfl, g2, k2 _ _ euK, (by rw [List.length_append, lu]; exact Nat.le_trans (Nat.add_le_add (Nat.add_le_add n3 n3) n3) (by decide)), fun b2 nb2 => ?_⟩
            generalize eJ3 : upd J2 b2 _ = J3
            have t3 : Same J2 J3 := eJ3 ▸ same_upd nb2
            have g3 : J3 b2 = some _ := eJ3 ▸ upd_same
            have k3 := k2.trans t3
            refine ⟨_, rfl, b2, lt, _, _, rfl, rfl, g3, k3 _ _ euK, (by rw [List.length_append, List.length_append, lu]; exact Nat.le_trans (Nat.add_le_add (Nat.add_le_add (Nat.add_le_add n3 n3) n3) n3) (by decide)), fun b3 nb3 => ?_⟩
            generalize eJ4 : upd J3 b3 _ = J4
            have t4 : Same J3 J4 := eJ4 ▸ same_upd nb3
            have g4 : J4 b3 = some _ := eJ4 ▸ upd_same
            have k4 := k3.trans t4
            refine ⟨_, rfl, _, _, 0, _, rfl, rfl, SqL.of (k4 _ _ euK), atI_nat hu0, ?_⟩
            refine ⟨(by show 1 ≤ sizeLine; decide), fun b5 nb5 => ?_⟩
            generalize eJ5 : upd J4 b5 _ = J5
            have t5 : Same J4 J5 := eJ5 ▸ same_upd nb5
            have g5 : J5 b5 = some _ := eJ5 ▸ upd_same
            have k5 := k4.trans t5
            refine ⟨_, rfl, _, _, 0, _, rfl, rfl, SqL.of (k5 _ _ euK), atI_nat hu0, _, _, rfl, .inr (Same.seqT k5 hS0), fun b6 nb6 => ?_⟩
            generalize eJ6 : upd J5 b6 _ = J6
            have t6 : Same J5 J6 := eJ6 ▸ same_upd nb6
            have g6 : J6 b6 = some _ := eJ6 ▸ upd_same
            refine ⟨(by show 1 ≤ sizeLine; decide), fun b7 nb7 => ?_⟩
            generalize eJ7 : upd J6 b7 _ = J7
            have t7 : Same J6 J7 := eJ7 ▸ same_upd nb7
            have g7 : J7 b7 = some _ := eJ7 ▸ upd_same
            refine ⟨(by show 7 ≤ sizeLine; decide), fun b8 nb8 => ?_⟩
            generalize eJ8 : upd J7 b8 _ = J8
            have t8 : Same J7 J8 := eJ8 ▸ same_upd nb8
            have g8 : J8 b8 = some _ := eJ8 ▸ upd_same
            have k78 := t7.trans t8
            have k68 := t6.trans k78
            have k48 := t5.trans k68
            have k38 := t4.trans k48
            have k18 := t2.trans (t3.trans k38)
            have kK8 := t1.trans k18
            have au8 := DpAll.same kK8 auK
            have dd : DpAll K J8 [.ref b0, .ref b3, .non, .ref a0, .ref b5, .ref b7, .str "old"] [.list [], .list ((ts ++ ts ++ ts ++ ts).map Tm.d), .none, t0.d, .list [.none], .list [.list ds0], .str "old"] := by
              refine .cons (.lst (SqL.of (k18 _ _ g1)) .nil) (.cons (.lst (SqL.of (k48 _ _ g4)) ?_) (.cons .non (.cons (Dp.same kK8 hdp0) (.cons (.lst (SqL.of (k68 _ _ g5)) (.cons .non .nil)) (.cons (.lst (SqL.of (t8 _ _ g7)) (.cons (.lst (SqL.of (k78 _ _ g6)) (DpAll.same kK8 hA0)) .nil)) (.cons (.str _) .nil))))))
              rw [List.map_append, List.map_append, List.map_append]
              exact DpAll.app (DpAll.app (DpAll.app au8 au8) au8) au8
            have bad : ∀ d ∈ [PyData.list [], .list ((ts ++ ts ++ ts ++ ts).map Tm.d), .none, t0.d, .list [.none], .list [.list ds0], .str "old"], makeOk d = false ∧ (itemsD d).length ≤ 1000 := by
              intro d hd
              simp only [List.mem_cons, List.not_mem_nil, or_false] at hd
              rcases hd with rfl | rfl | rfl | rfl | rfl | rfl | rfl
              · exact ⟨rfl, by decide⟩
              · have hl : ((ts ++ ts ++ ts ++ ts).map Tm.d).length = ts.length + ts.length + ts.length + ts.length := by rw [List.length_map, List.length_append, List.length_append, List.length_append]
                refine ⟨?_, ?_⟩
                · show ((decide (1 ≤ ((ts ++ ts ++ ts ++ ts).map Tm.d).length) && decide (((ts ++ ts ++ ts ++ ts).map Tm.d).length ≤ 3)) && ((ts ++ ts ++ ts ++ ts).map Tm.d).all isTermD) = false
                  rw [hl, decide_eq_false (show ¬ ts.length + ts.length + ts.length + ts.length ≤ 3 by omega), Bool.and_false]
                  rfl
                · show ((ts ++ ts ++ ts ++ ts).map Tm.d).length ≤ 1000
                  rw [hl]
                  omega
              · exact ⟨rfl, by decide⟩
              · refine ⟨?_, ?_⟩
                · cases t0 <;> rfl
                · cases t0 <;> (show 2 ≤ 1000; decide)
              · exact ⟨rfl, by decide⟩
              · exact ⟨rfl, by show 1 ≤ 1000; decide⟩
              · exact ⟨rfl, by decide⟩
            refine ⟨b8, rfl, ⟨_, SqL.of g8⟩, for_list (K := K) (a := b8) (xs := [.ref b0, .ref b3, .non, .ref a0, .ref b5, .ref b7, .str "old"]) (fun i σ H' => Same J8 H' ∧ ∃ (n : Int) (o11 : Option V), n = (i : Nat) ∧ σ = [some (.ref p), some (.ref rt), some (.int o), some (.ref lt), o4, some (.ref hl), some (.ref mk), some (.ref D), none, some y, some (.int n), o11]) ⟨.refl _, 0, none, rfl, rfl⟩ (fun i σ H' _ h => SqL.of (h.1 _ _ g8)) ?_ ?_⟩
            · rintro i xv σ H' hg ⟨s', n, o11, en, rfl⟩
              obtain ⟨d, hd, hdp⟩ := DpAll.get dd hg
              obtain ⟨b1', b2'⟩ := bad d (List.mem_of_getElem? hd)
              refine ⟨_, rfl, ?_⟩
              refine mkMk (d := d) (Dp.same s' hdp) b2' (fun _ H2 s2 => ?_) (fun z => by rw [b1'] at z; cases z)
              refine ⟨true, T.e_NoCell_NoCell, fun _ a _ => ?_, fun z => by cases z⟩
              exact ⟨_, rfl, _, _, rfl, rfl, s'.trans s2, _, _, (by rw [en]; rfl), rfl⟩
            · rintro σ H' ⟨s', n, o11, en, rfl⟩
              subst en
              exact ⟨_, rfl, rfl, hQ H'⟩
end
end K05
namespace K05
open PySem PySem.Spec PyProof.Rows L2 He TL EL
theorem hold_mem {r : Pl → Row} {as bs : List At} (h : ∀ a, a ∈ as ↔ a ∈ bs) : holdO r as = holdO r bs := by
  unfold holdO
  have e1 : (as.any fun a => (a.at r).isNone) = bs.any fun a => (a.at r).isNone := by
    rw [Bool.eq_iff_iff, List.any_eq_true, List.any_eq_true]
    exact ⟨fun ⟨a, ha, e⟩ => ⟨a, (h a).mp ha, e⟩, fun ⟨a, ha, e⟩ => ⟨a, (h a).mpr ha, e⟩⟩
  have e2 : (as.all fun a => decide (a.at r = some true)) = bs.all fun a => decide (a.at r = some true) := by
    rw [Bool.eq_iff_iff, List.all_eq_true, List.all_eq_true]
    exact ⟨fun z a ha => z a ((h a).mpr ha), fun z a ha => z a ((h a).mp ha)⟩
  rw [e1, e2]
theorem hold_dd (r : Pl → Row) (as : List At) : holdO r (dd as) = holdO r as := hold_mem (dd_mem as)
theorem hold_rev (r : Pl → Row) (as : List At) : holdO r (dd as.reverse) = holdO r as := (hold_dd r _).trans (hold_mem fun a => List.mem_reverse)
theorem hold_one (r : Pl → Row) (a : At) : holdO r [a] = a.at r := by
  unfold holdO
  rw [List.any_cons, List.any_nil, Bool.or_false, List.all_cons, List.all_nil, Bool.and_true]
  cases h : a.at r with
  | none => rfl
  | some b => cases b <;> rfl
theorem at_neg (r : Pl → Row) (a : At) : a.neg.at r = (a.at r).map (fun b => !b) := by
  obtain ⟨g, x, y⟩ := a
  cases g <;> (unfold At.neg At.at; dsimp only; cases x.at r <;> cases y.at r <;> first | rfl | skip)
  all_goals (simp [Sg.holds])
def optBD : Option Bool → PyData
  | none => .none
  | some b => .bool b
theorem optB_pd (o : Option Bool) : Pd (optBD o) := by cases o <;> exact ⟨rfl, rfl, by show 0 ≤ 16; decide⟩
theorem optB_dp {K : PySem.W.Frag} {H : Hp} (o : Option Bool) : Dp K H (optB o) (optBD o) := by
  cases o with
  | none => exact .non
  | some b => exact .bl b
theorem optB_eqv (a b : Option Bool) : PyData.eqv (optBD a) (optBD b) = decide (a = b) := by
  cases a with
  | none => cases b <;> rfl
  | some x =>
    cases b with
    | none => rfl
    | some y => cases x <;> cases y <;> rfl
theorem optB_non (o : Option Bool) : decide (optB o = V.non) = o.isNone := by cases o <;> rfl
section
variable {P : Program} {w : World} {K : PySem.W.Frag} {mg : Str → Option Value} {base : Heap}
theorem DpAll.rev {H : Hp} : ∀ {ds : List PyData} {vs : List V}, DpAll K H vs ds → DpAll K H vs.reverse ds.reverse
  | _, _, .nil => .nil
  | _, _, .cons a b => by
    rw [List.reverse_cons, List.reverse_cons]
    exact DpAll.snoc a (DpAll.rev b)
def fn3 {α : Type} (a b c : α) : Pl → α
  | .old => a
  | .first => b
  | .second => c
def spLaw (K : PySem.W.Frag) : Sp := fun vs H Q _ => ∃ (a : Addr) (ns : List Int), vs = [.ref a] ∧ SqL K H a (ns.map V.int) ∧ ns.length ≤ 63 ∧ ∀ H', Q (.bl true) H'
theorem ok_law {fd : FuncData} (hN : NegD K w) (T : Txt K mg) (F : FunD K "law" "law" (defArgs s_law) (defBody s_law) (defScope s_law) ([] : List V) [] (ga K "law") fd) : FnOk P w K mg base CX0 8 (ga K "law") fd ["_law_script"] (spLaw K) := by
  have D__law_begin := d_begin (P := P) (w := w) (base := base) T
  have D__law_draw := d_draw (P := P) (w := w) (base := base) T
  have D__law_row := d_row (P := P) (w := w) (base := base) T
  have D__law_term := d_term (P := P) (w := w) (base := base) T
  have D__law_due := d_ldue (P := P) (w := w) (base := base) T
  have D__law_held := d_held (P := P) (w := w) (base := base) T
  have D__law_makers := d_makers (P := P) (w := w) (base := base) T
  have D_cd := d_cd1 (P := P) (w := w) (base := base) T
  have D_cd0 := d_cd0 (P := P) (w := w) (base := base) T
  have D_and := d_and (P := P) (w := w) (base := base) T
  have D_inv := d_inv (P := P) (w := w) (base := base) hN T
  refine F.ok sc_law (fun vs H Q E h => ?_) (fun cdv A outer s H vs Q E hr h => ?_)
  · obtain ⟨a, ns, rfl, _⟩ := h
    rfl
  · obtain ⟨a, ns, rfl, hS, _, q⟩ := h
    refine ⟨_, PSs.nox (pss_cons (ps_set (i := 1) sc_law.nd rfl (.inl rfl) (cl D__law_begin (hr.mono (by decide)) (pa_cons (pv 0) pa_nil)))
      (pss_cons (ps_set (i := 2) sc_law.nd rfl (.inl rfl) pe_int)
      (pss_mid (ps_if (pt_cmpR op_eq (cl D__law_draw (hr.mono (by decide)) (pa_cons (pv 1) (pa_cons pe_int pa_nil))) pe_int (nomark _)) (pss_one (ps_set (i := 2) sc_law.nd rfl (.inl rfl) (pe_op op_sub (cl D__law_draw (hr.mono (by decide)) (pa_cons (pv 1) (pa_cons (pe_op op_pow pe_int pe_int) pa_nil))) (pe_op op_mulW pe_int (pe_op op_pow pe_int pe_int))))) pss_nil)
      (pss_cons (ps_set (i := 3) sc_law.nd rfl (.inl rfl) (pe_tup (pa_cons (cl D__law_row (hr.mono (by decide)) (pa_cons (pv 1) (pa_cons (pv 2) pa_nil))) (pa_cons (cl D__law_row (hr.mono (by decide)) (pa_cons (pv 1) (pa_cons (pv 2) pa_nil))) (pa_cons (cl D__law_row (hr.mono (by decide)) (pa_cons (pv 1) (pa_cons (pv 2) pa_nil))) pa_nil)))))
      (pss_cons (ps_set (i := 4) sc_law.nd rfl (.inl rfl) (pe_lst pa_nil))
      (pss_cons (ps_for PassesOwn.never rfl (pi_range1 (by rfl) T.z_range (pa_cons (cl D__law_draw (hr.mono (by decide)) (pa_cons (pv 1) (pa_cons pe_int pa_nil))) pa_nil)) (pg_name (i := 5) sc_law.nd rfl (.inl rfl))
      (pss_cons (ps_set (i := 6) sc_law.nd rfl (.inl rfl) (pe_ix ix_list (pe_lst (pa_cons pe_str (pa_cons pe_str (pa_cons pe_str (pa_cons pe_str pa_nil))))) (cl D__law_draw (hr.mono (by decide)) (pa_cons (pv 1) (pa_cons pe_int pa_nil))) (fun _ _ => rfl)))
      (pss_cons (ps_set (i := 7) sc_law.nd rfl (.inl rfl) (pe_tup (pa_cons (pv 6) (pa_cons (cl D__law_term (hr.mono (by decide)) (pa_cons (pv 1) (pa_cons (pv 2) pa_nil))) (pa_cons (cl D__law_term (hr.mono (by decide)) (pa_cons (pv 1) (pa_cons (pv 2) pa_nil))) pa_nil)))))
      (pss_mid (ps_if (PW.pt (pw_and (pt_cmpR op_eq (cl D__law_draw (hr.mono (by decide)) (pa_cons (pv 1) (pa_cons pe_int pa_nil))) pe_int (nomark _)) (pw_and1 (pt_cmpR op_isBN (cl D__law_due (hr.mono (by decide)) (pa_cons (pe_lst (pa_cons (pv 7) pa_nil)) (pa_cons (pv 3) pa_nil))) pe_bl (nomark _))))) (pss_one (ps_set (i := 7) sc_law.nd rfl (.inl rfl) (pe_tup (pa_cons (pv 6) (pa_cons (pe_ix ix_tup (pv 7) pe_int (fun _ _ => rfl)) (pa_cons (pe_ix ix_tup (pv 7) pe_int (fun _ _ => rfl)) pa_nil)))))) pss_nil)
      (pss_one (ps_expr (pe_bm PySem.F.plainAttrs_list PySem.F.slot_list_append PySem.F.type_list_append mt_append (pv 4) (pa_cons (pv 7) pa_nil))))))))
      (pss_cons (ps_set (i := 8) sc_law.nd rfl (.inl rfl) (cl D__law_due (hr.mono (by decide)) (pa_cons (pv 4) (pa_cons (pv 3) pa_nil))))
      (pss_cons (ps_set (i := 9) sc_law.nd rfl (.inl rfl) (pe_makeE T.m_Conditions D_cd (hr.mono (by decide)) T.g_Conditions pxq (pa_cons (pv 4) pa_nil)))
      (pss_cons (ps_if (PW.pt (pw_or (pt_cmpR (op_neD hr.units) (cl D__law_held (hr.mono (by decide)) (pa_cons (pv 9) (pa_cons (pv 3) pa_nil))) (pv 8) (nomark _)) (pw_or1 (pt_cmpR (op_neD hr.units) (cl D__law_held (hr.mono (by decide)) (pa_cons (pe_makeE T.m_Conditions D_cd (hr.mono (by decide)) T.g_Conditions pxq (pa_cons (pe_callTy call_list_of (by rfl) T.z_list (by decide +kernel) (pa_cons (pe_revL (pv 4)) pa_nil)) pa_nil)) (pa_cons (pv 3) pa_nil))) (pv 8) (nomark _))))) (pss_one (ps_ret pe_bl)) pss_nil)
      (pss_cons (ps_set (i := 10) sc_law.nd rfl (.inl rfl) (pe_makeE0 T.m_Conditions D_cd0 (hr.mono (by decide)) T.g_Conditions pxq))
      (pss_cons (ps_for PassesOwn.never rfl (pi_list (pv 4)) (pg_name (i := 7) sc_law.nd rfl (.inl rfl))
      (pss_cons (ps_set (i := 11) sc_law.nd rfl (.inl rfl) (pe_makeE T.m_Conditions D_cd (hr.mono (by decide)) T.g_Conditions pxq (pa_cons (pe_lst (pa_cons (pv 7) pa_nil)) pa_nil)))
      (pss_cons (ps_set (i := 12) sc_law.nd rfl (.inl rfl) (cl D__law_held (hr.mono (by decide)) (pa_cons (pv 11) (pa_cons (pv 3) pa_nil))))
      (pss_cons (ps_set (i := 13) sc_law.nd rfl (.inl rfl) (cl D__law_held (hr.mono (by decide)) (pa_cons (pe_un (un_invO T.h_Conditions___invert__ D_inv hr pass0) (pv 11)) (pa_cons (pv 3) pa_nil))))
      (pss_cons (ps_if (PW.pt (pw_or (pt_cmpR (op_neD hr.units) (pv 12) (cl D__law_due (hr.mono (by decide)) (pa_cons (pe_lst (pa_cons (pv 7) pa_nil)) (pa_cons (pv 3) pa_nil))) (nomark _)) (pw_or1 (pt_cmpR op_ne (pe_cmpR op_isN (pv 12) pe_non (nomark _)) (pe_cmpR op_isN (pv 13) pe_non (nomark _)) (nomark _))))) (pss_one (ps_ret pe_bl)) pss_nil)
      (pss_cons (ps_if (PW.pt (pw_and (pt_cmpR op_notN (pv 12) pe_non (nomark _)) (pw_and1 (pt_cmpR (op_eqD hr.units) (pv 12) (pv 13) (nomark _))))) (pss_one (ps_ret pe_bl)) pss_nil)
      (pss_one (ps_set (i := 10) sc_law.nd rfl (.inl rfl) (pe_op (op_binO T.sf_Conditions T.u_Conditions___and__.1 T.u_Conditions___and__.2 D_and hr pass0) (pv 11) (pv 10))))))))))
      (pss_cons (ps_if (PW.pt (pw_or (pt_cmpR (op_neD hr.units) (cl D__law_held (hr.mono (by decide)) (pa_cons (pv 10) (pa_cons (pv 3) pa_nil))) (pv 8) (nomark _)) (pw_or (pt_cmpR (op_neD hr.units) (cl D__law_held (hr.mono (by decide)) (pa_cons (pv 9) (pa_cons (pv 3) pa_nil))) (pv 8) (nomark _)) (pw_or1 (pt_cmpR op_isnot_bl (cl D__law_held (hr.mono (by decide)) (pa_cons (pe_makeE0 T.m_Conditions D_cd0 (hr.mono (by decide)) T.g_Conditions pxq) (pa_cons (pv 3) pa_nil))) pe_bl (nomark _)))))) (pss_one (ps_ret pe_bl)) pss_nil)
      (pss_one (ps_ret (cl D__law_makers (hr.mono (by decide)) (pa_cons (pv 1) (pa_cons (pv 3) (pa_cons (pv 2) pa_nil)))))))))))))))))), ?_⟩
    refine ⟨_, rfl, a, ns, rfl, hS, fun p l H1 np nl s1 S1 => ?_⟩
    obtain ⟨xs1, hp1⟩ := S1.lst
    refine ⟨fun σ' H' => ∃ o : Int, o.natAbs ≤ 1000000000000000000 ∧ σ' = [some (.ref a), some (.ref p), some (.int o), none, none, none, none, none, none, none, none, none, none, none] ∧ Src H' p l, ?_, ?_⟩
    · refine ⟨_, rfl, p, l, 3, rfl, by decide, by decide, S1, fun n H2 n0 n1 S2 b2 => ?_⟩
      refine ⟨rfl, _, rfl, ie (fun c => ?_) (fun c => ?_)⟩
      · have hpw : CPow 10 18 := ⟨by decide, by decide, by decide⟩
        have hpw2 : CPow 10 17 := ⟨by decide, by decide, by decide⟩
        refine ⟨_, rfl, _, _, rfl, rfl, hpw, p, l, _, rfl, by decide +kernel, (by rw [pow18]; exact Int.le_refl _), S2, fun m H3 m0 m1 S3 b3 => ?_⟩
        refine ⟨_, _, rfl, rfl, hpw2, _, _, rfl, rfl, wide_mul (a := 3) (b := 70) (by decide) (by decide +kernel) (by decide) (by decide) (by decide), _, _, rfl, rfl, ?_⟩
        refine ⟨_, ?_, rfl, S3⟩
        have e1 : ((10 : Int) ^ (17 : Int).toNat) = 100000000000000000 := by decide +kernel
        rw [pow18] at m1
        show (m - 5 * (10 : Int) ^ (17 : Int).toNat).natAbs ≤ _
        rw [e1]
        omega
      · exact ⟨0, by decide, rfl, S2⟩
    · rintro σ' H2 ⟨o, ho, rfl, S2⟩
      obtain ⟨xs2, hp2⟩ := S2.lst
      refine ⟨_, rfl, _, rfl, p, l, o, rfl, ho, S2, fun v0 r0 H3 m3 S3 d0 o0 => ?_⟩
      refine ⟨_, rfl, _, rfl, p, l, o, rfl, ho, S3, fun v1 r1 H4 m4 S4 d1 o1 => ?_⟩
      refine ⟨_, rfl, _, rfl, p, l, o, rfl, ho, S4, fun v2 r2 H5 m5 S5 d2 o2 => ?_⟩
      refine ⟨(by show 3 ≤ sizeLine; decide), fun rt nrt => ?_⟩
      generalize eH6 : upd H5 rt _ = H6
      have s6 : Same H5 H6 := eH6 ▸ same_upd nrt
      have e6 : H6 rt = some _ := eH6 ▸ upd_same
      have S6 := S5.same s6
      have hrt6 : SqT K H6 rt (rwV (fn3 v0 v1 v2)) := SqT.of e6
      have hR6 : Rows3 K H6 (fn3 v0 v1 v2) (fn3 r0 r1 r2) := fun pl => by
        cases pl with
        | old => exact Dp.same s6 (m5.dp (rowD_pd r0).nl (m4.dp (rowD_pd r0).nl d0))
        | first => exact Dp.same s6 (m5.dp (rowD_pd r1).nl d1)
        | second => exact Dp.same s6 d2
      have hro : ∀ pl, rowOk (fn3 r0 r1 r2 pl) := fun pl => by cases pl <;> assumption
      generalize fn3 v0 v1 v2 = v at hrt6 hR6
      generalize fn3 r0 r1 r2 = r at hR6 hro
      clear d0 d1 d2 o0 o1 o2 m3 m4 m5 S5 S4 S3 S2 e6 s6
      refine ⟨(by show 0 ≤ sizeLine; decide), fun la nla => ?_⟩
      generalize eH7 : upd H6 la _ = H7
      have s7 : Same H6 H7 := eH7 ▸ same_upd nla
      have e7 : H7 la = some _ := eH7 ▸ upd_same
      obtain ⟨xs6, hp6⟩ := S6.lst
      obtain ⟨xl6, hl6⟩ := S6.lst2
      have lap : la ≠ p := Ne.symm (ne_of_none hp6 nla)
      have lal : la ≠ l := Ne.symm (ne_of_none hl6 nla)
      have S7 := S6.same s7
      refine ⟨_, rfl, p, l, 7, rfl, by decide, by decide, S7, fun k H8 k0 k1 S8 b8 => ?_⟩
      have m8 : Md [p] H7 H8 := b8.md (s7 _ _ hp6) rfl
      have e8 : H8 la = some (.lst []) := b8 _ _ e7 lap
      have hrt8 : SqT K H8 rt (rwV v) := m8.sqT (Same.seqT s7 hrt6)
      have hR8 : Rows3 K H8 v r := (hR6.same s7).md m8
      refine ⟨k, rfl, by omega, by omega, for_range (n := k.toNat) (fun i σ H' => (∃ o5 o6 o7, σ = [some (.ref a), some (.ref p), some (.int o), some (.ref rt), some (.ref la), o5, o6, o7, none, none, none, none, none, none]) ∧ ∃ us as, H' la = some (.lst us) ∧ DpAll K H' us (as.map At.d) ∧ as.length = i ∧ (∀ t ∈ as, At.ok t) ∧ Md [p, la] H8 H' ∧ Src H' p l) ⟨⟨none, none, none, rfl⟩, [], [], e8, .nil, rfl, (fun t ht => by cases ht), .refl _ _, S8⟩ ?_ ?_⟩
      · rintro i σ H9 hi ⟨⟨o5, o6, o7, rfl⟩, us, as, eu, au, el, hok, m9, S9⟩
        obtain ⟨xs9, hp9⟩ := S9.lst
        -- the sign
        refine ⟨(by show 4 ≤ sizeLine; decide), fun u nu => ?_⟩
        generalize eHA : upd H9 u _ = HA
        have sA : Same H9 HA := eHA ▸ same_upd nu
        have eA : HA u = some _ := eHA ▸ upd_same
        have up : u ≠ p := Ne.symm (ne_of_none hp9 nu)
        refine ⟨_, rfl, p, l, 4, rfl, by decide, by decide, S9.same sA, fun j HB j0 j1 SB bB => ?_⟩
        have mB : Md [p] HA HB := bB.md (sA _ _ hp9) rfl
        have key : ∃ g : Sg, atI [V.str "<", .str "<=", .str "=", .str "!="] j = some (.str g.s) := by
          have : j = 0 ∨ j = 1 ∨ j = 2 ∨ j = 3 := by omega
          rcases this with rfl | rfl | rfl | rfl
          · exact ⟨.lt, atI_nat (j := 0) rfl⟩
          · exact ⟨.le, atI_nat (j := 1) rfl⟩
          · exact ⟨.eq, atI_nat (j := 2) rfl⟩
          · exact ⟨.ne, atI_nat (j := 3) rfl⟩
        obtain ⟨g, hg⟩ := key
        refine ⟨u, _, _, _, rfl, rfl, SqL.of (bB _ _ eA up), hg, ?_⟩
        -- the atom
        refine ⟨_, rfl, _, rfl, _, rfl, p, l, o, rfl, ho, SB, fun t1 q1 HC mC SC d1 ok1 _ => ?_⟩
        refine ⟨_, rfl, _, rfl, p, l, o, rfl, ho, SC, fun t2 q2 HD mD SD d2 ok2 _ => ?_⟩
        refine ⟨(by show 3 ≤ sizeLine; decide), fun q3 nq3 => ?_⟩
        generalize eHE : upd HD q3 _ = HE
        have sE : Same HD HE := eHE ▸ same_upd nq3
        have eE : HE q3 = some _ := eHE ▸ upd_same
        have m9E : Md [p] H9 HE := (Md.of sA).trans (mB.trans (mC.trans (mD.trans (Md.of sE))))
        have SE := SD.same sE
        have dq1 : Dp K HE (.ref q1) t1.d := Dp.same sE (mD.dp (Tm.pd t1).1.nl d1)
        have dq2 : Dp K HE (.ref q2) t2.d := Dp.same sE d2
        have dat : Dp K HE (.ref q3) (At.d ⟨g, t1, t2⟩) := .tup (SqT.of eE) (.cons (.str _) (.cons dq1 (.cons dq2 .nil)))
        have laE : HE la = some (.lst us) := m9E.out _ _ eu (by simp [lap])
        have hrtE : SqT K HE rt (rwV v) := m9E.sqT (m9.sqT hrt8)
        have hRE : Rows3 K HE v r := (hR8.md m9).md m9E
        refine ⟨fun σ' H' => ∃ (q : Addr) (at_ : At) (o5 : Option V), σ' = [some (.ref a), some (.ref p), some (.int o), some (.ref rt), some (.ref la), o5, some (.str g.s), some (.ref q), none, none, none, none, none, none] ∧ Dp K H' (.ref q) at_.d ∧ At.ok at_ ∧ Md [p] HE H' ∧ Src H' p l, ?_, ?_⟩
        · refine ⟨_, rfl, p, l, 2, rfl, by decide, by decide, SE, fun c HF c0 c1 SF bF => ?_⟩
          obtain ⟨xsE, hpE⟩ := SE.lst
          have mF : Md [p] HE HF := bF.md hpE rfl
          have datF := mF.dp (At.pd ⟨g, t1, t2⟩).nl dat
          refine ⟨rfl, _, rfl, ie (fun cc => ?_) (fun cc => ?_)⟩
          · refine ⟨_, rfl, (by show 1 ≤ sizeLine; decide), fun u2 nu2 => ?_⟩
            generalize eHG : upd HF u2 _ = HG
            have sG : Same HF HG := eHG ▸ same_upd nu2
            have eG : HG u2 = some _ := eHG ▸ upd_same
            have mG : Md [p] HE HG := mF.trans (Md.of sG)
            refine ⟨_, rfl, u2, rt, _, [⟨g, t1, t2⟩], v, r, rfl, SqL.of eG, .cons (Dp.same sG datF) .nil, (fun t ht => by cases List.mem_singleton.mp ht; exact ⟨ok1, ok2⟩), mG.sqT hrtE, hRE.md mG, hro, fun HI sI => ?_⟩
            have mI : Md [p] HE HI := mG.trans (Md.of sI)
            have SI := (SF.same sG).same sI
            have datI := mI.dp (At.pd ⟨g, t1, t2⟩).nl dat
            refine ⟨false, rfl, ?_⟩
            cases hh : holdO r [⟨g, t1, t2⟩] with
            | none =>
              refine .inl ⟨rfl, _, rfl, iteF ?_⟩
              exact ⟨q3, ⟨g, t1, t2⟩, _, rfl, datI, ⟨ok1, ok2⟩, mI, SI⟩
            | some b =>
              cases b with
              | true =>
                refine .inr ⟨true, rfl, _, rfl, iteF ?_⟩
                exact ⟨q3, ⟨g, t1, t2⟩, _, rfl, datI, ⟨ok1, ok2⟩, mI, SI⟩
              | false =>
                refine .inr ⟨false, rfl, _, rfl, iteT ?_⟩
                have hq3I : SqT K HI q3 [.str g.s, .ref q1, .ref q2] := mI.sqT (SqT.of eE)
                refine ⟨_, rfl, _, rfl, _, _, 2, _, rfl, rfl, hq3I, atI_nat (j := 2) rfl, _, rfl, _, _, 1, _, rfl, rfl, hq3I, atI_nat (j := 1) rfl, (by show 3 ≤ sizeLine; decide), fun q4 nq4 => ?_⟩
                generalize eHJ : upd HI q4 _ = HJ
                have sJ : Same HI HJ := eHJ ▸ same_upd nq4
                have eJ : HJ q4 = some _ := eHJ ▸ upd_same
                have mJ : Md [p] HE HJ := mI.trans (Md.of sJ)
                exact ⟨q4, ⟨g, t2, t1⟩, _, rfl, .tup (SqT.of eJ) (.cons (.str _) (.cons (mJ.dp (Tm.pd t2).1.nl dq2) (.cons (mJ.dp (Tm.pd t1).1.nl dq1) .nil))), ⟨ok2, ok1⟩, mJ, SI.same sJ⟩
          · exact ⟨q3, ⟨g, t1, t2⟩, _, rfl, datF, ⟨ok1, ok2⟩, mF, SF⟩
        · rintro σ' HF ⟨q, at_, o5', rfl, dF, okF, mF, SF⟩
          have laF : HF la = some (.lst us) := mF.out _ _ laE (by simp [lap])
          refine ⟨_, rfl, .inl ⟨rfl, _, SqL.of laF⟩, _, rfl, la, _, _, rfl, rfl, laF, (by rw [DpAll.length au, List.length_map, el]; exact Nat.lt_trans hi (Nat.lt_of_lt_of_le (by omega : k.toNat < 10) (by decide))), ?_⟩
          have mu : Md [p, la] HF (upd HF la (.lst (us ++ [.ref q]))) := Md.upd laF rfl (by simp)
          have mEF : Md [p] H9 HF := m9E.trans mF
          refine ⟨⟨_, _, _, rfl⟩, _, as ++ [at_], upd_same, ?_, by rw [List.length_append, el]; rfl, fun y hy => (List.mem_append.mp hy).elim (hok y) (fun z => by cases List.mem_singleton.mp z; exact okF), m9.trans ((mEF.mono (by simp)).trans mu), Src.but (x := la) but_upd SF (Ne.symm lap) (Ne.symm lal)⟩
          rw [List.map_append]
          exact DpAll.snoc (mu.dp (At.pd at_).nl dF) (mu.dpAll (pds_at as).nl (mEF.dpAll (pds_at as).nl au))
      · rintro σ H9 ⟨⟨o5, o6, o7, rfl⟩, us, as, eu, au, el, hok, m9, S9⟩
        have hrt9 : SqT K H9 rt (rwV v) := m9.sqT hrt8
        have hR9 : Rows3 K H9 v r := hR8.md m9
        clear m9 hrt8 hR8 e8 m8 S8 S7 hR6 hrt6 S6 e7 s7
        have l7 : as.length ≤ 7 := by omega
        have lu : us.length = as.length := by rw [DpAll.length au, List.length_map]
        refine ⟨_, rfl, _, rfl, la, rt, us, as, v, r, rfl, SqL.of eu, au, hok, hrt9, hR9, hro, fun HA sA => ?_⟩
        generalize hO : holdO r as = O
        have pdO := optB_pd O
        refine ⟨_, rfl, ?_⟩
        refine mkCd (as := as) (.inl (SqL.of (sA _ _ eu))) (DpAll.same sA au) hok (by omega) fun mz mdz mn HB sB nz nn hzn CB => ?_
        have s9B := sA.trans sB
        have ldd := dd_len as
        -- as it was passed
        refine ⟨_, rfl, _, rfl, mz, mdz, mn, dd as, rt, v, r, rfl, CB, by omega, Same.seqT s9B hrt9, hR9.same s9B, hro, fun HC sC => ?_⟩
        rw [hold_dd, hO]
        refine ⟨_, rfl, _, _, optB_dp O, optB_dp O, pdO.shaped, pdO.shaped, _, rfl, ?_⟩
        rw [SeqAt.eqv_refl _ pdO.cl]
        refine iteF ?_
        have s9C := s9B.trans sC
        -- the other way about
        refine ⟨_, rfl, la, us, rfl, SqL.of (s9C _ _ eu), fun c1 nc1 => ?_⟩
        generalize eHD : upd HC c1 _ = HD
        have sD : Same HC HD := eHD ▸ same_upd nc1
        have eD : HD c1 = some _ := eHD ▸ upd_same
        refine ⟨_, _, rfl, .inl (SqL.of eD), fun c2 nc2 => ?_⟩
        generalize eHE : upd HD c2 _ = HE
        have sE : Same HD HE := eHE ▸ same_upd nc2
        have eE : HE c2 = some _ := eHE ▸ upd_same
        have s9E := s9C.trans (sD.trans sE)
        refine mkCd (as := as.reverse) (.inl (SqL.of eE)) ?_ (fun t ht => hok t (List.mem_reverse.mp ht)) (by rw [List.length_reverse]; omega) fun rz rdz rn HF sF _ _ _ CF => ?_
        · rw [List.map_reverse]
          exact DpAll.rev (DpAll.same s9E au)
        have s9F := s9E.trans sF
        have lrv := dd_len as.reverse
        rw [List.length_reverse] at lrv
        refine ⟨_, rfl, rz, rdz, rn, dd as.reverse, rt, v, r, rfl, CF, by omega, Same.seqT s9F hrt9, hR9.same s9F, hro, fun HG sG => ?_⟩
        rw [hold_rev, hO]
        refine ⟨_, rfl, _, _, optB_dp O, optB_dp O, pdO.shaped, pdO.shaped, _, rfl, ?_⟩
        rw [SeqAt.eqv_refl _ pdO.cl]
        refine iteF ?_
        have s9G := s9F.trans sG
        have sBG : Same HB HG := sC.trans ((sD.trans sE).trans (sF.trans sG))
        -- both
        refine mkCd (a := dflAt ("Conditions", some "__init__") 0 K) (vs := []) (as := []) (.inr (T.dc0 _)) .nil (fun t ht => by cases ht) (by decide) fun bz bdz bn HI sI _ _ _ CI => ?_
        have s9I := s9G.trans sI
        have sBI := sBG.trans sI
        refine ⟨_, rfl, la, rfl, ⟨_, SqL.of (s9I _ _ eu)⟩, for_list (K := K) (a := la) (xs := us) (fun i σ H' => Same HI H' ∧ ∃ (bz bdz bn : Addr) (bs : List At) (o5 o6 o7 o11 o12 o13 : Option V), σ = [some (.ref a), some (.ref p), some (.int o), some (.ref rt), some (.ref la), o5, o6, o7, some (optB O), some (.ref mz), some (.ref bz), o11, o12, o13] ∧ CdAt K H' bz bdz bn bs ∧ (∀ t, t ∈ bs ↔ t ∈ as.take i) ∧ bs.length ≤ i) ⟨.refl _, bz, bdz, bn, [], _, _, _, none, none, none, rfl, CI, (fun t => Iff.rfl), Nat.le_refl _⟩ (fun i σ H' _ h => SqL.of (h.1 _ _ (s9I _ _ eu))) ?_ ?_⟩
        · rintro i xv σ H' hgx ⟨s', bz, bdz, bn, bs, o5, o6, o7, o11, o12, o13, rfl, Cb, hbm, hbl⟩
          have hil : i < us.length := (List.getElem?_eq_some_iff.mp hgx).1
          obtain ⟨d, hd, hdp⟩ := DpAll.get au hgx
          obtain ⟨t, ht, rfl⟩ := getM hd
          have tok := hok t (List.mem_of_getElem? ht)
          have s9' := s9I.trans s'
          refine ⟨_, rfl, (by show 1 ≤ sizeLine; decide), fun c3 nc3 => ?_⟩
          generalize eJ1 : upd H' c3 _ = J1
          have t1 : Same H' J1 := eJ1 ▸ same_upd nc3
          have g1 : J1 c3 = some _ := eJ1 ▸ upd_same
          have k1 := s9'.trans t1
          refine mkCd (as := [t]) (.inl (SqL.of g1)) (.cons (Dp.same k1 hdp) .nil) (fun y hy => by cases List.mem_singleton.mp hy; exact tok) (by show 1 ≤ 1000; decide) fun az adz an J2 t2 _ _ _ C2 => ?_
          have C2 : CdAt K J2 az adz an [t] := C2
          have k2 := k1.trans t2
          refine ⟨_, rfl, _, rfl, az, adz, an, [t], rt, v, r, rfl, C2, by show 1 ≤ 1000; decide, Same.seqT k2 hrt9, hR9.same k2, hro, fun J3 t3 => ?_⟩
          rw [hold_one]
          have k3 := k2.trans t3
          have C3 := C2.same t3
          refine ⟨_, rfl, _, _, _, rfl, C3.hx, az, adz, an, t, rfl, C3, fun oz odz on J4 t4 _ _ _ C4 => ?_⟩
          have k4 := k3.trans t4
          refine ⟨_, rfl, oz, odz, on, [t.neg], rt, v, r, rfl, C4, by show 1 ≤ 1000; decide, Same.seqT k4 hrt9, hR9.same k4, hro, fun J5 t5 => ?_⟩
          rw [hold_one, at_neg]
          have k5 := k4.trans t5
          refine ⟨_, rfl, _, rfl, (by show 1 ≤ sizeLine; decide), fun c6 nc6 => ?_⟩
          generalize eJ6 : upd J5 c6 _ = J6
          have t6 : Same J5 J6 := eJ6 ▸ same_upd nc6
          have g6 : J6 c6 = some _ := eJ6 ▸ upd_same
          have k6 := k5.trans t6
          refine ⟨_, rfl, c6, rt, _, [t], v, r, rfl, SqL.of g6, .cons (Dp.same k6 hdp) .nil, (fun y hy => by cases List.mem_singleton.mp hy; exact tok), Same.seqT k6 hrt9, hR9.same k6, hro, fun J7 t7 => ?_⟩
          rw [hold_one]
          have k7 := k6.trans t7
          have pda := optB_pd (t.at r)
          refine ⟨_, _, optB_dp _, optB_dp _, pda.shaped, pda.shaped, _, rfl, ?_⟩
          rw [SeqAt.eqv_refl _ pda.cl]
          refine iteF ?_
          refine ⟨_, rfl, rfl, _, rfl, rfl, rfl, _, rfl, ?_⟩
          have sJ : Same H' J7 := t1.trans (t2.trans (t3.trans (t4.trans (t5.trans (t6.trans t7)))))
          have CA7 := C3.same (t4.trans (t5.trans (t6.trans t7)))
          have CB7 := Cb.same sJ
          have memb : ∀ y, y ∈ dd ([t] ++ bs) ↔ y ∈ as.take (i + 1) := fun y => by
            rw [dd_mem, tk1 ht, List.mem_append, List.mem_append, hbm y]
            exact ⟨fun z => z.symm, fun z => z.symm⟩
          have lend : (dd ([t] ++ bs)).length ≤ i + 1 := by
            have := dd_len ([t] ++ bs)
            rw [List.length_append] at this
            have e : [t].length = 1 := rfl
            omega
          cases hb : t.at r with
          | none =>
            refine iteF ?_
            refine ⟨_, rfl, rfl, _, rfl, iteF ?_⟩
            refine ⟨_, rfl, _, rfl, az, _, _, bz, _, _, rfl, rfl, CA7.hx, CB7.hx, az, adz, an, [t], bz, bdz, bn, bs, rfl, CA7, CB7, (by show 1 ≤ 400; decide), by omega, fun z dz n J8 t8 _ _ _ C8 => ?_⟩
            exact ⟨s'.trans (sJ.trans t8), z, dz, n, dd ([t] ++ bs), _, _, _, _, _, _, rfl, C8, memb, lend⟩
          | some b =>
            refine if_neg_of (by rfl) ?_
            refine ⟨_, rfl, rfl, _, rfl, iteT ?_⟩
            refine ⟨_, rfl, _, rfl, _, _, optB_dp (some b), optB_dp (some (!b)), (optB_pd _).shaped, (optB_pd _).shaped, _, rfl, ?_⟩
            rw [optB_eqv, decide_eq_false (by cases b <;> decide)]
            refine iteF ?_
            refine ⟨_, rfl, _, rfl, az, _, _, bz, _, _, rfl, rfl, CA7.hx, CB7.hx, az, adz, an, [t], bz, bdz, bn, bs, rfl, CA7, CB7, (by show 1 ≤ 400; decide), by omega, fun z dz n J8 t8 _ _ _ C8 => ?_⟩
            exact ⟨s'.trans (sJ.trans t8), z, dz, n, dd ([t] ++ bs), _, _, _, _, _, _, rfl, C8, memb, lend⟩
        · rintro σ J ⟨s', bz, bdz, bn, bs, o5, o6, o7, o11, o12, o13, rfl, Cb, hbm, hbl⟩
          rw [lu, List.take_length] at hbm
          have hbO : holdO r bs = O := (hold_mem hbm).trans hO
          have k0 := s9I.trans s'
          refine ⟨_, rfl, _, rfl, bz, bdz, bn, bs, rt, v, r, rfl, Cb, by omega, Same.seqT k0 hrt9, hR9.same k0, hro, fun J1 t1 => ?_⟩
          rw [hbO]
          refine ⟨_, rfl, _, _, optB_dp O, optB_dp O, pdO.shaped, pdO.shaped, _, rfl, ?_⟩
          rw [SeqAt.eqv_refl _ pdO.cl]
          refine iteF ?_
          have k1 := k0.trans t1
          have CM := CB.same (sBI.trans (s'.trans t1))
          refine ⟨_, rfl, _, rfl, mz, mdz, mn, dd as, rt, v, r, rfl, CM, by omega, Same.seqT k1 hrt9, hR9.same k1, hro, fun J2 t2 => ?_⟩
          rw [hold_dd, hO]
          refine ⟨_, rfl, _, _, optB_dp O, optB_dp O, pdO.shaped, pdO.shaped, _, rfl, ?_⟩
          rw [SeqAt.eqv_refl _ pdO.cl]
          refine iteF ?_
          have k2 := k1.trans t2
          refine mkCd (a := dflAt ("Conditions", some "__init__") 0 K) (vs := []) (as := []) (.inr (T.dc0 _)) .nil (fun t ht => by cases ht) (by decide) fun ez edz en J3 t3 _ _ _ C3 => ?_
          have k3 := k2.trans t3
          refine ⟨_, rfl, ez, edz, en, dd [], rt, v, r, rfl, C3, by decide, Same.seqT k3 hrt9, hR9.same k3, hro, fun J4 t4 => ?_⟩
          rw [show holdO r (dd []) = some true from rfl]
          refine ⟨_, _, rfl, rfl, _, rfl, if_neg_of (by rfl) ?_⟩
          have k4 := k3.trans t4
          exact ⟨_, rfl, _, rfl, _, rfl, p, l, rt, o, v, r, rfl, ho, S9.same k4, Same.seqT k4 hrt9, hR9.same k4, hro, q⟩
end
end K05
namespace K05
open PySem PySem.Spec PyProof.Rows L2 He TL EL
def dd_is_whole : EL.DefE := ⟨fun K => (ga K "is_whole"), "is_whole", "is_whole", defArgs s_is_whole, defBody s_is_whole, defScope s_is_whole, []⟩
def dd_common_divisor : EL.DefE := ⟨fun K => (ga K "common_divisor"), "common_divisor", "common_divisor", defArgs s_common_divisor, defBody s_common_divisor, defScope s_common_divisor, []⟩
def dd_is_value : EL.DefE := ⟨fun K => (ga K "is_value"), "is_value", "is_value", defArgs s_is_value, defBody s_is_value, defScope s_is_value, []⟩
def dd_less : EL.DefE := ⟨fun K => (ga K "less"), "less", "less", defArgs s_less, defBody s_less, defScope s_less, []⟩
def dd_stands : EL.DefE := ⟨fun K => (ga K "stands"), "stands", "stands", defArgs s_stands, defBody s_stands, defScope s_stands, []⟩
def dd_is_term : EL.DefE := ⟨fun K => (ga K "is_term"), "is_term", "is_term", defArgs s_is_term, defBody s_is_term, defScope s_is_term, []⟩
def dd_is_atom : EL.DefE := ⟨fun K => (ga K "is_atom"), "is_atom", "is_atom", defArgs s_is_atom, defBody s_is_atom, defScope s_is_atom, []⟩
def dd_value_at : EL.DefE := ⟨fun K => (ga K "value_at"), "value_at", "value_at", defArgs s_value_at, defBody s_value_at, defScope s_value_at, []⟩
def dd_Conditions___init__ : EL.DefE := ⟨fun K => (ma K (ga K "Conditions") "__init__"), "__init__", "Conditions.__init__", defArgs s_Conditions___init__, defBody s_Conditions___init__, defScope s_Conditions___init__, [.adr (dflAt ("Conditions", some "__init__") 0)]⟩
def dd_Conditions___and__ : EL.DefE := ⟨fun K => (ma K (ga K "Conditions") "__and__"), "__and__", "Conditions.__and__", defArgs s_Conditions___and__, defBody s_Conditions___and__, defScope s_Conditions___and__, []⟩
def dd_Conditions___invert__ : EL.DefE := ⟨fun K => (ma K (ga K "Conditions") "__invert__"), "__invert__", "Conditions.__invert__", defArgs s_Conditions___invert__, defBody s_Conditions___invert__, defScope s_Conditions___invert__, []⟩
def dd_Conditions_hold : EL.DefE := ⟨fun K => (ma K (ga K "Conditions") "hold"), "hold", "Conditions.hold", defArgs s_Conditions_hold, defBody s_Conditions_hold, defScope s_Conditions_hold, []⟩
def dd_Maker___init__ : EL.DefE := ⟨fun K => (ma K (ga K "Maker") "__init__"), "__init__", "Maker.__init__", defArgs s_Maker___init__, defBody s_Maker___init__, defScope s_Maker___init__, []⟩
def dd_Maker_terms : EL.DefE := ⟨fun K => (ma K (ga K "Maker") "terms"), "terms", "Maker.terms", defArgs s_Maker_terms, defBody s_Maker_terms, defScope s_Maker_terms, []⟩
def dd_Maker___len__ : EL.DefE := ⟨fun K => (ma K (ga K "Maker") "__len__"), "__len__", "Maker.__len__", defArgs s_Maker___len__, defBody s_Maker___len__, defScope s_Maker___len__, []⟩
def dd_Maker___eq__ : EL.DefE := ⟨fun K => (ma K (ga K "Maker") "__eq__"), "__eq__", "Maker.__eq__", defArgs s_Maker___eq__, defBody s_Maker___eq__, defScope s_Maker___eq__, []⟩
def dd_Maker___call__ : EL.DefE := ⟨fun K => (ma K (ga K "Maker") "__call__"), "__call__", "Maker.__call__", defArgs s_Maker___call__, defBody s_Maker___call__, defScope s_Maker___call__, []⟩
def dd__law_begin : EL.DefE := ⟨fun K => (ga K "_law_begin"), "_law_begin", "_law_begin", defArgs s__law_begin, defBody s__law_begin, defScope s__law_begin, []⟩
def dd__law_draw : EL.DefE := ⟨fun K => (ga K "_law_draw"), "_law_draw", "_law_draw", defArgs s__law_draw, defBody s__law_draw, defScope s__law_draw, []⟩
def dd__law_value : EL.DefE := ⟨fun K => (ga K "_law_value"), "_law_value", "_law_value", defArgs s__law_value, defBody s__law_value, defScope s__law_value, []⟩
def dd__law_term : EL.DefE := ⟨fun K => (ga K "_law_term"), "_law_term", "_law_term", defArgs s__law_term, defBody s__law_term, defScope s__law_term, []⟩
def dd__law_row : EL.DefE := ⟨fun K => (ga K "_law_row"), "_law_row", "_law_row", defArgs s__law_row, defBody s__law_row, defScope s__law_row, []⟩
def dd__law_at : EL.DefE := ⟨fun K => (ga K "_law_at"), "_law_at", "_law_at", defArgs s__law_at, defBody s__law_at, defScope s__law_at, []⟩
def dd__law_stands : EL.DefE := ⟨fun K => (ga K "_law_stands"), "_law_stands", "_law_stands", defArgs s__law_stands, defBody s__law_stands, defScope s__law_stands, []⟩
def dd__law_due : EL.DefE := ⟨fun K => (ga K "_law_due"), "_law_due", "_law_due", defArgs s__law_due, defBody s__law_due, defScope s__law_due, []⟩
def dd__law_held : EL.DefE := ⟨fun K => (ga K "_law_held"), "_law_held", "_law_held", defArgs s__law_held, defBody s__law_held, defScope s__law_held, []⟩
def dd__law_row_made : EL.DefE := ⟨fun K => (ga K "_law_row_made"), "_law_row_made", "_law_row_made", defArgs s__law_row_made, defBody s__law_row_made, defScope s__law_row_made, []⟩
def dd__law_makers : EL.DefE := ⟨fun K => (ga K "_law_makers"), "_law_makers", "_law_makers", defArgs s__law_makers, defBody s__law_makers, defScope s__law_makers, []⟩
def dd_law : EL.DefE := ⟨fun K => (ga K "law"), "law", "law", defArgs s_law, defBody s_law, defScope s_law, []⟩
def fn : List EL.DefE := [dd_is_whole, dd_common_divisor, dd_is_value, dd_less, dd_stands, dd_is_term, dd_is_atom, dd_value_at, dd_Conditions___init__, dd_Conditions___and__, dd_Conditions___invert__, dd_Conditions_hold, dd_Maker___init__, dd_Maker_terms, dd_Maker___len__, dd_Maker___eq__, dd_Maker___call__, dd__law_begin, dd__law_draw, dd__law_value, dd__law_term, dd__law_row, dd__law_at, dd__law_stands, dd__law_due, dd__law_held, dd__law_row_made, dd__law_makers, dd_law]
def fa : List He.Fa := [.glo "is_whole", .glo "common_divisor", .glo "is_value", .glo "less", .glo "stands", .glo "is_term", .glo "is_atom", .glo "value_at", .glo "_law_begin", .glo "_law_draw", .glo "_law_value", .glo "_law_term", .glo "_law_row", .glo "_law_at", .glo "_law_stands", .glo "_law_due", .glo "_law_held", .glo "_law_row_made", .glo "_law_makers", .glo "law", .glo "NotSingle", .glo "Conditions", .glo "Maker", .glo "AskError", .exc "AskError", .glo "NoCell", .exc "NoCell", .glo "NoCondition", .exc "NoCondition", .glo "SIGNS", .glo "NEGATED", .glo "PLACES", .int "MOST_COLUMNS" 3, .free "ValueError", .free "super", .free "isinstance", .free "int", .free "bool", .free "abs", .free "tuple", .free "len", .free "str", .free "list", .free "range", .exm "NoCell" "NoCell" true, .mkr "Conditions", .meth "Conditions" "__and__", .meth "Conditions" "__invert__", .meth "Conditions" "hold", .mkr "Maker", .meth "Maker" "terms", .meth "Maker" "__len__", .meth "Maker" "__eq__", .meth "Maker" "__call__", .noat "Conditions" "kept_atoms", .noat "Maker" "kept_terms"]
def xn : List EL.DefX := []
def ts : List He.Tab := [(fun K => ga K "NEGATED", ["<", "<=", "=", "!="])]
def exL (K : PySem.W.Frag) : List Bool := [tupAB K (dflAt ("Conditions", some "__init__") 0 K), excCB K (ga K "NoCell"), decide (PySem.W.kitOne K (.ref (ga K "NoCell")) (.type "ValueError") = some true), ocB K (ga K "Conditions"), ocB K (ga K "Maker"), callOB K (ga K "Maker"), dunB K (ga K "Maker") "__eq__", dunB K (ga K "Conditions") "__and__", PySem.W.selfFirst K (ga K "Conditions"), PySem.W.notFirst K (ga K "Maker") (.ref (ga K "Maker")), nsStrB K (ga K "NEGATED") "<" "<=", nsStrB K (ga K "NEGATED") "<=" "<", nsStrB K (ga K "NEGATED") "=" "!=", nsStrB K (ga K "NEGATED") "!=" "=", tupB K "PLACES" [.str "old", .str "first", .str "second"], tupB K "SIGNS" [.str "<", .str "<=", .str "=", .str "!="]]
def ex (K : PySem.W.Frag) : Bool := (exL K).all id
theorem txt_of {K : PySem.W.Frag} {h : Heap} {mg : Str → Option Value} (X : K.In h) (G : h.Ns mainGlobals mg) (cx : EL.SaysX fa fn xn ex K) : Txt K mg := by
  have c := cx.e
  have m := c.ex_
  exact ⟨He.glo_ok X G (c.fact 0 (by rfl)),
    He.glo_ok X G (c.fact 1 (by rfl)),
    He.glo_ok X G (c.fact 2 (by rfl)),
    He.glo_ok X G (c.fact 3 (by rfl)),
    He.glo_ok X G (c.fact 4 (by rfl)),
    He.glo_ok X G (c.fact 5 (by rfl)),
    He.glo_ok X G (c.fact 6 (by rfl)),
    He.glo_ok X G (c.fact 7 (by rfl)),
    He.glo_ok X G (c.fact 8 (by rfl)),
    He.glo_ok X G (c.fact 9 (by rfl)),
    He.glo_ok X G (c.fact 10 (by rfl)),
    He.glo_ok X G (c.fact 11 (by rfl)),
    He.glo_ok X G (c.fact 12 (by rfl)),
    He.glo_ok X G (c.fact 13 (by rfl)),
    He.glo_ok X G (c.fact 14 (by rfl)),
    He.glo_ok X G (c.fact 15 (by rfl)),
    He.glo_ok X G (c.fact 16 (by rfl)),
    He.glo_ok X G (c.fact 17 (by rfl)),
    He.glo_ok X G (c.fact 18 (by rfl)),
    He.glo_ok X G (c.fact 19 (by rfl)),
    He.glo_ok X G (c.fact 20 (by rfl)),
    He.glo_ok X G (c.fact 21 (by rfl)),
    He.glo_ok X G (c.fact 22 (by rfl)),
    xc_of (He.glo_ok X G (c.fact 23 (by rfl))) (He.exc_ok (c.fact 24 (by rfl))),
    xc_of (He.glo_ok X G (c.fact 25 (by rfl))) (He.exc_ok (c.fact 26 (by rfl))),
    xc_of (He.glo_ok X G (c.fact 27 (by rfl))) (He.exc_ok (c.fact 28 (by rfl))),
    He.glo_ok X G (c.fact 29 (by rfl)),
    He.glo_ok X G (c.fact 30 (by rfl)),
    He.glo_ok X G (c.fact 31 (by rfl)),
    gv_int (He.int_ok X G (c.fact 32 (by rfl))),
    He.free_ok X G (c.fact 33 (by rfl)),
    He.free_ok X G (c.fact 34 (by rfl)),
    He.free_ok X G (c.fact 35 (by rfl)),
    He.free_ok X G (c.fact 36 (by rfl)),
    He.free_ok X G (c.fact 37 (by rfl)),
    He.free_ok X G (c.fact 38 (by rfl)),
    He.free_ok X G (c.fact 39 (by rfl)),
    He.free_ok X G (c.fact 40 (by rfl)),
    He.free_ok X G (c.fact 41 (by rfl)),
    He.free_ok X G (c.fact 42 (by rfl)),
    He.free_ok X G (c.fact 43 (by rfl)),
    He.exm_ok (c.fact 44 (by rfl)),
    He.mkr_ok (c.fact 45 (by rfl)),
    He.meth_ok (c.fact 46 (by rfl)),
    He.meth_ok (c.fact 47 (by rfl)),
    He.meth_ok (c.fact 48 (by rfl)),
    He.mkr_ok (c.fact 49 (by rfl)),
    He.meth_ok (c.fact 50 (by rfl)),
    He.meth_ok (c.fact 51 (by rfl)),
    He.meth_ok (c.fact 52 (by rfl)),
    He.meth_ok (c.fact 53 (by rfl)),
    He.noat_ok (c.fact 54 (by rfl)),
    He.noat_ok (c.fact 55 (by rfl)),
    c.def_ 0 (d := dd_is_whole) rfl,
    c.def_ 1 (d := dd_common_divisor) rfl,
    c.def_ 2 (d := dd_is_value) rfl,
    c.def_ 3 (d := dd_less) rfl,
    c.def_ 4 (d := dd_stands) rfl,
    c.def_ 5 (d := dd_is_term) rfl,
    c.def_ 6 (d := dd_is_atom) rfl,
    c.def_ 7 (d := dd_value_at) rfl,
    c.def_ 8 (d := dd_Conditions___init__) rfl,
    c.def_ 9 (d := dd_Conditions___and__) rfl,
    c.def_ 10 (d := dd_Conditions___invert__) rfl,
    c.def_ 11 (d := dd_Conditions_hold) rfl,
    c.def_ 12 (d := dd_Maker___init__) rfl,
    c.def_ 13 (d := dd_Maker_terms) rfl,
    c.def_ 14 (d := dd_Maker___len__) rfl,
    c.def_ 15 (d := dd_Maker___eq__) rfl,
    c.def_ 16 (d := dd_Maker___call__) rfl,
    c.def_ 17 (d := dd__law_begin) rfl,
    c.def_ 18 (d := dd__law_draw) rfl,
    c.def_ 19 (d := dd__law_value) rfl,
    c.def_ 20 (d := dd__law_term) rfl,
    c.def_ 21 (d := dd__law_row) rfl,
    c.def_ 22 (d := dd__law_at) rfl,
    c.def_ 23 (d := dd__law_stands) rfl,
    c.def_ 24 (d := dd__law_due) rfl,
    c.def_ 25 (d := dd__law_held) rfl,
    c.def_ 26 (d := dd__law_row_made) rfl,
    c.def_ 27 (d := dd__law_makers) rfl,
    c.def_ 28 (d := dd_law) rfl,
    fun H => tupAB_ok (exG m 0 (by rfl)) H,
    excCB_ok (exG m 1 (by rfl)),
    of_decide_eq_true (exG m 2 (by rfl)),
    ocB_ok (exG m 3 (by rfl)),
    ocB_ok (exG m 4 (by rfl)),
    callOB_ok (exG m 5 (by rfl)),
    dunB_ok (exG m 6 (by rfl)),
    dunB_ok (exG m 7 (by rfl)),
    (exG m 8 (by rfl)),
    (exG m 9 (by rfl)),
    nsStrB_ok (exG m 10 (by rfl)),
    nsStrB_ok (exG m 11 (by rfl)),
    nsStrB_ok (exG m 12 (by rfl)),
    nsStrB_ok (exG m 13 (by rfl)),
    fun H => tupB_ok (exG m 14 (by rfl)) H,
    fun H => tupB_ok (exG m 15 (by rfl)) H⟩
def loose : List Str := ["AskError", "NoCell", "NoCondition", "NotSingle", "SIGNS", "NEGATED", "is_whole", "common_divisor", "is_value", "less", "stands", "PLACES", "MOST_COLUMNS", "is_term", "is_atom", "value_at", "Conditions", "Maker", "_law_begin", "_law_draw", "_law_value", "_law_term", "_law_row", "_law_at", "_law_stands", "_law_due", "_law_held", "_law_row_made", "_law_makers"]
abbrev R : PySem.W.OpenRow := PySem.W.OpenLaw.row PySem.Challenge.rw_endlessasks_k05_whole_conditions_hold
abbrev hk : PySem.W.Hook := hookY 6 fa fn xn ts ex
def ob (s : PySem.W.SharedT) : AlY := obsYG 6 fa fn xn ts ex (HandSHeadRun.getT s)
theorem ob_eq (s : PySem.W.SharedT) : ob s = hk.obs s.abs := obsYG_eq (HandSHeadRun.getT_eq s)
theorem run (w : World) : HandSHeadRun.RunEq R (PySem.W.view R.prog [33]) hk ob 8000 loose w :=
  PySem.W.byRow2 "special-get-raises" (P := fun w => HandSHeadRun.RunEq R (PySem.W.view R.prog [33]) hk ob 8000 loose w) (fun w => by intro os; kernel_rfl) (fun w => by intro os; kernel_rfl) w
end K05
namespace K05
open PySem PySem.Spec PyProof.Rows L2 He TL EL
theorem facts {P : Program} {w : World} {K : PySem.W.Frag} {mg : Str → Option Value} {f : Addr} (hN : NegD K w) (T : Txt K mg) (hfa : mg ("law" : Str) = some (.ref f)) :
    ∃ fd : FuncData, (∀ (s : Shared) (v : Value), BindsTo s fd ⟨[v], []⟩ [("_law_script", v)]) ∧ ∀ base : Heap, FnOk P w K mg base CX0 8 f fd ["_law_script"] (spLaw K) := by
  obtain ⟨fd, F⟩ := T.f_law
  have e := hfa.symm.trans T.g_law
  cases e
  have b := FunD.bindsA (ps := ["_law_script"]) F (fun _ _ _ _ _ _ us hl => match us, hl with | [_], _ => rfl)
  exact ⟨fd, fun s v => b s [v] rfl, fun base => ok_law hN T F⟩
end K05
open PySem PySem.W PySem.Calls PyProof.Rows
set_option maxHeartbeats 0 in
theorem PySem.Challenge.cw_endlessasks_k05_whole_conditions_hold_holds : PySem.Challenge.rw_endlessasks_k05_whole_conditions_hold.Holds := by
  w_on; o_law
  refine HandSHeadRun.head_any (r := OpenLaw.row PySem.Challenge.rw_endlessasks_k05_whole_conditions_hold) (q := view (OpenLaw.row PySem.Challenge.rw_endlessasks_k05_whole_conditions_hold).prog [33]) (H := K05.hk) (ob := K05.ob) (M := 8000) (loose := K05.loose) (d := HandSHeadRun.topDef (OpenLaw.row PySem.Challenge.rw_endlessasks_k05_whole_conditions_hold).prog 33) (kwd := []) K05.ob_eq
    (by kernel_rfl) (fun s => by kernel_rfl) K05.run (by kernel_rfl) (by kernel_rfl) (by kernel_rfl) (by rfl) (by first | assumption | decide +kernel) (by decide +kernel) ⟨rfl, rfl, rfl, rfl, rfl, by decide +kernel⟩ ?hw ?hc
  case hw => w_witness2
  case hc =>
    refine L2.walk_ofE (l := PySem.Challenge.rw_endlessasks_k05_whole_conditions_hold) (n := 63) (k := 8) (x := "_law_script") (CX := L2.CX0) rfl (by decide) (by kernel_rfl) ⟨rfl, by decide, by decide⟩ ?F (fun _ _ _ _ z => z)
    intro w mg fa h Y G hmg0
    obtain ⟨K, KX, c⟩ := Y
    have hmg : mg ("law" : PySem.Str) = some (.ref fa) := by
      have e : (HandSHeadRun.topDef (OpenLaw.row PySem.Challenge.rw_endlessasks_k05_whole_conditions_hold).prog 33).name = ("law" : PySem.Str) := by kernel_rfl
      rw [← e]
      exact hmg0
    obtain ⟨fd, hb, hF⟩ := K05.facts (P := (PySem.Challenge.rw_endlessasks_k05_whole_conditions_hold).prog) (w := w) (c.tab 0 rfl) (K05.txt_of KX G c.x) hmg
    exact ⟨K, fd, K05.spLaw K, KX, hb, fun H a ns hl _ hS => ⟨a, ns, rfl, hS, hl, fun _ => rfl⟩, fun base _ _ => hF base⟩
