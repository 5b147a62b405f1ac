import PyProof.Rows.All
import Wide.All
import OpenK.AllK
import Wide.FinOn
import KE.KStateDown
import HandS.ForMost
import HandS.ForExc
import HandS.More
import HandS.Wide
import HandS.IsInst
import HandS.ExcIs
import HandS.FStr
import HandS.Defaults
import HandS.TupAny
import HandS.TupLe
import HandS.Deep
import HandS.Flow
import HandS.Walk
import HandS.Head0
import HandS.Head1
import HandS.Head2
import HandS.HeadEnd
import HandS.HeadHook1
import HandS.HeadHook2
import HandS.HeadNt
import HandS.ExcField
import KE.KExcSuper
import HandS.SlotsOwn
import KE.KOpsOwn
import HandS.Star
import HandS.DictComp
import HandS.Conv
import HandS.HeadHook3
import HandS.WrittenGet
import HandS.Style
import KE.KExcIs
import KE.KEqDict
import PySem.Challenge.RW_endlessasks_k11_rules
set_option Elab.async false
set_option linter.all false
set_option maxRecDepth 100000
namespace EL
/-- the greatest common divisor, as the loop leaves it -/
def cd (a b : Int) : Int := ((Nat.gcd a.natAbs b.natAbs : Nat) : Int)
def nrm (t b : Int) : Int × Int := if b < 0 then ((-t) / cd (-t) (-b), (-b) / cd (-t) (-b)) else (t / cd t b, b / cd t b)
theorem cd_pos {a b : Int} (h : b ≠ 0) : 0 < cd a b := by
  unfold cd
  have := Nat.gcd_pos_of_pos_right a.natAbs (n := b.natAbs) (by omega)
  omega
theorem cd_dvd_l (a b : Int) : cd a b ∣ a := by
  unfold cd
  exact Int.ofNat_dvd_left.mpr (Nat.gcd_dvd_left _ _)
theorem cd_dvd_r (a b : Int) : cd a b ∣ b := by
  unfold cd
  exact Int.ofNat_dvd_left.mpr (Nat.gcd_dvd_right _ _)
theorem cd_neg_l (a b : Int) : cd (-a) b = cd a b := by unfold cd; rw [Int.natAbs_neg]
theorem cd_neg_r (a b : Int) : cd a (-b) = cd a b := by unfold cd; rw [Int.natAbs_neg]
/-- a value in lowest terms -/
def Low (a b : Int) : Prop := 0 < b ∧ cd a b = 1
theorem cd_div {a b : Int} (hb : b ≠ 0) : cd (a / cd a b) (b / cd a b) = 1 := by
  have hp := cd_pos (a := a) hb
  have e : ∀ x : Int, cd a b ∣ x → (x / cd a b).natAbs = x.natAbs / Nat.gcd a.natAbs b.natAbs := fun x hx => by
    rw [Int.natAbs_ediv_of_dvd hx]
    rfl
  show ((Nat.gcd (a / cd a b).natAbs (b / cd a b).natAbs : Nat) : Int) = 1
  rw [e a (cd_dvd_l a b), e b (cd_dvd_r a b), Nat.gcd_div (Nat.gcd_dvd_left _ _) (Nat.gcd_dvd_right _ _), Nat.div_self (Nat.gcd_pos_of_pos_right _ (by omega))]
  rfl
theorem nrm_low {t b : Int} (hb : b ≠ 0) : Low (nrm t b).1 (nrm t b).2 := by
  unfold nrm
  by_cases h : b < 0
  · rw [if_pos h]
    have hp := cd_pos (a := -t) (b := -b) (by omega)
    refine ⟨?_, cd_div (by omega)⟩
    exact Int.ediv_pos_of_pos_of_dvd (by omega) (Int.le_of_lt hp) (cd_dvd_r _ _)
  · rw [if_neg h]
    have hp := cd_pos (a := t) (b := b) hb
    refine ⟨?_, cd_div hb⟩
    exact Int.ediv_pos_of_pos_of_dvd (by omega) (Int.le_of_lt hp) (cd_dvd_r _ _)
theorem nrm_eq {t b : Int} (hb : b ≠ 0) : (nrm t b).1 * b = t * (nrm t b).2 := by
  unfold nrm
  by_cases h : b < 0
  · rw [if_pos h]
    have hp := cd_pos (a := -t) (b := -b) (by omega)
    obtain ⟨u, hu⟩ := cd_dvd_l (-t) (-b)
    obtain ⟨v, hv⟩ := cd_dvd_r (-t) (-b)
    generalize cd (-t) (-b) = g at *
    have e1 : -t / g = u := by rw [hu, Int.mul_ediv_cancel_left _ (by omega)]
    have e2 : -b / g = v := by rw [hv, Int.mul_ediv_cancel_left _ (by omega)]
    show -t / g * b = t * (-b / g)
    rw [e1, e2]
    have ht : t = -(g * u) := by omega
    have hb' : b = -(g * v) := by omega
    rw [ht, hb', Int.mul_neg, Int.neg_mul, Int.mul_left_comm, Int.mul_comm g u, Int.mul_assoc, Int.mul_left_comm u g v]
  · rw [if_neg h]
    have hp := cd_pos (a := t) (b := b) hb
    obtain ⟨u, hu⟩ := cd_dvd_l t b
    obtain ⟨v, hv⟩ := cd_dvd_r t b
    generalize cd t b = g at *
    have e1 : t / g = u := by rw [hu, Int.mul_ediv_cancel_left _ (by omega)]
    have e2 : b / g = v := by rw [hv, Int.mul_ediv_cancel_left _ (by omega)]
    show t / g * b = t * (b / g)
    rw [e1, e2, hu, hv, Int.mul_left_comm, Int.mul_assoc]
/-- two values in lowest terms that stand for one fraction are one -/
theorem low_unique {a b c d : Int} (h1 : Low a b) (h2 : Low c d) (h : a * d = c * b) : a = c ∧ b = d := by
  obtain ⟨hb, g1⟩ := h1
  obtain ⟨hd, g2⟩ := h2
  have c1 : Nat.gcd a.natAbs b.natAbs = 1 := by unfold cd at g1; omega
  have c2 : Nat.gcd c.natAbs d.natAbs = 1 := by unfold cd at g2; omega
  have hn : a.natAbs * d.natAbs = c.natAbs * b.natAbs := by rw [← Int.natAbs_mul, ← Int.natAbs_mul, h]
  have d1 : b.natAbs ∣ d.natAbs := by
    have : b.natAbs ∣ a.natAbs * d.natAbs := by rw [hn]; exact Nat.dvd_mul_left _ _
    exact (Nat.Coprime.symm (show Nat.Coprime a.natAbs b.natAbs from c1)).dvd_of_dvd_mul_left this
  have d2 : d.natAbs ∣ b.natAbs := by
    have : d.natAbs ∣ c.natAbs * b.natAbs := by rw [← hn]; exact Nat.dvd_mul_left _ _
    exact (Nat.Coprime.symm (show Nat.Coprime c.natAbs d.natAbs from c2)).dvd_of_dvd_mul_left this
  have e : b = d := by
    have := Nat.dvd_antisymm d1 d2
    omega
  subst e
  exact ⟨Int.eq_of_mul_eq_mul_right (by omega) h, rfl⟩
theorem nrm_scale {t b f : Int} (hb : b ≠ 0) (hf : f ≠ 0) : nrm (t * f) (b * f) = nrm t b := by
  have hbf : b * f ≠ 0 := Int.mul_ne_zero hb hf
  have l1 := nrm_low (t := t * f) hbf
  have l2 := nrm_low (t := t) hb
  have e1 := nrm_eq (t := t * f) hbf
  have e2 := nrm_eq (t := t) hb
  have u := low_unique l1 l2 (by
    generalize (nrm (t * f) (b * f)).1 = p at *
    generalize (nrm (t * f) (b * f)).2 = q at *
    generalize (nrm t b).1 = r at *
    generalize (nrm t b).2 = s at *
    -- p * (b f) = (t f) q ; r b = t s ; want p s = r q
    have hbf2 : p * b = t * q := by
      refine Int.eq_of_mul_eq_mul_right hf ?_
      rw [Int.mul_assoc, e1, Int.mul_assoc, Int.mul_comm f q, Int.mul_assoc]
    refine Int.eq_of_mul_eq_mul_right hb ?_
    calc p * s * b = (p * b) * s := by rw [Int.mul_assoc, Int.mul_comm s b, Int.mul_assoc]
      _ = (t * q) * s := by rw [hbf2]
      _ = (t * s) * q := by rw [Int.mul_assoc, Int.mul_comm q s, Int.mul_assoc]
      _ = r * b * q := by rw [e2]
      _ = r * q * b := by rw [Int.mul_assoc, Int.mul_comm b q, Int.mul_assoc])
  exact Prod.ext u.1 u.2
theorem nrm_one (t : Int) : nrm t 1 = (t, 1) := by
  have e : cd t 1 = 1 := by unfold cd; simp
  unfold nrm
  rw [if_neg (by omega), e]
  simp
end EL
namespace EL
open PySem PySem.Spec PyProof.Rows L2 He
/-! ### a def by its name -/
structure Dn (P : Program) (w : World) (K : PySem.W.Frag) (mg : Str → Option Value) (base : Heap) (CX : CXT) (k : Nat) (x : Str) (sp : Sp) : Prop where
  g : mg x = some (.ref (ga K x))
  kp : PySem.W.keepIn K (.ref (ga K x)) = true
  r : FnR P w K mg base CX k (ga K x) sp
section
variable {X : Cx} {CX : CXT} {k : Nat} {f : Addr} {sp : Sp} {E : L2.St → XK} {x : Str} {p pos : Pos} {e : Expr} {es : List Expr} {t : TA}
theorem run_fnRS {pins : List (Addr × Obj)} {σ : L2.St} {H : Hp} {s : Shared} {Q : VK} {us : List Value} {vs : List V} (F : FnR X.prog X.w X.K X.mg X.base CX k f sp) (hr : Room k X.A) (hx : PassesAt CX X σ (E σ))
    (I : Inv X pins σ H s) (r : Vals vs us) (h : sp vs H Q (E σ)) : wpAny (model X.prog X.w) X.A (call (.ref f) us) (EP X pins σ Q) X.xe s := by
  refine wpAny_call (codeAny_mono (F X.A X.stack s H us vs Q (E σ) hr I.env0 r h) fun r s' hq => ?_)
  cases r with
  | error e => exact hx pins H s e s' I hq
  | ok fl =>
    cases fl with
    | ret u => exact I.after hq
    | next => exact False.elim hq
    | brk => exact False.elim hq
    | cont => exact False.elim hq
theorem pe_fn (F : FnR X.prog X.w X.K X.mg X.base CX k f sp) (hr : Room k X.A) (hg : Gl X x) (hm : X.mg x = some (.ref f)) (hk : PySem.W.keepIn X.K (.ref f) = true) (hx : ∀ σ, PassesAt CX X σ (E σ))
    (ha : PA X (e :: es) t) (hdb : (x == ("__debug__" : Str)) = false := by decide) (he : starEach (e :: es) X.env = (false, eval e X.env) :: starEach es X.env := by rfl) (hpl : (backTo pos (starEach es X.env)).any (·.1) = false := by rfl) :
    PE X (.Call (.Name x p) (e :: es) [] pos) (tCallS sp E t) := by
  refine ⟨fun pins s σ H Q I h => ?_⟩
  refine wpAny_Call_Name_kw (ld_glob I hg hm ?_ hdb)
  refine PySem.W.callWith_K (h₀ := X.base) I.ok.mod.kin hk (thn (ha.run pos pins s σ H _ I h) fun us s1 ⟨vs, H1, I1, r, q⟩ => ⟨I1.kIn, ?_⟩) he hpl
  exact run_fnRS F hr (hx σ) I1 r q
/-- a call of a def that lets nothing out -/
theorem cl (D : Dn X.prog X.w X.K X.mg X.base CX0 k x sp) (hr : Room k X.A) (ha : PA X (e :: es) t) (hg : Gl X x := by rfl)
    (hdb : (x == ("__debug__" : Str)) = false := by decide) (he : starEach (e :: es) X.env = (false, eval e X.env) :: starEach es X.env := by rfl) (hpl : (backTo pos (starEach es X.env)).any (·.1) = false := by rfl) :
    PE X (.Call (.Name x p) (e :: es) [] pos) (tCallS sp (fun _ => E0) t) := pe_fn D.r hr hg D.g D.kp (fun _ _ _ _ _ _ _ h => h.elim) ha hdb he hpl
/-- a call of a def that may raise, where it raises nothing -/
theorem cl0 (D : Dn X.prog X.w X.K X.mg X.base (L2.CX X.prog X.w) k x sp) (hr : Room k X.A) (ha : PA X (e :: es) t) (hg : Gl X x := by rfl)
    (hdb : (x == ("__debug__" : Str)) = false := by decide) (he : starEach (e :: es) X.env = (false, eval e X.env) :: starEach es X.env := by rfl) (hpl : (backTo pos (starEach es X.env)).any (·.1) = false := by rfl) :
    PE X (.Call (.Name x p) (e :: es) [] pos) (tCallS sp (fun _ => E0) t) := pe_fn D.r hr hg D.g D.kp (fun σ pins H s e s' I h => passL pins σ H s e s' I h) ha hdb he hpl
/-- a call of a def that may raise -/
theorem clx {W : WX} (tk : Takes X W) (D : Dn X.prog X.w X.K X.mg X.base (L2.CX X.prog X.w) k x sp) (hr : Room k X.A) (ha : PA X (e :: es) t) (hg : Gl X x := by rfl)
    (hdb : (x == ("__debug__" : Str)) = false := by decide) (he : starEach (e :: es) X.env = (false, eval e X.env) :: starEach es X.env := by rfl) (hpl : (backTo pos (starEach es X.env)).any (·.1) = false := by rfl) :
    PE X (.Call (.Name x p) (e :: es) [] pos) (tCallS sp (WE W) t) := pe_fn D.r hr hg D.g D.kp (fun σ => passAt tk σ) ha hdb he hpl
/-- a module's name that holds a plain value -/
theorem pe_gv {v : V} {pos : Pos} (h : ∃ u, X.mg x = some u ∧ RelV v u) (hg : Gl X x := by rfl) (hd : (x == ("__debug__" : Str)) = false := by decide) : PE X (.Name x pos) (tC v) := by
  obtain ⟨u, h1, h2⟩ := h
  exact pe_glob hg h1 h2 hd
end
/-! ### own errors without an __init__ -/
structure XC (K : PySem.W.Frag) (mg : Str → Option Value) (x : Str) : Prop where
  g : mg x = some (.ref (ga K x))
  q : PySem.W.excIn K (ga K x) veBase "ValueError.__new__" = true
  k : PySem.W.keepIn K (.ref (ga K x)) = true
  b : PySem.W.subIn K (.ref (ga K x)) (.type "BaseException") = some true
  t : PySem.W.typeIn K (.ref (ga K x)) = some (.type "type")
/-- raise C('..') -/
theorem rs {X : Cx} {W : WX} {c m : Str} {j : Nat} {p p2 pos pos2 : Pos} (hc : X.calm = true) (tk : Takes X W) (x : XC X.K X.mg c) (hg : Gl X c) (hdb : (c == ("__debug__" : Str)) = false := by decide) :
    PS X (.Raise (some (.Call (.Name c p) [.Constant (.str m) j p2] [] pos)) none pos2) (fun _ σ H => W (.ref (ga X.K c)) none σ H) :=
  ps_raise hc tk (pmk_own PySem.F.excBase_ValueError x.q x.g x.k (raises_own x.b x.t) hg hdb)
/-! ### heaps -/
theorem same_upd {H : Hp} {p : Addr} {o : HO} (h : H p = none) : Same H (upd H p o) := fun b x e => by
  rw [upd_ne (ne_of_none e h)]
  exact e
theorem Same.seqT {K : PySem.W.Frag} {H H' : Hp} {a : Addr} {xs : List V} (e : Same H H') (h : SqT K H a xs) : SqT K H' a xs := by
  rcases h with (h | ⟨o, h⟩) | h
  · exact .inl (.inl (e _ _ h))
  · exact .inl (.inr ⟨o, e _ _ h⟩)
  · exact .inr h
/-- a new object: the heap behind is a letter -/
theorem newO {H : Hp} {o : HO} {Q : Addr → Hp → Prop} (h : ∀ p H', H p = none → Same H H' → H' p = some o → Q p H') : ∀ p, H p = none → Q p (upd H p o) := fun p hp => h p _ hp (same_upd hp) upd_same
theorem newV {H : Hp} {o : HO} {Q : V → Hp → Prop} (h : ∀ p H', H p = none → Same H H' → H' p = some o → Q (.ref p) H') : ∀ p, H p = none → Q (.ref p) (upd H p o) := fun p hp => h p _ hp (same_upd hp) upd_same
theorem ie {b : Bool} {A B : Prop} (h1 : b = true → A) (h2 : b = false → B) : if b = true then A else B := by
  cases b with
  | true => rw [if_pos rfl]; exact h1 rfl
  | false => rw [if_neg Bool.false_ne_true]; exact h2 rfl
theorem if_pos_of {b : Bool} {A B : Prop} (h : b = true) (a : A) : if b = true then A else B := by rw [if_pos h]; exact a
theorem if_neg_of {b : Bool} {A B : Prop} (h : b = false) (a : B) : if b = true then A else B := by rw [h, if_neg Bool.false_ne_true]; exact a
theorem small40 {n : Nat} (h : n ≤ 100000) : n ≤ sizeLine := Nat.le_trans h (by decide)
end EL
namespace EL
open PySem PySem.Spec PyProof.Rows L2 He
/-! ### the head: facts, defs and one more Bool -/
theorem xc_of {K : PySem.W.Frag} {mg : Str → Option Value} {x : Str} (g : mg x = some (.ref (ga K x))) (h : PySem.W.excIn K (ga K x) veBase "ValueError.__new__" = true ∧ PySem.W.keepIn K (.ref (ga K x)) = true ∧ PySem.W.subIn K (.ref (ga K x)) (.type "BaseException") = some true ∧
    PySem.W.typeIn K (.ref (ga K x)) = some (.type "type")) : XC K mg x := ⟨g, h.1, h.2.1, h.2.2.1, h.2.2.2⟩
theorem gv_int {mg : Str → Option Value} {x : Str} {i : Int} (h : ∃ t, mg x = some (.int i t)) : ∃ u, mg x = some u ∧ RelV (.int i) u := by
  obtain ⟨t, e⟩ := h
  exact ⟨_, e, t, rfl⟩
theorem gv_str {mg : Str → Option Value} {x z : Str} (h : ∃ t, mg x = some (.str z t)) : ∃ u, mg x = some u ∧ RelV (.str z) u := by
  obtain ⟨t, e⟩ := h
  exact ⟨_, e, t, rfl⟩
abbrev AlM : Type := AlD × Bool
def obsM (fa : List Fa) (fn : List DefD) (ex : PySem.W.Frag → Bool) (K : PySem.W.Frag) : AlM := (obsD fa fn K, ex K)
def obsMG (n : Nat) (fa : List Fa) (fn : List DefD) (ex : PySem.W.Frag → Bool) (g : Addr → Option Obj) : AlM := obsM fa fn ex (frG g (asD g n))
def valM (fn : List DefD) : AlM := (valD fn, true)
def hookM (n : Nat) (fa : List Fa) (fn : List DefD) (ex : PySem.W.Frag → Bool) : PySem.W.Hook where
  α := AlM
  obs := fun s => obsMG n fa fn ex s.heap.get?
  val := fun _ => valM fn
  says := fun _ h => ∃ K : PySem.W.Frag, K.In h ∧ SaysD fa fn K ∧ ex K = true
  of := fun _ _ e => ⟨_, frG_in, congrArg (fun z : AlM => z.1) e, congrArg (fun z : AlM => z.2) e⟩
  keeps := fun _ _ _ ⟨K, hK, c⟩ k => ⟨K, PySem.W.Frag.In.keeps hK k, c⟩
theorem obsMG_eq {n : Nat} {fa : List Fa} {fn : List DefD} {ex : PySem.W.Frag → Bool} {g : Addr → Option Obj} {s : Shared} (h : ∀ a, g a = s.heap.get? a) : obsMG n fa fn ex g = (hookM n fa fn ex).obs s := by
  have e : g = s.heap.get? := funext h
  rw [e] <;> rfl
end EL
namespace EL
open PySem PySem.Spec PyProof.Rows L2 He
/-! ### from a def's body to its Dn -/
section
variable {P : Program} {w : World} {K : PySem.W.Frag} {mg : Str → Option Value} {base : Heap} {CX : CXT} {k : Nat} {x : Str} {sp : Sp} {params : Arguments} {body : List Stmt} {scope : Scope} {dvs : List V} {fd : FuncData} {ps N : List Str}
theorem dnN (g : mg x = some (.ref (ga K x))) (F : FunD K x x params body scope [] [] (ga K x) fd)
    (hb : ∀ (kV doc pm : Value) (an : Option Addr) (cdv ct : Value) (us : List Value), us.length = ps.length → bindArgs (PySem.W.fnOf x x params body scope .none kV doc pm an cdv ct) ⟨us, []⟩ = pure (ps.zip us))
    (S : FnScope N ps scope) (len : ∀ vs H Q E, sp vs H Q E → vs.length = ps.length)
    (hbody : ∀ (cdv : Value) (A : Around) (outer : List Env) (s : Shared) (H : Hp) (vs : List V) (Q : VK) (E : XK), Room k (A.deeper (envOfC x scope s.heap.objs.size (ga K x) cdv)) → sp vs H Q E →
      ∃ t, PSs (cxOf CX P w K mg base N x scope (ga K x) cdv A outer s H E) body t ∧ t { nx := fun _ H' => Q .non H', rt := Q } (start N vs) H) : Dn P w K mg base CX (k + 1) x sp :=
  ⟨g, F.kp, ((F.ok S len hbody).raw (F.bindsN hb) .nil).imp fun vs H Q E h => by rw [List.append_nil]; exact h⟩
theorem Dn.mono {j : Nat} (D : Dn P w K mg base CX j x sp) (h : j ≤ k) : Dn P w K mg base CX k x sp := ⟨D.g, D.kp, D.r.mono h⟩
end
/-! ### data -/
inductive Kd where
  | non | bl | int | str | lst | tup | dct
  deriving DecidableEq
def kdN : Kd → String
  | .non => "NoneType"
  | .bl => "bool"
  | .int => "int"
  | .str => "str"
  | .lst => "list"
  | .tup => "tuple"
  | .dct => "dict"
def kd : PyData → Kd
  | .none => .non
  | .bool _ => .bl
  | .int _ => .int
  | .str _ => .str
  | .list _ => .lst
  | .tuple _ => .tup
  | .dict _ => .dct
def tyn (d : PyData) : String := kdN (kd d)
theorem SqL.ty {K : PySem.W.Frag} {H : Hp} {a : Addr} {xs : List V} (h : SqL K H a xs) : TyX K H (.ref a) (.type "list") := by
  rcases h with (h | ⟨o, h⟩) | ⟨o, its, n, h1, h2, _⟩
  · exact .base (.lst h)
  · exact .base (.frz h)
  · exact .kList h1 h2
theorem SqT.ty {K : PySem.W.Frag} {H : Hp} {a : Addr} {xs : List V} (h : SqT K H a xs) : TyX K H (.ref a) (.type "tuple") := by
  rcases h with (h | ⟨o, h⟩) | ⟨o, its, n, h1, h2, _⟩
  · exact .base (.tup h)
  · exact .fTuple h
  · exact .kTuple h1 h2
theorem Dp.ty {K : PySem.W.Frag} {H : Hp} {v : V} {d : PyData} (h : Dp K H v d) : TyX K H v (.type (tyn d)) := by
  cases h with
  | non => exact .base .non
  | bl b => exact .base (.bl b)
  | int i => exact .base (.int i)
  | str x => exact .base (.str x)
  | lst h _ => exact SqL.ty h
  | tup h _ => exact SqT.ty h
mutual
theorem Dp.same {K : PySem.W.Frag} {H H' : Hp} (s : Same H H') : ∀ {d : PyData} {v : V}, Dp K H v d → Dp K H' v d
  | _, _, .non => .non
  | _, _, .bl b => .bl b
  | _, _, .int i => .int i
  | _, _, .str x => .str x
  | _, _, .lst h a => .lst (s.seq h) (DpAll.same s a)
  | _, _, .tup h a => .tup (Same.seqT s h) (DpAll.same s a)
theorem DpAll.same {K : PySem.W.Frag} {H H' : Hp} (s : Same H H') : ∀ {ds : List PyData} {vs : List V}, DpAll K H vs ds → DpAll K H' vs ds
  | _, _, .nil => .nil
  | _, _, .cons a b => .cons (Dp.same s a) (DpAll.same s b)
end
theorem DpAll.length {K : PySem.W.Frag} {H : Hp} : ∀ {ds : List PyData} {vs : List V}, DpAll K H vs ds → vs.length = ds.length
  | _, _, .nil => rfl
  | _, _, .cons _ b => congrArg Nat.succ (DpAll.length b)
/-- isinstance's answers of data -/
def kIs (T k : Kd) : Bool := decide (k = T) || (decide (T = .int) && decide (k = .bl))
def isTy (T : Kd) (d : PyData) : Bool := kIs T (kd d)
theorem kit_k : ∀ T k : Kd, kitB (kdN k) (kdN T) = some (kIs T k) := by
  intro T k
  cases T <;> cases k <;> decide +kernel
theorem kit_d (K : PySem.W.Frag) (T : Kd) (d : PyData) : PySem.W.kitOne K (.type (tyn d)) (.type (kdN T)) = some (isTy T d) := kit_ty (kit_k T (kd d))
/-- a thing: data, or some object that is none of the five -/
inductive Th where
  | d (d : PyData)
  | o
def ThOk (K : PySem.W.Frag) (H : Hp) (v : V) : Th → Prop
  | .d d => Dp K H v d
  | .o => ∃ t, TyX K H v t ∧ ∀ T : Kd, PySem.W.kitOne K t (.type (kdN T)) = some false
def Th.is (T : Kd) : Th → Bool
  | Th.d x => isTy T x
  | Th.o => false
/-- its type and isinstance's answers -/
theorem ThOk.ty {K : PySem.W.Frag} {H : Hp} {v : V} {th : Th} (h : ThOk K H v th) : ∃ t, TyX K H v t ∧ ∀ T : Kd, PySem.W.kitOne K t (.type (kdN T)) = some (th.is T) := by
  cases th with
  | d d => exact ⟨_, Dp.ty h, fun T => kit_d K T d⟩
  | o => exact h
def isWholeT (th : Th) : Bool := th.is .int && !th.is .bl
def isWholeD : PyData → Bool
  | .int _ => true
  | _ => false
theorem isWholeT_d (d : PyData) : isWholeT (.d d) = isWholeD d := by cases d <;> rfl
def isValD : PyData → Bool
  | .tuple [.int a, .int b] => !decide (b < 1) && decide (cd a b = 1)
  | _ => false
def isValT : Th → Bool
  | Th.d x => isValD x
  | Th.o => false
end EL
namespace EL
open PySem PySem.Spec PyProof.Rows L2 He TL
/-! ### keywords alone -/
section
variable {K : PySem.W.Frag} {x qual : Str} {params : Arguments} {body : List Stmt} {scope : Scope} {dvs : List V} {kws : List (Str × V)} {f : Addr} {fd : FuncData} {ps : List Str}
theorem kbinds1 (F : FunD K x qual params body scope dvs kws f fd) (n : Nat) (ks : List Str) (g : {α : Type} → List α → List α → List α → List α) (hd : dvs ≠ [])
    (hrel : ∀ {vs ds zs : List V} {us its ws : List Value}, Vals vs us → Vals ds its → Vals zs ws → Vals (g vs ds zs) (g us its ws))
    (h : ∀ (T : Addr) (kV doc pm : Value) (an : Option Addr) (cdv ct : Value) (us its ws : List Value), us.length = n → its.length = dvs.length → ws.length = ks.length →
      ∃ k, bindArgs (PySem.W.fnOf x qual params body scope (.ref T) kV doc pm an cdv ct) ⟨us, ks.zip ws⟩ = seqItems? (.ref T) >>= k ∧ k (some its.toArray) = pure (ps.zip (g us its ws))) :
    ∃ its : List Value, KBn K fd ps n ks (fun us ws => g us its ws) (fun vs zs => g vs dvs zs) := by
  obtain ⟨oc, od, dV, kV, doc, pm, an, cdv, ct, osl, rfl, lk, hcd, hD, hK⟩ := F.ex
  rcases hD with ⟨e, _⟩ | ⟨_, T, o, its, m, rfl, lT, oT, rT⟩
  · exact absurd e hd
  · refine ⟨its, ⟨fun s us ws X h1 h2 => ?_, fun r rz => hrel r rT rz⟩⟩
    obtain ⟨k, e1, e2⟩ := h T kV doc pm an cdv ct us its ws h1 rT.length.symm h2
    refine BindsTo.of_looks fun M => ?_
    rw [e1]
    exact looks_items X lT oT (.of_pure e2)
end
section
variable {X : Cx} {CX : CXT} {k : Nat} {f : Addr} {fd : FuncData} {ps ks : List Str} {sp : Sp} {E : XK} {x : Str} {p pos : Pos} {kws : List Keyword} {tk : TA} {g : List Value → List Value → List Value} {gV : List V → List V → List V}
/-- f(k = v, ..) -/
theorem pe_callN0 (F : FnOk X.prog X.w X.K X.mg X.base CX k f fd ps sp) (hr : Room k X.A) (hg : Gl X x) (hm : X.mg x = some (.ref f)) (hk : PySem.W.keepIn X.K (.ref f) = true) (hb : KBn X.K fd ps 0 ks g gV) (hx : Passes CX X E)
    (hkw : PK X kws tk) (hall : (backToKw pos (keywordEach kws X.env)).all (·.1.isSome) = true := by rfl) (hks : (backToKw pos (keywordEach kws X.env)).filterMap (·.1) = ks := by rfl)
    (hdb : (x == ("__debug__" : Str)) = false := by decide) (hpl : ((backTo pos (starEach [] X.env)).any (·.1) || (backToKw pos (keywordEach kws X.env)).any (·.1.isNone)) = false := by rfl) :
    PE X (.Call (.Name x p) [] kws pos) (tCallN 0 ks.length sp gV E tNil tk) := by
  refine ⟨fun pins s σ H Q I h => ?_⟩
  refine wpAny_Call_Name_kw (ld_glob I hg hm ?_ hdb)
  refine PySem.W.callWith_KW0 (h₀ := X.base) I.ok.mod.kin hk hall ?_ hpl
  refine thn (hkw.run pos pins s σ H _ I h) fun ws s2 ⟨zs, H2, I2, rz, l1, l2, q2⟩ => ⟨I2.kIn, ?_⟩
  rw [hks]
  exact run_fnN (us := []) (vs := []) F hr hb hx I2 .nil rz rfl l2 q2
end
/-! ### texts of numbers -/
theorem str_nil (x : Str) : Str.empty ++ x = x := ext_tl (by rw [tl_append]; rfl)
theorem natDigits_len {n k : Nat} (hk : 0 < k) (h : n < 10 ^ k) : (numL n).length ≤ k := numL_len hk h
/-- the signs of an int -/
def intL (a : Int) : List Nat := if a < 0 then 45 :: numL a.natAbs else numL a.natAbs
theorem tl_int (a : Int) : tl (Str.ofString (toString a)) = intL a := by
  cases a with
  | ofNat n => exact tl_num n
  | negSucc n =>
    unfold intL
    rw [if_pos (by omega), tl_ofString]
    show ("-" ++ Nat.repr (n + 1)).toList.map Char.toNat = 45 :: numL (n + 1)
    rw [String.toList_append, List.map_append, Nat.toList_repr]
    rfl
theorem numL_len1000 {n : Nat} (h : n < 2 ^ 1000) : (numL n).length ≤ 1000 := numL_len (by decide) (Nat.lt_of_lt_of_le h (Nat.pow_le_pow_left (by decide) _))
theorem len_int {a : Int} (h : a.natAbs < 2 ^ 1000) : (Str.ofString (toString a)).length ≤ 1001 := by
  rw [len_tl, tl_int]
  have := numL_len1000 h
  unfold intL
  split
  · rw [List.length_cons]
    omega
  · omega
/-- what a text of digits is worth -/
def isDig (c : Nat) : Bool := decide (48 ≤ c) && decide (c ≤ 57)
def rdD (cs : List Nat) : Option Nat := if (1 ≤ cs.length ∧ cs.length ≤ 40) ∧ cs.all isDig = true ∧ ¬ (1 < cs.length ∧ cs.head? = some 48) then some (NumText.digitsVal cs) else none
def optV : Option Nat → V
  | none => .non
  | some n => .int n
/-- a text as value reads it -/
def rdP (cs : List Nat) : List Nat × Option (List Nat) := match par [47] [] cs with
  | none => (cs, none)
  | some (a, b) => (a, some b)
def rdB : Option (List Nat) → Option Nat
  | none => some 1
  | some u => match rdD u with
    | some b => if 2 ≤ b then some b else none
    | none => none
def rdF (below : Bool) : Option Nat → Option Nat → Option (Int × Int)
  | some b, some t => if (below && decide (t = 0)) || decide (Nat.gcd t b ≠ 1) then none else some (if below then -(t : Int) else (t : Int), (b : Int))
  | _, _ => none
def rdV (cs : List Nat) : Option (Int × Int) :=
  rdF (decide (cs.take 1 = [45])) (rdB (rdP (if decide (cs.take 1 = [45]) = true then cs.drop 1 else cs)).2) (rdD (rdP (if decide (cs.take 1 = [45]) = true then cs.drop 1 else cs)).1)
theorem par_split {s : Nat} : ∀ (cs acc a b : List Nat), par [s] acc cs = some (a, b) → acc ++ cs = a ++ s :: b
  | [], acc, a, b, h => by simp [par] at h
  | c :: r, acc, a, b, h => by
    by_cases e : c = s
    · subst e
      rw [par_hit (by simp [pre])] at h
      injection h with h
      injection h with h1 h2
      rw [← h1, ← h2]
      rfl
    · rw [par_miss (pre_of_head [] r e)] at h
      have := par_split r (acc ++ [c]) a b h
      rw [← this]
      simp
end EL
namespace EL
open PySem PySem.Spec PyProof.Rows L2 He TL
theorem tl_cut_to (z : Str) (k : Nat) : tl (cutS z none (some (k : Int))) = (tl z).take k := by
  show ((tl z).drop (HT.sIx z.length 0 none)).take (HT.sIx z.length z.length (some (k : Int)) - HT.sIx z.length 0 none) = (tl z).take k
  rw [HT.sIx_none, HT.sIx_nat, List.drop_zero, Nat.sub_zero, len_tl]
  by_cases h : k ≤ (tl z).length
  · rw [Nat.min_eq_left h]
  · rw [Nat.min_eq_right (by omega), List.take_length, List.take_of_length_le (by omega)]
theorem tl_cut_from (z : Str) (k : Nat) : tl (cutS z (some (k : Int)) none) = (tl z).drop k := by
  show ((tl z).drop (HT.sIx z.length 0 (some (k : Int)))).take (HT.sIx z.length z.length none - HT.sIx z.length 0 (some (k : Int))) = (tl z).drop k
  rw [HT.sIx_none, HT.sIx_nat, len_tl]
  by_cases h : k ≤ (tl z).length
  · rw [Nat.min_eq_left h, List.take_of_length_le (by rw [List.length_drop]; omega)]
  · rw [Nat.min_eq_right (by omega), List.drop_length, List.drop_of_length_le (by omega), List.take_nil]
theorem tl_digits : tl ("0123456789" : Str) = [48, 49, 50, 51, 52, 53, 54, 55, 56, 57] := by decide +kernel
theorem mem_digits (c : Nat) : decide (c ∈ tl ("0123456789" : Str)) = isDig c := by
  rw [tl_digits]
  unfold isDig
  rw [← Bool.decide_and]
  refine decide_eq_decide.mpr ?_
  simp only [List.mem_cons, List.not_mem_nil, or_false]
  omega
theorem str_one {c : Nat} {y : Str} {d : Nat} (hy : tl y = [d]) : decide (V.str ⟨#[c]⟩ = V.str y) = decide (c = d) := by
  refine decide_eq_decide.mpr ⟨fun e => ?_, fun e => ?_⟩
  · have e1 : (⟨#[c]⟩ : Str) = y := by injection e
    rw [← e1] at hy
    have h2 : [c] = [d] := hy
    injection h2
  · have e1 : (⟨#[c]⟩ : Str) = y := ext_tl (by rw [hy, e])
    rw [e1]
theorem allDigits_of {cs : List Nat} (h : cs.all isDig = true) : NumText.AllDigits cs := fun c hc => by
  have := List.all_eq_true.mp h c hc
  unfold isDig at this
  rw [Bool.and_eq_true, decide_eq_true_eq, decide_eq_true_eq] at this
  exact this
theorem str_eq_tl {x y : Str} : decide (V.str x = V.str y) = decide (tl x = tl y) := decide_eq_decide.mpr ⟨fun e => by injection e with e; rw [e], fun e => by rw [ext_tl e]⟩
/-- a statement, then the rest, with a word between them -/
def tMid (t u : TS) : TS := fun D σ H => ∃ Mid : L2.St → Hp → Prop, t { D with nx := Mid } σ H ∧ ∀ σ' H', Mid σ' H' → u D σ' H'
theorem pss_mid {X : Cx} {st : Stmt} {rest : List Stmt} {t u : TS} (h1 : PS X st t) (h2 : PSs X rest u) : PSs X (st :: rest) (tMid t u) := by
  refine ⟨fun pins s σ H D I h => ?_⟩
  obtain ⟨Mid, hm, hu⟩ := h
  refine wpAny_execs_cons (thn (h1.run pins s σ H { D with nx := Mid } I hm) fun f s1 q => ?_)
  cases f with
  | next =>
    obtain ⟨σ', H', I', q⟩ := q
    exact h2.run pins s1 σ' H' D I' (hu σ' H' q)
  | ret v => exact q
  | brk => exact q
  | cont => exact q
end EL
namespace EL
open PySem PySem.Spec PyProof.Rows L2 He TL
/-! ### more facts of K, as Bools -/
theorem exG {l : List Bool} {b : Bool} (m : l.all id = true) (i : Nat) (h : l[i]? = some b) : b = true := List.all_eq_true.mp m b (List.mem_of_getElem? h)
def excCB (K : PySem.W.Frag) (D : Addr) : Bool := eqO (PySem.W.findIn K (.ref D) "__getattribute__") (some (some (.builtin "BaseException.__getattribute__"))) && (eqO (PySem.W.findIn K (.ref D) "__getattr__") (some none) &&
  (decide (PySem.W.subIn K (.ref D) (.type "BaseException") = some true) && (PySem.W.hasDictIn K D && (eqO (PySem.W.findIn K (.ref D) "__class__") (some (some (.builtin "object.__class__"))) &&
  (eqO (PySem.W.specialIn K (.builtin "object.__class__") "__get__") (some (some (.builtin "getset_descriptor.__get__"))) && (decide (PySem.W.takesIn K (.builtin "object.__class__") = some true) && decide (PySem.W.mroIn K D (.type "object") = some true)))))))
theorem excCB_ok {K : PySem.W.Frag} {D : Addr} (h : excCB K D = true) : ExcC K D := by
  obtain ⟨h1, h⟩ := ba h
  obtain ⟨h2, h⟩ := ba h
  obtain ⟨h3, h⟩ := ba h
  obtain ⟨h4, h⟩ := ba h
  obtain ⟨h5, h⟩ := ba h
  obtain ⟨h6, h⟩ := ba h
  obtain ⟨h7, h8⟩ := ba h
  exact ⟨eqO_ok h1, eqO_ok h2, of_decide_eq_true h3, h4, eqO_ok h5, eqO_ok h6, of_decide_eq_true h7, of_decide_eq_true h8⟩
/-- isinstance(e, c), e the exception of the class at D that the suite holds -/
theorem call_isX {X : Cx} {a : Addr} {oe : Obj} {pn : List (Addr × Obj)} {cls : Value} {d : Option Addr} (D : Addr) (C : ExcC X.K D) (hz : Zc cls d oe) (hf : ∃ vs, oe.data = .fields vs) :
    CallR (X.suite a ((a, oe) :: pn)) (.builtin "isinstance") (fun xs H Q => cls = .ref D ∧ d = none ∧ rIsE X.K D a xs H Q) := by
  intro pins s σ H xs us Q I r h
  obtain ⟨rfl, rfl, h⟩ := h
  exact call_isE C hz hf pins s σ H xs us Q I r h
/-! ### the law's source of draws -/
/-- the list [cells, place, digits, state] -/
def Src (H : Hp) (p l : Addr) : Prop := ∃ (ns : List Int) (i : Nat) (c r : Int), H p = some (.lst [.ref l, .int i, .int c, .int r]) ∧ H l = some (.lst (ns.map V.int)) ∧ 0 ≤ c ∧ 0 ≤ r ∧ r < 2147483647
/-- all but p is as it was -/
def But (p : Addr) (H H' : Hp) : Prop := ∀ b o, H b = some o → b ≠ p → H' b = some o
theorem But.refl (p : Addr) (H : Hp) : But p H H := fun _ _ h _ => h
theorem But.trans {p : Addr} {H H1 H2 : Hp} (a : But p H H1) (b : But p H1 H2) : But p H H2 := fun c o h n => b c o (a c o h n) n
theorem But.of {p : Addr} {H H' : Hp} (s : Same H H') : But p H H' := fun b o h _ => s b o h
theorem but_upd {p : Addr} {H : Hp} {o : HO} : But p H (upd H p o) := fun b x h n => by rw [upd_ne n]; exact h
theorem Src.same {H H' : Hp} {p l : Addr} (s : Same H H') (h : Src H p l) : Src H' p l := by
  obtain ⟨ns, i, c, r, h1, h2, h3⟩ := h
  exact ⟨ns, i, c, r, s _ _ h1, s _ _ h2, h3⟩
theorem Src.lst {H : Hp} {p l : Addr} (h : Src H p l) : ∃ xs, H p = some (.lst xs) := by
  obtain ⟨ns, i, c, r, h1, _⟩ := h
  exact ⟨_, h1⟩
theorem Src.lst2 {H : Hp} {p l : Addr} (h : Src H p l) : ∃ xs, H l = some (.lst xs) := by
  obtain ⟨ns, i, c, r, h1, h2, _⟩ := h
  exact ⟨_, h2⟩
theorem Src.ne {H : Hp} {p l : Addr} (h : Src H p l) : l ≠ p := fun e => by
  obtain ⟨ns, i, c, r, h1, h2, _⟩ := h
  subst e
  rw [h1] at h2
  injection h2 with h2
  injection h2 with h2
  cases ns with
  | nil => cases h2
  | cons x r => injection h2 with h2; cases h2
/-- another thing changes -/
theorem Src.but {H H' : Hp} {p l x : Addr} (s : But x H H') (h : Src H p l) (h1 : p ≠ x) (h2 : l ≠ x) : Src H' p l := by
  obtain ⟨ns, i, c, r, k1, k2, h3⟩ := h
  exact ⟨ns, i, c, r, s _ _ k1 h1, s _ _ k2 h2, h3⟩
theorem But.seqT {K : PySem.W.Frag} {p a : Addr} {H H' : Hp} {xs : List V} (s : But p H H') (hp : ∃ ys, H p = some (.lst ys)) (h : SqT K H a xs) : SqT K H' a xs := by
  obtain ⟨ys, hp⟩ := hp
  rcases h with (h | ⟨o, h⟩) | h
  · exact .inl (.inl (s _ _ h (ne_of h hp (by intro z; cases z))))
  · exact .inl (.inr ⟨o, s _ _ h (ne_of h hp (by intro z; cases z))⟩)
  · exact .inr h
end EL
namespace EL
open PySem PySem.Spec PyProof.Rows L2 He TL
/-! ### a written value is read back -/
def txtV (a b : Int) : Str := if b = 1 then (toString a : String) else ((toString a : String) : Str) ++ "/" ++ ((toString b : String) : Str)
theorem numL_head {n : Nat} (h : 1 ≤ n) : (numL n).head? ≠ some 48 := by
  induction n using Nat.strongRecOn with
  | _ n ih =>
    by_cases h10 : n < 10
    · rw [numL_lt h10]
      intro e
      have e2 : 48 + n = 48 := Option.some.inj e
      omega
    · rw [numL_step (by omega)]
      have hh := ih (n / 10) (by omega) (by omega)
      cases hc : numL (n / 10) with
      | nil => exact absurd hc (numL_ne _)
      | cons x r =>
        rw [hc] at hh
        exact hh
theorem rdD_num {n : Nat} (h : n < 10 ^ 40) : rdD (numL n) = some n := by
  unfold rdD
  have hl : (numL n).length ≤ 40 := numL_len (by decide) h
  have h1 : 1 ≤ (numL n).length := by
    cases hc : numL n with
    | nil => exact absurd hc (numL_ne _)
    | cons x r => simp
  rw [if_pos, numL_val]
  refine ⟨⟨h1, hl⟩, ?_, ?_⟩
  · refine List.all_eq_true.mpr fun c hc => ?_
    have := numL_digits n c hc
    unfold isDig
    rw [Bool.and_eq_true, decide_eq_true_eq, decide_eq_true_eq]
    exact this
  · rintro ⟨h2, h3⟩
    by_cases h0 : n < 10
    · rw [numL_lt h0] at h2
      exact absurd h2 (Nat.lt_irrefl 1)
    · exact numL_head (by omega) h3
theorem tl_txtV (a b : Int) : tl (txtV a b) = if b = 1 then intL a else intL a ++ 47 :: intL b := by
  unfold txtV
  by_cases h : b = 1
  · rw [if_pos h, if_pos h]
    exact tl_int a
  · rw [if_neg h, if_neg h, tl_append, tl_append, tl_int, tl_int, show tl ("/" : Str) = [47] by decide +kernel, List.append_assoc]
    rfl
theorem numL_first (n : Nat) : (numL n).take 1 ≠ [45] := fun e => by
  have : (45 : Nat) ∈ (numL n).take 1 := by rw [e]; simp
  exact numL_free (n := n) (s := 45) (.inl (by decide)) (List.mem_of_mem_take this)
theorem numL_app_first (n : Nat) (r : List Nat) : (numL n ++ r).take 1 ≠ [45] := fun e => by
  cases hc : numL n with
  | nil => exact absurd hc (numL_ne _)
  | cons x q =>
    rw [hc] at e
    have := numL_first n
    rw [hc] at this
    exact this e
theorem rdP_num (n : Nat) : rdP (numL n) = (numL n, none) := by
  unfold rdP
  rw [par_none1 (numL_free (.inl (by decide)))]
theorem rdP_two (n m : Nat) : rdP (numL n ++ 47 :: numL m) = (numL n, some (numL m)) := by
  unfold rdP
  rw [show numL n ++ 47 :: numL m = numL n ++ ([47] ++ numL m) from rfl, par_part1 (numL_free (.inl (by decide)))]
  rfl
theorem rdV_txt {a b : Int} (h : Low a b) (ha : a.natAbs < 10 ^ 40) (hb : b.natAbs < 10 ^ 40) : rdV (tl (txtV a b)) = some (a, b) := by
  obtain ⟨hb0, hg⟩ := h
  have hg' : Nat.gcd a.natAbs b.natAbs = 1 := by unfold cd at hg; omega
  have hbL : intL b = numL b.natAbs := by
    unfold intL
    rw [if_neg (by omega)]
  -- the body behind the sign, by its parts
  have body : ∀ cs : List Nat, cs = (if b = 1 then numL a.natAbs else numL a.natAbs ++ 47 :: numL b.natAbs) → rdB (rdP cs).2 = some b.natAbs ∧ rdD (rdP cs).1 = some a.natAbs := by
    intro cs hcs
    by_cases h1 : b = 1
    · rw [if_pos h1] at hcs
      rw [hcs, rdP_num]
      refine ⟨?_, rdD_num ha⟩
      rw [h1]
      rfl
    · rw [if_neg h1] at hcs
      rw [hcs, rdP_two]
      refine ⟨?_, rdD_num ha⟩
      simp only [rdB, rdD_num hb]
      exact if_pos (by omega)
  rw [tl_txtV]
  unfold rdV
  by_cases hn : a < 0
  · have e : (if b = 1 then intL a else intL a ++ 47 :: intL b) = 45 :: (if b = 1 then numL a.natAbs else numL a.natAbs ++ 47 :: numL b.natAbs) := by
      unfold intL
      rw [if_pos hn, if_neg (show ¬ b < 0 by omega)]
      split <;> rfl
    rw [e]
    obtain ⟨e1, e2⟩ := body _ rfl
    rw [show decide ((45 :: (if b = 1 then numL a.natAbs else numL a.natAbs ++ 47 :: numL b.natAbs)).take 1 = [45]) = true from rfl, if_pos rfl, List.drop_one, List.tail_cons, e1, e2]
    show (if (true && decide (a.natAbs = 0) || decide (Nat.gcd a.natAbs b.natAbs ≠ 1)) = true then none else some (-(a.natAbs : Int), (b.natAbs : Int))) = _
    rw [if_neg]
    · rw [show -(a.natAbs : Int) = a by omega, show (b.natAbs : Int) = b by omega]
    · rw [decide_eq_false (show ¬ a.natAbs = 0 by omega), Bool.and_false, Bool.false_or]
      exact fun z => of_decide_eq_true z hg'
  · have e : (if b = 1 then intL a else intL a ++ 47 :: intL b) = (if b = 1 then numL a.natAbs else numL a.natAbs ++ 47 :: numL b.natAbs) := by
      unfold intL
      rw [if_neg hn, if_neg (show ¬ b < 0 by omega)]
    rw [e]
    have hf : (if b = 1 then numL a.natAbs else numL a.natAbs ++ 47 :: numL b.natAbs).take 1 ≠ [45] := by
      split
      · exact numL_first _
      · exact numL_app_first _ _
    obtain ⟨e1, e2⟩ := body _ rfl
    rw [decide_eq_false hf, if_neg Bool.false_ne_true, e1, e2]
    show (if (false && decide (a.natAbs = 0) || decide (Nat.gcd a.natAbs b.natAbs ≠ 1)) = true then none else some ((a.natAbs : Int), (b.natAbs : Int))) = _
    rw [if_neg]
    · rw [show (a.natAbs : Int) = a by omega, show (b.natAbs : Int) = b by omega]
    · rw [Bool.false_and, Bool.false_or]
      exact fun z => of_decide_eq_true z hg'
theorem nrm_abs (t b : Int) : (nrm t b).1.natAbs ≤ t.natAbs ∧ (nrm t b).2.natAbs ≤ b.natAbs := by
  have k : ∀ x g : Int, g ∣ x → (x / g).natAbs ≤ x.natAbs := fun x g h => by
    rw [Int.natAbs_ediv_of_dvd h]
    exact Nat.div_le_self _ _
  unfold nrm
  split
  · have h1 := k (-t) _ (cd_dvd_l (-t) (-b))
    have h2 := k (-b) _ (cd_dvd_r (-t) (-b))
    rw [Int.natAbs_neg] at h1 h2
    exact ⟨h1, h2⟩
  · exact ⟨k t _ (cd_dvd_l t b), k b _ (cd_dvd_r t b)⟩
theorem nrm_neg {t b : Int} (h : b < 0) : nrm (-t) (-b) = nrm t b := by
  unfold nrm
  rw [if_pos h, if_neg (by omega)]
end EL
namespace EL
open PySem PySem.Spec PyProof.Rows L2 He TL
/-! ### texts of values, the other way about -/
theorem digitsVal_snoc' (cs : List Nat) (d : Nat) : NumText.digitsVal (cs ++ [d]) = NumText.digitsVal cs * 10 + (d - 48) := by
  unfold NumText.digitsVal
  rw [List.foldl_append]
  rfl
theorem snoc_of {cs : List Nat} (h : cs ≠ []) : ∃ i d, cs = i ++ [d] := ⟨cs.dropLast, cs.getLast h, (List.dropLast_concat_getLast h).symm⟩
theorem numL_back : ∀ (k : Nat) (cs : List Nat), cs.length = k → cs ≠ [] → cs.all isDig = true → ¬ (1 < cs.length ∧ cs.head? = some 48) → numL (NumText.digitsVal cs) = cs ∧ (cs.head? ≠ some 48 → 1 ≤ NumText.digitsVal cs)
  | 0, cs, hk, hne, _, _ => absurd (List.length_eq_zero_iff.mp hk) hne
  | k + 1, cs, hk, hne, ha, hz => by
    obtain ⟨i, d, rfl⟩ := snoc_of hne
    rw [List.all_append, Bool.and_eq_true] at ha
    have hd : 48 ≤ d ∧ d ≤ 57 := by
      have := ha.2
      simp only [List.all_cons, List.all_nil, Bool.and_true, isDig, Bool.and_eq_true, decide_eq_true_eq] at this
      exact this
    rw [digitsVal_snoc']
    cases hi : i with
    | nil =>
      have e : NumText.digitsVal [] = 0 := rfl
      rw [e, Nat.zero_mul, Nat.zero_add, numL_lt (by omega)]
      refine ⟨?_, fun hh => ?_⟩
      · show [48 + (d - 48)] = [d]
        rw [show 48 + (d - 48) = d by omega]
      · have : d ≠ 48 := fun z => hh (by rw [z]; rfl)
        omega
    | cons x r =>
      have hl : i.length = k := by
        rw [List.length_append, List.length_singleton] at hk
        omega
      have hh : (i ++ [d]).head? = i.head? := by rw [hi]; rfl
      have h48 : i.head? ≠ some 48 := fun z => hz ⟨by rw [List.length_append, hi]; simp, by rw [hh]; exact z⟩
      obtain ⟨e1, e2⟩ := numL_back k i hl (by rw [hi]; simp) ha.1 (fun z => h48 z.2)
      have e3 := e2 h48
      rw [← hi]
      refine ⟨?_, fun _ => by omega⟩
      rw [numL_step (by omega), show (NumText.digitsVal i * 10 + (d - 48)) / 10 = NumText.digitsVal i by omega, show (NumText.digitsVal i * 10 + (d - 48)) % 10 = d - 48 by omega, e1, show 48 + (d - 48) = d by omega]
theorem rdD_inv {cs : List Nat} {n : Nat} (h : rdD cs = some n) : cs = numL n ∧ n < 10 ^ 40 := by
  unfold rdD at h
  split at h
  · rename_i c
    injection h with h
    have hne : cs ≠ [] := fun e => by rw [e] at c; exact absurd c.1.1 (by decide)
    have e := (numL_back cs.length cs rfl hne c.2.1 c.2.2).1
    rw [h] at e
    refine ⟨e.symm, ?_⟩
    have hl : (numL n).length ≤ 40 := by rw [e]; exact c.1.2
    exact Nat.lt_of_not_le fun hge => by
      have : ∀ (k m : Nat), 10 ^ k ≤ m → k + 1 ≤ (numL m).length := by
        intro k
        induction k with
        | zero =>
          intro m _
          cases hm : numL m with
          | nil => exact absurd hm (numL_ne _)
          | cons x r => simp
        | succ k ih =>
          intro m hm
          have h10 : 10 ≤ m := Nat.le_trans (by rw [Nat.pow_succ]; have : 0 < 10 ^ k := Nat.pow_pos (by decide); omega) hm
          rw [numL_step h10, List.length_append]
          have := ih (m / 10) ((Nat.le_div_iff_mul_le (by decide)).mpr (by rw [Nat.pow_succ] at hm; exact hm))
          simp only [List.length_singleton]
          omega
      have := this 40 n hge
      omega
  · cases h
theorem spl_par {s : Nat} : ∀ (cs acc : List Nat), spl [s] 0 acc cs = (match par [s] acc cs with | none => [acc ++ cs] | some (a, b) => a :: spl [s] 0 [] b)
  | [], acc => by
    rw [spl_nil]
    simp [par]
  | c :: r, acc => by
    by_cases e : c = s
    · subst e
      rw [spl_hit (by simp [pre]), par_hit (by simp [pre])]
      rfl
    · rw [spl_miss (pre_of_head [] r e), par_miss (pre_of_head [] r e), spl_par r (acc ++ [c])]
      cases par [s] (acc ++ [c]) r with
      | none => simp
      | some ab => rfl
theorem par_some {s : Nat} : ∀ (cs acc : List Nat), s ∈ cs → ∃ a b, par [s] acc cs = some (a, b)
  | [], _, h => by cases h
  | c :: r, acc, h => by
    by_cases e : c = s
    · subst e
      exact ⟨acc, r, by rw [par_hit (by simp [pre])]; rfl⟩
    · rw [par_miss (pre_of_head [] r e)]
      exact par_some r _ (by
        rcases List.mem_cons.mp h with z | z
        · exact absurd z.symm e
        · exact z)
theorem rdD_free {cs : List Nat} (h : 47 ∈ cs) : rdD cs = none := by
  unfold rdD
  refine if_neg fun c => ?_
  have := List.all_eq_true.mp c.2.1 47 h
  exact absurd this (by decide)
/-- what read_value takes, text_of writes -/
theorem rdV_inv {cs : List Nat} {a b : Int} (h : rdV cs = some (a, b)) : tl (txtV a b) = cs ∧ Low a b ∧ a.natAbs < 10 ^ 40 ∧ b.natAbs < 10 ^ 40 := by
  unfold rdV at h
  generalize hbd : (if decide (cs.take 1 = [45]) = true then cs.drop 1 else cs) = bd at h
  cases hB : rdB (rdP bd).2 with
  | none =>
    rw [hB] at h
    cases h
  | some n =>
    cases hD : rdD (rdP bd).1 with
    | none =>
      rw [hB, hD] at h
      cases h
    | some m =>
      rw [hB, hD] at h
      generalize hbl : decide (cs.take 1 = [45]) = below at *
      have h' : (if (below && decide (m = 0) || decide (Nat.gcd m n ≠ 1)) = true then none else some (if below then -(m : Int) else (m : Int), (n : Int))) = some (a, b) := h
      split at h'
      · cases h'
      · rename_i c
        injection h' with h'
        injection h' with ea eb
        have hg : Nat.gcd m n = 1 := by
          cases hd : decide (Nat.gcd m n ≠ 1) with
          | true => rw [hd, Bool.or_true] at c; exact absurd rfl c
          | false => exact Decidable.not_not.mp (of_decide_eq_false hd)
        have hbz : below = true → m ≠ 0 := fun hb z => by
          rw [hb, z] at c
          exact c rfl
        obtain ⟨e1, m40⟩ := rdD_inv hD
        -- the body
        have body : bd = (if n = 1 then numL m else numL m ++ 47 :: numL n) ∧ 1 ≤ n ∧ n < 10 ^ 40 := by
          unfold rdP at hB e1
          cases hp : par [47] [] bd with
          | none =>
            rw [hp] at hB e1
            have en : 1 = n := Option.some.inj hB
            rw [if_pos en.symm]
            exact ⟨e1, by omega, by rw [← en]; decide⟩
          | some xy =>
            obtain ⟨x, y⟩ := xy
            rw [hp] at hB e1
            have hB' : (match rdD y with | some b => if 2 ≤ b then some b else none | none => none) = some n := hB
            cases hy : rdD y with
            | none =>
              rw [hy] at hB'
              cases hB'
            | some k =>
              rw [hy] at hB'
              have hB2 : (if 2 ≤ k then some k else none) = some n := hB'
              split at hB2
              · injection hB2 with hk
                subst hk
                obtain ⟨e2, k40⟩ := rdD_inv hy
                rw [if_neg (by omega)]
                have e3 : x = numL m := e1
                refine ⟨?_, by omega, k40⟩
                rw [← e3, ← e2]
                exact (par_split _ _ _ _ hp)
              · cases hB2
        obtain ⟨hbody, hn1, n40⟩ := body
        have hcs : cs = if below = true then 45 :: bd else bd := by
          cases below with
          | true =>
            have ht := of_decide_eq_true hbl
            rw [if_pos rfl] at hbd ⊢
            rw [← hbd, ← List.singleton_append, ← ht, List.take_append_drop]
          | false =>
            rw [if_neg Bool.false_ne_true] at hbd ⊢
            exact hbd
        have ebn : b.natAbs = n := by omega
        have eam : a.natAbs = m := by
          rw [← ea]
          split <;> omega
        refine ⟨?_, ⟨by omega, ?_⟩, by omega, by omega⟩
        · rw [tl_txtV, hcs, hbody]
          have hb1 : (b = 1) ↔ (n = 1) := by omega
          have hib : intL b = numL n := by
            unfold intL
            rw [if_neg (by omega), ebn]
          have hia : intL a = if below = true then 45 :: numL m else numL m := by
            unfold intL
            rw [eam]
            cases hbe : below with
            | true =>
              rw [hbe] at ea hbz
              have hm := hbz rfl
              rw [if_pos rfl] at ea ⊢
              rw [if_pos (by omega)]
            | false =>
              rw [hbe] at ea
              rw [if_neg Bool.false_ne_true] at ea ⊢
              rw [if_neg (by omega)]
          rw [hia, hib]
          by_cases h1 : n = 1
          · rw [if_pos h1, if_pos (hb1.mpr h1)]
          · rw [if_neg h1, if_neg (fun z => h1 (hb1.mp z))]
            cases below <;> rfl
        · unfold cd
          rw [eam, ebn, hg]
          rfl
theorem call_str_bool {X : Cx} : CallR X (.type "str") (fun xs H Q => ∃ b : Bool, xs = [.bl b] ∧ Q (.str (if b then "True" else "False")) H) := by
  intro pins s σ H xs us Q I r h
  obtain ⟨b, rfl, q⟩ := h
  obtain ⟨u, rfl, ru⟩ := vals1 r
  cases ru
  exact PySem.P.str_of_bool ⟨.str _, H, I.tok _, ⟨_, rfl⟩, q⟩
end EL
namespace EL
open PySem PySem.Spec PyProof.Rows L2 He TL ClX
/-! ### the head with defs at any address -/
def fnWA (K : PySem.W.Frag) (a : Addr) : FnW := match K.lookup a with
  | some ⟨_, _, .func fd, _⟩ => some (fd.name, fd.qualname, fd.params, fd.body, fd.scope, fd.globals, fd.closure, fd.builtins)
  | _ => none
structure DefE where
  ad : PySem.W.Frag → Addr
  name : Str
  qual : Str
  params : Arguments
  body : List Stmt
  scope : Scope
  dfl : List Dv := []
  kwd : List (Str × Dv) := []
def DefE.kws (K : PySem.W.Frag) (d : DefE) : List (Str × V) := d.kwd.map fun q => (q.1, q.2.v K)
def DefE.val (d : DefE) : FnW := some (d.name, d.qual, d.params, .stmts d.body, d.scope, mainGlobals, [], builtinsNs)
def DefE.dvs (K : PySem.W.Frag) (d : DefE) : List V := d.dfl.map (Dv.v K)
def DefE.ok (K : PySem.W.Frag) (d : DefE) : Bool := PySem.W.keepIn K (.ref (d.ad K)) && (match K.lookup (d.ad K) with
  | some ⟨_, _, .func fd, _⟩ => PySem.W.codeIn K fd.code d.qual && (dflB K fd.defaults (d.dvs K) && kwdB K fd.kwdefaults (d.kws K))
  | _ => false)
theorem DefE.funD {K : PySem.W.Frag} {d : DefE} (e : fnWA K (d.ad K) = d.val) (c : d.ok K = true) : ∃ fd, FunD K d.name d.qual d.params d.body d.scope (d.dvs K) (d.kws K) (d.ad K) fd := by
  obtain ⟨kp, c2⟩ := ba c
  unfold fnWA at e
  cases q : K.lookup (d.ad K) with
  | none =>
    rw [q] at c2
    cases c2
  | some o =>
    obtain ⟨oc, od, dt, osl⟩ := o
    rw [q] at c2 e
    cases dt with
    | func fd =>
      obtain ⟨n1, n2, n3, n4, n5, n6, n7, n8, n9, n10, n11, n12, n13, n14, n15⟩ := fd
      have e2 : (some (n1, n2, n3, n4, n5, n6, n7, n15) : FnW) = some (d.name, d.qual, d.params, .stmts d.body, d.scope, mainGlobals, [], builtinsNs) := e
      simp only [Option.some.injEq, Prod.mk.injEq] at e2
      obtain ⟨h1, h2, h3, h4, h5, h6, h7, h8⟩ := e2
      subst h1 h2 h3 h4 h5 h6 h7 h8
      have c3 : (PySem.W.codeIn K n13 d.qual && (dflB K n8 (d.dvs K) && kwdB K n9 (d.kws K))) = true := c2
      obtain ⟨k1, k2⟩ := ba c3
      obtain ⟨k3, k4⟩ := ba k2
      exact ⟨_, ⟨oc, od, n8, n9, n10, n11, n12, n13, n14, osl, rfl, q, k1, dflB_ok k3, kwdB_ok k4⟩, kp⟩
    | _ => cases c2
def obsE (fa : List Fa) (fn : List DefE) (ex : PySem.W.Frag → Bool) (K : PySem.W.Frag) : AlM := (((fa.all fun f => f.ok K) && fn.all fun d => d.ok K, fn.map fun d => fnWA K (d.ad K)), ex K)
def obsEG (n : Nat) (fa : List Fa) (fn : List DefE) (ex : PySem.W.Frag → Bool) (g : Addr → Option Obj) : AlM := obsE fa fn ex (frG g (He5.asA g n))
def valE (fn : List DefE) : AlM := ((true, fn.map DefE.val), true)
def SaysE (fa : List Fa) (fn : List DefE) (ex : PySem.W.Frag → Bool) (K : PySem.W.Frag) : Prop := obsE fa fn ex K = valE fn
def hookE (n : Nat) (fa : List Fa) (fn : List DefE) (ex : PySem.W.Frag → Bool) : PySem.W.Hook where
  α := AlM
  obs := fun s => obsEG n fa fn ex s.heap.get?
  val := fun _ => valE fn
  says := fun _ h => ∃ K : PySem.W.Frag, K.In h ∧ SaysE fa fn ex K
  of := fun _ _ e => ⟨_, frG_in, e⟩
  keeps := fun _ _ _ ⟨K, hK, c⟩ k => ⟨K, PySem.W.Frag.In.keeps hK k, c⟩
theorem obsEG_eq {n : Nat} {fa : List Fa} {fn : List DefE} {ex : PySem.W.Frag → Bool} {g : Addr → Option Obj} {s : Shared} (h : ∀ a, g a = s.heap.get? a) : obsEG n fa fn ex g = (hookE n fa fn ex).obs s := by
  have e : g = s.heap.get? := funext h
  rw [e] <;> rfl
section
variable {fa : List Fa} {fn : List DefE} {ex : PySem.W.Frag → Bool} {K : PySem.W.Frag}
theorem SaysE.fact (c : SaysE fa fn ex K) (i : Nat) {f : Fa} (h : fa[i]? = some f := by rfl) : f.ok K = true := by
  have c1 := (ba (show ((fa.all fun f => f.ok K) && fn.all fun d => d.ok K) = true from congrArg (fun z : AlM => z.1.1) c)).1
  exact List.all_eq_true.mp c1 f (List.mem_of_getElem? h)
theorem SaysE.ex_ (c : SaysE fa fn ex K) : ex K = true := congrArg (fun z : AlM => z.2) c
theorem SaysE.def_ (c : SaysE fa fn ex K) (i : Nat) {d : DefE} (h : fn[i]? = some d := by rfl) : ∃ fd, FunD K d.name d.qual d.params d.body d.scope (d.dvs K) (d.kws K) (d.ad K) fd := by
  have c2 := (ba (show ((fa.all fun f => f.ok K) && fn.all fun d => d.ok K) = true from congrArg (fun z : AlM => z.1.1) c)).2
  have e : fn.map (fun d => fnWA K (d.ad K)) = fn.map DefE.val := congrArg (fun z : AlM => z.1.2) c
  have e2 : (fn.map fun d => fnWA K (d.ad K))[i]? = (fn.map DefE.val)[i]? := by rw [e]
  rw [List.getElem?_map, List.getElem?_map, h] at e2
  exact DefE.funD (Option.some.inj e2) (List.all_eq_true.mp c2 d (List.mem_of_getElem? h))
end
/-! ### own classes -/
def kdL : List Kd := [.non, .bl, .int, .str, .lst, .tup, .dct]
theorem kdL_all (T : Kd) : T ∈ kdL := by cases T <;> decide
/-- what of the text an own class has -/
structure OC (K : PySem.W.Frag) (C : Addr) : Prop where
  cl : Cls K C
  ca : PySem.W.findIn K (.ref C) "__class__" = some (some (.builtin "object.__class__"))
  hn : PySem.W.specialIn K (.builtin "object.__class__") "__get__" = some (some (.builtin "getset_descriptor.__get__"))
  tk : PySem.W.takesIn K (.builtin "object.__class__") = some true
  ob : PySem.W.mroIn K C (.type "object") = some true
  to : ∀ T : Kd, PySem.W.kitOne K (.ref C) (.type (kdN T)) = some false
  of : ∀ T : Kd, PySem.W.kitOne K (.type (kdN T)) (.ref C) = some false
  self : PySem.W.kitOne K (.ref C) (.ref C) = some true
def ocB (K : PySem.W.Frag) (C : Addr) : Bool := (PySem.W.plainGet K C Str.empty && (PySem.W.hasDictIn K C && (PySem.W.plainOver K C && eqO (PySem.W.findIn K (.ref C) "__setattr__") (some (some (.builtin "object.__setattr__")))))) &&
  (eqO (PySem.W.findIn K (.ref C) "__class__") (some (some (.builtin "object.__class__"))) && (eqO (PySem.W.specialIn K (.builtin "object.__class__") "__get__") (some (some (.builtin "getset_descriptor.__get__"))) &&
  (decide (PySem.W.takesIn K (.builtin "object.__class__") = some true) && (decide (PySem.W.mroIn K C (.type "object") = some true) && ((kdL.all fun T => decide (PySem.W.kitOne K (.ref C) (.type (kdN T)) = some false)) &&
  ((kdL.all fun T => decide (PySem.W.kitOne K (.type (kdN T)) (.ref C) = some false)) && decide (PySem.W.kitOne K (.ref C) (.ref C) = some true)))))))
theorem ocB_ok {K : PySem.W.Frag} {C : Addr} (h : ocB K C = true) : OC K C := by
  obtain ⟨h1, h⟩ := ba h
  obtain ⟨a1, h1⟩ := ba h1
  obtain ⟨a2, h1⟩ := ba h1
  obtain ⟨a3, a4⟩ := ba h1
  obtain ⟨h2, h⟩ := ba h
  obtain ⟨h3, h⟩ := ba h
  obtain ⟨h4, h⟩ := ba h
  obtain ⟨h5, h⟩ := ba h
  obtain ⟨h6, h⟩ := ba h
  obtain ⟨h7, h8⟩ := ba h
  exact ⟨⟨a1, a2, a3, eqO_ok a4⟩, eqO_ok h2, eqO_ok h3, of_decide_eq_true h4, of_decide_eq_true h5, fun T => of_decide_eq_true (List.all_eq_true.mp h6 T (kdL_all T)), fun T => of_decide_eq_true (List.all_eq_true.mp h7 T (kdL_all T)), of_decide_eq_true h8⟩
theorem OC.ty {K : PySem.W.Frag} {C : Addr} (c : OC K C) {H : Hp} {a dx : Addr} {fs : List (Str × V)} (h : H a = some (.ins C dx fs)) : TyX K H (.ref a) (.ref C) := .base (.ins h c.cl c.ca c.hn c.tk c.ob)
/-- an instance as a thing -/
theorem OC.th {K : PySem.W.Frag} {C : Addr} (c : OC K C) {H : Hp} {a dx : Addr} {fs : List (Str × V)} (h : H a = some (.ins C dx fs)) : ThOk K H (.ref a) .o := ⟨.ref C, c.ty h, c.to⟩
theorem OC.isD {K : PySem.W.Frag} {C : Addr} (c : OC K C) (d : PyData) : PySem.W.kitOne K (.type (tyn d)) (.ref C) = some false := c.of (kd d)
/-! ### calls of methods, of static methods; making -/
def tMethE (C : Addr) (m : Str) (sp : Sp) (E : L2.St → XK) (ta : TE) (t : TA) : TE := fun σ H Q => ta σ H fun x H1 => ∃ a dx fs, x = .ref a ∧ H1 a = some (.ins C dx fs) ∧ fs.lookup m = none ∧ t σ H1 fun vs H2 => sp (x :: vs) H2 Q (E σ)
def tMakeE (C : Addr) (sp : Sp) (E : L2.St → XK) (t : TA) : TE := fun σ H Q => t σ H fun vs H1 => ∀ x dx, H1 x = Option.none → H1 dx = Option.none → dx ≠ x →
  sp (V.ref x :: vs) (upd (upd H1 dx (.own x)) x (.ins C dx [])) (fun v H2 => v = .non ∧ Q (.ref x) H2) (E σ)
def tSm (C : Addr) (sp : Sp) (E : L2.St → XK) (ta : TE) (t : TA) : TE := fun σ H Q => ta σ H fun x H1 => x = .ref C ∧ t σ H1 fun vs H2 => sp vs H2 Q (E σ)
structure Sm (K : PySem.W.Frag) (C : Addr) (m : Str) (f : Addr) : Prop where
  rd : CRead K C (.type "type")
  at_ : ∃ p, PySem.W.findCls K (.ref C) (.type "type") m = some (.get (.builtin "staticmethod.__get__") (.ref p) .none (.ref C)) ∧ ∃ rest, PySem.W.recIn K p "staticmethod" = some (.ref f :: rest)
  kp : PySem.W.keepIn K (.ref f) = true
def smB (K : PySem.W.Frag) (C : Addr) (m : Str) : Bool := PySem.W.readsIn K C (.type "type") && (eqO (PySem.W.specialIn K (.ref C) "__getattribute__") (some (some (.builtin "type.__getattribute__"))) &&
  (He5.wrapB K C "staticmethod" "staticmethod.__get__" m && PySem.W.keepIn K (.ref (He5.wf K C "staticmethod" m))))
theorem smB_ok {K : PySem.W.Frag} {C : Addr} {m : Str} (h : smB K C m = true) : Sm K C m (He5.wf K C "staticmethod" m) := by
  obtain ⟨h1, h⟩ := ba h
  obtain ⟨h2, h⟩ := ba h
  obtain ⟨h3, h4⟩ := ba h
  obtain ⟨k1, k2⟩ := He5.wrapB_ok h3
  exact ⟨⟨h1, eqO_ok h2⟩, ⟨_, k1, k2⟩, h4⟩
section
variable {X : Cx} {CX : CXT} {k : Nat} {C f : Addr} {m x : Str} {sp : Sp} {E : L2.St → XK} {o e : Expr} {es : List Expr} {ta : TE} {t : TA} {p apos pos : Pos} {pl : Sem Bool}
theorem pe_methE (he : PE X o ta) (c : Cls X.K C) (hm : Meth X.K C m f) (F : FnR X.prog X.w X.K X.mg X.base CX k f sp) (hr : Room k X.A) (hx : ∀ σ, PassesAt CX X σ (E σ)) (ha : PA X (e :: es) t)
    (hst : starEach (e :: es) X.env = (false, eval e X.env) :: starEach es X.env := by rfl) (hpl : (backTo pos (starEach es X.env)).any (·.1) = false := by rfl)
    (ht : eval (.Call (.Attribute o m apos) (e :: es) [] pos) X.env = (do
      let ov ← eval o X.env
      standAt apos.atName
      let (f, first) ← holding [ov] (getMethod ov m pl)
      callWith pos f first (backTo pos (starEach (e :: es) X.env)) (backToKw pos (keywordEach [] X.env))) := by rfl) :
    PE X (.Call (.Attribute o m apos) (e :: es) [] pos) (tMethE C m sp E ta t) := by
  refine ⟨fun pins s σ H Q I h => ?_⟩
  refine PySem.W.methodCall_KW (pl := pl) (thn (he.run pins s σ H _ I h) fun u s1 ⟨x, H1, I1, rx, a, dx, fs, ex, ea, l, q⟩ => ?_) ht
  subst ex
  obtain rfl : u = Value.ref a := rx
  refine getmeth_ok I1 ea c hm l ?_
  refine PySem.W.callWith_K (first := [.ref a]) (h₀ := X.base) I.ok.mod.kin hm.kp (thn (ha.run pos pins s1 σ H1 _ I1 q) fun us s2 ⟨vs, H2, I2, r, q2⟩ => ⟨I2.kIn, ?_⟩) hst hpl
  exact run_fnRS (us := .ref a :: us) (vs := .ref a :: vs) F hr (hx σ) I2 (.cons rfl r) q2
theorem pe_methE0 (he : PE X o ta) (c : Cls X.K C) (hm : Meth X.K C m f) (F : FnR X.prog X.w X.K X.mg X.base CX k f sp) (hr : Room k X.A) (hx : ∀ σ, PassesAt CX X σ (E σ))
    (ht : eval (.Call (.Attribute o m apos) [] [] pos) X.env = (do
      let ov ← eval o X.env
      standAt apos.atName
      let (f, first) ← holding [ov] (getMethod ov m pl)
      callWith pos f first (backTo pos (starEach [] X.env)) (backToKw pos (keywordEach [] X.env))) := by rfl) :
    PE X (.Call (.Attribute o m apos) [] [] pos) (tMethE C m sp E ta tNil) := by
  refine ⟨fun pins s σ H Q I h => ?_⟩
  refine PySem.W.methodCall_KW (pl := pl) (thn (he.run pins s σ H _ I h) fun u s1 ⟨x, H1, I1, rx, a, dx, fs, ex, ea, l, q⟩ => ?_) ht
  subst ex
  obtain rfl : u = Value.ref a := rx
  refine getmeth_ok I1 ea c hm l ?_
  exact PySem.W.callWith_K0 (first := [.ref a]) I1.kIn hm.kp (run_fnRS (us := [.ref a]) (vs := [.ref a]) F hr (hx σ) I1 (.cons rfl .nil) q)
theorem pe_smE (he : PE X o ta) (c : Sm X.K C m f) (F : FnR X.prog X.w X.K X.mg X.base CX k f sp) (hr : Room k X.A) (hx : ∀ σ, PassesAt CX X σ (E σ)) (ha : PA X (e :: es) t)
    (hst : starEach (e :: es) X.env = (false, eval e X.env) :: starEach es X.env := by rfl) (hpl : (backTo pos (starEach es X.env)).any (·.1) = false := by rfl)
    (ht : eval (.Call (.Attribute o m apos) (e :: es) [] pos) X.env = (do
      let ov ← eval o X.env
      standAt apos.atName
      let (f, first) ← holding [ov] (getMethod ov m pl)
      callWith pos f first (backTo pos (starEach (e :: es) X.env)) (backToKw pos (keywordEach [] X.env))) := by rfl) :
    PE X (.Call (.Attribute o m apos) (e :: es) [] pos) (tSm C sp E ta t) := by
  refine ⟨fun pins s σ H Q I h => ?_⟩
  refine PySem.W.methodCall_KW (pl := pl) (thn (he.run pins s σ H _ I h) fun u s1 ⟨x, H1, I1, rx, ex, q⟩ => ?_) ht
  subst ex
  obtain rfl : u = Value.ref C := rx
  obtain ⟨pa, h1, rest, h2⟩ := c.at_
  refine PySem.W.method_cls I1.kIn c.rd.ga (PySem.W.cls_bind I1.kIn c.rd.rd h1 ?_)
  refine wpAny_call (PySem.W.sm_get (s := { s1 with toks := s1.toks + 1 }) I1.kIn h2 (PySem.W.handed_on rfl ?_))
  have I2 := I1.tok (s1.toks + 1)
  refine PySem.W.callWith_K (first := []) (h₀ := X.base) I.ok.mod.kin c.kp (thn (ha.run pos pins _ σ H1 _ I2 q) fun us s2 ⟨vs, H2, I3, r, q2⟩ => ⟨I3.kIn, ?_⟩) hst hpl
  exact run_fnRS (us := us) (vs := vs) F hr (hx σ) I3 r q2
theorem run_makeE {pins : List (Addr × Obj)} {σ : L2.St} {H : Hp} {s : Shared} {Q : VK} {us : List Value} {vs : List V} (M : Mk X.K C f) (F : FnR X.prog X.w X.K X.mg X.base CX k f sp) (hr : Room (k + 1) X.A) (hx : PassesAt CX X σ (E σ)) (I : Inv X pins σ H s) (r : Vals vs us)
    (h : ∀ x dx, H x = Option.none → H dx = Option.none → dx ≠ x → sp (V.ref x :: vs) (upd (upd H dx (.own x)) x (.ins C dx [])) (fun v H2 => v = .non ∧ Q (.ref x) H2) (E σ)) :
    wpAny (model X.prog X.w) X.A (call (.ref C) us) (EP X pins σ Q) X.xe s := by
  have hq := h (s.heap.objs.size + 1) s.heap.objs.size (I.hok.fresh (Nat.le_succ _)) (I.hok.fresh (Nat.le_refl _)) (Nat.ne_of_lt (Nat.lt_succ_self _))
  have I2 := Inv.made (C := C) I
  have r2 : Vals (V.ref (s.heap.objs.size + 1) :: vs) (Value.ref (s.heap.objs.size + 1) :: us) := .cons rfl r
  refine wpAny_call (make_map (f := f) I.kIn M.makes M.init (beq_iff_eq.mp M.fn) (codeAny_mono (F _ X.stack _ _ (Value.ref (s.heap.objs.size + 1) :: us) _ _ (E σ) (hr.make C us []) (I2.env0.make C us []) r2 hq) fun r s' hq' => ?_))
  cases r with
  | error e => exact hx pins _ _ e s' I2 hq'
  | ok fl =>
    cases fl with
    | ret u =>
      obtain ⟨v, H', I3, rv, ev, q3⟩ := I2.after hq'
      subst ev
      exact ⟨rv, ⟨V.ref (s.heap.objs.size + 1), H', I3, rfl, q3⟩⟩
    | next => exact False.elim hq'
    | brk => exact False.elim hq'
    | cont => exact False.elim hq'
theorem pe_makeE (M : Mk X.K C f) (F : FnR X.prog X.w X.K X.mg X.base CX k f sp) (hr : Room (k + 1) X.A) (hm : X.mg x = some (.ref C)) (hx : ∀ σ, PassesAt CX X σ (E σ)) (ha : PA X (e :: es) t) (hg : Gl X x := by rfl) (hdb : (x == ("__debug__" : Str)) = false := by decide)
    (he : starEach (e :: es) X.env = (false, eval e X.env) :: starEach es X.env := by rfl) (hpl : (backTo pos (starEach es X.env)).any (·.1) = false := by rfl) : PE X (.Call (.Name x p) (e :: es) [] pos) (tMakeE C sp E t) := by
  refine ⟨fun pins s σ H Q I h => ?_⟩
  refine wpAny_Call_Name_kw (ld_glob I hg hm ?_ hdb)
  refine PySem.W.callWith_K (h₀ := X.base) I.ok.mod.kin M.kp (thn (ha.run pos pins s σ H _ I h) fun us s1 ⟨vs, H1, I1, r, q⟩ => ⟨I1.kIn, ?_⟩) he hpl
  exact run_makeE M F hr (hx σ) I1 r q
end
/-- nothing is let out -/
theorem px0 {X : Cx} : ∀ σ, PassesAt CX0 X σ ((fun _ => E0) σ) := fun _ _ _ _ _ _ _ h => h.elim
theorem pxq {X : Cx} : ∀ σ, PassesAt (L2.CX X.prog X.w) X σ ((fun _ => E0) σ) := fun σ pins H s e s' I h => passL pins σ H s e s' I h
theorem pxx {X : Cx} {W : WX} (tk : Takes X W) : ∀ σ, PassesAt (L2.CX X.prog X.w) X σ (WE W σ) := fun σ => passAt tk σ
/-! from a def's body to its promise, wherever it stands -/
section
variable {P : Program} {w : World} {K : PySem.W.Frag} {mg : Str → Option Value} {base : Heap} {CX : CXT} {k : Nat} {x qual : Str} {sp : Sp} {params : Arguments} {body : List Stmt} {scope : Scope} {f : Addr} {fd : FuncData} {ps N : List Str}
theorem fnN (F : FunD K x qual params body scope [] [] f fd)
    (hb : ∀ (kV doc pm : Value) (an : Option Addr) (cdv ct : Value) (us : List Value), us.length = ps.length → bindArgs (PySem.W.fnOf x qual params body scope .none kV doc pm an cdv ct) ⟨us, []⟩ = pure (ps.zip us))
    (S : FnScope N ps scope) (len : ∀ vs H Q E, sp vs H Q E → vs.length = ps.length)
    (hbody : ∀ (cdv : Value) (A : Around) (outer : List Env) (s : Shared) (H : Hp) (vs : List V) (Q : VK) (E : XK), Room k (A.deeper (envOfC qual scope s.heap.objs.size f cdv)) → sp vs H Q E →
      ∃ t, PSs (cxOf CX P w K mg base N qual scope f cdv A outer s H E) body t ∧ t { nx := fun _ H' => Q .non H', rt := Q } (start N vs) H) : FnR P w K mg base CX (k + 1) f sp :=
  ((F.ok S len hbody).raw (F.bindsN hb) .nil).imp fun vs H Q E h => by rw [List.append_nil]; exact h
end
end EL
namespace EX
open PySem PySem.W PySem.Calls PyProof.Rows PySem.HandSPX
/-! ### an own error with a field: super().__init__('..'); self.f = f -/
def xiB (fl : Str) (me : Expr) (p0 p1 p2 p4 p5 q1 q2 q3 q4 : Pos) : List Stmt :=
  [.Expr (.Call (.Attribute (.Call (.Name "super" p0) [] [] p1) "__init__" p2) [me] [] p4) p5, .Assign [.Attribute (.Name "self" q1) fl q2] (.Name fl q3) q4]
/-- the message: a text, or (fs) f'..{fl}' -/
def MsgOk (fl : Str) (me : Expr) : Bool → Prop
  | false => ∃ (msg : Str) (j : Nat) (p : Pos), me = .Constant (.str msg) j p
  | true => ∃ (msg : Str) (j : Nat) (p p1 p2 p3 : Pos), me = .JoinedStr [.Constant (.str msg) j p, .FormattedValue (.Name fl p1) (-1) none p2] p3 ∧ msg.length ≤ 1000
def XvOk (v : Value) : Bool → Prop
  | false => True
  | true => ∃ z t, v = .str z t ∧ z.length ≤ 1000
/-- its head and its scope -/
structure XSc (params : Arguments) (scope : Scope) (fl : Str) : Prop where
  bind : ∀ (name q : Str) (body : List Stmt) (doc pm : Value) (an : Option Addr) (cdv ct : Value) (cc : Addr) (u v : Value), bindArgs (ksFn name q params body scope .none .none doc pm an cdv ct cc) ⟨[u, v], []⟩ = pure [(("self" : Str), u), (fl, v)]
  head : ∃ ar : Arg, (params.posonlyargs ++ params.args).head? = some ar ∧ ar.arg = "self"
  ks : scope.names.lookup ("super" : Str) = some .globalImplicit
  kc : scope.names.lookup ("__class__" : Str) = some .free
  kself : scope.names.lookup ("self" : Str) = some .local
  kf : scope.names.lookup fl = some .local
  kind : scope.kind = .function
  ncell : ∀ x ∈ scope.names, x.2 ≠ .cell
  co : scope.isCoroutine = false
  gen : scope.isGenerator = false
  ne : fl ≠ "self"
  dbg : (fl == ("__debug__" : Str)) = false
/-- what the written part says of the class at C and of its __init__ at fI -/
structure XTxt (K : Frag) (C fI cc cda : Addr) (fl file : Str) (fs : Bool) : Prop where
  cls : ∃ nm q N bs bm sn sub ab col dd k0 k1 k2 k3 k5, K.lookup C = some (excClassObj nm q C N bs bm true sn sub ab col dd k0 k1 k2 k3 k5 "ValueError.__new__") ∧ refsVE bm = true
  sa : findIn K (.ref C) "__setattr__" = some (some (.builtin "object.__setattr__"))
  noN : findIn K (.ref C) fl = some none
  iC : findIn K (.ref C) "__init__" = some (some (.ref fI))
  tC : typeIn K (.ref fI) = some (.type "function")
  ve : subIn K (.ref C) (.type "ValueError") = some true
  self : mroIn K C (.ref C) = some true
  sup : ks_superIn K C C "__init__" = some (some (.builtin "ValueError.__init__"))
  tp : nsIn K cStatics "thirdparty.any" = some none
  cell : ∃ cl cld csl, K.lookup cc = some ⟨cl, cld, .cell (some (.ref C)), csl⟩
  code : ∃ ccl cdd vs ccs tf, K.lookup cda = some ⟨ccl, cdd, .fields vs, ccs⟩ ∧ vs[2]? = some (.str file tf)
  fn : ∃ (oc : Value) (od : Option Addr) (doc pm : Value) (an : Option Addr) (ct : Value) (osl : Array (Option Value)) (q : Str) (params : Arguments) (scope : Scope) (me : Expr) (p0 p1 p2 p4 p5 q1 q2 q3 q4 : Pos),
    K.lookup fI = some ⟨oc, od, .func (ksFn "__init__" q params (xiB fl me p0 p1 p2 p4 p5 q1 q2 q3 q4) scope .none .none doc pm an (.ref cda) ct cc), osl⟩ ∧ codeIn K (.ref cda) q = true ∧ XSc params scope fl ∧ (p2.endLine == p4.line) = true ∧ MsgOk fl me fs
/-- what __init__ leaves of a fresh exception at x -/
structure InitEnd (h h' : Heap) (x C dx t1 : Addr) (fl : Str) (v : Value) : Prop where
  keep : ∀ b o, b ≠ x → h.get? b = some o → h'.get? b = some o
  obj : h'.get? x = some { cls := .ref C, dict := some dx, data := .fields #[.ref t1, .none, .none, .none, .bool false, .none] }
  dbig : h.objs.size ≤ dx
  dne : dx ≠ x
  ns : h'.Ns1 dx (fun y => if y = fl then some v else none)
structure OwnMade (h h' : Heap) (e C d : Addr) (fl : Str) (v : Value) : Prop where
  keep : ∀ b o, h.get? b = some o → h'.get? b = some o
  new : h.objs.size ≤ e
  obj : ∃ oe vs, h'.get? e = some oe ∧ oe.cls = .ref C ∧ oe.dict = some d ∧ oe.data = .fields vs ∧ vs[1]? = some .none
  dbig : h.objs.size ≤ d
  dne : d ≠ e
  ns : h'.Ns1 d (fun y => if y = fl then some v else none)
theorem meth_eq {o e : Expr} {name : Str} {p2 p4 : Pos} {env : Env} (hl : (p2.endLine == p4.line) = true) : eval (.Call (.Attribute o name p2) [e] [] p4) env = (do
      let ov ← attributeBase o name env (eval o env)
      standAt p2.atName
      let (f, first) ← holding [ov] (calleeOf (methodCallForm 1 (backTo p4 (starEach [e] env)) []) o env ov name)
      callWith p4 f first (backTo p4 (starEach [e] env)) []) := by
  show (attributeBase o name env (eval o env) >>= fun ov => standAt p2.atName >>= fun _ => methodCall o name p2 p4 env ov 1 (backTo p4 (starEach [e] env)) []) = _
  have x : ∀ ov, methodCall o name p2 p4 env ov 1 (backTo p4 (starEach [e] env)) [] = (holding [ov] (calleeOf (methodCallForm 1 (backTo p4 (starEach [e] env)) []) o env ov name) >>= fun z => callWith p4 z.1 z.2 (backTo p4 (starEach [e] env)) []) := fun ov => by
    unfold methodCall methodCallPos
    simp only [hl, Bool.or_true, if_true, pure_bind]
  simp only [x]
theorem meth_msg {o me : Expr} {name fl : Str} {fs : Bool} {p2 p4 : Pos} {env : Env} (hm : MsgOk fl me fs) (hl : (p2.endLine == p4.line) = true) : starEach [me] env = [(false, eval me env)] ∧ eval (.Call (.Attribute o name p2) [me] [] p4) env = (do
      let ov ← attributeBase o name env (eval o env)
      standAt p2.atName
      let (f, first) ← holding [ov] (getMethod ov name (do return (← importBound o env).getD true))
      callWith p4 f first (backTo p4 (starEach [me] env)) []) := by
  cases fs with
  | false =>
    obtain ⟨msg, j, p, rfl⟩ := hm
    exact ⟨rfl, meth_eq hl⟩
  | true =>
    obtain ⟨msg, j, p, p1, pp, p3, rfl, _⟩ := hm
    exact ⟨rfl, meth_eq hl⟩
section
variable {prog : Program} {w : World} {A : Around} {E : Value → Shared → Prop} {R : Result → Shared → Prop} {s : Shared} {K : Frag} {C fI cc cda : Addr} {fl file : Str} {mg mb : Str → Option Value}
/-- the wrapper of ValueError.__init__ called -/
theorem call_mw {h : Heap} {g : Array GenState} {d : Drawn} {t : Nat} {os : OsState} {u e t0 : Addr} {rest : List Value} {Q : Value → Shared → Prop}
    (hC : ∃ nm q N bs bm sn sub ab col dd k0 k1 k2 k3 k5, h.get? C = some (excClassObj nm q C N bs bm true sn sub ab col dd k0 k1 k2 k3 k5 "ValueError.__new__")) (he : h.get? e = some (excO C t0)) (hu : h.get? u = some (kxs_mw "ValueError.__init__" e)) (hrest : rest.length ≤ sizeLine)
    (hq : ∀ h' t1, (∀ b o, b ≠ e → h.get? b = some o → h'.get? b = some o) → h'.get? e = some (excO C t1) → Q .none ⟨h', g, d, t, os⟩) :
    wpAny (model prog w) A (call (.ref u) rest) Q E ⟨h, g, d, t, os⟩ := by
  obtain ⟨nm, q, N, bs, bm, sn, sub, ab, col, dd, k0, k1, k2, k3, k5, hC⟩ := hC
  refine wpAny_call (codeAny_of_tree ?_)
  show wpAny _ A.in1 (callAny (.ref u) ⟨rest, []⟩) _ _ _
  simp only [callAny]
  refine wpAny_bind (wpAny_load hu ?_)
  simp only [kxs_mw, show (Value.type "method-wrapper" == Value.type "method" || Value.type "method-wrapper" == Value.type "builtin_function_or_method" || Value.type "method-wrapper" == Value.type "method-wrapper") = true by decide, if_true]
  refine KFB.if_so (by decide) ?_
  refine wpAny_bind (check_bound_init F.excBase_ValueError.toExcCallFacts hC he rfl ?_)
  refine wpAny_bind (wpAny_pure (wpAny_pure ?_))
  refine ⟨plainId_quiet F.excBase_ValueError.init.plain _, codeAny_builtin F.excBase_ValueError.initEntry ?_⟩
  exact exc_init_tree (cls := .ref C) (t0 := t0) (dv := none) (c2 := .none) (c3 := .none) (b4 := .bool false) he hrest fun h' k e' _ => hq h' _ k e'
theorem msg_run {h : Heap} {g : Array GenState} {d : Drawn} {t : Nat} {os : OsState} {env : Env} {fs : Bool} {me : Expr} {v : Value} {m : Str → Option Value} {Q : Value → Shared → Prop} (hm : MsgOk fl me fs) (hv : XvOk v fs) (hk : env.scope.kind = .function) (hf : env.scope.names.lookup fl = some .local)
    (hdb : (fl == ("__debug__" : Str)) = false) (hn : h.Ns env.locals m) (hmv : m fl = some v) (hq : ∀ z tz t', Q (.str z tz) ⟨h, g, d, t', os⟩) : wpAny (model prog w) A (eval me env) Q E ⟨h, g, d, t, os⟩ := by
  cases fs with
  | false =>
    obtain ⟨msg, j, p, rfl⟩ := hm
    exact wpAny_Constant_str (hq _ _ _)
  | true =>
    obtain ⟨msg, j, p, p1, p2, p3, rfl, hl⟩ := hm
    obtain ⟨z, tz, rfl, hz⟩ := hv
    refine wpAny_JoinedStr ?_
    have e0 : evalEach [.Constant (.str msg) j p, .FormattedValue (.Name fl p1) (-1) none p2] env = [eval (.Constant (.str msg) j p) env, eval (.FormattedValue (.Name fl p1) (-1) none p2) env] := by first | rfl | simp [evalEach]
    rw [e0]
    have l1 : (Str.empty ++ msg).length ≤ 1000 := by rw [EL.str_nil]; exact hl
    have l2 : ((Str.empty ++ msg) ++ z).length ≤ sizeLine := by
      rw [EL.str_nil, TL.len_tl, TL.tl_append, List.length_append, ← TL.len_tl, ← TL.len_tl]
      exact Nat.le_trans (Nat.add_le_add hl hz) (by decide)
    refine wpAny_Constant_str ⟨msg, _, rfl, Nat.le_trans l1 (by decide), ?_⟩
    refine wpAny_FormattedValue_plain ?_
    refine wpAny_Name (wpAny_loadName_local hk hf hn hmv ?_) hdb
    exact wpAny_formatField_str ⟨z, _, rfl, l2, l2, hq _ _ _⟩ ⟨z, _, rfl, l2, l2, hq _ _ _⟩ (Nat.le_trans hz (by decide))
theorem kept_but {h h' : Heap} {x : Addr} (X : K.In h) (hx : K.lookup x = none) (k : ∀ b o, b ≠ x → h.get? b = some o → h'.get? b = some o) : K.In h' := fun a o e =>
  k a o (fun z => by rw [z, hx] at e; cases e) (X a o e)
theorem xf_init {fs : Bool} (T : XTxt K C fI cc cda fl file fs) {x t0 : Addr} {v : Value} (hv : XvOk v fs) (X : K.In s.heap) (hlim : s.heap.NoLimit) (hx : s.heap.get? x = some (excO C t0)) (hnx : K.lookup x = none) (hroom : A.depth < recursionLimit)
    (G : s.heap.Ns mainGlobals mg) (hsu : mg "super" = none) (Bn : s.heap.Ns builtinsNs mb) (hb : mb "super" = some (.type "super")) (hfile : ((prog.main.file : Str) == file) = true) (htop : (prog.main.scope.names.lookup ("super" : Str)).isSome = false)
    (hq : ∀ h' tk dx t1, InitEnd s.heap h' x C dx t1 fl v → R (.ok (.ret .none)) { s with heap := h', toks := tk }) :
    codeAny (model prog w) A (.call (.ref fI) ⟨[.ref x, v], []⟩) R s := by
  obtain ⟨oc, od, doc, pm, an, ct, osl, q, params, scope, me, p0, p1, p2, p4, p5, q1, q2, q3, q4, ho, hcd, S, hl, hm⟩ := T.fn
  obtain ⟨nm, cq, N, bs, bm, sn, sub, ab, col, dd, k0, k1, k2, k3, k5, hC, hbm⟩ := T.cls
  obtain ⟨cl, cld, csl, hcell⟩ := T.cell
  obtain ⟨ccl, cdd, vs, ccs, tf, hcode, hvs⟩ := T.code
  obtain ⟨ar, har, hara⟩ := S.head
  have hcl : clsIn K C = some { name := nm, bases := bs, mro := .ref C :: bm, ns := N, qualname := cq, hasDict := true, slotNames := sn, subclasses := sub, abstract := ab, collection := col, hasDel := false } := by unfold clsIn; rw [hC] <;> rfl
  refine ks_codeAny_call_defAt (fd := ksFn "__init__" q params (xiB fl me p0 p1 p2 p4 p5 q1 q2 q3 q4) scope .none .none doc pm an (.ref cda) ct cc) (binds := [(("self" : Str), .ref x), (fl, v)]) hroom (X _ _ ho) rfl hlim (codeRec_of X hcd) rfl (BindsTo.of_eq (S.bind ..)) S.ncell ?_ (fun h₁ hn k => ?_) S.co S.gen S.kind
  · intro y hy
    rcases List.mem_cons.mp hy with rfl | hy
    · exact S.kself
    · rcases List.mem_cons.mp hy with rfl | hy
      · exact S.kf
      · cases hy
  have vself : ([(("self" : Str), Value.ref x), (fl, v)] : List (Str × Value)).reverse.lookup ("self" : Str) = some (.ref x) := by
    show List.lookup ("self" : Str) [(fl, v), (("self" : Str), Value.ref x)] = _
    have e : (("self" : Str) == fl) = false := by simpa using Ne.symm S.ne
    simp [List.lookup, e]
  have vfl : ([(("self" : Str), Value.ref x), (fl, v)] : List (Str × Value)).reverse.lookup fl = some v := by
    show List.lookup fl [(fl, v), (("self" : Str), Value.ref x)] = _
    simp [List.lookup]
  obtain ⟨hh, g, d, t, os⟩ := s
  dsimp only at hn k X hlim hx G Bn
  have X₁ : K.In h₁ := X.keeps k
  have hx₁ := k _ _ hx
  show _root_.PySem.wpAt _ _ (.func _ (ksEnv q scope hh.objs.size fI (.ref cda) cc)) (execs (xiB fl me p0 p1 p2 p4 p5 q1 q2 q3 q4) (ksEnv q scope hh.objs.size fI (.ref cda) cc)) _ _ _
  refine ks_wpAt_execs_cons (ks_wpAt_Expr_any (ks_wpAt_MethodCall ?_ (meth_msg hm hl).2) (by unfold interactive; simp [S.kind]))
  refine ks_wpAt_super_base (env := ksEnv q scope hh.objs.size fI (.ref cda) cc) S.ks S.kc (by decide) rfl (X₁ _ _ ho) rfl har rfl (X₁ _ _ hcode) rfl hvs hfile htop ?_
  refine ks_loadName_global S.kind S.ks (loadGlobal_builtin (env := ksEnv q scope hh.objs.size fI (.ref cda) cc) (G.keeps k) hsu (Bn.keeps k) hb ⟨rfl, ?_⟩)
  refine wpAny_loadName_free S.kind S.kc rfl ⟨_, X₁ _ _ hcell, rfl⟩ ?_
  rw [hara]
  refine wpAny_loadName_local S.kind S.kself hn vself ?_
  refine ks_wpAny_isType_cls (X₁ _ _ hC) rfl ⟨rfl, ?_⟩
  refine ks_wpAny_call_super (X₁ _ _ hC) rfl hx₁ rfl (fun c e => by cases e) (looks_mroIn X₁ T.self) (fun h₂ e₂ k₂ => ?_)
  have X₂ : K.In h₂ := X₁.keeps k₂
  have hx₂ := k₂ _ _ hx₁
  have I₂ : InstAt h₂ x (excO C t0) C none := ⟨hx₂, rfl, rfl, trivial⟩
  have hI : Looks (model prog w) h₂ (isInstance (.ref x) (.type "ValueError")) true := I₂.type.andThen (looks_subIn X₂ T.ve)
  have hsp := T.sup
  unfold ks_superIn at hsp
  rw [hcl] at hsp
  refine kxs_getMethod kxs_ValueError e₂ (looks_opaque X₂ T.tp) (l₀ := .ref C :: bm) (fun A Q E s k q => wpAny_bind ((looks_clsIn X₂ hcl) A _ E s k (wpAny_pure q))) rfl X₂ hsp hI (ks_ne X₂ I₂ hcl) (by decide) ?_
  have hu₃ : (h₂.push (kxs_mw "ValueError.__init__" x)).get? h₂.objs.size = some (kxs_mw "ValueError.__init__" x) := Heap.get?_push_at rfl rfl
  have k₃ : ∀ b o, h₂.get? b = some o → (h₂.push (kxs_mw "ValueError.__init__" x)).get? b = some o := fun b o e => Heap.get?_push_of_some _ e
  have k₃n : h₁.Ns hh.objs.size (fun x_1 => ([(("self" : Str), Value.ref x), (fl, v)] : List (Str × Value)).reverse.lookup x_1) → (h₂.push (kxs_mw "ValueError.__init__" x)).Ns hh.objs.size (fun x_1 => ([(("self" : Str), Value.ref x), (fl, v)] : List (Str × Value)).reverse.lookup x_1) := fun q => q.keeps fun b o e => k₃ _ _ (k₂ _ _ e)
  dsimp only
  rw [(meth_msg (o := .Name "self" p0) (name := "x") (env := ksEnv q scope hh.objs.size fI (.ref cda) cc) hm hl).1]
  refine kxs_callWith (i := "ValueError.__init__") (x := x) rfl ?_
  refine evalArgs_plain (spliced_cons (msg_run hm hv S.kind S.kf S.dbg (k₃n hn) vfl fun z tz t' => spliced_nil ⟨hu₃, ?_⟩))
  have hxL : hh.objs.size ≠ x := Nat.ne_of_gt (Heap.lt_size hx)
  refine call_mw (C := C) (e := x) (t0 := t0) ⟨nm, cq, N, bs, bm, sn, sub, ab, col, dd, k0, k1, k2, k3, k5, k₃ _ _ (X₂ _ _ hC)⟩ (k₃ _ _ hx₂) hu₃ (by show 1 ≤ sizeLine; decide) fun h₄ t1 k₄ hx₄ => ?_
  have X₄ : K.In h₄ := kept_but (X₂.keeps k₃) hnx k₄
  have k04 : ∀ b o, b ≠ x → hh.get? b = some o → h₄.get? b = some o := fun b o hbx e => k₄ b o hbx (k₃ b o (k₂ b o (k b o e)))
  obtain ⟨oL, es, ep, hL, rr⟩ := hn
  have hn₄ : h₄.Ns hh.objs.size (fun x_1 => ([(("self" : Str), Value.ref x), (fl, v)] : List (Str × Value)).reverse.lookup x_1) := ⟨oL, es, ep, k₄ _ _ hxL (k₃ _ _ (k₂ _ _ hL)), rr⟩
  have z1 : hh.objs.size < h₄.objs.size := hn₄.lt
  refine ks_wpAt_execs_cons (wpAt_of_wpAny (plainObj_wpAny_Assign_Attribute ?_))
  refine wpAny_Name (wpAny_loadName_local S.kind S.kf hn₄ vfl ?_) S.dbg
  refine wpAny_Name (wpAny_loadName_local S.kind S.kself hn₄ vself ?_) (by decide)
  refine set_plain X₄ (ox := excO C t1) (od := none) ⟨hx₄, rfl, rfl, trivial⟩ T.sa ?_
  refine exc_osa X₄ hx₄ hcl (show refsVE (.ref C :: bm) = true from hbm) rfl T.noN (fun h₅ tk₅ dx k₅ dn dne hx₅ hn₅ => ?_)
  refine wpAt_of_wpAny (wpAny_execs_nil ?_)
  exact hq h₅ tk₅ dx t1 ⟨fun b o hbx e => k₅ b o hbx (k04 b o hbx e), hx₅, Nat.le_of_lt (Nat.lt_of_lt_of_le z1 dn), dne, hn₅⟩
theorem xf_made {fs : Bool} (T : XTxt K C fI cc cda fl file fs) {v : Value} (hv : XvOk v fs) (X : K.In s.heap) (hlim : s.heap.NoLimit) (hroom : A.depth + 1 < recursionLimit)
    (G : s.heap.Ns mainGlobals mg) (hsu : mg "super" = none) (Bn : s.heap.Ns builtinsNs mb) (hb : mb "super" = some (.type "super")) (hfile : ((prog.main.file : Str) == file) = true) (htop : (prog.main.scope.names.lookup ("super" : Str)).isSome = false)
    (hq : ∀ h' tk e d, OwnMade s.heap h' e C d fl v → R (.ok (.ret (.ref e))) { s with heap := h', toks := tk }) :
    codeAny (model prog w) A (.call (.ref C) ⟨[v], []⟩) R s := by
  obtain ⟨nm, q, N, bs, bm, sn, sub, ab, col, dd, k0, k1, k2, k3, k5, hC, hbm⟩ := T.cls
  obtain ⟨hp, g, dr, tk, os⟩ := s
  have k : ∀ b o, hp.get? b = some o → ((hp.push (kdv_tup [v])).push (excO C hp.objs.size)).get? b = some o := fun b o e => Heap.get?_push_of_some _ (Heap.get?_push_of_some _ e)
  have hget : ((hp.push (kdv_tup [v])).push (excO C hp.objs.size)).get? (hp.objs.size + 1) = some (excO C hp.objs.size) := by heap_get
  have hnx : K.lookup (hp.objs.size + 1) = none := by
    cases e : K.lookup (hp.objs.size + 1) with
    | none => rfl
    | some o =>
      have z : hp.get? (hp.objs.size + 1) = some o := X _ _ e
      exact absurd (Nat.lt_of_succ_lt (Heap.lt_size z)) (Nat.lt_irrefl _)
  refine call_own F.excBase_ValueError (fun X => refsVE_contains X bm hbm) (X _ _ hC) (looks_findIn X T.iC) (fun self => bind_fn X self T.tC) (by show 1 ≤ sizeLine; decide) ?_
  refine xf_init (s := ⟨(hp.push (kdv_tup [v])).push (excO C hp.objs.size), g, dr, tk, os⟩) T hv (X.keeps k) (hlim.keeps k) hget hnx ?_ (G.keeps k) hsu (Bn.keeps k) hb hfile htop fun h' tk' dx t1 ⟨k', hx, dn, dne, hns⟩ => ?_
  · show A.depth + 1 < recursionLimit
    exact hroom
  · have old : ∀ b o, hp.get? b = some o → h'.get? b = some o := fun b o e => k' b o (Nat.ne_of_lt (Nat.lt_succ_of_lt (Heap.lt_size e))) (k b o e)
    have z : hp.objs.size + 1 + 1 ≤ dx := by
      first
        | (simpa only [Heap.size_push] using dn)
        | exact dn
        | (have q := dn; rw [Heap.size_push, Heap.size_push] at q; exact q)
    exact ⟨rfl, hq h' tk' (hp.objs.size + 1) dx ⟨old, Nat.le_succ _, ⟨_, _, hx, rfl, rfl, rfl, rfl⟩, Nat.le_trans (Nat.le_trans (Nat.le_succ _) (Nat.le_succ _)) z, dne, hns⟩⟩
end
end EX
namespace EL
open PySem PySem.Spec PyProof.Rows L2 He TL
/-- the program's file, no own super -/
structure PF (P : Program) (file : Str) : Prop where
  file : ((P.main.file : Str) == file) = true
  top : (P.main.scope.names.lookup ("super" : Str)).isSome = false
/-- an own error with the field fl -/
structure XT0 (K : PySem.W.Frag) (mg : Str → Option Value) (x fl file : Str) (fs : Bool) : Prop where
  t : ∃ cc cda, EX.XTxt K (ga K x) (ma K (ga K x) "__init__") cc cda fl file fs
  g : mg x = some (.ref (ga K x))
  su : mg "super" = none
  kp : PySem.W.keepIn K (.ref (ga K x)) = true
  ex : PySem.W.subIn K (.ref (ga K x)) (.type "BaseException") = some true
  ty : PySem.W.typeIn K (.ref (ga K x)) = some (.type "type")
abbrev XT (K : PySem.W.Frag) (mg : Str → Option Value) (x fl file : Str) : Prop := XT0 K mg x fl file false
abbrev XTf (K : PySem.W.Frag) (mg : Str → Option Value) (x fl file : Str) : Prop := XT0 K mg x fl file true
theorem relO_one {fl : Str} {v : V} {v' : Value} (r : RelV v v') (f : Str) : RelO (List.lookup f [(fl, v)]) (if f = fl then some v' else none) := by
  by_cases hw : f = fl
  · subst hw
    rw [if_pos rfl]
    have q : List.lookup f [(f, v)] = some v := by simp [List.lookup]
    rw [q]
    exact r
  · rw [if_neg hw]
    have qw : (f == fl) = false := by simpa using hw
    have q2 : List.lookup f [(fl, v)] = none := by simp [List.lookup, qw]
    rw [q2]
    trivial
section
variable {X : Cx} {x fl file : Str}
def tMkX (C : Addr) (fl : Str) (ta : TA) : L2.St → Hp → XK → Prop := fun σ H Q => ta σ H fun vs H1 => ∃ v, vs = [v] ∧ ∀ d, H1 d = none → Q (.ref C) (some d) (upd H1 d (.xd [(fl, v)]))
/-- the same, the field a text (that the message shows) -/
def tMkF (C : Addr) (fl : Str) (ta : TA) : L2.St → Hp → XK → Prop := fun σ H Q => ta σ H fun vs H1 => ∃ z : Str, vs = [.str z] ∧ z.length ≤ 1000 ∧ ∀ d, H1 d = none → Q (.ref C) (some d) (upd H1 d (.xd [(fl, .str z)]))
def xvOk (v : V) : Bool → Prop
  | false => True
  | true => ∃ z : Str, v = .str z ∧ z.length ≤ 1000
theorem xvOk.to {v : V} {u : Value} {fs : Bool} (h : xvOk v fs) (r : RelV v u) : EX.XvOk u fs := by
  cases fs with
  | false => trivial
  | true =>
    obtain ⟨z, rfl, hz⟩ := h
    obtain ⟨t, rfl⟩ := r
    exact ⟨z, t, rfl, hz⟩
theorem pmk_xf0 {fs : Bool} {a : Expr} {ta : TA} {p pos : Pos} {k : Nat} {R : List V → Hp → XK → Prop} (hR : ∀ vs H1 Q, R vs H1 Q → ∃ v, vs = [v] ∧ xvOk v fs ∧ ∀ d, H1 d = none → Q (.ref (ga X.K x)) (some d) (upd H1 d (.xd [(fl, v)]))) (hP : PF X.prog file) (T : XT0 X.K X.mg x fl file fs) (hr : Room k X.A) (ha : PA X [a] ta) (hg : Gl X x := by rfl) (hdb : (x == ("__debug__" : Str)) = false := by decide)
    (he : starEach (a :: []) X.env = (false, eval a X.env) :: starEach [] X.env := by rfl) (hpl : (backTo pos (starEach [] X.env)).any (·.1) = false := by rfl) :
    PMk X (.Call (.Name x p) [a] [] pos) (fun σ H Q => ta σ H fun vs H1 => R vs H1 Q) := by
  intro pins s σ H Q I h
  refine wpAny_Call_Name_kw (ld_glob I hg T.g ?_ hdb)
  refine PySem.W.callWith_K (h₀ := X.base) I.ok.mod.kin T.kp (thn (ha.run pos pins s σ H _ I h) fun us s1 hh => ?_) he hpl
  obtain ⟨vs, H1, I1, r1, q0⟩ := hh
  obtain ⟨v, ev, xo, q1⟩ := hR _ _ _ q0
  subst ev
  refine ⟨I1.kIn, ?_⟩
  cases r1 with
  | cons rv rn =>
    rename_i v' us'
    cases rn
    show wpAny _ _ (call (.ref (ga X.K x)) [v']) _ _ _
    have hlim := I1.nolimit
    obtain ⟨cc, cda, TT⟩ := T.t
    obtain ⟨mb, hmb, hmb2⟩ := I1.mod.blt
    have G1 : s1.heap.Ns mainGlobals X.mg := I1.mod.glob.keeps I1.bk
    have B1 : s1.heap.Ns builtinsNs mb := hmb.keeps I1.bk
    have hsu : mb "super" = some (.type "super") := (hmb2 _ (by decide +kernel)).trans (by decide +kernel)
    obtain ⟨hp, g, dr, tk, os⟩ := s1
    refine wpAny_call (EX.xf_made TT (xo.to rv) I1.kIn hlim (by have := hr.dp; omega) G1 T.su B1 hsu hP.file hP.top fun h' tk' e d M => ?_)
    show MkP X pins σ Q (.ref e) ⟨h', g, dr, tk', os⟩
    obtain ⟨oe, fv, hoe, hc, hd, hdat, h1⟩ := M.obj
    have hns := M.ns
    obtain ⟨G', g1, g2⟩ := restrict h' fun b => decide (b ≠ e)
    have gk : ∀ b, b ≠ e → G'.get? b = h'.get? b := fun b hb => g1 b (decide_eq_true hb)
    have ge : G'.get? e = none := g2 e (by simp)
    have old : ∀ b o, hp.get? b = some o → G'.get? b = some o := fun b o q => (gk b (Nat.ne_of_lt (Nat.lt_of_lt_of_le (Heap.lt_size q) M.new))).trans (M.keep b o q)
    have ob : ObjOk X.prog X.w (upd H1 d (.xd [(fl, v)])) G' d (.xd [(fl, v)]) :=
      ⟨_, hns.at (fun o q => (gk d M.dne).trans q), fun f => relO_one rv f⟩
    have J : Inv X pins σ (upd H1 d (.xd [(fl, v)])) ⟨G', g, dr, tk', os⟩ := I1.laid (t' := tk') old M.dbig ob
    refine ⟨e, oe, fv, ⟨G', g, dr, tk', os⟩, _, .ref (ga X.K x), some d, rfl, J, fun b o q => ?_, ge, hoe, ⟨hc, hd⟩, hdat, h1, ?_, rfl, I1.bare, raises_own T.ex T.ty, q1 d (I1.hok.fresh M.dbig)⟩
    · by_cases hb : b = e
      · have q' : G'.get? b = some o := q
        rw [hb, ge] at q'; cases q'
      · exact (gk b hb).symm.trans q
    · rw [upd_ne (Ne.symm M.dne)]
      exact I1.hok.fresh M.new
theorem pmk_xf {a : Expr} {ta : TA} {p pos : Pos} {k : Nat} (hP : PF X.prog file) (T : XT X.K X.mg x fl file) (hr : Room k X.A) (ha : PA X [a] ta) (hg : Gl X x := by rfl) (hdb : (x == ("__debug__" : Str)) = false := by decide)
    (he : starEach (a :: []) X.env = (false, eval a X.env) :: starEach [] X.env := by rfl) (hpl : (backTo pos (starEach [] X.env)).any (·.1) = false := by rfl) :
    PMk X (.Call (.Name x p) [a] [] pos) (tMkX (ga X.K x) fl ta) :=
  pmk_xf0 (fs := false) (R := fun vs H1 Q => ∃ v, vs = [v] ∧ ∀ d, H1 d = none → Q (.ref (ga X.K x)) (some d) (upd H1 d (.xd [(fl, v)]))) (fun vs H1 Q ⟨v, e, q⟩ => ⟨v, e, trivial, q⟩) hP T hr ha hg hdb he hpl
theorem pmk_xff {a : Expr} {ta : TA} {p pos : Pos} {k : Nat} (hP : PF X.prog file) (T : XTf X.K X.mg x fl file) (hr : Room k X.A) (ha : PA X [a] ta) (hg : Gl X x := by rfl) (hdb : (x == ("__debug__" : Str)) = false := by decide)
    (he : starEach (a :: []) X.env = (false, eval a X.env) :: starEach [] X.env := by rfl) (hpl : (backTo pos (starEach [] X.env)).any (·.1) = false := by rfl) :
    PMk X (.Call (.Name x p) [a] [] pos) (tMkF (ga X.K x) fl ta) :=
  pmk_xf0 (fs := true) (R := fun vs H1 Q => ∃ z : Str, vs = [.str z] ∧ z.length ≤ 1000 ∧ ∀ d, H1 d = none → Q (.ref (ga X.K x)) (some d) (upd H1 d (.xd [(fl, .str z)]))) (fun vs H1 Q ⟨z, e, hz, q⟩ => ⟨_, e, ⟨z, rfl, hz⟩, q⟩) hP T hr ha hg hdb he hpl
/-- raise C(e), C an own error whose message shows its field -/
theorem rsxf {a : Expr} {ta : TA} {W : WX} {p pos pos2 : Pos} {k : Nat} (hc : X.calm = true) (tk : Takes X W) (hP : PF X.prog file) (T : XTf X.K X.mg x fl file) (hr : Room k X.A) (ha : PA X [a] ta) (hg : Gl X x := by rfl) (hdb : (x == ("__debug__" : Str)) = false := by decide)
    (he : starEach (a :: []) X.env = (false, eval a X.env) :: starEach [] X.env := by rfl) (hpl : (backTo pos (starEach [] X.env)).any (·.1) = false := by rfl) :
    PS X (.Raise (some (.Call (.Name x p) [a] [] pos)) none pos2) (fun _ σ H => tMkF (ga X.K x) fl ta σ H fun cls d H' => W cls d σ H') := ps_raise hc tk (pmk_xff hP T hr ha hg hdb he hpl)
/-- raise C(e), C an own error with a field -/
theorem rsx {a : Expr} {ta : TA} {W : WX} {p pos pos2 : Pos} {k : Nat} (hc : X.calm = true) (tk : Takes X W) (hP : PF X.prog file) (T : XT X.K X.mg x fl file) (hr : Room k X.A) (ha : PA X [a] ta) (hg : Gl X x := by rfl) (hdb : (x == ("__debug__" : Str)) = false := by decide)
    (he : starEach (a :: []) X.env = (false, eval a X.env) :: starEach [] X.env := by rfl) (hpl : (backTo pos (starEach [] X.env)).any (·.1) = false := by rfl) :
    PS X (.Raise (some (.Call (.Name x p) [a] [] pos)) none pos2) (fun _ σ H => tMkX (ga X.K x) fl ta σ H fun cls d H' => W cls d σ H') := ps_raise hc tk (pmk_xf hP T hr ha hg hdb he hpl)
end
end EL
namespace EL
open PySem PySem.W PySem.Spec PyProof.Rows He
/-! ### the facts of such an error, from the head -/
def xclB (K : Frag) (C : Addr) : Bool := match K.lookup C with
  | some ⟨.type "type", _, .cls cd, sl⟩ => (match cd.mro, sl.toList with
    | .ref C' :: bm, [_, _, _, _, some (.builtin n), _] => C' == C && n == "ValueError.__new__" && !cd.hasDel && cd.hasDict && HandSPX.refsVE bm
    | _, _ => false)
  | _ => false
theorem xclB_ok {K : Frag} {C : Addr} (q : xclB K C = true) : ∃ nm q N bs bm sn sub ab col dd k0 k1 k2 k3 k5, K.lookup C = some (excClassObj nm q C N bs bm true sn sub ab col dd k0 k1 k2 k3 k5 "ValueError.__new__") ∧ HandSPX.refsVE bm = true := by
  unfold xclB at q
  split at q
  · rename_i dd cd sl ho
    split at q
    · rename_i C' bm k0 k1 k2 k3 n k5 hm hs
      simp only [Bool.and_eq_true, beq_iff_eq, Bool.not_eq_true'] at q
      obtain ⟨⟨⟨⟨rfl, rfl⟩, hdel⟩, hdi⟩, ht⟩ := q
      obtain ⟨nm, bs, mro, ns, qn, hd, sn, sub, ab, col, del⟩ := cd
      dsimp only at hm hdel hdi
      subst hm hdel hdi
      have hsl : sl = #[k0, k1, k2, k3, some (.builtin "ValueError.__new__"), k5] := by
        obtain ⟨l⟩ := sl
        simp only at hs
        rw [hs]
      subst hsl
      exact ⟨nm, qn, ns, bs, bm, sn, sub, ab, col, dd, k0, k1, k2, k3, k5, ho, ht⟩
    · cases q
  · cases q
/-- closure, code, defaults of its __init__ -/
def xfnB (K : Frag) (C f : Addr) (q file : Str) : Bool := match K.lookup f with
  | some ⟨_, _, .func fd, _⟩ => (match fd.closure, fd.code, fd.defaults, fd.kwdefaults with
    | [(_, cc)], .ref cda, .none, .none => (match K.lookup cc with
      | some ⟨_, _, .cell (some (.ref D)), _⟩ => decide (D = C)
      | _ => false) && ((match K.lookup cda with
      | some ⟨_, _, .fields vs, _⟩ => (match (vs[2]? : Option Value) with
        | some (Value.str fi _) => decide (fi = file)
        | _ => false)
      | _ => false) && codeIn K (.ref cda) q)
    | _, _, _, _ => false)
  | _ => false
def xtB (K : Frag) (x fl file : Str) : Bool := xclB K (ga K x) && (eqO (findIn K (.ref (ga K x)) "__setattr__") (some (some (.builtin "object.__setattr__"))) && (eqO (findIn K (.ref (ga K x)) fl) (some none) &&
  (eqO (findIn K (.ref (ga K x)) "__init__") (some (some (.ref (ma K (ga K x) "__init__")))) && (decide (typeIn K (.ref (ma K (ga K x) "__init__")) = some (.type "function")) && (decide (subIn K (.ref (ga K x)) (.type "ValueError") = some true) &&
  (decide (mroIn K (ga K x) (.ref (ga K x)) = some true) && (eqO (ks_superIn K (ga K x) (ga K x) "__init__") (some (some (.builtin "ValueError.__init__"))) && (eqO (nsIn K cStatics "thirdparty.any") (some none) &&
  (keepIn K (.ref (ga K x)) && (decide (subIn K (.ref (ga K x)) (.type "BaseException") = some true) && (decide (typeIn K (.ref (ga K x)) = some (.type "type")) && (L2.xfB K (ga K x) && xfnB K (ga K x) (ma K (ga K x) "__init__") (x ++ ".__init__") file))))))))))))
/-- what of a def with a closure is looked at (the cells' places not) -/
def fnWX (K : Frag) (a : Addr) : FnW := match K.lookup a with
  | some ⟨_, _, .func fd, _⟩ => some (fd.name, fd.qualname, fd.params, fd.body, fd.scope, fd.globals, fd.closure.map fun z => (z.1, 0), fd.builtins)
  | _ => none
structure DefX where
  cls : Str
  fl : Str
  st : Stmt
  fs : Bool
def DefX.val (d : DefX) : FnW := some ("__init__", d.cls ++ ".__init__", L2.defArgs d.st, .stmts (L2.defBody d.st), L2.defScope d.st, mainGlobals, [("__class__", 0)], builtinsNs)
def DefX.ad (K : Frag) (d : DefX) : Addr := ma K (ga K d.cls) "__init__"
/-- its text, as it was written -/
structure XW (d : DefX) : Prop where
  sc : EX.XSc (L2.defArgs d.st) (L2.defScope d.st) d.fl
  body : ∃ (me : Expr) (p0 p1 p2 p4 p5 q1 q2 q3 q4 : Pos), L2.defBody d.st = EX.xiB d.fl me p0 p1 p2 p4 p5 q1 q2 q3 q4 ∧ (p2.endLine == p4.line) = true ∧ EX.MsgOk d.fl me d.fs
theorem xt_of {K : Frag} {mg : Str → Option Value} {file : Str} {d : DefX} (W : XW d) (e : fnWX K (d.ad K) = d.val) (g : mg d.cls = some (.ref (ga K d.cls))) (su : mg "super" = none) (h : xtB K d.cls d.fl file = true) : XT0 K mg d.cls d.fl file d.fs ∧ L2.XfC K (ga K d.cls) ∧ findIn K (.ref (ga K d.cls)) d.fl = some none := by
  obtain ⟨h1, h⟩ := ba h
  obtain ⟨h2, h⟩ := ba h
  obtain ⟨h3, h⟩ := ba h
  obtain ⟨h4, h⟩ := ba h
  obtain ⟨h5, h⟩ := ba h
  obtain ⟨h6, h⟩ := ba h
  obtain ⟨h7, h⟩ := ba h
  obtain ⟨h8, h⟩ := ba h
  obtain ⟨h9, h⟩ := ba h
  obtain ⟨h10, h⟩ := ba h
  obtain ⟨h11, h⟩ := ba h
  obtain ⟨h12, h⟩ := ba h
  obtain ⟨h13, h14⟩ := ba h
  refine ⟨⟨?_, g, su, h10, of_decide_eq_true h11, of_decide_eq_true h12⟩, L2.xfB_ok h13, eqO_ok h3⟩
  unfold xfnB at h14
  unfold fnWX at e
  unfold DefX.ad at e
  split at h14
  · rename_i oc od fd osl lk
    rw [lk] at e
    obtain ⟨n1, n2, n3, n4, n5, n6, n7, n8, n9, n10, n11, n12, n13, n14, n15⟩ := fd
    have e2 : (some (n1, n2, n3, n4, n5, n6, n7.map (fun z => (z.1, (0 : Addr))), n15) : FnW) = (some (("__init__" : Str), d.cls ++ ".__init__", L2.defArgs d.st, FuncBody.stmts (L2.defBody d.st), L2.defScope d.st, mainGlobals, [(("__class__" : Str), (0 : Addr))], builtinsNs) : FnW) := e
    simp only [Option.some.injEq, Prod.mk.injEq] at e2
    obtain ⟨z1, z2, z3, z4, z5, z6, z7, z8⟩ := e2
    dsimp only at h14
    split at h14
    · rename_i nm cc cda
      obtain ⟨k1, k⟩ := ba h14
      obtain ⟨k2, k3⟩ := ba k
      subst z1 z2 z3 z4 z5 z6 z8
      have hnm : nm = "__class__" := by
        simp only [List.map_cons, List.map_nil, List.cons.injEq, Prod.mk.injEq] at z7
        exact z7.1.1
      subst hnm
      refine ⟨cc, cda, xclB_ok h1, eqO_ok h2, eqO_ok h3, eqO_ok h4, of_decide_eq_true h5, of_decide_eq_true h6, of_decide_eq_true h7, eqO_ok h8, eqO_ok h9, ?_, ?_, ?_⟩
      · split at k1
        · rename_i cl cld D csl lc
          rw [of_decide_eq_true k1] at lc
          exact ⟨_, _, _, lc⟩
        · cases k1
      · split at k2
        · rename_i ccl cdd vs ccs lc
          split at k2
          · rename_i fi tf hv
            rw [of_decide_eq_true k2] at hv
            exact ⟨_, _, _, _, _, lc, hv⟩
          · cases k2
        · cases k2
      · obtain ⟨me, p0, p1, p2, p4, p5, q1, q2, q3, q4, hb, hl, hm⟩ := W.body
        rw [hb] at lk
        exact ⟨oc, od, _, _, _, _, osl, _, _, _, me, p0, p1, p2, p4, p5, q1, q2, q3, q4, lk, k3, W.sc, hl, hm⟩
    · cases h14
  · cases h14
end EL
namespace EL
open PySem PySem.Spec PyProof.Rows L2 He TL
/-! ### the head with such errors -/
abbrev AlX : Type := AlM × List FnW
def obsX (fa : List Fa) (fn : List DefE) (xn : List DefX) (ex : PySem.W.Frag → Bool) (K : PySem.W.Frag) : AlX := (obsE fa fn ex K, xn.map fun d => fnWX K (d.ad K))
def obsXG (n : Nat) (fa : List Fa) (fn : List DefE) (xn : List DefX) (ex : PySem.W.Frag → Bool) (g : Addr → Option Obj) : AlX := obsX fa fn xn ex (frG g (He5.asA g n))
def valX (fn : List DefE) (xn : List DefX) : AlX := (valE fn, xn.map DefX.val)
def SaysX (fa : List Fa) (fn : List DefE) (xn : List DefX) (ex : PySem.W.Frag → Bool) (K : PySem.W.Frag) : Prop := obsX fa fn xn ex K = valX fn xn
def hookX (n : Nat) (fa : List Fa) (fn : List DefE) (xn : List DefX) (ex : PySem.W.Frag → Bool) : PySem.W.Hook where
  α := AlX
  obs := fun s => obsXG n fa fn xn ex s.heap.get?
  val := fun _ => valX fn xn
  says := fun _ h => ∃ K : PySem.W.Frag, K.In h ∧ SaysX fa fn xn ex K
  of := fun _ _ e => ⟨_, frG_in, e⟩
  keeps := fun _ _ _ ⟨K, hK, c⟩ k => ⟨K, PySem.W.Frag.In.keeps hK k, c⟩
theorem obsXG_eq {n : Nat} {fa : List Fa} {fn : List DefE} {xn : List DefX} {ex : PySem.W.Frag → Bool} {g : Addr → Option Obj} {s : Shared} (h : ∀ a, g a = s.heap.get? a) : obsXG n fa fn xn ex g = (hookX n fa fn xn ex).obs s := by
  have e : g = s.heap.get? := funext h
  rw [e] <;> rfl
section
variable {fa : List Fa} {fn : List DefE} {xn : List DefX} {ex : PySem.W.Frag → Bool} {K : PySem.W.Frag}
theorem SaysX.e (c : SaysX fa fn xn ex K) : SaysE fa fn ex K := congrArg (fun z : AlX => z.1) c
theorem SaysX.xd (c : SaysX fa fn xn ex K) (i : Nat) {d : DefX} (h : xn[i]? = some d := by rfl) : fnWX K (d.ad K) = d.val := by
  have e : xn.map (fun d => fnWX K (d.ad K)) = xn.map DefX.val := congrArg (fun z : AlX => z.2) c
  have e2 : (xn.map fun d => fnWX K (d.ad K))[i]? = (xn.map DefX.val)[i]? := by rw [e]
  rw [List.getElem?_map, List.getElem?_map, h] at e2
  exact Option.some.inj e2
end
end EL
namespace EL
open PySem PySem.Spec PyProof.Rows L2 He TL
/-! ### own dunders of instances with a dict -/
section
variable {X : Cx} {CX : CXT} {k : Nat} {C g : Addr} {sp : Sp} {E : XK}
theorem ins_at {pins : List (Addr × Obj)} {σ : L2.St} {H : Hp} {s : Shared} {a dx : Addr} {fs : List (Str × V)} (I : Inv X pins σ H s) (h : H a = some (.ins C dx fs)) : ∃ ox od, PySem.W.InstAt s.heap a ox C od ∧ ox.data = .plain := by
  obtain ⟨mA, O, _⟩ := ins_get I.hok h
  obtain ⟨od, J, _⟩ := O.look
  exact ⟨_, _, J, rfl⟩
/-- len(x) of an instance -/
def rLenO (C : Addr) (sp : Sp) (E : XK) : List V → Hp → VK → Prop := fun xs H Q => ∃ a dx fs, xs = [V.ref a] ∧ H a = some (.ins C dx fs) ∧ sp [.ref a] H (fun z H' => ∃ n : Int, z = .int n ∧ (0 ≤ n ∧ n < 2 ^ 63) ∧ Q z H') E
theorem call_lenO (hm : Meth X.K C "__len__" g) (F : FnR X.prog X.w X.K X.mg X.base CX k g sp) (hr : Room (k + 1) X.A) (hx : Passes CX X E) : CallR X (.builtin "len") (rLenO C sp E) := by
  intro pins s σ H xs us Q I r h
  obtain ⟨a, dx, fs, rfl, ha, q⟩ := h
  obtain ⟨u, rfl, ru⟩ := r.one
  cases (show u = Value.ref a from ru)
  obtain ⟨ox, od, J, _⟩ := ins_at I ha
  obtain ⟨m, hF⟩ := I.fr
  refine PySem.W.len_K hF I.ok.mod.kin J hm.at_ hm.fn (wpAny_mono (wpAny_call (SlX.run_at (us := [.ref a]) (ws := [.ref a]) F (Room.in1 hr) I.env0.in1 hx I (.cons rfl .nil) q)) (fun w s' z => ?_) fun _ _ x => x)
  obtain ⟨z', H', I', rz, n, en, hn, qz⟩ := z
  subst en
  obtain ⟨t, e⟩ := (show ∃ t, w = Value.int n t from rz)
  cases e
  exact ⟨hn, .int n, H', I'.tok _, ⟨_, rfl⟩, qz⟩
/-- x op y, x an instance of the class at C whose def for op is at g; y a thing whose type has no say first -/
def rCmpO (K : PySem.W.Frag) (C : Addr) (sp : Sp) (E : XK) : R2 := fun x y H Q => ∃ a dx fs t, x = .ref a ∧ H a = some (.ins C dx fs) ∧ TyX K H y t ∧ PySem.W.notFirst K C t = true ∧ sp [x, y] H Q E
theorem op_cmpO {op : CmpOp} (hop : ∀ a b, compareOp op a b = richCompare op a b) (hs : PySem.W.findIn X.K (.ref C) (cmpInfo op).2.1 = some (some (.ref g))) (hf : PySem.W.isFn X.K (.ref g) = true) (F : FnR X.prog X.w X.K X.mg X.base CX k g sp)
    (hr : Room k X.A) (hx : Passes CX X E) : OpR X (compareOp op) (rCmpO X.K C sp E) := by
  intro pins s σ H x y v u Q I rx ry h
  obtain ⟨a, dx, fs, t, rfl, ha, ty, hn, q⟩ := h
  cases (show v = Value.ref a from rx)
  obtain ⟨ox, od, J, _⟩ := ins_at I ha
  obtain ⟨P, Z, p, _⟩ := kit_of I ry ty
  obtain ⟨m, hF⟩ := I.fr
  rw [hop]
  refine PySem.W.cmp_K (op := op) (tb := t) hr.units0 hF I.ok.mod.kin J (Z.ty _ _ I.kIn p) hn hs hf ?_
  refine wpAny_mono (run_fnR (us := [.ref a, u]) (vs := [.ref a, y]) F hr hx I (.cons rfl (.cons ry .nil)) q |> wpAny_call) (fun w s' z => ?_) fun _ _ x => x
  obtain ⟨z', H', I', rz, qz⟩ := z
  exact SlX.cmpback rz ⟨z', H', I', rz, qz⟩
/-- y in x, x an instance with an own __contains__ that answers a bool -/
def rInO (C : Addr) (sp : Sp) (E : XK) (neg : Bool) : R2 := fun y x H Q => ∃ a dx fs, x = .ref a ∧ H a = some (.ins C dx fs) ∧ sp [x, y] H (fun z H' => ∃ b : Bool, z = .bl b ∧ Q (.bl (if neg then !b else b)) H') E
theorem op_inO (hm : Meth X.K C "__contains__" g) (F : FnR X.prog X.w X.K X.mg X.base CX k g sp) (hr : Room k X.A) (hx : Passes CX X E) : OpR X (compareOp .In) (rInO C sp E false) := by
  intro pins s σ H y x u v Q I ry rx h
  obtain ⟨a, dx, fs, rfl, ha, q⟩ := h
  cases (show v = Value.ref a from rx)
  obtain ⟨ox, od, J, _⟩ := ins_at I ha
  obtain ⟨m, hF⟩ := I.fr
  refine PySem.W.in_K hF I.ok.mod.kin J hm.at_ hm.fn (wpAny_mono (wpAny_call (run_fnR (us := [.ref a, u]) (vs := [.ref a, y]) F hr hx I (.cons rfl (.cons ry .nil)) q)) (fun w s' z => ?_) fun _ _ x => x)
  obtain ⟨z', H', I', rz, b, eb, qz⟩ := z
  subst eb
  cases (show w = Value.bool b from rz)
  exact wpAny_truthy_bool ⟨.bl b, H', I', rfl, qz⟩
theorem op_notInO (hm : Meth X.K C "__contains__" g) (F : FnR X.prog X.w X.K X.mg X.base CX k g sp) (hr : Room k X.A) (hx : Passes CX X E) : OpR X (compareOp .NotIn) (rInO C sp E true) := by
  intro pins s σ H y x u v Q I ry rx h
  obtain ⟨a, dx, fs, rfl, ha, q⟩ := h
  cases (show v = Value.ref a from rx)
  obtain ⟨ox, od, J, _⟩ := ins_at I ha
  obtain ⟨m, hF⟩ := I.fr
  refine PySem.W.notIn_K hF I.ok.mod.kin J hm.at_ hm.fn (wpAny_mono (wpAny_call (run_fnR (us := [.ref a, u]) (vs := [.ref a, y]) F hr hx I (.cons rfl (.cons ry .nil)) q)) (fun w s' z => ?_) fun _ _ x => x)
  obtain ⟨z', H', I', rz, b, eb, qz⟩ := z
  subst eb
  cases (show w = Value.bool b from rz)
  exact wpAny_truthy_bool ⟨.bl (!b), H', I', rfl, qz⟩
/-- ~x -/
theorem un_invO (hm : Meth X.K C "__invert__" g) (F : FnR X.prog X.w X.K X.mg X.base CX k g sp) (hr : Room k X.A) (hx : Passes CX X E) : UnR X (unaryOp .Invert) (fun x H Q => ∃ a dx fs, x = .ref a ∧ H a = some (.ins C dx fs) ∧ sp [x] H Q E) := by
  intro pins s σ H x v Q I rx h
  obtain ⟨a, dx, fs, rfl, ha, q⟩ := h
  cases (show v = Value.ref a from rx)
  obtain ⟨ox, od, J, _⟩ := ins_at I ha
  obtain ⟨m, hF⟩ := I.fr
  exact PySem.W.ksp_inv hF I.ok.mod.kin J hm.at_ hm.fn (wpAny_call (run_fnR (us := [.ref a]) (vs := [.ref a]) F hr hx I (.cons rfl .nil) q))
/-- x op y, two instances of the class at C -/
def rBinO (C : Addr) (sp : Sp) (E : XK) : R2 := fun x y H Q => ∃ a dx fs b dy gs, x = .ref a ∧ y = .ref b ∧ H a = some (.ins C dx fs) ∧ H b = some (.ins C dy gs) ∧ sp [x, y] H Q E
theorem op_binO {op : Operator} (hc : PySem.W.selfFirst X.K C = true) (hs : PySem.W.findIn X.K (.ref C) (PySem.dunder op.info.2) = some (some (.ref g))) (hf : PySem.W.isFn X.K (.ref g) = true) (F : FnR X.prog X.w X.K X.mg X.base CX k g sp)
    (hr : Room k X.A) (hx : Passes CX X E) : OpR X (binaryOp op) (rBinO C sp E) := by
  intro pins s σ H x y v u Q I rx ry h
  obtain ⟨a, dx, fs, b, dy, gs, rfl, rfl, ha, hb, q⟩ := h
  cases (show v = Value.ref a from rx)
  cases (show u = Value.ref b from ry)
  obtain ⟨ox, od, J, _⟩ := ins_at I ha
  obtain ⟨ox', od', J', _⟩ := ins_at I hb
  obtain ⟨m, hF⟩ := I.fr
  refine PySem.W.binop_K hF I.ok.mod.kin J J'.type hc hs hf ?_
  refine wpAny_mono (wpAny_call (run_fnR (us := [.ref a, .ref b]) (vs := [.ref a, .ref b]) F hr hx I (.cons rfl (.cons rfl .nil)) q)) (fun w s' z => ?_) fun _ _ x => x
  obtain ⟨z', H', I', rz, qz⟩ := z
  exact SlX.cmpback rz ⟨z', H', I', rz, qz⟩
end
end EL
namespace EL
open PySem PySem.Spec PyProof.Rows L2 He TL
/-! ### several except clauses, each with a name (slot i) or without -/
/-- a clause: its class, the slot of its name, its suite's reading -/
abbrev Cl1 : Type := Value × Option Nat × (Addr → Value → Option Addr → TS)
def wMix (K : PySem.W.Frag) (Wout : WX) (D : Ends) : List Cl1 → WX
  | [] => Wout
  | (c, none, ts) :: r => fun cls d σ H => ∃ b, PySem.W.exmOne K cls c = some b ∧ (b = true → ∀ a, H a = none → ts a cls d D σ H) ∧ (b = false → wMix K Wout D r cls d σ H)
  | (c, some i, ts) :: r => fun cls d σ H => ∃ b, PySem.W.exmOne K cls c = some b ∧
      (b = true → ∀ a, H a = none → ts a cls d { nx := fun σ' H' => D.nx (σ'.set i none) H', rt := D.rt, bk := fun σ' H' => D.bk (σ'.set i none) H', ct := fun σ' H' => D.ct (σ'.set i none) H' } (σ.set i (some (.ref a))) H) ∧
      (b = false → wMix K Wout D r cls d σ H)
inductive HdsMix (X : Cx) : List ExceptHandler → List Cl1 → Prop
  | nil : HdsMix X [] []
  | one {x : Str} {c : Value} {ts : Addr → Value → Option Addr → TS} {b₀ : Stmt} {suite : List Stmt} {np pos' : Pos} {hds : List ExceptHandler} {l : List Cl1} (hc : Names X x c)
      (hsu : ∀ (a : Addr) (oe : Obj) (cls : Value) (d : Option Addr) (pn : List (Addr × Obj)), Zc cls d oe → (∃ vs, oe.data = .fields vs) → PSs (X.suite a ((a, oe) :: pn)) (b₀ :: suite) (ts a cls d)) (r : HdsMix X hds l) :
      HdsMix X (.ExceptHandler (some (.Name x np)) none (b₀ :: suite) pos' :: hds) ((c, none, ts) :: l)
  | as_ {x n : Str} {i : Nat} {c : Value} {ts : Addr → Value → Option Addr → TS} {b₀ : Stmt} {suite : List Stmt} {np pos' : Pos} {hds : List ExceptHandler} {l : List Cl1} (hi : X.N[i]? = some n) (hln : X.env.kindOf n = some .local) (hc : Names X x c)
      (hsu : ∀ (a : Addr) (oe : Obj) (cls : Value) (d : Option Addr) (pn : List (Addr × Obj)), Zc cls d oe → (∃ vs, oe.data = .fields vs) → PSs (X.suite a ((a, oe) :: pn)) (b₀ :: suite) (ts a cls d)) (r : HdsMix X hds l) :
      HdsMix X (.ExceptHandler (some (.Name x np)) (some n) (b₀ :: suite) pos' :: hds) ((c, some i, ts) :: l)
section
variable {X : Cx} {body : List Stmt} {h₀ : ExceptHandler} {hds : List ExceptHandler} {l : List Cl1} {pos : Pos} {tb : WX → TS} {Wout : WX}
theorem ps_try_mix (hs : X.stack = X.env :: X.outer) (hf : X.env.frame = some X.env.locals) (hN : X.N.Nodup) (tk : Takes X Wout)
    (hb : ∀ (W : WX) (pn : List (Addr × Obj)) (xe : Value → Shared → Prop), Takes (X.tr pn xe) W → PassesOwn (model X.prog X.w) X.A X.env xe → PSs (X.tr pn xe) body (tb W))
    (hh : HdsMix X (h₀ :: hds) l) : PS X (.Try body (h₀ :: hds) [] [] pos) (fun D σ H => tb (wMix X.K Wout D l) D σ H) := by
  refine ⟨fun pins s σ H D I h => ?_⟩
  have ok := I.ok
  have hfr : X.A.frames = some (X.env :: X.outer) := by rw [ok.frames, hs]
  refine wpAny_Try_except ?_
  refine wpAny_mono ((hb (wMix X.K Wout D l) (X.pn ++ pins) (fun e s₁ => wpAny (model X.prog X.w) X.A (noteFrame e X.env) (fun _ s₂ => wpAny (model X.prog X.w) X.A (setFlight e none) (fun _ s₃ =>
    wpAny (model X.prog X.w) X.A (handleBy e X.env (h₀ :: hds)) (SP X pins D) X.xe s₃) X.xe s₂) X.xe s₁) (fun u s' xx => ?_) PassesOwn.looking).run [] s σ H D (I.toTry _) h) (fun f s1 hsp => ?_) (fun e s1 he => he)
  · -- the catch
    obtain ⟨a, B, sI, pins', σ', H', cls, d, rfl, J', nb, up, sky, na, os, ag, w⟩ := xx
    have J : Inv X pins σ' H' sI := J'.ofTry ok
    have sky' : Sky B (X.env :: X.outer) a (Zc cls d) X.env.locals s'.heap := by rw [← hs]; exact sky
    show wpAny (model X.prog X.w) X.A (noteFrame (.ref a) X.env) _ _ _
    refine Sky.land Zc.steady hfr hf sky' fun h3 fl3 up3 => ?_
    have J3 : Inv X pins σ' H' { s' with heap := h3 } := J.landed nb fl3.1 (up.trans up3) os ag
    obtain ⟨oe3, vs3, he3, hz3, hd3⟩ := fl3.there
    have notFr : ∀ {h : Heap} {o : Obj} {vs : Array Value}, h.FunFrames B (X.env :: X.outer) → h.get? a = some o → o.data = .fields vs → a ∉ frs (X.env :: X.outer) := fun {h o vs} ff e dd hm => by
      obtain ⟨_, o', e', hnf⟩ := ff.mem hm
      rw [e] at e'; cases e'
      exact hnf _ dd
    have nfr := notFr fl3.2.2.1 he3 hd3
    have nL : a ≠ X.env.locals := fun z => nfr (List.mem_filterMap.mpr ⟨X.env, List.mem_cons_self, by rw [hf, z]⟩)
    have nF : a ∉ X.fs := fun hm => by
      obtain ⟨e, he, q⟩ := List.mem_filterMap.mp hm
      exact nfr (List.mem_filterMap.mpr ⟨e, List.mem_cons_of_mem _ he, q⟩)
    have S3 := J3.suite he3 hd3 na nL nF
    have test : ∀ {x : Str} {c : Value} {np : Pos} {Q : Value → Shared → Prop} {E : Value → Shared → Prop}, Names X x c → Q c { s' with heap := h3 } → wpAny (model X.prog X.w) (X.A.mark (some (.ref a))) (eval (.Name x np) X.env) Q E { s' with heap := h3 } := fun {x c np Q E} hc q => by
      obtain ⟨hg, hdbg, hm | ⟨hm, hv, hnn⟩⟩ := hc
      · exact ld_glob (X := X.suite a ((a, oe3) :: (X.pn ++ pins))) S3 hg hm q hdbg
      · exact ld_blt (X := X.suite a ((a, oe3) :: (X.pn ++ pins))) S3 hg hm hv q hnn hdbg
    have LT : PySem.W.Looks (model X.prog X.w) h3 (typeOf (.ref a)) cls := fun A Q E s k q => wpAny_typeOf_ref (k _ _ he3) (by rw [hz3.1]; exact q)
    have go : ∀ {hds' : List ExceptHandler} {l' : List Cl1}, HdsMix X hds' l' → wMix X.K Wout D l' cls d σ' H' →
        wpAny (model X.prog X.w) X.A (handleBy (.ref a) X.env hds') (SP X pins D) X.xe { s' with heap := h3 } := by
      intro hds' l' hk
      induction hk with
      | nil =>
        intro w
        refine wpAny_handleBy_nil ?_
        obtain ⟨k1, k2, k3, oe, vs, T, oT, ts', he, hz, hd, h1, hr⟩ := id fl3
        unfold PySem.passOn
        refine wpAny_bind (wpAny_field he hd h1 ?_)
        rw [if_neg (show ¬ ((Value.ref T == Value.none) = true) from by simp)]
        have fin : wpAny (model X.prog X.w) X.A (setFlight (.ref a) X.env.frame) (fun _ s4 => wpAny (model X.prog X.w) X.A (throw (.ref a) : Sem Flow) (SP X pins D) X.xe s4) X.xe { s' with heap := h3 } := by
          rw [hf]
          refine HandSPX.setFlight_upZ fl3 fun h4 hh4 up4 => wpAny_throw (tk _ _ ?_)
          exact ⟨a, B, sI, pins, σ', H', cls, d, rfl, J, nb, (up.trans up3).trans up4, .inr (.inr (by rw [hs]; exact hh4)), na, os, ag, w⟩
        first
          | exact wpAny_bind (wpAny_pure (wpAny_bind fin))
          | exact wpAny_bind fin
      | @one x c ts b₀ suite np pos' hds2 l2 hc hsu r ih =>
        intro w
        obtain ⟨b, hb1, hyes, hno⟩ := w
        refine wpAny_handleBy_cons (codeAny_handlers_test ?_) (by intro q; cases q)
        have LM := PySem.W.exm_one (M := model X.prog X.w) (J3.kIn) LT hb1
        refine test hc (LM.here ?_)
        cases b with
        | true =>
          refine codeAny_handlers_suite ?_
          refine HandSPX.lands_againZ fl3 fun h4 fl4 up4 => ?_
          have J4 : Inv X pins σ' H' { s' with heap := h4 } := J.landed nb fl4.1 ((up.trans up3).trans up4) os ag
          obtain ⟨oe4, vs4, he4, hz4, hd4⟩ := fl4.there
          have S4 := J4.suite he4 hd4 na nL nF
          refine wpAny_mono ((hsu a oe4 cls d (X.pn ++ pins) hz4 ⟨_, hd4⟩).run [] _ _ H' _ S4 (hyes rfl a na)) (fun f s6 hsp => ?_) (fun _ _ z => False.elim z)
          cases f with
          | next =>
            obtain ⟨σ6, H6, S6, q6⟩ := hsp
            exact ⟨_, _, S6.unsuite ok, q6⟩
          | brk =>
            obtain ⟨σ6, H6, S6, q6⟩ := hsp
            exact ⟨_, _, S6.unsuite ok, q6⟩
          | cont =>
            obtain ⟨σ6, H6, S6, q6⟩ := hsp
            exact ⟨_, _, S6.unsuite ok, q6⟩
          | ret u =>
            obtain ⟨v6, σ6, H6, S6, r6, q6⟩ := hsp
            exact ⟨_, _, _, S6.unsuite ok, r6, q6⟩
        | false =>
          show wpAny _ X.A (handleBy (.ref a) X.env hds2) _ _ _
          exact ih (hno rfl)
      | @as_ x n i c ts b₀ suite np pos' hds2 l2 hi hln hc hsu r ih =>
        intro w
        obtain ⟨b, hb1, hyes, hno⟩ := w
        have hloc : Loc X.env.scope n := .inl hln
        refine wpAny_handleBy_cons (codeAny_handlers_test ?_) (by intro q; cases q)
        have LM := PySem.W.exm_one (M := model X.prog X.w) (J3.kIn) LT hb1
        refine test hc (LM.here ?_)
        cases b with
        | true =>
          refine codeAny_handlers_suite_as ?_
          refine HandSPX.lands_againZ fl3 fun h4 fl4 up4 => ?_
          have J4 : Inv X pins σ' H' { s' with heap := h4 } := J.landed nb fl4.1 ((up.trans up3).trans up4) os ag
          obtain ⟨oe4, vs4, he4, hz4, hd4⟩ := fl4.there
          have S4 := J4.suite he4 hd4 na nL nF
          refine store_ok (X := X.suite a ((a, oe4) :: (X.pn ++ pins))) (v := .ref a) S4 hN hi hloc rfl (fun s5 S5 => ?_) (.inr hln)
          refine wpAny_mono ((hsu a oe4 cls d (X.pn ++ pins) hz4 ⟨_, hd4⟩).run [] s5 _ H' _ S5 (hyes rfl a na)) (fun f s6 hsp => ?_) (fun _ _ z => False.elim z)
          have end_ : ∀ {σ6 : L2.St} {H6 : Hp} {Q : Shared → Prop}, Inv (X.suite a ((a, oe4) :: (X.pn ++ pins))) [] σ6 H6 s6 → (∀ s7, Inv X pins (σ6.set i none) H6 s7 → Q s7) →
              wpAny (model X.prog X.w) X.A (do bindName X.env n .none; unbindBehindTheSuite X.env n pos') (fun _ s7 => Q s7) X.xe s6 := fun {σ6 H6 Q} S6 hq => gone_ok (S6.unsuite ok) hN hi hln hq
          cases f with
          | next =>
            obtain ⟨σ6, H6, S6, q6⟩ := hsp
            exact end_ S6 fun s7 J7 => ⟨_, _, J7, q6⟩
          | brk =>
            obtain ⟨σ6, H6, S6, q6⟩ := hsp
            exact end_ S6 fun s7 J7 => ⟨_, _, J7, q6⟩
          | cont =>
            obtain ⟨σ6, H6, S6, q6⟩ := hsp
            exact end_ S6 fun s7 J7 => ⟨_, _, J7, q6⟩
          | ret u =>
            obtain ⟨v6, σ6, H6, S6, r6, q6⟩ := hsp
            exact end_ S6 fun s7 J7 => ⟨_, _, _, J7, r6, q6⟩
        | false =>
          show wpAny _ X.A (handleBy (.ref a) X.env hds2) _ _ _
          exact ih (hno rfl)
    exact go hh w
  · cases f with
    | next =>
      obtain ⟨σ', H', J', q⟩ := hsp
      exact wpAny_execs_nil ⟨σ', H', J'.ofTry ok, q⟩
    | brk =>
      obtain ⟨σ', H', J', q⟩ := hsp
      exact ⟨σ', H', J'.ofTry ok, q⟩
    | cont =>
      obtain ⟨σ', H', J', q⟩ := hsp
      exact ⟨σ', H', J'.ofTry ok, q⟩
    | ret u =>
      obtain ⟨v, σ', H', J', r, q⟩ := hsp
      exact ⟨v, σ', H', J'.ofTry ok, r, q⟩
end
end EL
namespace EL
open PySem PySem.Spec PyProof.Rows L2 He TL
/-! ### dict comprehensions whose keys are ints, texts or tuples of them -/
/-- the empty dict, either way -/
inductive NilD : HO → Prop where
  | k : NilD (.dK [])
  | t : NilD (.dT [])
theorem NilD.ok {P : Program} {w : World} {H : Hp} {o : HO} (n : NilD o) (h : Heap) (hb : sysModules < h.objs.size) : ObjOk P w H (h.push { cls := .type "dict", data := .dict #[] }) h.objs.size o := by
  cases n with
  | k => exact dk_empty h hb
  | t => exact dt_empty h hb
theorem put_by {X : Cx} {pins : List (Addr × Obj)} {σ : L2.St} {H H' : Hp} {s : Shared} {E : Value → Shared → Prop} {D : Addr} {y v : V} {u r : Value} {Q : Unit → Shared → Prop} (hu : X.A.units < cLine) (I : Inv X pins σ H s) (g : DPut H D y v H')
    (ry : RelV y u) (rv : RelV v r) (h : ∀ s', Inv X pins σ H' s' → Q () s') : wpAny (model X.prog X.w) X.A (dictSet D u r) Q E s := by
  rcases g with ⟨kvs, k, e, ey, l, eH⟩ | ⟨kvs, k, b, e, ey, eb, l, eH⟩
  · subst ey
    subst eH
    exact d_dictSet I e l ry rv h
  · subst ey
    subst eH
    obtain rfl : u = Value.ref b := ry
    obtain ⟨z, hd, xs, rel, dd⟩ := dt_of I.hok e
    refine wpAny_dictSet_heap (hsz := by rw [← Paired.length rel]; exact z) (show (tupleKind (mixKind X.prog X.w)).room X.A from hu) (key_of I.hok eb) dd fun h' dd' hs => h _ ?_
    obtain ⟨q, es, ep, hq, c2, c3, c4, _, c5⟩ := dd'
    have lz : (putK kvs k v).length ≤ sizeLine := by have := length_putK kvs k v; omega
    exact d_write I (by rw [e]; trivial) hs ⟨q, hq⟩ ⟨lz, hd, _, (rel.put k eb rv).keeps fun c ys ec => (upd_ne (ne_of ec e (fun z => nomatch z))).trans ec, q, es, ep, hq, c2, c3, c4, c5⟩
section
variable {X : Cx}
abbrev DcStep (g : TG) (tt : TT) (tk tv : TE) (vs : List Nat) (σ : L2.St) (D : Addr) (Nx : Hp → Prop) (x : V) (H : Hp) : Prop := g x (wipe σ vs) H fun σ2 H2 => wipe σ2 vs = wipe σ vs ∧ tt σ2 H2 fun b H3 =>
  if b = true then tk σ2 H3 fun y H4 => tv σ2 H4 fun z H5 => ∃ H6, DPut H5 D y z H6 ∧ Nx H6 else Nx H3
def tDcG (o0 : HO) (wi : TI) (g : TG) (tt : TT) (tk tv : TE) (vs : List Nat) : TE := fun σ H Q => wi σ H fun J H1 => ∀ D, H1 D = none → ∃ W : Nat → Nat → Hp → Prop, (∃ m, W 0 m (upd H1 D o0)) ∧ ∀ i m H, W i m H →
  (J.stop i H ∧ Q (.ref D) H) ∨ (J.go i H ∧ ∃ Nx : Hp → Prop, (∀ H', Nx H' → ∃ m', m' < m ∧ W (i + 1) m' H') ∧ ∀ x H', J.yld i H x H' → DcStep g tt tk tv vs σ D Nx x H')
theorem pe_dcG {o0 : HO} {kx vx tg iter : Expr} {ifs : List Expr} {scope : Scope} {own : List (Str × Nat)} {pos : Pos} {wi : TI} {g : TG} {tt : TT} {tk tv : TE} (n0 : NilD o0) (hu : X.A.units < cLine) (hc : X.calm = true) (hN : X.N.Nodup) (hi : PI X tg iter wi) (ok : BlkOk X.N X.env.scope scope own)
    (hg : ∀ (s : Shared) (H : Hp) (C : Addr) (cl : List (Str × Addr)) (fp : List Addr), PG (X.blk s H scope (compEnvC scope cl C X.env) fp) tg g) (ht : ∀ (s : Shared) (H : Hp) (C : Addr) (cl : List (Str × Addr)) (fp : List Addr), PTs (X.blk s H scope (compEnvC scope cl C X.env) fp) ifs tt)
    (hk : ∀ (s : Shared) (H : Hp) (C : Addr) (cl : List (Str × Addr)) (fp : List Addr), PE (X.blk s H scope (compEnvC scope cl C X.env) fp) kx tk)
    (hv : ∀ (s : Shared) (H : Hp) (C : Addr) (cl : List (Str × Addr)) (fp : List Addr), PE (X.blk s H scope (compEnvC scope cl C X.env) fp) vx tv) (hs : ∀ x, foldedSetIterable iter X.env x = pure x := by intro _; rfl) :
    PE X (.DictComp kx vx [⟨tg, iter, ifs, 0⟩] scope pos) (tDcG o0 wi g tt tk tv (own.map (·.2))) := by
  refine ⟨fun pins s σ H Q I h => ?_⟩
  rw [arm_eval_DictComp]
  have cl : ∀ y ∈ scope.names, y.2 = .free → ∃ c, X.env.cells.lookup y.1 = some c := fun y hy e => (ok.free y hy e).elim (fun k => I.ok.has _ (.inl k)) (fun k => I.ok.has _ (.inr k))
  refine wpAny_comprehension_free (use := none) rfl hs (closure_ok cl) ok.kind (fun y hy e => by rw [ok.uniq y hy, e]) (thn (hi.run pins s σ H _ I h) fun xv s1 hx => thn hx fun itv s2 h2 => ?_)
  obtain ⟨it, fp, tn, J, H2, e, I2, T, st2, f2, q⟩ := h2
  subst e
  refine wpAny_newObj_type (newEnv_comp ?_)
  generalize hD : s2.heap.objs.size = D
  obtain ⟨W, ⟨m0, w0⟩, turn⟩ := q D (I2.hok.fresh (Nat.le_of_eq hD))
  -- the new dict
  have h3 : ∃ s3 : Shared, ({ s2 with heap := s2.heap.push { cls := .type "dict", data := .dict #[] } } : Shared) = s3 := ⟨_, rfl⟩
  obtain ⟨s3, hs3⟩ := h3
  have hh3 : s3.heap = s2.heap.push { cls := .type "dict", data := .dict #[] } := by rw [← hs3]
  have h4 : ∃ H3, upd H2 D o0 = H3 := ⟨_, rfl⟩
  obtain ⟨H3, hH3⟩ := h4
  have I3 : Inv X pins σ H3 s3 := by
    rw [← hs3, ← hH3]
    refine I2.laid (t' := s2.toks) (fun b o e => Heap.get?_push_of_some _ e) (Nat.le_of_eq hD) ?_
    rw [← hD]
    exact n0.ok s2.heap I2.big
  rw [hH3] at w0
  have lt2 : ∀ b ∈ fp, b < s2.heap.objs.size := fun b hb => let ⟨o, e, _⟩ := T.obj _ _ st2 b hb; Heap.lt_size e
  have f3 : ∀ b ∈ fp, FpOk X pins H3 b ∧ b < s3.heap.objs.size := fun b hb => by
    refine ⟨⟨?_, (f2 b hb).2⟩, by rw [hh3, Heap.size_push]; exact Nat.lt_succ_of_lt (lt2 b hb)⟩
    rw [← hH3, upd_ne (by rw [← hD]; exact Nat.ne_of_lt (lt2 b hb))]
    exact (f2 b hb).1
  have I4 := block_start I3 ok hN f3
  rw [hs3]
  show codeAny _ _ (.compStart (.DictComp kx vx [⟨tg, iter, ifs, 0⟩] scope pos) 0 (.ref it) (.ref D) (compEnvC scope (cellsFrom (s3.heap.objs.size + 1) scope.names (cloFrom X.env.cells scope.names [])) s3.heap.objs.size X.env)) (compPost (model X.prog X.w) X.A X.xe none _ (.ref D) s3.heap.objs.size) { s3 with heap := pushCells (s3.heap.push { cls := .type "dict", data := .dict #[] }) scope.names }
  have pg := hg s3 H3 s3.heap.objs.size (cellsFrom (s3.heap.objs.size + 1) scope.names (cloFrom X.env.cells scope.names [])) fp
  have pt := ht s3 H3 s3.heap.objs.size (cellsFrom (s3.heap.objs.size + 1) scope.names (cloFrom X.env.cells scope.names [])) fp
  have pk := hk s3 H3 s3.heap.objs.size (cellsFrom (s3.heap.objs.size + 1) scope.names (cloFrom X.env.cells scope.names [])) fp
  have pv := hv s3 H3 s3.heap.objs.size (cellsFrom (s3.heap.objs.size + 1) scope.names (cloFrom X.env.cells scope.names [])) fp
  generalize hce : compEnvC scope (cellsFrom (s3.heap.objs.size + 1) scope.names (cloFrom X.env.cells scope.names [])) s3.heap.objs.size X.env = ce at I4 pg pt pk pv ⊢
  have cL : ce.locals = s3.heap.objs.size := by rw [← hce]; rfl
  have st4 : tn 0 (pushCells (s3.heap.push { cls := .type "dict", data := .dict #[] }) scope.names) := T.keep _ _ _ st2 fun b _ o e => pushCells_keeps _ _ _ _ (Heap.get?_push_of_some _ (by rw [hh3]; exact Heap.get?_push_of_some _ e))
  generalize hs4 : ({ s3 with heap := pushCells (s3.heap.push { cls := .type "dict", data := .dict #[] }) scope.names } : Shared) = s4 at I4 ⊢
  have st4' : tn 0 s4.heap := by rw [← hs4]; exact st4
  have stat : ∀ {σ' : L2.St} {H' : Hp} {s' : Shared}, Inv (X.blk s3 H3 scope ce fp) [] σ' H' s' → (∀ b ∈ fp, H' b = none) → ∀ b ∈ fp, FpOk (X.blk s3 H3 scope ce fp) [] H' b := fun I' hn b hb =>
    ⟨hn b hb, (I'.ok.exf b hb).1, I'.ok.exfs b hb, .inl hb, fun x c e => (I'.ok.exf b hb).2 x c e, fun p hp => by cases hp⟩
  have loop : codeAny (model X.prog X.w) X.A (.compLoop (.DictComp kx vx [⟨tg, iter, ifs, 0⟩] scope pos) 0 (.ref it) (.ref D) ce) (compPost (model X.prog X.w) X.A X.xe none (EP X pins σ Q) (.ref D) s3.heap.objs.size) s4 := by
    refine compLoop_anyD (fun n s' => ∃ i H', Inv (X.blk s3 H3 scope ce fp) [] (wipe σ (own.map (·.2))) H' s' ∧ tn i s'.heap ∧ (∀ b ∈ fp, H' b = none) ∧ W i n H') ?_ m0 ⟨0, H3, I4, st4', fun b hb => (f3 b hb).1.1, w0⟩
    rintro n s5 ⟨i, H5, I5, st5, n5, w5⟩
    rcases turn i n H5 w5 with ⟨stop, qq⟩ | ⟨go, Nx, hNx, step⟩
    · refine thnF (T.done (X.blk s3 H3 scope ce fp) rfl rfl rfl hc i [] s5 _ H5 (fun _ _ => False) I5 (stat I5 n5) st5 stop) fun r s6 ⟨hr, I6⟩ => ?_
      subst hr
      have I7 : Inv X pins σ H5 s6 := I3.call' (ch := fp) I6.os I6.base I6.hok I6.bare fun b hb => ⟨(f3 b hb).1.2.2.2.1, (f3 b hb).1.2.1, (f3 b hb).1.2.2.2.2.1, (f3 b hb).1.2.2.2.2.2⟩
      have nC : H5 s3.heap.objs.size = none := by rw [← cL]; exact I6.free
      obtain ⟨m, hn, _⟩ := I6.loc
      obtain ⟨a0, a1, a2, a3, a4, a5⟩ := I3.fpOk (Nat.le_refl _) nC
      refine ⟨m, by rw [← cL]; exact hn, fun h'' sb => ?_⟩
      exact ⟨.ref D, H5, I7.turned (t' := s6.toks) (fun b o hb e => (sb.2 b hb).trans e) a0 a1 a3 a4 a5, rfl, qq⟩
    · refine thnF (T.item (X.blk s3 H3 scope ce fp) rfl rfl rfl hc i [] s5 _ H5 (fun _ _ => False) I5 (stat I5 n5) st5 go) fun r s6 ⟨u, hr, h6⟩ => ?_
      subst hr
      refine thnF h6 fun _ s7 ⟨x, H7, I7, r7, y7, st7, n7⟩ => ?_
      refine thnF (pg.run _ s7 _ H7 x u _ (I7.pinned (stat I7 n7) (T.obj _ _ st7)) r7 (step x H7 y7)) fun _ s8 ⟨σ8, H8, I8, hw8, q8⟩ => ?_
      refine thnF (pt.run _ s8 σ8 H8 _ I8 q8) fun b s9 ⟨H9, I9, q9⟩ => ?_
      have fin : ∀ {s' : Shared} {H' : Hp}, Inv (X.blk s3 H3 scope ce fp) ([] ++ pinsAt fp s7.heap) σ8 H' s' → Nx H' → ∃ m, m < n ∧ ∃ i H', Inv (X.blk s3 H3 scope ce fp) [] (wipe σ (own.map (·.2))) H' s' ∧ tn i s'.heap ∧ (∀ b ∈ fp, H' b = none) ∧ W i m H' := fun {s' H'} I' nx => by
        obtain ⟨m', hm, w'⟩ := hNx H' nx
        have pin' : ∀ b ∈ fp, ∀ o, s7.heap.get? b = some o → s'.heap.get? b = some o ∧ H' b = none := fun b hb o e =>
          let z := I'.pin (b, o) (List.mem_append_right _ (List.mem_append_right _ (mem_pinsAt hb e)))
          ⟨z.1, z.2.1⟩
        refine ⟨m', hm, i + 1, H', (I'.unpinned (pins := [])).weak (by rw [← hw8, wipe_length]) (fun j v e => (wipe_some (by rw [hw8]; exact e)).1), T.keep _ _ _ st7 fun b hb o e => (pin' b hb o e).1, fun b hb => ?_, w'⟩
        obtain ⟨o, e, _⟩ := T.obj _ _ st7 b hb
        exact (pin' b hb o e).2
      cases b with
      | false => exact fin I9 q9
      | true =>
        refine thnF (pk.run _ s9 σ8 H9 _ I9 q9) fun z s10 ⟨yk, H10, I10, r10, q10⟩ => ?_
        refine thnF (pv.run _ s10 σ8 H10 _ I10 q10) fun z2 s11 ⟨yv, H11, I11, r11, H12, dp, nx⟩ => ?_
        exact put_by (X := X.blk s3 H3 scope ce fp) hu I11 dp r10 r11 fun s12 I12 => fin I12 nx
  exact codeAny_compStart_dict loop (T.self X.A 0 _ _ _ st4' loop)
/-- the turns of such a comprehension -/
theorem dcG_it {J : It} {n : Nat} {G : Hp → Prop} {Y : Nat → Hp → V → Hp → Prop} (w : L2.Walk J n G Y) {o0 : HO} {g : TG} {tt : TT} {tk tv : TE} {vs : List Nat} {σ : L2.St} {H1 : Hp} {D : Addr} {Qd : Hp → Prop} (Pv : Nat → Hp → Prop) (h0 : Pv 0 (upd H1 D o0)) (hG : ∀ i H, i ≤ n → Pv i H → G H)
    (hs : ∀ i x H H', i < n → Pv i H → Y i H x H' → DcStep g tt tk tv vs σ D (Pv (i + 1)) x H') (hd : ∀ H, Pv n H → Qd H) :
    ∃ W : Nat → Nat → Hp → Prop, (∃ m, W 0 m (upd H1 D o0)) ∧ ∀ i m H, W i m H → (J.stop i H ∧ Qd H) ∨ (J.go i H ∧ ∃ Nx : Hp → Prop, (∀ H', Nx H' → ∃ m', m' < m ∧ W (i + 1) m' H') ∧ ∀ x H', J.yld i H x H' → DcStep g tt tk tv vs σ D Nx x H') := by
  refine ⟨fun i m H => m + i = n ∧ Pv i H, ⟨n, rfl, h0⟩, fun i m H ⟨hm, p⟩ => ?_⟩
  have q := hG i H (by omega) p
  cases m with
  | zero =>
    have e : i = n := by omega
    subst e
    exact .inl ⟨w.stops H q, hd H p⟩
  | succ m => exact .inr ⟨w.goes i H (by omega) q, Pv (i + 1), fun H' p' => ⟨m, Nat.lt_succ_self m, by omega, p'⟩, fun x H' y => hs i x H H' (by omega) p (w.yields i H x H' (by omega) q y)⟩
end
end EL
namespace EL
open PySem PySem.Spec PyProof.Rows L2 He TL
/-! ### what may change: the objects in S; tuples never -/
def Rig : HO → Bool
  | .tup _ => true
  | .frz _ _ => true
  | _ => false
structure Md (S : List Addr) (H H' : Hp) : Prop where
  out : ∀ b o, H b = some o → b ∉ S → H' b = some o
  rig : ∀ b o, H b = some o → Rig o = true → H' b = some o
section
variable {S S' : List Addr} {H H1 H2 : Hp} {K : PySem.W.Frag} {a p : Addr} {o o' : HO}
theorem Md.refl (S : List Addr) (H : Hp) : Md S H H := ⟨fun _ _ h _ => h, fun _ _ h _ => h⟩
theorem Md.of (s : Same H H1) : Md S H H1 := ⟨fun b o h _ => s b o h, fun b o h _ => s b o h⟩
theorem Md.trans (x : Md S H H1) (y : Md S H1 H2) : Md S H H2 := ⟨fun b o h n => y.out b o (x.out b o h n) n, fun b o h r => y.rig b o (x.rig b o h r) r⟩
theorem Md.mono (x : Md S H H1) (h : ∀ b ∈ S, b ∈ S') : Md S' H H1 := ⟨fun b o e n => x.out b o e fun z => n (h b z), x.rig⟩
theorem Md.upd (e : H a = some o) (r : Rig o = false) (m : a ∈ S) : Md S H (upd H a o') :=
  ⟨fun b u h n => (upd_ne (fun z : b = a => n (by rw [z]; exact m))).trans h, fun b u h ru => (upd_ne (fun z : b = a => by rw [z, e] at h; cases h; rw [r] at ru; cases ru)).trans h⟩
/-- what is new is not seen from before -/
theorem Md.new (x : Md (p :: S) H1 H2) (s : Same H H1) (n : H p = none) : Md S H H2 :=
  ⟨fun b u h m => x.out b u (s b u h) (fun z => (List.mem_cons.mp z).elim (fun z => ne_of_none h n z) m), fun b u h r => x.rig b u (s b u h) r⟩
theorem Md.newM (x : Md (p :: S) H1 H2) (s : Md S H H1) (n : H p = none) : Md S H H2 :=
  ⟨fun b u h m => x.out b u (s.out b u h m) (fun z => (List.mem_cons.mp z).elim (fun z => ne_of_none h n z) m), fun b u h r => x.rig b u (s.rig b u h r) r⟩
theorem Md.same (x : Md [] H H1) : Same H H1 := fun b o h => x.out b o h (by simp)
theorem But.md (b : But p H H1) (e : H p = some o) (r : Rig o = false) : Md [p] H H1 :=
  ⟨fun c u h n => b c u h (fun z => n (by rw [z]; simp)), fun c u h ru => b c u h (fun z => by rw [z, e] at h; cases h; rw [r] at ru; cases ru)⟩
theorem Md.but (x : Md [p] H H1) : But p H H1 := fun b o h n => x.out b o h (by simp [n])
theorem Md.sqT (x : Md S H H1) {xs : List V} (h : SqT K H a xs) : SqT K H1 a xs := by
  rcases h with (h | ⟨o, h⟩) | h
  · exact .inl (.inl (x.rig _ _ h rfl))
  · exact .inl (.inr ⟨o, x.rig _ _ h rfl⟩)
  · exact .inr h
end
mutual
def noL : PyData → Bool
  | .list _ => false
  | .dict _ => false
  | .tuple xs => noLs xs
  | .none => true
  | .bool _ => true
  | .int _ => true
  | .str _ => true
def noLs : List PyData → Bool
  | [] => true
  | x :: r => noL x && noLs r
end
mutual
theorem Md.dp {S : List Addr} {K : PySem.W.Frag} {H H' : Hp} (s : Md S H H') : ∀ {d : PyData} {v : V}, noL d = true → Dp K H v d → Dp K H' v d
  | _, _, _, .non => .non
  | _, _, _, .bl b => .bl b
  | _, _, _, .int i => .int i
  | _, _, _, .str x => .str x
  | _, _, n, .lst h a => by cases n
  | _, _, n, .tup h a => .tup (s.sqT h) (Md.dpAll s n a)
theorem Md.dpAll {S : List Addr} {K : PySem.W.Frag} {H H' : Hp} (s : Md S H H') : ∀ {ds : List PyData} {vs : List V}, noLs ds = true → DpAll K H vs ds → DpAll K H' vs ds
  | _, _, _, .nil => .nil
  | _, _, n, .cons a b => .cons (Md.dp s (Bool.and_eq_true_iff.mp n).1 a) (Md.dpAll s (Bool.and_eq_true_iff.mp n).2 b)
end
/-- data without lists, laid and not deep -/
structure Pd (d : PyData) : Prop where
  nl : noL d = true
  cl : d.canLay0 = true
  dp : d.depth ≤ 16
theorem Pd.shaped {d : PyData} (h : Pd d) : SeqAt.shaped d = true := Bool.and_eq_true_iff.mpr ⟨h.cl, decide_eq_true (Nat.le_trans h.dp (by decide))⟩
def Pds (ds : List PyData) : Prop := ∀ d ∈ ds, Pd d
theorem Pds.nl : ∀ {ds : List PyData}, Pds ds → noLs ds = true
  | [], _ => rfl
  | d :: r, h => Bool.and_eq_true_iff.mpr ⟨(h d (by simp)).nl, Pds.nl fun x hx => h x (by simp [hx])⟩
theorem Pds.cl : ∀ {ds : List PyData}, Pds ds → PyData.canLayAll0 ds = true
  | [], _ => rfl
  | d :: r, h => Bool.and_eq_true_iff.mpr ⟨(h d (by simp)).cl, Pds.cl fun x hx => h x (by simp [hx])⟩
theorem Pds.dp : ∀ {ds : List PyData}, Pds ds → PyData.depthAll ds ≤ 16
  | [], _ => Nat.zero_le _
  | d :: r, h => Nat.max_le.mpr ⟨(h d (by simp)).dp, Pds.dp fun x hx => h x (by simp [hx])⟩
theorem Pds.shaped {ds : List PyData} (h : Pds ds) : SeqAt.shaped (.list ds) = true := Bool.and_eq_true_iff.mpr ⟨h.cl, decide_eq_true (by show PyData.depthAll ds + 1 ≤ 64; have := h.dp; omega)⟩
theorem Pds.snoc {ds : List PyData} {d : PyData} (h : Pds ds) (k : Pd d) : Pds (ds ++ [d]) := fun x hx => (List.mem_append.mp hx).elim (h x) fun z => by cases List.mem_singleton.mp z; exact k
theorem Pds.refl {ds : List PyData} (h : Pds ds) : PyData.eqv (.list ds) (.list ds) = true := SeqAt.eqv_refl _ h.cl
theorem DpAll.snoc {K : PySem.W.Frag} {H : Hp} {v : V} {d : PyData} (k : Dp K H v d) : ∀ {ds : List PyData} {vs : List V}, DpAll K H vs ds → DpAll K H (vs ++ [v]) (ds ++ [d])
  | _, _, .nil => .cons k .nil
  | _, _, .cons a b => .cons a (DpAll.snoc k b)
theorem DpAll.get {K : PySem.W.Frag} {H : Hp} : ∀ {ds : List PyData} {vs : List V} {i : Nat} {v : V}, DpAll K H vs ds → vs[i]? = some v → ∃ d, ds[i]? = some d ∧ Dp K H v d
  | _, _, 0, _, .cons a b, e => by cases e; exact ⟨_, rfl, a⟩
  | _, _, i + 1, _, .cons a b, e => DpAll.get (i := i) b e
/-! ### a caught error that has a dict: isinstance, where the answer is yes -/
theorem kit_yes {K : PySem.W.Frag} {x t c : Value} {Hq : Heap → Prop} (ty : ∀ (M : Model) (h : Heap), K.In h → Hq h → PySem.W.Looks M h (typeOf x) t) (e : PySem.W.kitOne K t c = some true) : Answers (fun s => K.In s.heap ∧ Hq s.heap) x c true := by
  intro dep tk prog w A R s hs
  obtain ⟨⟨X, p⟩, hq⟩ := hs
  obtain ⟨h0, g, d, tt, os⟩ := s
  have LT := ty (model prog w) h0 X p
  unfold PySem.W.kitOne at e
  unfold Builtin.«isinstance.nested»
  refine wpAny_bind (LT.at ?_)
  by_cases q : (t == c) = true
  · rw [if_pos q]
    first
      | exact wpAny_bind (wpAny_rule (hq tt))
      | exact wpAny_bind (wpAny_rule (wpAny_pure (hq tt)))
      | exact wpAny_pure (hq tt)
      | exact wpAny_bind (wpAny_pure (hq tt))
  · rw [if_neg q] at e
    rw [if_neg q]
    obtain ⟨k1, k2, k3⟩ := PySem.W.kit_cls (M := model prog w) X e
    refine wpAny_bind (k1.at ?_)
    rw [if_pos (by decide)]
    k_delta "plainIsInstance"
    refine wpAny_bind (wpAny_bind (k2.at ?_))
    simp only [Bool.not_true, Bool.false_eq_true, if_false]
    refine wpAny_bind ((LT.andThen k3).at ?_)
    first
      | exact wpAny_pure (wpAny_pure (hq tt))
      | (simp only [if_true]; first | exact wpAny_pure (wpAny_pure (hq tt)) | exact wpAny_pure (hq tt) | exact wpAny_bind (wpAny_pure (wpAny_pure (hq tt))))
def rIsY (K : PySem.W.Frag) (cls : Value) (a : Addr) : List V → Hp → VK → Prop := fun xs H Q => ∃ (c : V) (cv : Value), xs = [.ref a, c] ∧ (∀ u, RelV c u → u = cv) ∧ PySem.W.kitOne K cls cv = some true ∧ Q (.bl true) H
theorem call_isY {X : Cx} {a : Addr} {oe : Obj} {pn : List (Addr × Obj)} {cls : Value} {d : Option Addr} (hz : Zc cls d oe) : CallR (X.suite a ((a, oe) :: pn)) (.builtin "isinstance") (rIsY X.K cls a) := by
  intro pins s σ H xs us Q I r h
  obtain ⟨c, cv, rfl, hcv, e, q⟩ := h
  cases r with
  | cons rx rr =>
    cases rr with
    | cons rt rr =>
      cases rr
      cases rx
      cases hcv _ rt
      obtain ⟨hget, _⟩ := I.pin (a, oe) (List.mem_append.mpr (.inl List.mem_cons_self))
      refine call_isinstance (S := fun _ R s => (X.K.In s.heap ∧ s.heap.get? a = some oe) ∧ ∀ tk, R (.ok (.ret (.bool true))) { s with toks := tk })
        (fun prog w A R s hs => isinstance_outer (kit_yes (Hq := fun h => h.get? a = some oe) (t := cls) (fun M h _ e0 A Q E s k q => wpAny_typeOf_ref (k _ _ e0) (by rw [hz.1]; exact q)) e 0 _ prog w A R s hs) (fun z => nomatch z)) ⟨⟨I.kIn, hget⟩, fun tk => ?_⟩
      exact ⟨.bl true, H, I.kept (t' := tk) fun _ _ z => z, rfl, q⟩
/-! ### defs with defaults at any address -/
theorem fnD {P : Program} {w : World} {K : PySem.W.Frag} {mg : Str → Option Value} {base : Heap} {CX : CXT} {k : Nat} {x qual : Str} {sp : Sp} {params : Arguments} {body : List Stmt} {scope : Scope} {f : Addr} {fd : FuncData} {ps : List Str} {dvs : List V}
    (F : FunD K x qual params body scope dvs [] f fd) (ok : FnOk P w K mg base CX k f fd ps sp) (n j : Nat) (hd : dvs ≠ []) (hn : n + (dvs.length - j) = ps.length)
    (h : ∀ (T : Addr) (kV doc pm : Value) (an : Option Addr) (cdv ct : Value) (us its : List Value), us.length = n → its.length = dvs.length →
      ∃ k, bindArgs (PySem.W.fnOf x qual params body scope (.ref T) kV doc pm an cdv ct) ⟨us, []⟩ = seqItems? (.ref T) >>= k ∧ k (some its.toArray) = pure (ps.zip (us ++ its.drop j))) :
    FnR P w K mg base CX k f (fun vs H Q E => sp (vs ++ dvs.drop j) H Q E) := by
  obtain ⟨ds, h1, h2⟩ := F.binds1 n j hd hn h
  exact ok.raw h2 h1
/-- C() by an __init__ whose parameters all have defaults -/
theorem pe_makeE0 {X : Cx} {CX : CXT} {k : Nat} {C f : Addr} {x : Str} {sp : Sp} {E : L2.St → XK} {p pos : Pos} (M : Mk X.K C f) (F : FnR X.prog X.w X.K X.mg X.base CX k f sp) (hr : Room (k + 1) X.A) (hm : X.mg x = some (.ref C)) (hx : ∀ σ, PassesAt CX X σ (E σ)) (hg : Gl X x := by rfl) (hdb : (x == ("__debug__" : Str)) = false := by decide) :
    PE X (.Call (.Name x p) [] [] pos) (tMakeE C sp E tNil) := by
  refine ⟨fun pins s σ H Q I h => ?_⟩
  refine wpAny_Call_Name_kw (ld_glob I hg hm ?_ hdb)
  exact PySem.W.callWith_K0 (first := []) I.kIn M.kp (run_makeE (us := []) (vs := []) M F hr (hx σ) I .nil h)
def tupAB (K : PySem.W.Frag) (a : Addr) : Bool := match K.lookup a with
  | some ⟨.type c, _, .seq its _, _⟩ => decide (c = "tuple") && decide (its = #[])
  | _ => false
theorem tupAB_ok {K : PySem.W.Frag} {a : Addr} (h : tupAB K a = true) (H : Hp) : SqT K H a [] := by
  unfold tupAB at h
  split at h
  · rename_i c od its n osl q
    obtain ⟨h1, h2⟩ := ba h
    have e2 := of_decide_eq_true h2
    subst e2
    exact .inr ⟨_, #[], n, q, congrArg Value.type (of_decide_eq_true h1), rfl, by decide, .nil⟩
  · cases h
theorem tYes_of {σ : L2.St} {H : Hp} {F G : Hp → Prop} (h : F H) : tYes σ H fun b H3 => if b = true then F H3 else G H3 := by
  show if true = true then F H else G H
  rw [if_pos rfl]
  exact h
/-- try .. except X: with a name for its reading (a loop's body) -/
def tTryO (K : PySem.W.Frag) (c : Value) (ts : Addr → Value → Option Addr → TS) (Wout : WX) (tb : WX → TS) : TS := fun D σ H => tb (wOnly K c ts Wout D) D σ H
theorem ps_tryO {X : Cx} {x : Str} {c : Value} {body suite : List Stmt} {b₀ : Stmt} {np pos pos' : Pos} {tb : WX → TS} {ts : Addr → Value → Option Addr → TS} {Wout : WX} (hs : X.stack = X.env :: X.outer) (hf : X.env.frame = some X.env.locals) (hc : Names X x c) (tk : Takes X Wout)
    (hb : ∀ (W : WX) (pn : List (Addr × Obj)) (xe : Value → Shared → Prop), Takes (X.tr pn xe) W → PassesOwn (model X.prog X.w) X.A X.env xe → PSs (X.tr pn xe) body (tb W))
    (hsu : ∀ (a : Addr) (oe : Obj) (cls : Value) (d : Option Addr) (pn : List (Addr × Obj)), Zc cls d oe → (∃ vs, oe.data = .fields vs) → PSs (X.suite a ((a, oe) :: pn)) (b₀ :: suite) (ts a cls d)) :
    PS X (.Try body [.ExceptHandler (some (.Name x np)) none (b₀ :: suite) pos'] [] [] pos) (tTryO X.K c ts Wout tb) := ps_try_only hs hf hc tk hb hsu
end EL
namespace EL
open PySem PySem.Spec PyProof.Rows L2 He TL
/-! ### an exception that leaves a comprehension -/
theorem note_same {ce env : Env} (h : ce.frame = env.frame) (x : Value) : noteFrame x ce = noteFrame x env := by
  unfold noteFrame PySem.frameOf
  rw [h]
theorem comp_leave {X : Cx} {W : WX} (tk : Takes X W) (hs : X.stack = X.env :: X.outer) (hf : X.env.frame = some X.env.locals) {pins : List (Addr × Obj)} {σ : L2.St} {H : Hp} {s s' : Shared} (I : Inv X pins σ H s) {C : Addr} {m : Str → Option Value} (hn : s.heap.Ns C m) (hC : FpOk X pins H C)
    {E : XK} (hW : ∀ cls d H', E cls d H' → W cls d σ H') {e : Value} (c : L2.CX X.prog X.w X.stack H s E e s') {ce : Env} (hce : ce.frame = X.env.frame) {what : String} {E₁ : Value → Shared → Prop} :
    wpAny (model X.prog X.w) X.A (noteFrame e ce) (fun _ s1 => ∃ m, s1.heap.Ns C m ∧ ∀ h', Heap.SameBut C s1.heap h' → wpAny (model X.prog X.w) X.A (passOn what e ce : Sem Value) (fun _ _ => False) X.xe { s1 with heap := h' }) E₁ s' := by
  obtain ⟨a, B, H', cls, d, rfl, fl, hok, ub, na, os, ag, hE⟩ := c
  obtain ⟨oC, es, ep, gC, dC, rC⟩ := hn
  obtain ⟨f0, f1, f2, f3, f4, f5⟩ := hC
  have nfC : C ∉ frs X.stack := by
    rw [hs]
    intro z
    obtain ⟨env, he, q⟩ := List.mem_filterMap.mp z
    rcases List.mem_cons.mp he with rfl | he
    · rw [hf] at q
      exact f1 (Option.some.inj q).symm
    · exact f2 (List.mem_filterMap.mpr ⟨env, he, q⟩)
  have bC : B.get? C = some oC := ub.keep C oC gC f0 nfC
  obtain ⟨oe, vs, T, oT, ts, he, hz, hd, h1, hnT, hTe, hT, hdT, h3⟩ := fl.2.2.2
  have sC : s'.heap.get? C = some oC := fl.1 _ _ bC
  have aC : a ≠ C := fun z => by rw [z, sC] at he; cases he; rw [dC] at hd; cases hd
  have TC : T ≠ C := fun z => by rw [z, sC] at hT; cases hT; rw [dC] at hdT; cases hdT
  -- the three heaps without C
  obtain ⟨Gs, gs1, gs2⟩ := restrict s.heap fun b => decide (b ≠ C)
  obtain ⟨B', b1, b2⟩ := restrict B fun b => decide (b ≠ C)
  obtain ⟨Q', q1, q2⟩ := restrict s'.heap fun b => decide (b ≠ C)
  have gsS : ∀ b o, Gs.get? b = some o → b ≠ C ∧ s.heap.get? b = some o := fun b o h => by
    by_cases z : b = C
    · rw [gs2 b (by simp [z])] at h; cases h
    · exact ⟨z, (gs1 b (decide_eq_true z)).symm.trans h⟩
  have bS : ∀ b o, B'.get? b = some o → b ≠ C ∧ B.get? b = some o := fun b o h => by
    by_cases z : b = C
    · rw [b2 b (by simp [z])] at h; cases h
    · exact ⟨z, (b1 b (decide_eq_true z)).symm.trans h⟩
  have qS : ∀ b o, Q'.get? b = some o → b ≠ C ∧ s'.heap.get? b = some o := fun b o h => by
    by_cases z : b = C
    · rw [q2 b (by simp [z])] at h; cases h
    · exact ⟨z, (q1 b (decide_eq_true z)).symm.trans h⟩
  have IP : Inv X pins σ H { s with heap := Gs } := I.turned (t' := s.toks) (fun b o hb e => (gs1 b (decide_eq_true hb)).trans e) f0 f1 f3 f4 f5
  have hC' : H' C = none := ub.free C oC gC f0
  have stB : B'.StaysIn Q' := fun b o h => (q1 b (decide_eq_true (bS b o h).1)).trans (fl.1 b o (bS b o h).2)
  have ff : Q'.FunFrames B' X.stack := by
    have go : ∀ l : List Env, C ∉ frs l → s'.heap.FunFrames B l → Q'.FunFrames B' l := by
      intro l
      induction l with
      | nil => intro _ _; trivial
      | cons env r ih =>
        rintro hc ⟨k1, ⟨L, o, k2, k3, k4, k5⟩, k6⟩
        have LC : L ≠ C := fun z => hc (List.mem_filterMap.mpr ⟨env, List.mem_cons_self, by rw [k2, z]⟩)
        refine ⟨k1, ⟨L, o, k2, (b1 L (decide_eq_true LC)).trans k3, (q1 L (decide_eq_true LC)).trans k4, k5⟩, ih (fun z => hc ?_) k6⟩
        obtain ⟨env', h1, h2⟩ := List.mem_filterMap.mp z
        exact List.mem_filterMap.mpr ⟨env', List.mem_cons_of_mem _ h1, h2⟩
    exact go _ nfC fl.2.2.1
  have aB' : ∀ {b : Addr}, B.get? b = none → B'.get? b = none := fun {b} h => by
    cases q : B'.get? b with
    | none => rfl
    | some o => rw [(bS b o q).2] at h; cases h
  have fl' : HandSPX.FlyingZ B' X.stack a (Zc cls d) Q' := ⟨stB, aB' fl.2.1, ff, oe, vs, T, oT, ts, (q1 a (decide_eq_true aC)).trans he, hz, hd, h1, aB' hnT, hTe, (q1 T (decide_eq_true TC)).trans hT, hdT, h3⟩
  have hok' : HOk X.prog X.w H' B' := fun b o h => (hok b o h).stay (fun c u hc q => by
    have hcC : c ≠ C := fun z => by
      rcases hc with hc | hc
      · rw [hc] at z; rw [z, hC'] at h; cases h
      · rw [z, hC'] at hc; cases hc
    exact (b1 c (decide_eq_true hcC)).trans q) (fun _ q => q) (fun _ _ q => q)
  have ub' : UB (frs X.stack) H H' Gs B' Q' :=
    ⟨fun b o h1 h2 h3 => (b1 b (decide_eq_true (gsS b o h1).1)).trans (ub.keep b o (gsS b o h1).2 h2 h3), fun b o h1 h2 => by
      obtain ⟨sl, e⟩ := ub.slot b o (gsS b o h1).2 h2
      exact ⟨sl, (q1 b (decide_eq_true (gsS b o h1).1)).trans e⟩, fun b o h1 h2 => ub.free b o (gsS b o h1).2 h2, fun b o h1 h2 => by
      obtain ⟨o', e⟩ := ub.there b o (gsS b o h1).2 h2
      exact ⟨o', (b1 b (decide_eq_true (gsS b o h1).1)).trans e⟩, ub.tups, ub.frzs, ub.tbls⟩
  have xx : XE X W (.ref a) { s' with heap := Q' } := XE.of_call IP hW ⟨a, B', H', cls, d, rfl, fl', hok', ub', na, os, ag, hE⟩
  obtain ⟨a2, B0, sI, pins2, σ2, H2, cls2, d2, ea, I2, nb, up, sky, na2, os2, ag2, w2⟩ := xx
  obtain rfl : a = a2 := by injection ea
  have qa : Q'.get? a = some oe := (q1 a (decide_eq_true aC)).trans he
  have fl0 : HandSPX.FlyingZ B0 X.stack a (Zc cls2 d2) s'.heap := by
    rcases sky with ⟨_, _, _, oe', vs', he', _, hd', h1'⟩ | ⟨k1, k2, k3, oe', vs', T', oT', ts', he', hz', hd', h1', hnT', hTe', hT', hdT', h3'⟩ | ⟨_, _, _, oe', vs', T', oT', ts', he', _, hd', h1', _, _, hT', hdT', h3'⟩
    · have e1 : oe = oe' := Option.some.inj (qa.symm.trans he')
      subst e1
      rw [hd] at hd'
      cases hd'
      rw [h1] at h1'
      cases h1'
    · refine ⟨fun b o h => (qS b o (k1 b o h)).2, k2, k3.of_keeps (fun b o h _ => ⟨o, (qS b o h).2, rfl⟩), oe', vs', T', oT', ts', (qS _ _ he').2, hz', hd', h1', hnT', hTe', (qS _ _ hT').2, hdT', h3'⟩
    · have e1 : oe = oe' := Option.some.inj (qa.symm.trans he')
      subst e1
      rw [hd] at hd'
      cases hd'
      rw [h1] at h1'
      cases h1'
      have e2 : oT = oT' := Option.some.inj (((q1 T (decide_eq_true TC)).trans hT).symm.trans hT')
      subst e2
      rw [hdT] at hdT'
      cases hdT'
      rw [h3] at h3'
      cases h3'
  have B0C : B0.get? C = none := by
    cases q : B0.get? C with
    | none => rfl
    | some o =>
      have : B0.StaysIn Q' := by
        rcases sky with ⟨k, _⟩ | ⟨k, _⟩ | ⟨k, _⟩ <;> exact k
      exact absurd rfl (qS C o (this C o q)).1
  rw [note_same hce]
  have hfr : X.A.frames = some (X.env :: X.outer) := by rw [I.ok.frames, hs]
  rw [hs] at fl0
  refine HandSPX.looks_onZ Zc.steady hfr hf fl0 fun h1' held up1 => ?_
  obtain ⟨sl, eC⟩ := up1 C oC sC (fun vs z => by rw [dC] at z; cases z)
  refine ⟨m, ⟨_, es, ep, eC, dC, rC⟩, fun h2 sb => ?_⟩
  -- held, whatever became of C
  obtain ⟨j1, j2, j3, oe4, vs4, T4, oT4, ts4, he4, hz4, hd4, h14, hnT4, hTe4, hT4, hdT4, h34⟩ := held
  have a4 : a ≠ C := aC
  have T4C : T4 ≠ C := fun z => by rw [z, eC] at hT4; cases hT4; rw [dC] at hdT4; cases hdT4
  have k2 : ∀ b, b ≠ C → ∀ o, h1'.get? b = some o → h2.get? b = some o := fun b hb o h => (sb.2 b hb).trans h
  have ff2 : h2.FunFrames B0 (X.env :: X.outer) := by
    have go : ∀ l : List Env, C ∉ frs l → h1'.FunFrames B0 l → h2.FunFrames B0 l := by
      intro l
      induction l with
      | nil => intro _ _; trivial
      | cons env r ih =>
        rintro hc ⟨k1, ⟨L, o, l2, l3, l4, l5⟩, k6⟩
        have LC : L ≠ C := fun z => hc (List.mem_filterMap.mpr ⟨env, List.mem_cons_self, by rw [l2, z]⟩)
        refine ⟨k1, ⟨L, o, l2, l3, k2 _ LC _ l4, l5⟩, ih (fun z => hc ?_) k6⟩
        obtain ⟨env', h1, h2⟩ := List.mem_filterMap.mp z
        exact List.mem_filterMap.mpr ⟨env', List.mem_cons_of_mem _ h1, h2⟩
    exact go _ (by rw [← hs]; exact nfC) j3
  have held2 : HandSPX.HeldZ B0 (X.env :: X.outer) a (Zc cls2 d2) X.env.locals h2 :=
    ⟨fun b o h => k2 b (fun z => by rw [z, B0C] at h; cases h) o (j1 b o h), j2, ff2, oe4, vs4, T4, oT4, ts4, k2 _ a4 _ he4, hz4, hd4, h14, hnT4, hTe4, k2 _ T4C _ hT4, hdT4, h34⟩
  unfold PySem.passOn
  refine wpAny_bind (wpAny_field (k2 _ a4 _ he4) hd4 h14 ?_)
  rw [if_neg (show ¬ ((Value.ref T4 == Value.none) = true) from by simp)]
  have fin : wpAny (model X.prog X.w) X.A (setFlight (.ref a) ce.frame) (fun _ s4 => wpAny (model X.prog X.w) X.A (throw (.ref a) : Sem Value) (fun _ _ => False) X.xe s4) X.xe { s' with heap := h2 } := by
    rw [hce, hf]
    refine HandSPX.setFlight_onZ held2 fun h5 hh5 up5 => wpAny_throw (tk _ _ ?_)
    refine ⟨a, B0, sI, pins2, σ2, H2, cls2, d2, rfl, I2, nb, fun b o h hnf => ?_, .inr (.inr (by rw [hs]; exact hh5)), na2, os2, ag2, w2⟩
    obtain ⟨s1, u1⟩ := up b o h hnf
    obtain ⟨z, u1'⟩ := qS _ _ u1
    obtain ⟨s2, u2⟩ := up1 b _ u1' hnf
    obtain ⟨s3, u3⟩ := up5 b _ (k2 b z _ u2) hnf
    exact ⟨s3, u3⟩
  first
    | exact wpAny_bind (wpAny_pure (wpAny_bind fin))
    | exact wpAny_bind fin
/-- what is wanted behind a comprehension's block, its own environment known -/
def cpX (M : Model) (A : Around) (E : Value → Shared → Prop) (use : Option (Value → Sem Unit)) (Q : Value → Shared → Prop) (acc : Value) (ce : Env) (r : Result) (s' : Shared) : Prop :=
  match r with
  | .ok _ => compPost M A E use Q acc ce.locals r s'
  | .error x => ∃ m, s'.heap.Ns ce.locals m ∧ ∀ h', Heap.SameBut ce.locals s'.heap h' → wpAny M A (passOn "comprehension.variables-let-go" x ce : Sem Value) (fun _ _ => False) E { s' with heap := h' }
theorem comp_freeX {M : Model} {A : Around} {E : Value → Shared → Prop} {s : Shared} {env : Env} {e : Expr} {scope : Scope} {pos : Pos} {newAcc first : Sem Value} {g : Comprehension} {gs : List Comprehension} {cl : List (Str × Addr)} {use : Option (Value → Sem Unit)} {Q : Value → Shared → Prop}
    (hcl : clausesOf e = g :: gs) (hs : ∀ x, foldedSetIterable g.iter env x = pure x) (hclos : closureFor scope env = pure cl) (hkind : scope.kind = .function) (hnames : ∀ x ∈ scope.names, x.2 = .local → scope.names.lookup x.1 = some .local)
    (h : wpAny M A first (fun x s₁ => wpAny M A (pyIter x) (fun it s₂ => wpAny M A newAcc (fun acc s₃ => wpAny M A (newFunctionEnv scope env.globals cl [] env.qual none .none (some env)) (fun cenv s₄ =>
      codeAny M A (.compStart e 0 it acc { cenv with scope := relabel scope env }) (cpX M A E use Q acc { cenv with scope := relabel scope env }) s₄) E s₃) E s₂) E s₁) E s) :
    wpAny M A (comprehension e scope env pos newAcc false first use) Q E s := by
  unfold comprehension
  rw [hclos, hcl]
  have up : ∀ {α : Type} {t : Sem α} {P P' : α → Shared → Prop} {s : Shared}, wpAny M A t P E s → (∀ a s, P a s → P' a s) → wpAny M A t P' E s := fun h k => wpAny_mono h k fun _ _ z => z
  refine wpAny_bind (up h fun x s₁ h₁ => wpAny_bind (wpAny_standAt (wpAny_bind (wpAny_of_eq (hs x) (wpAny_bind (wpAny_holding (up h₁ fun it s₂ h₂ => wpAny_standIf (wpAny_bind (up h₂ fun acc s₃ h₃ => wpAny_bind (wpAny_pure (wpAny_bind (up h₃ fun cenv s₄ h₄ => ?_))))))))))))
  dsimp only
  have hv : ∀ x ∈ (scope.names.filter fun x => (x.2 == .local || x.2 == .cell) && x.1 != (".0" : Str)).reverse, x.2 = .local → Env.kindOf { cenv with scope := relabel scope env } x.1 = some .local := fun x hx hl => lookup_relabel_local (hnames x (List.mem_filter.mp (List.mem_reverse.mp hx)).1 hl)
  refine wpAny_holding (wpAny_bind (wpAny_attempt (wpAny_holding (wpAny_run (codeAny_mono h₄ fun r s' hr => ?_)))))
  cases r with
  | ok f =>
    cases use with
    | none =>
      obtain ⟨m, hn, hq⟩ := hr
      exact wpAny_bind (wpAny_holding (wpAny_comp_letGo (cenv := { cenv with scope := relabel scope env }) hkind _ s' m hv hn fun h' m' _ hs' => wpAny_pure (hq h' hs')))
    | some u =>
      refine wpAny_bind (wpAny_rule (wpAny_bind (wpAny_holding (up hr fun _ s2 hr' => ?_))))
      obtain ⟨m, hn, hq⟩ := hr'
      refine wpAny_bind (wpAny_comp_letGo (cenv := { cenv with scope := relabel scope env }) hkind _ s2 m (fun x hx hl => ?_) hn fun h' m' _ hs' => wpAny_pure (hq h' hs'))
      exact (List.mem_append.mp hx).elim (fun z => hv x (List.mem_of_mem_drop z) hl) (fun z => hv x (List.mem_of_mem_take z) hl)
  | error x =>
    obtain ⟨m, hn, hq⟩ := hr
    exact wpAny_bind (wpAny_holding (wpAny_comp_letGo (cenv := { cenv with scope := relabel scope env }) hkind _ s' m hv hn fun h' m' _ hs' => up (hq h' hs') (fun _ _ f => f.elim)))
/-- a block that lets exceptions out -/
abbrev blx (X : Cx) (s : Shared) (H : Hp) (scope : Scope) (cenv : Env) (fp : List Addr) (xe : Value → Shared → Prop) : Cx := { X.blk s H scope cenv fp with xe := xe }
theorem _root_.L2.Inv.toBlx {X : Cx} {s0 : Shared} {H0 : Hp} {scope : Scope} {ce : Env} {fp : List Addr} {xe : Value → Shared → Prop} {pins : List (Addr × Obj)} {σ : L2.St} {H : Hp} {s : Shared} (I : Inv (X.blk s0 H0 scope ce fp) pins σ H s) : Inv (EL.blx X s0 H0 scope ce fp xe) pins σ H s :=
  ⟨⟨I.ok.mod, I.ok.kind, I.ok.glob, I.ok.blt, I.ok.above, I.ok.inj, I.ok.has, I.ok.cab, I.ok.hd, I.ok.frames, I.ok.stk, I.ok.exf, I.ok.bs, I.ok.bsz, I.ok.noex, I.ok.exfs, I.ok.funs, I.ok.frf⟩, I.os, I.bare, I.base, I.loc, I.cell, I.free, I.freeC, I.pin, I.hok, I.len⟩
theorem _root_.L2.Inv.ofBlx {X : Cx} {s0 : Shared} {H0 : Hp} {scope : Scope} {ce : Env} {fp : List Addr} {xe : Value → Shared → Prop} {pins : List (Addr × Obj)} {σ : L2.St} {H : Hp} {s : Shared} (I : Inv (EL.blx X s0 H0 scope ce fp xe) pins σ H s) : Inv (X.blk s0 H0 scope ce fp) pins σ H s :=
  ⟨⟨I.ok.mod, I.ok.kind, I.ok.glob, I.ok.blt, I.ok.above, I.ok.inj, I.ok.has, I.ok.cab, I.ok.hd, I.ok.frames, I.ok.stk, I.ok.exf, I.ok.bs, I.ok.bsz, I.ok.noex, I.ok.exfs, I.ok.funs, I.ok.frf⟩, I.os, I.bare, I.base, I.loc, I.cell, I.free, I.freeC, I.pin, I.hok, I.len⟩
section
variable {X : Cx}
/-- [elt for target in iter if ..] whose elt may raise: te by what is let out -/
abbrev LcStep (g : TG) (tt : TT) (te : TE) (vs : List Nat) (σ : L2.St) (D : Addr) (Nx : Hp → Prop) (x : V) (H : Hp) : Prop := g x (wipe σ vs) H fun σ2 H2 => wipe σ2 vs = wipe σ vs ∧ tt σ2 H2 fun b H3 =>
  if b = true then te σ2 H3 fun y H4 => ∃ acc, H4 D = some (.lst acc) ∧ acc.length < sizeLine ∧ Nx (upd H4 D (.lst (acc ++ [y]))) else Nx H3
def tLcX (W : WX) (wi : TI) (g : TG) (tt : TT) (te : XK → TE) (vs : List Nat) : TE := fun σ H Q => wi σ H fun J H1 => ∀ D, H1 D = none → ∃ V : Nat → Nat → Hp → Prop, (∃ m, V 0 m (upd H1 D (.lst []))) ∧ ∀ i m H, V i m H →
  (J.stop i H ∧ Q (.ref D) H) ∨ (J.go i H ∧ ∃ Nx : Hp → Prop, (∀ H', Nx H' → ∃ m', m' < m ∧ V (i + 1) m' H') ∧ ∀ x H', J.yld i H x H' → LcStep g tt (te (WE W σ)) vs σ D Nx x H')
theorem lcX_core {pins : List (Addr × Obj)} {s : Shared} {σ : L2.St} {H : Hp} {Q : VK} {W : WX} {elt tg iter : Expr} {ifs : List Expr} {scope : Scope} {own : List (Str × Nat)} {pos pos' : Pos} {wi : TI} {g : TG} {tt : TT} {te : XK → TE} {use : Option (Value → Sem Unit)} {Qf : Value → Shared → Prop}
    (tk : Takes X W) (hst : X.stack = X.env :: X.outer) (hfm : X.env.frame = some X.env.locals) (hc : X.calm = true) (hN : X.N.Nodup) (I : Inv X pins σ H s) (hi : PI X tg iter wi) (ok : BlkOk X.N X.env.scope scope own)
    (hg : ∀ (s : Shared) (H : Hp) (C : Addr) (cl : List (Str × Addr)) (fp : List Addr), PG (X.blk s H scope (compEnvC scope cl C X.env) fp) tg g) (ht : ∀ (s : Shared) (H : Hp) (C : Addr) (cl : List (Str × Addr)) (fp : List Addr), PTs (X.blk s H scope (compEnvC scope cl C X.env) fp) ifs tt)
    (he : ∀ (s : Shared) (H : Hp) (C : Addr) (cl : List (Str × Addr)) (fp : List Addr) (xe : Value → Shared → Prop) (E : XK), (∀ σ', PassesAt (L2.CX X.prog X.w) (EL.blx X s H scope (compEnvC scope cl C X.env) fp xe) σ' E) → PE (EL.blx X s H scope (compEnvC scope cl C X.env) fp xe) elt (te E)) (hs : ∀ x, foldedSetIterable iter X.env x = pure x)
    (h : tLcX W wi g tt te (own.map (·.2)) σ H Q)
    (hRR : ∀ D C s' m H', Inv X pins σ H' s' → Q (.ref D) H' → s'.heap.Ns C m → FpOk X pins H' C → compPost (model X.prog X.w) X.A X.xe use Qf (.ref D) C (.ok .next) s') :
    wpAny (model X.prog X.w) X.A (comprehension (.ListComp elt [⟨tg, iter, ifs, 0⟩] scope pos) scope X.env pos' (newList []) false (eval iter X.env) use) Qf X.xe s := by
  have cl : ∀ y ∈ scope.names, y.2 = .free → ∃ c, X.env.cells.lookup y.1 = some c := fun y hy e => (ok.free y hy e).elim (fun k => I.ok.has _ (.inl k)) (fun k => I.ok.has _ (.inr k))
  refine comp_freeX (use := use) rfl hs (closure_ok cl) ok.kind (fun y hy e => by rw [ok.uniq y hy, e]) (thn (hi.run pins s σ H _ I h) fun xv s1 hx => thn hx fun itv s2 h2 => ?_)
  obtain ⟨it, fp, tn, J, H2, e, I2, T, st2, f2, q⟩ := h2
  subst e
  refine wpAny_newObj_type (newEnv_comp ?_)
  generalize hD : s2.heap.objs.size = D
  obtain ⟨V, ⟨m0, w0⟩, turn⟩ := q D (I2.hok.fresh (Nat.le_of_eq hD))
  obtain ⟨s3, hs3⟩ : ∃ s3 : Shared, ({ s2 with heap := s2.heap.push { cls := .type "list", data := .seq ([] : List Value).toArray } } : Shared) = s3 := ⟨_, rfl⟩
  have hh3 : s3.heap = s2.heap.push { cls := .type "list", data := .seq ([] : List Value).toArray } := by rw [← hs3]
  obtain ⟨H3, hH3⟩ : ∃ H3, upd H2 D (.lst []) = H3 := ⟨_, rfl⟩
  have I3 : Inv X pins σ H3 s3 := by
    rw [← hs3, ← hH3]
    refine I2.laid (t' := s2.toks) (fun b o e => Heap.get?_push_of_some _ e) (Nat.le_of_eq hD) ?_
    rw [← hD]
    exact ⟨Nat.zero_le _, [], 0, .nil, Heap.get?_push_size _ rfl⟩
  rw [hH3] at w0
  have lt2 : ∀ b ∈ fp, b < s2.heap.objs.size := fun b hb => let ⟨o, e, _⟩ := T.obj _ _ st2 b hb; Heap.lt_size e
  have f3 : ∀ b ∈ fp, FpOk X pins H3 b ∧ b < s3.heap.objs.size := fun b hb => by
    refine ⟨⟨?_, (f2 b hb).2⟩, by rw [hh3, Heap.size_push]; exact Nat.lt_succ_of_lt (lt2 b hb)⟩
    rw [← hH3, upd_ne (by rw [← hD]; exact Nat.ne_of_lt (lt2 b hb))]
    exact (f2 b hb).1
  have I4 := block_start I3 ok hN f3
  rw [hs3]
  show codeAny _ _ (.compStart (.ListComp elt [⟨tg, iter, ifs, 0⟩] scope pos) 0 (.ref it) (.ref D) (compEnvC scope (cellsFrom (s3.heap.objs.size + 1) scope.names (cloFrom X.env.cells scope.names [])) s3.heap.objs.size X.env)) (cpX (model X.prog X.w) X.A X.xe use Qf (.ref D) (compEnvC scope (cellsFrom (s3.heap.objs.size + 1) scope.names (cloFrom X.env.cells scope.names [])) s3.heap.objs.size X.env)) { s3 with heap := pushCells (s3.heap.push { cls := .type "dict", data := .dict #[] }) scope.names }
  have pg := hg s3 H3 s3.heap.objs.size (cellsFrom (s3.heap.objs.size + 1) scope.names (cloFrom X.env.cells scope.names [])) fp
  have pt := ht s3 H3 s3.heap.objs.size (cellsFrom (s3.heap.objs.size + 1) scope.names (cloFrom X.env.cells scope.names [])) fp
  have pe0 := he s3 H3 s3.heap.objs.size (cellsFrom (s3.heap.objs.size + 1) scope.names (cloFrom X.env.cells scope.names [])) fp
  have cF : (compEnvC scope (cellsFrom (s3.heap.objs.size + 1) scope.names (cloFrom X.env.cells scope.names [])) s3.heap.objs.size X.env).frame = X.env.frame := rfl
  generalize hce : compEnvC scope (cellsFrom (s3.heap.objs.size + 1) scope.names (cloFrom X.env.cells scope.names [])) s3.heap.objs.size X.env = ce at I4 pg pt pe0 cF ⊢
  have cL : ce.locals = s3.heap.objs.size := by rw [← hce]; rfl
  have st4 : tn 0 (pushCells (s3.heap.push { cls := .type "dict", data := .dict #[] }) scope.names) := T.keep _ _ _ st2 fun b _ o e => pushCells_keeps _ _ _ _ (Heap.get?_push_of_some _ (by rw [hh3]; exact Heap.get?_push_of_some _ e))
  generalize hs4 : ({ s3 with heap := pushCells (s3.heap.push { cls := .type "dict", data := .dict #[] }) scope.names } : Shared) = s4 at I4 ⊢
  have st4' : tn 0 s4.heap := by rw [← hs4]; exact st4
  have stat : ∀ {σ' : L2.St} {H' : Hp} {s' : Shared}, Inv (X.blk s3 H3 scope ce fp) [] σ' H' s' → (∀ b ∈ fp, H' b = none) → ∀ b ∈ fp, FpOk (X.blk s3 H3 scope ce fp) [] H' b := fun I' hn b hb =>
    ⟨hn b hb, (I'.ok.exf b hb).1, I'.ok.exfs b hb, .inl hb, fun x c e => (I'.ok.exf b hb).2 x c e, fun p hp => by cases hp⟩
  -- the def's own view of a state within the block
  have back : ∀ {pins' : List (Addr × Obj)} {σ' : L2.St} {H' : Hp} {s' : Shared}, Inv (X.blk s3 H3 scope ce fp) pins' σ' H' s' → Inv X pins σ H' s' ∧ (∃ m, s'.heap.Ns ce.locals m) ∧ FpOk X pins H' ce.locals := fun {pins' σ' H' s'} I6 => by
    have nC : H' s3.heap.objs.size = none := by rw [← cL]; exact I6.free
    obtain ⟨m, hn, _⟩ := I6.loc
    exact ⟨I3.call' (ch := fp) I6.os I6.base I6.hok I6.bare fun b hb => ⟨(f3 b hb).1.2.2.2.1, (f3 b hb).1.2.1, (f3 b hb).1.2.2.2.2.1, (f3 b hb).1.2.2.2.2.2⟩, ⟨m, hn⟩, by rw [cL]; exact I3.fpOk (Nat.le_refl _) nC⟩
  have pe := pe0 (notedBy (model X.prog X.w) X.A ce fun e s' => cpX (model X.prog X.w) X.A X.xe use Qf (.ref D) ce (.error e) s') (WE W σ) (fun σ' pins' H' s' e s2' I' c => by
    obtain ⟨J1, ⟨m, hn⟩, J2⟩ := back I'.ofBlx
    exact comp_leave tk hst hfm J1 hn J2 (fun _ _ _ z => z) c cF)
  have loop : codeAny (model X.prog X.w) X.A (.compLoop (.ListComp elt [⟨tg, iter, ifs, 0⟩] scope pos) 0 (.ref it) (.ref D) ce) (cpX (model X.prog X.w) X.A X.xe use Qf (.ref D) ce) s4 := by
    refine compLoop_any (fun n s' => ∃ i H', Inv (X.blk s3 H3 scope ce fp) [] (wipe σ (own.map (·.2))) H' s' ∧ tn i s'.heap ∧ (∀ b ∈ fp, H' b = none) ∧ V i n H') ?_ m0 ⟨0, H3, I4, st4', fun b hb => (f3 b hb).1.1, w0⟩
    rintro n s5 ⟨i, H5, I5, st5, n5, w5⟩
    rcases turn i n H5 w5 with ⟨stop, qq⟩ | ⟨go, Nx, hNx, step⟩
    · refine thnF (T.done (X.blk s3 H3 scope ce fp) rfl rfl rfl hc i [] s5 _ H5 (fun _ _ => False) I5 (stat I5 n5) st5 stop) fun r s6 ⟨hr, I6⟩ => ?_
      subst hr
      obtain ⟨J1, ⟨m, hn⟩, J2⟩ := back I6
      exact hRR D ce.locals s6 m H5 J1 qq hn J2
    · refine thnF (T.item (X.blk s3 H3 scope ce fp) rfl rfl rfl hc i [] s5 _ H5 (fun _ _ => False) I5 (stat I5 n5) st5 go) fun r s6 ⟨u, hr, h6⟩ => ?_
      subst hr
      refine thnF h6 fun _ s7 ⟨x, H7, I7, r7, y7, st7, n7⟩ => ?_
      refine thnF (pg.run _ s7 _ H7 x u _ (I7.pinned (stat I7 n7) (T.obj _ _ st7)) r7 (step x H7 y7)) fun _ s8 ⟨σ8, H8, I8, hw8, q8⟩ => ?_
      refine thnF (pt.run _ s8 σ8 H8 _ I8 q8) fun b s9 ⟨H9, I9, q9⟩ => ?_
      have fin : ∀ {s' : Shared} {H' : Hp}, Inv (X.blk s3 H3 scope ce fp) ([] ++ pinsAt fp s7.heap) σ8 H' s' → Nx H' → ∃ m, m < n ∧ ∃ i H', Inv (X.blk s3 H3 scope ce fp) [] (wipe σ (own.map (·.2))) H' s' ∧ tn i s'.heap ∧ (∀ b ∈ fp, H' b = none) ∧ V i m H' := fun {s' H'} I' nx => by
        obtain ⟨m', hm, w'⟩ := hNx H' nx
        have pin' : ∀ b ∈ fp, ∀ o, s7.heap.get? b = some o → s'.heap.get? b = some o ∧ H' b = none := fun b hb o e =>
          let z := I'.pin (b, o) (List.mem_append_right _ (List.mem_append_right _ (mem_pinsAt hb e)))
          ⟨z.1, z.2.1⟩
        refine ⟨m', hm, i + 1, H', (I'.unpinned (pins := [])).weak (by rw [← hw8, wipe_length]) (fun j v e => (wipe_some (by rw [hw8]; exact e)).1), T.keep _ _ _ st7 fun b hb o e => (pin' b hb o e).1, fun b hb => ?_, w'⟩
        obtain ⟨o, e, _⟩ := T.obj _ _ st7 b hb
        exact (pin' b hb o e).2
      cases b with
      | false => exact fin I9 q9
      | true =>
        refine thn (pe.run _ s9 σ8 H9 _ I9.toBlx q9) fun z s10 ⟨yv, H10, I10, r10, acc, hD10, hz10, nx⟩ => ?_
        exact app_ok (X := X.blk s3 H3 scope ce fp) I10.ofBlx hD10 hz10 r10 fun s11 I11 => fin I11 nx
  exact codeAny_compStart_list loop (T.self X.A 0 _ _ _ st4' loop)
theorem pe_lcX {W : WX} {elt tg iter : Expr} {ifs : List Expr} {scope : Scope} {own : List (Str × Nat)} {pos : Pos} {wi : TI} {g : TG} {tt : TT} {te : XK → TE} (tk : Takes X W) (hst : X.stack = X.env :: X.outer) (hfm : X.env.frame = some X.env.locals) (hc : X.calm = true) (hN : X.N.Nodup) (hi : PI X tg iter wi) (ok : BlkOk X.N X.env.scope scope own)
    (hg : ∀ (s : Shared) (H : Hp) (C : Addr) (cl : List (Str × Addr)) (fp : List Addr), PG (X.blk s H scope (compEnvC scope cl C X.env) fp) tg g) (ht : ∀ (s : Shared) (H : Hp) (C : Addr) (cl : List (Str × Addr)) (fp : List Addr), PTs (X.blk s H scope (compEnvC scope cl C X.env) fp) ifs tt)
    (he : ∀ (s : Shared) (H : Hp) (C : Addr) (cl : List (Str × Addr)) (fp : List Addr) (xe : Value → Shared → Prop) (E : XK), (∀ σ', PassesAt (L2.CX X.prog X.w) (EL.blx X s H scope (compEnvC scope cl C X.env) fp xe) σ' E) → PE (EL.blx X s H scope (compEnvC scope cl C X.env) fp xe) elt (te E)) (hs : ∀ x, foldedSetIterable iter X.env x = pure x := by intro _; rfl) :
    PE X (.ListComp elt [⟨tg, iter, ifs, 0⟩] scope pos) (tLcX W wi g tt te (own.map (·.2))) := by
  refine ⟨fun pins s σ H Q I h => ?_⟩
  rw [arm_eval_ListComp]
  refine lcX_core tk hst hfm hc hN I hi ok hg ht he hs h fun D C s' m H' I' q hn f => ⟨m, hn, fun h2 sb => ?_⟩
  obtain ⟨f0, f1, f2, f3, f4, f5⟩ := f
  exact ⟨.ref D, H', I'.turned (t' := s'.toks) (fun b o hb e => (sb.2 b hb).trans e) f0 f1 f3 f4 f5, rfl, q⟩
theorem ps_setLcX {W : WX} {i : Nat} {y : Str} {py : Pos} {elt tg iter : Expr} {ifs : List Expr} {scope : Scope} {own : List (Str × Nat)} {pos spos : Pos} {wi : TI} {g : TG} {tt : TT} {te : XK → TE} (tk : Takes X W) (hst : X.stack = X.env :: X.outer) (hfm : X.env.frame = some X.env.locals) (hc : X.calm = true) (hN : X.N.Nodup) (hy : X.N[i]? = some y) (hyl : X.env.scope.names.lookup y = some .local)
    (hsw : swapsWith (.ListComp elt [⟨tg, iter, ifs, 0⟩] scope pos) (some (.Name y py)) spos.line X.env = pure true) (hi : PI X tg iter wi) (ok : BlkOk X.N X.env.scope scope own)
    (hg : ∀ (s : Shared) (H : Hp) (C : Addr) (cl : List (Str × Addr)) (fp : List Addr), PG (X.blk s H scope (compEnvC scope cl C X.env) fp) tg g) (ht : ∀ (s : Shared) (H : Hp) (C : Addr) (cl : List (Str × Addr)) (fp : List Addr), PTs (X.blk s H scope (compEnvC scope cl C X.env) fp) ifs tt)
    (he : ∀ (s : Shared) (H : Hp) (C : Addr) (cl : List (Str × Addr)) (fp : List Addr) (xe : Value → Shared → Prop) (E : XK), (∀ σ', PassesAt (L2.CX X.prog X.w) (EL.blx X s H scope (compEnvC scope cl C X.env) fp xe) σ' E) → PE (EL.blx X s H scope (compEnvC scope cl C X.env) fp xe) elt (te E)) (hs : ∀ x, foldedSetIterable iter X.env x = pure x := by intro _; rfl) :
    PS X (.Assign [.Name y py] (.ListComp elt [⟨tg, iter, ifs, 0⟩] scope pos) spos) (tAsg (tLcX W wi g tt te (own.map (·.2))) (gName i)) := by
  refine ⟨fun pins s σ H D I h => ?_⟩
  rw [exec_Assign_Name_used _ _ _ _ hsw]
  refine wpAny_bind (wpAny_standAt (wpAny_bind ?_))
  show wpAny _ X.A (do let _ ← comprehension (.ListComp elt [⟨tg, iter, ifs, 0⟩] scope pos) scope X.env (firstIterPos [⟨tg, iter, ifs, 0⟩] pos) (newList []) false (eval iter X.env) (some (assign (.Name y py) X.env))) _ _ s
  have h' : tLcX W wi g tt te (own.map (·.2)) σ H (fun x H1 => gName i x σ H1 D.nx) := h
  refine wpAny_bind (thn (lcX_core (Qf := fun _ s' => SP X pins D .next s') tk hst hfm hc hN I hi ok hg ht he hs h' fun L C s' m H' I' q hn f => ?_) fun _ s' hq => wpAny_pure (wpAny_pure hq))
  obtain ⟨f0, f1, f2, f3, f4, f5⟩ := f
  refine wpAny_assign_Name (store_ok2 (v := V.ref L) I' hN hy (.inl hyl) rfl (fun s2 I2 ⟨a, sb, ha⟩ => ?_) (.inr hyl))
  have haC : C ≠ a := ha.elim (fun z => by rw [z]; exact f1) (fun z e => f4 y a z e.symm)
  exact ⟨m, hn.sameBut sb haC, fun h3 sb3 => ⟨_, H', I2.turned (t' := s2.toks) (fun b o hb e => (sb3.2 b hb).trans e) f0 f1 f3 f4 f5, q⟩⟩
theorem lcX_it {J : It} {n : Nat} {G : Hp → Prop} {Y : Nat → Hp → V → Hp → Prop} (w : L2.Walk J n G Y) {g : TG} {tt : TT} {te : TE} {vs : List Nat} {σ : L2.St} {H1 : Hp} {D : Addr} {Qd : Hp → Prop} (Pv : Nat → Hp → Prop) (h0 : Pv 0 (upd H1 D (.lst []))) (hG : ∀ i H, i ≤ n → Pv i H → G H)
    (hs : ∀ i x H H', i < n → Pv i H → Y i H x H' → LcStep g tt te vs σ D (Pv (i + 1)) x H') (hd : ∀ H, Pv n H → Qd H) :
    ∃ V : Nat → Nat → Hp → Prop, (∃ m, V 0 m (upd H1 D (.lst []))) ∧ ∀ i m H, V i m H → (J.stop i H ∧ Qd H) ∨ (J.go i H ∧ ∃ Nx : Hp → Prop, (∀ H', Nx H' → ∃ m', m' < m ∧ V (i + 1) m' H') ∧ ∀ x H', J.yld i H x H' → LcStep g tt te vs σ D Nx x H') := by
  refine ⟨fun i m H => m + i = n ∧ Pv i H, ⟨n, rfl, h0⟩, fun i m H ⟨hm, p⟩ => ?_⟩
  have q := hG i H (by omega) p
  cases m with
  | zero =>
    have e : i = n := by omega
    subst e
    exact .inl ⟨w.stops H q, hd H p⟩
  | succ m => exact .inr ⟨w.goes i H (by omega) q, Pv (i + 1), fun H' p' => ⟨m, Nat.lt_succ_self m, by omega, p'⟩, fun x H' y => hs i x H H' (by omega) p (w.yields i H x H' (by omega) q y)⟩
/-- a call of a def that may raise, what it lets out being taken as hx says -/
theorem clP {CX : CXT} {k : Nat} {x : Str} {sp : Sp} {E : XK} {e : Expr} {es : List Expr} {t : TA} {p pos : Pos} (hx : ∀ σ, PassesAt CX X σ E) (D : Dn X.prog X.w X.K X.mg X.base CX k x sp) (hr : Room k X.A) (ha : PA X (e :: es) t) (hg : Gl X x := by rfl)
    (hdb : (x == ("__debug__" : Str)) = false := by decide) (he : starEach (e :: es) X.env = (false, eval e X.env) :: starEach es X.env := by rfl) (hpl : (backTo pos (starEach es X.env)).any (·.1) = false := by rfl) :
    PE X (.Call (.Name x p) (e :: es) [] pos) (tCallS sp (fun _ => E) t) := pe_fn D.r hr hg D.g D.kp hx ha hdb he hpl
end
/-! ### an instance called, what it lets out by the caller's slots -/
def tCallOE (C : Addr) (sp : Sp) (E : L2.St → XK) (tf : TE) (t : TA) : TE := fun σ H Q => tf σ H fun y H1 => ∃ a, y = V.ref a ∧ t σ H1 fun vs H2 => (∃ dx fs, H2 a = some (.ins C dx fs)) ∧ sp (V.ref a :: vs) H2 Q (E σ)
theorem pe_callOE {X : Cx} {CX : CXT} {k : Nat} {C g : Addr} {sp : Sp} {E : L2.St → XK} {fe e : Expr} {es : List Expr} {tf : TE} {t : TA} {pos : Pos} (hf : PE X fe tf) (c : StX.CallO X.K C g) (F : FnR X.prog X.w X.K X.mg X.base CX k g sp) (hr : Room k X.A) (hx : ∀ σ, PassesAt CX X σ (E σ)) (ha : PA X (e :: es) t)
    (ht : eval (.Call fe (e :: es) [] pos) X.env = (do callWith pos (← eval fe X.env) [] (backTo pos (starEach (e :: es) X.env)) (backToKw pos (keywordEach [] X.env))) := by rfl)
    (he : starEach (e :: es) X.env = (false, eval e X.env) :: starEach es X.env := by rfl) (hpl : (backTo pos (starEach es X.env)).any (·.1) = false := by rfl) : PE X (.Call fe (e :: es) [] pos) (tCallOE C sp E tf t) := by
  refine ⟨fun pins s σ H Q I h => ?_⟩
  refine Call_ (thn (hf.run pins s σ H _ I h) fun u s1 ⟨y, H1, I1, ry, a, ey, q⟩ => ?_) ht
  subst ey
  cases (show u = Value.ref a from ry)
  refine StX.callO_with (thn (ha.run pos pins s1 σ H1 _ I1 q) fun us s2 ⟨vs, H2, I2, r, hi, q2⟩ => ?_) he hpl
  obtain ⟨ox, od, J, hd⟩ := StX.insC_at (C := C) I2 (.inr hi)
  refine ⟨⟨C, ox, od, J, hd⟩, wpAny_call (PySem.W.kco_code I2.kIn J hd c.at_ c.fn c.fi (codeAny_mono (F X.A X.stack s2 H2 (.ref a :: us) (.ref a :: vs) Q (E σ) hr I2.env0 (.cons rfl r) q2) fun r s' hq => ?_))⟩
  cases r with
  | error e => exact hx σ pins _ s2 e s' I2 hq
  | ok fl =>
    cases fl with
    | ret u => exact I2.after hq
    | next => exact False.elim hq
    | brk => exact False.elim hq
    | cont => exact False.elim hq
def callOB (K : PySem.W.Frag) (C : Addr) : Bool := eqO (PySem.W.findIn K (.ref C) "__call__") (some (some (.ref (ma K C "__call__")))) && (PySem.W.isFn K (.ref (ma K C "__call__")) && PySem.W.fnIn K (ma K C "__call__"))
theorem callOB_ok {K : PySem.W.Frag} {C : Addr} (h : callOB K C = true) : StX.CallO K C (ma K C "__call__") := by
  obtain ⟨h1, h⟩ := ba h
  obtain ⟨h2, h3⟩ := ba h
  exact ⟨eqO_ok h1, h2, h3⟩
/-! ### facts of dunders; the operators of two instances of one class -/
def dunB (K : PySem.W.Frag) (C : Addr) (m : Str) : Bool := eqO (PySem.W.findIn K (.ref C) m) (some (some (.ref (ma K C m)))) && PySem.W.isFn K (.ref (ma K C m))
theorem dunB_ok {K : PySem.W.Frag} {C : Addr} {m : Str} (h : dunB K C m = true) : PySem.W.findIn K (.ref C) m = some (some (.ref (ma K C m))) ∧ PySem.W.isFn K (.ref (ma K C m)) = true := by
  obtain ⟨h1, h2⟩ := ba h
  exact ⟨eqO_ok h1, h2⟩
/-! ### a dict of the top with text keys -/
def nsStrB (K : PySem.W.Frag) (d : Addr) (z y : Str) : Bool := match PySem.W.nsIn K d z with
  | some (some (.str x _)) => decide (x = y)
  | _ => false
theorem nsStrB_ok {K : PySem.W.Frag} {d : Addr} {z y : Str} (h : nsStrB K d z y = true) : ∃ u, PySem.W.nsIn K d z = some (some u) ∧ RelV (.str y) u := by
  unfold nsStrB at h
  split at h
  · rename_i x t q
    cases of_decide_eq_true h
    exact ⟨_, q, t, rfl⟩
  · cases h
theorem kdct {K : PySem.W.Frag} {w : World} {a : Addr} {z y : Str} (D : ∃ es n, KDict K w a es n) (h : ∃ u, PySem.W.nsIn K a z = some (some u) ∧ RelV (.str y) u) : KDct K w a z (.str y) := by
  obtain ⟨es, n, D⟩ := D
  obtain ⟨u, h1, h2⟩ := h
  exact ⟨es, n, u, D.at_, D.lit, h1, h2⟩
abbrev AlY : Type := AlX × List (Option (List (Option (Str × Int))))
def obsY (fa : List Fa) (fn : List DefE) (xn : List DefX) (ts : List Tab) (ex : PySem.W.Frag → Bool) (K : PySem.W.Frag) : AlY := (obsX fa fn xn ex K, ts.map fun t => dicW K (t.1 K))
def obsYG (n : Nat) (fa : List Fa) (fn : List DefE) (xn : List DefX) (ts : List Tab) (ex : PySem.W.Frag → Bool) (g : Addr → Option Obj) : AlY := obsY fa fn xn ts ex (frG g (He5.asA g n))
def valY (fn : List DefE) (xn : List DefX) (ts : List Tab) (w : World) : AlY := (valX fn xn, ts.map fun t => some (keysIn w.params t.2))
def SaysY (fa : List Fa) (fn : List DefE) (xn : List DefX) (ts : List Tab) (ex : PySem.W.Frag → Bool) (w : World) (K : PySem.W.Frag) : Prop := obsY fa fn xn ts ex K = valY fn xn ts w
def hookY (n : Nat) (fa : List Fa) (fn : List DefE) (xn : List DefX) (ts : List Tab) (ex : PySem.W.Frag → Bool) : PySem.W.Hook where
  α := AlY
  obs := fun s => obsYG n fa fn xn ts ex s.heap.get?
  val := fun w => valY fn xn ts w
  says := fun w h => ∃ K : PySem.W.Frag, K.In h ∧ SaysY fa fn xn ts ex w K
  of := fun _ _ e => ⟨_, frG_in, e⟩
  keeps := fun _ _ _ ⟨K, hK, c⟩ k => ⟨K, PySem.W.Frag.In.keeps hK k, c⟩
theorem obsYG_eq {n : Nat} {fa : List Fa} {fn : List DefE} {xn : List DefX} {ts : List Tab} {ex : PySem.W.Frag → Bool} {g : Addr → Option Obj} {s : Shared} (h : ∀ a, g a = s.heap.get? a) : obsYG n fa fn xn ts ex g = (hookY n fa fn xn ts ex).obs s := by
  have e : g = s.heap.get? := funext h
  rw [e] <;> rfl
section
variable {fa : List Fa} {fn : List DefE} {xn : List DefX} {ts : List Tab} {ex : PySem.W.Frag → Bool} {w : World} {K : PySem.W.Frag}
theorem SaysY.x (c : SaysY fa fn xn ts ex w K) : SaysX fa fn xn ex K := congrArg (fun z : AlY => z.1) c
theorem SaysY.tab (c : SaysY fa fn xn ts ex w K) (i : Nat) {t : Tab} (h : ts[i]? = some t := by rfl) : ∃ es n, KDict K w (t.1 K) es n := by
  have e2 : (ts.map fun t => dicW K (t.1 K))[i]? = (ts.map fun t => some (keysIn w.params t.2))[i]? := congrArg (fun z : AlY => z.2[i]?) c
  rw [List.getElem?_map, List.getElem?_map, h] at e2
  exact dicW_ok (Option.some.inj e2)
end
/-! ### lists or tuples -/
theorem PI.or_ {X : Cx} {tg e : Expr} {w1 w2 : TI} (h1 : PI X tg e w1) (h2 : PI X tg e w2) : PI X tg e (fun σ H R => w1 σ H R ∨ w2 σ H R) :=
  ⟨fun pins s σ H R I h => h.elim (fun z => h1.run pins s σ H R I z) (fun z => h2.run pins s σ H R I z)⟩
theorem PE.or_ {X : Cx} {e : Expr} {t1 t2 : TE} (h1 : PE X e t1) (h2 : PE X e t2) : PE X e (fun σ H Q => t1 σ H Q ∨ t2 σ H Q) :=
  ⟨fun pins s σ H Q I h => h.elim (fun z => h1.run pins s σ H Q I z) (fun z => h2.run pins s σ H Q I z)⟩
theorem SqL.new {K : PySem.W.Frag} {H H' : Hp} {S : List Addr} {a : Addr} {xs : List V} (h : SqL K H a xs) (m : Md S H H') (n : ∀ b ∈ S, H b = none) : SqL K H' a xs := by
  rcases h with (h | ⟨o, h⟩) | h
  · exact .inl (.inl (m.out _ _ h fun z => by rw [n a z] at h; cases h))
  · exact .inl (.inr ⟨o, m.out _ _ h fun z => by rw [n a z] at h; cases h⟩)
  · exact .inr h
theorem kit_any2 (K : PySem.W.Frag) (A B : Kd) (d : PyData) : PySem.W.kitAny K (.type (tyn d)) [.type (kdN A), .type (kdN B)] = some (isTy A d || isTy B d) := by
  unfold PySem.W.kitAny
  rw [kit_d K A d]
  cases isTy A d with
  | true => rfl
  | false =>
    show PySem.W.kitAny K (.type (tyn d)) [.type (kdN B)] = _
    unfold PySem.W.kitAny
    rw [kit_d K B d]
    cases isTy B d with
    | true => rfl
    | false => rfl
theorem u65 {k : Nat} {A : Around} (r : Room k A) : A.units + 65 < cLine := by have := r.un; omega
/-- x is True, x is False: x a truth value or None -/
def rIsBN : R2 := fun x y H Q => ∃ b : Bool, y = .bl b ∧ ((x = .non ∧ Q (.bl false) H) ∨ ∃ a : Bool, x = .bl a ∧ Q (.bl (decide (a = b))) H)
theorem op_isBN {X : Cx} : OpR X (compareOp .Is) rIsBN := by
  intro pins s σ H x y v u Q I rx ry h
  obtain ⟨b, rfl, ⟨rfl, q⟩ | ⟨a, rfl, q⟩⟩ := h
  · cases (show v = Value.none from rx)
    cases (show u = Value.bool b from ry)
    exact wpAny_is_other rfl (fun z => nomatch z) ⟨.bl false, H, I, rfl, q⟩
  · exact op_is_bl pins s σ H _ _ v u Q I rx ry ⟨a, b, rfl, rfl, q⟩
end EL
namespace EL
open PySem PySem.Spec PyProof.Rows L2 He TL
/-! ### isinstance of a caught error, with or without a dict, either answer -/
def rIsA (K : PySem.W.Frag) (D : Addr) (cls : Value) (d : Option Addr) (a : Addr) : List V → Hp → VK → Prop := fun xs H Q => cls = .ref D ∧ (d = none ∨ ∃ dd fs, d = some dd ∧ H dd = some (.xd fs)) ∧ rIsE K D a xs H Q
theorem call_isA {X : Cx} {a D : Addr} {oe : Obj} {pn : List (Addr × Obj)} {cls : Value} {d : Option Addr} (C : ExcC X.K D) (hz : Zc cls d oe) (hf : ∃ vs, oe.data = .fields vs) : CallR (X.suite a ((a, oe) :: pn)) (.builtin "isinstance") (rIsA X.K D cls d a) := by
  intro pins s σ H xs us Q I r h
  obtain ⟨rfl, hd, c, cv, b, rfl, hcv, e, q⟩ := h
  cases r with
  | cons rx rr =>
    cases rr with
    | cons rt rr =>
      cases rr
      cases rx
      cases hcv _ rt
      obtain ⟨hget, _⟩ := I.pin (a, oe) (List.mem_append.mpr (.inl List.mem_cons_self))
      obtain ⟨vs, hv⟩ := hf
      have hcl : (PySem.W.clsIn X.K D).isSome = true := by
        obtain ⟨cd, hc, _⟩ := PySem.W.any_some C.hd
        rw [hc]
        rfl
      have J : ∃ od, PySem.W.InstAt s.heap a oe D od := by
        rcases hd with rfl | ⟨dd, fs, rfl, hx⟩
        · refine ⟨none, hget, hz.1, by unfold PySem.W.notCls; rw [hv] <;> rfl, ?_⟩
          rw [hz.2]
          trivial
        · have hx' : ObjOk X.prog X.w H s.heap dd (.xd fs) := I.hok dd _ hx
          obtain ⟨mA, ⟨o, es, ep, ho, _⟩, _⟩ := hx'
          refine ⟨some o, hget, hz.1, by unfold PySem.W.notCls; rw [hv] <;> rfl, ?_⟩
          rw [hz.2]
          exact ho
      obtain ⟨od, J⟩ := J
      exact PySem.W.kia_one (PySem.W.kitx_exc hcl C.hg C.hk C.hs C.ha C.hn C.ht C.hm) I.kIn J e (fun z => nomatch z) fun tk => ⟨.bl b, H, I.kept (t' := tk) fun _ _ z => z, rfl, q⟩
/-! ### x op= y by an own def -/
theorem ip_own {X : Cx} {CX : CXT} {k : Nat} {C g : Addr} {sp : Sp} {E : XK} {op : Operator} (hc : PySem.W.selfFirst X.K C = true) (hs : PySem.W.findIn X.K (.ref C) (PySem.dunderI op.info.2) = some (some (.ref g))) (hf : PySem.W.isFn X.K (.ref g) = true) (F : FnR X.prog X.w X.K X.mg X.base CX k g sp)
    (hr : Room k X.A) (hx : Passes CX X E) : PIp X op (fun x y H Q => ∃ a dx fs, x = .ref a ∧ H a = some (.ins C dx fs) ∧ sp [x, y] H Q E) := by
  intro pins s σ H x y v u Q I rx ry h
  obtain ⟨a, dx, fs, rfl, ha, q⟩ := h
  cases (show v = Value.ref a from rx)
  obtain ⟨ox, od, J, _⟩ := ins_at I ha
  obtain ⟨m, hF⟩ := I.fr
  refine PySem.W.ksp_inplace hF I.ok.mod.kin J hc hs hf ?_
  refine wpAny_mono (wpAny_call (run_fnR (us := [.ref a, u]) (vs := [.ref a, y]) F hr hx I (.cons rfl (.cons ry .nil)) q)) (fun w s' z => ?_) fun _ _ x => x
  obtain ⟨z', H', I', rz, qz⟩ := z
  exact SlX.cmpback rz ⟨z', H', I', rz, qz⟩
/-! ### two dicts whose values are ints -/
def eqDI (ks ls : List (Key × Int)) : Bool := ks.all fun p => decide (valV (ls.map fun q => (q.1, V.int q.2)) p.1 = some (.int p.2))
abbrev dI (ks : List (Key × Int)) : List (Key × V) := ks.map fun q => (q.1, V.int q.2)
theorem hits_int {A : Around} {s : Shared} {ls : List (Key × Int)} {vb : List (Key × Value)} (rb : KV (dI ls) vb) : ∀ {ks : List (Key × Int)} {va : List (Key × Value)}, KV (dI ks) va → PySem.W.KeqHits A s vb va (eqDI ks ls)
  | [], _, r => by
    cases r
    exact .nil
  | (k, i) :: ks, _, r => by
    cases r with
    | @cons _ q _ qs h t =>
      obtain ⟨k', v'⟩ := q
      obtain ⟨h1, h2⟩ := h
      have h1 : k = k' := h1
      subst h1
      obtain ⟨ti, rfl⟩ := (show ∃ t, v' = Value.int i t from h2)
      have ih := hits_int (A := A) (s := s) rb t
      have rk := rb.val k
      have e : eqDI ((k, i) :: ks) ls = (decide (valV (dI ls) k = some (.int i)) && eqDI ks ls) := rfl
      rw [e]
      cases hv : valV (dI ls) k with
      | none =>
        rw [hv] at rk
        cases hb : valueAt vb k with
        | none => rw [decide_eq_false (by intro z; cases z), Bool.false_and]; exact .miss hb
        | some y => rw [hb] at rk; cases rk
      | some y =>
        rw [hv] at rk
        obtain ⟨j, rfl⟩ : ∃ j, y = .int j := by
          have : ∀ (l : List (Key × Int)) y, valV (dI l) k = some y → ∃ j, y = .int j := by
            intro l
            induction l with
            | nil => intro y h; cases h
            | cons p r ih =>
              intro y h
              by_cases e : p.1 = k
              · have : valV (dI (p :: r)) k = some (.int p.2) := valV_pos e
                rw [this] at h
                cases h
                exact ⟨_, rfl⟩
              · have : valV (dI (p :: r)) k = valV (dI r) k := valV_neg e
                rw [this] at h
                exact ih y h
          exact this ls y hv
        cases hb : valueAt vb k with
        | none => rw [hb] at rk; cases rk
        | some y' =>
          rw [hb] at rk
          obtain ⟨tj, rfl⟩ := (show ∃ t, y' = Value.int j t from rk)
          have e2 : decide ((some (V.int j) : Option V) = some (V.int i)) = (i == j) := by
            by_cases h : i = j
            · subst h; simp
            · rw [decide_eq_false (by intro z; injection z with z; injection z with z; exact h z.symm), beq_eq_false_iff_ne.mpr h]
          rw [e2]
          exact .hit hb (SeqAt.EqAt.int_int _ _ _ _) ih
def rEqDI : R2 := fun x y H Q => ∃ a b ks ls, x = .ref a ∧ y = .ref b ∧ H a = some (.dK (dI ks)) ∧ H b = some (.dK (dI ls)) ∧ Q (.bl (decide (ks.length = ls.length) && eqDI ks ls)) H
theorem op_eqDI {X : Cx} (hu : X.A.units < cLine) : OpR X (compareOp .Eq) rEqDI := by
  intro pins s σ H x y v u Q I rx ry h
  obtain ⟨a, b, ks, ls, rfl, rfl, ea, eb, q⟩ := h
  cases (show v = Value.ref a from rx)
  cases (show u = Value.ref b from ry)
  obtain ⟨_, ya, va, ra, da⟩ := (show ObjOk X.prog X.w H s.heap a (.dK (dI ks)) from I.hok a _ ea)
  obtain ⟨_, yb, vb, rb, db⟩ := (show ObjOk X.prog X.w H s.heap b (.dK (dI ls)) from I.hok b _ eb)
  refine PySem.W.keq_eq (knd := mixKind X.prog X.w) (r := eqDI ks ls) ya yb da db hu (fun _ => hits_int rb ra) ?_
  have e : (va.length == vb.length) = decide (ks.length = ls.length) := by
    have h1 : va.length = ks.length := by rw [← ra.length, List.length_map]
    have h2 : vb.length = ls.length := by rw [← rb.length, List.length_map]
    rw [h1, h2]
    rfl
  rw [e]
  exact ⟨.bl _, H, I, rfl, q⟩
end EL
namespace EL
open PySem PySem.Spec PyProof.Rows L2 He TL
/-! ### objects that are there -/
def Al (M : List Addr) (H : Hp) : Prop := ∀ a ∈ M, ∃ o, H a = some o
theorem Al.out {M : List Addr} {H : Hp} {a : Addr} (h : Al M H) (n : H a = none) : a ∉ M := fun z => by obtain ⟨o, e⟩ := h a z; rw [n] at e; cases e
theorem Al.same {M : List Addr} {H H' : Hp} (h : Al M H) (s : Same H H') : Al M H' := fun a ha => let ⟨o, e⟩ := h a ha; ⟨o, s _ _ e⟩
theorem Al.md {M S : List Addr} {H H' : Hp} (h : Al M H) (m : Md S H H') (k : Al S H') : Al M H' := fun a ha => by
  by_cases z : a ∈ S
  · exact k a z
  · obtain ⟨o, e⟩ := h a ha
    exact ⟨o, m.out _ _ e z⟩
theorem Al.sub {M M' : List Addr} {H : Hp} (h : Al M H) (k : ∀ b ∈ M', b ∈ M) : Al M' H := fun a ha => h a (k a ha)
theorem free_md {S : List Addr} {H H' : Hp} {a : Addr} (m : Md S H H') (k : Al S H') (n : H' a = none) : H a = none := by
  cases hh : H a with
  | none => rfl
  | some o =>
    by_cases z : a ∈ S
    · obtain ⟨o', e⟩ := k a z
      rw [n] at e; cases e
    · rw [m.out _ _ hh z] at n; cases n
theorem al1 {a : Addr} {H : Hp} {o : HO} (h : H a = some o) : Al [a] H := fun b hb => by cases List.mem_singleton.mp hb; exact ⟨o, h⟩
theorem al_cons {a : Addr} {S : List Addr} {H : Hp} {o : HO} (h : H a = some o) (k : Al S H) : Al (a :: S) H := fun b hb => (List.mem_cons.mp hb).elim (fun e => e ▸ ⟨o, h⟩) (k b)
theorem al_nil {H : Hp} : Al [] H := fun b hb => by cases hb
theorem not1 {a b : Addr} (h : a ≠ b) : a ∉ [b] := by simp [h]
theorem not2 {a b c : Addr} (h : a ≠ b) (h2 : a ≠ c) : a ∉ [b, c] := by simp [h, h2]
theorem Src.md {H H' : Hp} {p l : Addr} {S : List Addr} (h : Src H p l) (m : Md S H H') (h1 : p ∉ S) (h2 : l ∉ S) : Src H' p l := by
  obtain ⟨ns, i, c, r, k1, k2, h3⟩ := h
  exact ⟨ns, i, c, r, m.out _ _ k1 h1, m.out _ _ k2 h2, h3⟩
/-! ### data whose lists are not in S -/
mutual
inductive DpX (K : PySem.W.Frag) (S : List Addr) (H : Hp) : V → PyData → Prop
  | non : DpX K S H .non .none
  | bl (b : Bool) : DpX K S H (.bl b) (.bool b)
  | int (i : Int) : DpX K S H (.int i) (.int i)
  | str (x : Str) : DpX K S H (.str x) (.str x)
  | lst {a : Addr} {xs : List V} {ds : List PyData} : H a = some (.lst xs) → a ∉ S → DpXs K S H xs ds → DpX K S H (.ref a) (.list ds)
  | tup {a : Addr} {xs : List V} {ds : List PyData} : SqT K H a xs → DpXs K S H xs ds → DpX K S H (.ref a) (.tuple ds)
inductive DpXs (K : PySem.W.Frag) (S : List Addr) (H : Hp) : List V → List PyData → Prop
  | nil : DpXs K S H [] []
  | cons {v : V} {d : PyData} {vs : List V} {ds : List PyData} : DpX K S H v d → DpXs K S H vs ds → DpXs K S H (v :: vs) (d :: ds)
end
section
variable {K : PySem.W.Frag} {S S' : List Addr} {H H' : Hp}
mutual
theorem DpX.dp : ∀ {d : PyData} {v : V}, DpX K S H v d → Dp K H v d
  | _, _, .non => .non
  | _, _, .bl b => .bl b
  | _, _, .int i => .int i
  | _, _, .str x => .str x
  | _, _, .lst h _ a => .lst (SqL.of h) (DpXs.dp a)
  | _, _, .tup h a => .tup h (DpXs.dp a)
theorem DpXs.dp : ∀ {ds : List PyData} {vs : List V}, DpXs K S H vs ds → DpAll K H vs ds
  | _, _, .nil => .nil
  | _, _, .cons a b => .cons (DpX.dp a) (DpXs.dp b)
end
mutual
theorem DpX.md (m : Md S H H') : ∀ {d : PyData} {v : V}, DpX K S H v d → DpX K S H' v d
  | _, _, .non => .non
  | _, _, .bl b => .bl b
  | _, _, .int i => .int i
  | _, _, .str x => .str x
  | _, _, .lst h n a => .lst (m.out _ _ h n) n (DpXs.md m a)
  | _, _, .tup h a => .tup (m.sqT h) (DpXs.md m a)
theorem DpXs.md (m : Md S H H') : ∀ {ds : List PyData} {vs : List V}, DpXs K S H vs ds → DpXs K S H' vs ds
  | _, _, .nil => .nil
  | _, _, .cons a b => .cons (DpX.md m a) (DpXs.md m b)
end
theorem DpX.same {d : PyData} {v : V} (s : Same H H') (h : DpX K S H v d) : DpX K S H' v d := h.md (.of s)
theorem DpXs.same {ds : List PyData} {vs : List V} (s : Same H H') (h : DpXs K S H vs ds) : DpXs K S H' vs ds := h.md (.of s)
mutual
theorem DpX.re (hm : ∀ b, b ∉ S → (∃ o, H b = some o) → b ∉ S') : ∀ {d : PyData} {v : V}, DpX K S H v d → DpX K S' H v d
  | _, _, .non => .non
  | _, _, .bl b => .bl b
  | _, _, .int i => .int i
  | _, _, .str x => .str x
  | _, _, .lst h n a => .lst h (hm _ n ⟨_, h⟩) (DpXs.re hm a)
  | _, _, .tup h a => .tup h (DpXs.re hm a)
theorem DpXs.re (hm : ∀ b, b ∉ S → (∃ o, H b = some o) → b ∉ S') : ∀ {ds : List PyData} {vs : List V}, DpXs K S H vs ds → DpXs K S' H vs ds
  | _, _, .nil => .nil
  | _, _, .cons a b => .cons (DpX.re hm a) (DpXs.re hm b)
end
theorem DpX.sub {d : PyData} {v : V} (h : DpX K S H v d) (k : ∀ b ∈ S', b ∈ S) : DpX K S' H v d := h.re fun b n _ z => n (k b z)
/-- one more place, which was not there -/
theorem DpX.more {d : PyData} {v : V} {p : Addr} (h : DpX K S H v d) (n : H p = none) : DpX K (p :: S) H v d := h.re fun b nb ⟨o, e⟩ z => (List.mem_cons.mp z).elim (fun e2 => by rw [e2, n] at e; cases e) nb
mutual
theorem DpX.of : ∀ {d : PyData} {v : V}, noL d = true → Dp K H v d → DpX K S H v d
  | _, _, _, .non => .non
  | _, _, _, .bl b => .bl b
  | _, _, _, .int i => .int i
  | _, _, _, .str x => .str x
  | _, _, n, .lst h a => by cases n
  | _, _, n, .tup h a => .tup h (DpXs.of n a)
theorem DpXs.of : ∀ {ds : List PyData} {vs : List V}, noLs ds = true → DpAll K H vs ds → DpXs K S H vs ds
  | _, _, _, .nil => .nil
  | _, _, n, .cons a b => .cons (DpX.of (Bool.and_eq_true_iff.mp n).1 a) (DpXs.of (Bool.and_eq_true_iff.mp n).2 b)
end
theorem DpXs.length : ∀ {ds : List PyData} {vs : List V}, DpXs K S H vs ds → vs.length = ds.length
  | _, _, .nil => rfl
  | _, _, .cons _ b => congrArg Nat.succ (DpXs.length b)
theorem DpXs.get : ∀ {ds : List PyData} {vs : List V} {i : Nat} {v : V}, DpXs K S H vs ds → vs[i]? = some v → ∃ d, ds[i]? = some d ∧ DpX K S H v d
  | _, _, 0, _, .cons a b, e => by cases e; exact ⟨_, rfl, a⟩
  | _, _, i + 1, _, .cons a b, e => DpXs.get (i := i) b e
theorem DpXs.at {ds : List PyData} {vs : List V} {n : Int} (h : DpXs K S H vs ds) (h0 : 0 ≤ n) (h1 : n < (ds.length : Nat)) : ∃ v d, atI vs n = some v ∧ ds[n.toNat]? = some d ∧ d ∈ ds ∧ DpX K S H v d := by
  obtain ⟨k, rfl⟩ := Int.eq_ofNat_of_zero_le h0
  have hk : k < vs.length := by rw [h.length]; omega
  have e := List.getElem?_eq_getElem hk
  obtain ⟨d, e2, x⟩ := h.get e
  exact ⟨vs[k], d, atI_nat e, e2, List.mem_of_getElem? e2, x⟩
theorem DpXs.snoc {v : V} {d : PyData} (k : DpX K S H v d) : ∀ {ds : List PyData} {vs : List V}, DpXs K S H vs ds → DpXs K S H (vs ++ [v]) (ds ++ [d])
  | _, _, .nil => .cons k .nil
  | _, _, .cons a b => .cons a (DpXs.snoc k b)
theorem DpX.lst_inv {v : V} {ds : List PyData} (h : DpX K S H v (.list ds)) : ∃ a xs, v = .ref a ∧ H a = some (.lst xs) ∧ a ∉ S ∧ DpXs K S H xs ds := by
  cases h with
  | lst h n a => exact ⟨_, _, rfl, h, n, a⟩
theorem DpX.tup_inv {v : V} {ds : List PyData} (h : DpX K S H v (.tuple ds)) : ∃ a xs, v = .ref a ∧ SqT K H a xs ∧ DpXs K S H xs ds := by
  cases h with
  | tup h a => exact ⟨_, _, rfl, h, a⟩
end
/-! ### written data -/
section
variable {X : Cx}
theorem pe_imp {e : Expr} {t t' : TE} (h : PE X e t) (k : ∀ σ H Q, t' σ H Q → t σ H Q) : PE X e t' := ⟨fun pins s σ H Q I q => h.run pins s σ H Q I (k σ H Q q)⟩
theorem pa_imp {es : List Expr} {t t' : TA} (h : PA X es t) (k : ∀ σ H Q, t' σ H Q → t σ H Q) : PA X es t' := ⟨fun pos pins s σ H Q I q => h.run pos pins s σ H Q I (k σ H Q q)⟩
def tLit (K : PySem.W.Frag) (d : PyData) : TE := fun _ H Q => ∀ v H', Same H H' → (∀ S, Al S H → DpX K S H' v d) → Q v H'
def tLits (K : PySem.W.Frag) (ds : List PyData) : TA := fun _ H Q => ∀ vs H', Same H H' → (∀ S, Al S H → DpXs K S H' vs ds) → Q vs H'
theorem lit_n {j pos} : PE X (.Constant .none j pos) (tLit X.K .none) := pe_imp pe_non fun _ H Q h => h _ _ (.refl _) fun _ _ => .non
theorem lit_b {b j pos} : PE X (.Constant (.bool b) j pos) (tLit X.K (.bool b)) := pe_imp pe_bl fun _ H Q h => h _ _ (.refl _) fun _ _ => .bl b
theorem lit_i {i j pos} : PE X (.Constant (.int i) j pos) (tLit X.K (.int i)) := pe_imp pe_int fun _ H Q h => h _ _ (.refl _) fun _ _ => .int i
theorem lit_s {z j pos} : PE X (.Constant (.str z) j pos) (tLit X.K (.str z)) := pe_imp pe_str fun _ H Q h => h _ _ (.refl _) fun _ _ => .str z
/-- an expression that is an int -/
theorem lit_e {e : Expr} {t : TE} (i : Int) (h : PE X e t) (k : ∀ σ H (Q : VK), Q (.int i) H → t σ H Q) : PE X e (tLit X.K (.int i)) := pe_imp h fun σ H Q q => k σ H Q (q _ _ (.refl _) fun _ _ => .int i)
theorem lits_nil : PA X [] (tLits X.K []) := pa_imp pa_nil fun _ H Q h => h _ _ (.refl _) fun _ _ => .nil
theorem lits_cons {e : Expr} {es : List Expr} {d : PyData} {ds : List PyData} (h : PE X e (tLit X.K d)) (r : PA X es (tLits X.K ds)) (hs : starEach (e :: es) X.env = (false, eval e X.env) :: starEach es X.env := by rfl) : PA X (e :: es) (tLits X.K (d :: ds)) :=
  pa_imp (pa_cons h r hs) fun _ H Q q v H1 s1 h1 vs H2 s2 h2 => q _ _ (s1.trans s2) fun S al => .cons ((h1 S al).same s2) (h2 S (al.same s1))
theorem lit_t {es : List Expr} {ds : List PyData} {x1 pos} (h : PA X es (tLits X.K ds)) (hl : ds.length ≤ 1000 := by decide) : PE X (.Tuple es x1 pos) (tLit X.K (.tuple ds)) :=
  pe_imp (pe_tup h) fun _ H Q q vs H1 s1 h1 => by
    have l := (h1 [] al_nil).length
    refine ⟨Nat.le_trans (by rw [l]; exact hl) (by decide), fun p np => q _ _ (s1.trans (same_upd np)) fun S al => .tup (SqT.of upd_same) ((h1 S al).same (same_upd np))⟩
theorem lit_l {es : List Expr} {ds : List PyData} {pos} (h : PA X es (tLits X.K ds)) (hl : ds.length ≤ 1000 := by decide) : PE X (.List es pos) (tLit X.K (.list ds)) :=
  pe_imp (pe_lst h) fun _ H Q q vs H1 s1 h1 => by
    have l := (h1 [] al_nil).length
    refine ⟨Nat.le_trans (by rw [l]; exact hl) (by decide), fun p np => q _ _ (s1.trans (same_upd np)) fun S al => .lst upd_same ((al.same s1).out np) ((h1 S al).same (same_upd np))⟩
end
/-! ### calls with keywords that let out by the slots -/
section
variable {X : Cx} {CX : CXT} {k n : Nat} {f : Addr} {fd : FuncData} {ps ks : List Str} {sp : Sp} {E : L2.St → XK} {x : Str} {p pos : Pos} {e : Expr} {es : List Expr} {kws : List Keyword} {t tk : TA} {g : List Value → List Value → List Value} {gV : List V → List V → List V}
def tCallNE (n m : Nat) (sp : Sp) (gV : List V → List V → List V) (E : L2.St → XK) (t tk : TA) : TE := fun σ H Q => t σ H fun vs H1 => tk σ H1 fun zs H2 => vs.length = n ∧ zs.length = m ∧ sp (gV vs zs) H2 Q (E σ)
theorem run_fnNE {pins : List (Addr × Obj)} {σ : L2.St} {H : Hp} {s : Shared} {Q : VK} {us ws : List Value} {vs zs : List V} (F : FnOk X.prog X.w X.K X.mg X.base CX k f fd ps sp) (hr : Room k X.A) (hb : KBn X.K fd ps n ks g gV) (hx : PassesAt CX X σ (E σ))
    (I : Inv X pins σ H s) (r : Vals vs us) (rz : Vals zs ws) (l1 : vs.length = n) (l2 : zs.length = ks.length) (h : sp (gV vs zs) H Q (E σ)) : wpAny (model X.prog X.w) X.A (call (.ref f) us (ks.zip ws)) (EP X pins σ Q) X.xe s := by
  have r2 := hb.rel r rz
  refine wpAny_call (codeAny_mono (F.run X.A X.stack s H ⟨us, ks.zip ws⟩ (g us ws) (gV vs zs) Q (E σ) hr I.env0 (hb.to s us ws I.kIn (r.length.symm.trans l1) (rz.length.symm.trans l2)) r2 h) fun r s' hq => ?_)
  cases r with
  | error e => exact hx pins H s e s' I hq
  | ok fl =>
    cases fl with
    | ret u => exact I.after hq
    | next => exact False.elim hq
    | brk => exact False.elim hq
    | cont => exact False.elim hq
theorem pe_callNE (F : FnOk X.prog X.w X.K X.mg X.base CX k f fd ps sp) (hr : Room k X.A) (hm : X.mg x = some (.ref f)) (hk : PySem.W.keepIn X.K (.ref f) = true) (hb : KBn X.K fd ps n ks g gV) (hx : ∀ σ, PassesAt CX X σ (E σ))
    (ha : PA X (e :: es) t) (hkw : PK X kws tk) (hg : Gl X x := by rfl) (hall : (backToKw pos (keywordEach kws X.env)).all (·.1.isSome) = true := by rfl) (hks : (backToKw pos (keywordEach kws X.env)).filterMap (·.1) = ks := by rfl)
    (hdb : (x == ("__debug__" : Str)) = false := by decide) (he : starEach (e :: es) X.env = (false, eval e X.env) :: starEach es X.env := by rfl)
    (hpl : ((backTo pos (starEach (e :: es) X.env)).any (·.1) || (backToKw pos (keywordEach kws X.env)).any (·.1.isNone)) = false := by rfl) :
    PE X (.Call (.Name x p) (e :: es) kws pos) (tCallNE n ks.length sp gV E t tk) := by
  refine ⟨fun pins s σ H Q I h => ?_⟩
  refine wpAny_Call_Name_kw (ld_glob I hg hm ?_ hdb)
  refine PySem.W.callWith_KW (h₀ := X.base) I.ok.mod.kin hk hall (thn (ha.run pos pins s σ H _ I h) fun us s1 ⟨vs, H1, I1, r, q⟩ => ?_) hpl he
  refine thn (hkw.run pos pins s1 σ H1 _ I1 q) fun ws s2 ⟨zs, H2, I2, rz, l1, l2, q2⟩ => ⟨I2.kIn, ?_⟩
  rw [hks]
  exact run_fnNE F hr hb (hx σ) I2 r rz l1 l2 q2
end
end EL
namespace K11
open PySem PySem.Spec PyProof.Rows L2 He TL EL
def topS (i : Nat) : Stmt := PySem.Challenge.pw_endlessasks_k11_rules.main.body.getD i (.Pass ⟨0, 0, 0, 0⟩)
abbrev s_NoRule___init__ : Stmt := (inClass (topS 6) 0)
def xw_NoRule : EL.DefX := ⟨"NoRule", "reason", s_NoRule___init__, true⟩
theorem xwok_NoRule : EL.XW xw_NoRule := ⟨⟨fun _ _ _ _ _ _ _ _ _ _ _ => rfl, ⟨_, rfl, rfl⟩, rfl, rfl, rfl, rfl, rfl, by decide +kernel, rfl, rfl, by decide +kernel, by decide +kernel⟩, ⟨_, _, _, _, _, _, _, _, _, _, rfl, by decide, ⟨_, _, _, _, _, _, rfl, by decide⟩⟩⟩
abbrev s__wall : Stmt := (topS 0)
abbrev s_is_whole : Stmt := (topS 11)
abbrev s_is_word : Stmt := (topS 12)
abbrev s_common_divisor : Stmt := (topS 13)
abbrev s_is_value : Stmt := (topS 14)
abbrev s_is_term : Stmt := (topS 18)
abbrev s_is_atom : Stmt := (topS 19)
abbrev s_value_at : Stmt := (topS 20)
abbrev s_Conditions___init__ : Stmt := (inClass (topS 21) 0)
abbrev s_Conditions_atoms : Stmt := (inClass (topS 21) 1)
abbrev s_Conditions___eq__ : Stmt := (inClass (topS 21) 3)
abbrev s_Conditions___iand__ : Stmt := (inClass (topS 21) 6)
abbrev s_Cell___init__ : Stmt := (inClass (topS 22) 0)
abbrev s_Cell_of : Stmt := (inClass (topS 22) 2)
abbrev s_Maker___init__ : Stmt := (inClass (topS 23) 0)
abbrev s_Maker_terms : Stmt := (inClass (topS 23) 1)
abbrev s_Maker___eq__ : Stmt := (inClass (topS 23) 3)
abbrev s_are_words : Stmt := (topS 26)
abbrev s_maker_of : Stmt := (topS 27)
abbrev s_is_depth : Stmt := (topS 28)
abbrev s_Rule___init__ : Stmt := (inClass (topS 29) 0)
abbrev s_Rule_is_step : Stmt := (inClass (topS 29) 1)
abbrev s_Rule_answer : Stmt := (inClass (topS 29) 2)
abbrev s_Rule_old : Stmt := (inClass (topS 29) 3)
abbrev s_Rule_tables : Stmt := (inClass (topS 29) 4)
abbrev s_Rule_maker : Stmt := (inClass (topS 29) 5)
abbrev s_Rule_conditions : Stmt := (inClass (topS 29) 6)
abbrev s_Rule_depths : Stmt := (inClass (topS 29) 8)
abbrev s_Rule___eq__ : Stmt := (inClass (topS 29) 10)
abbrev s_base : Stmt := (topS 30)
abbrev s_step : Stmt := (topS 31)
abbrev s__law_begin : Stmt := (topS 33)
abbrev s__law_draw : Stmt := (topS 34)
abbrev s__law_word : Stmt := (topS 35)
abbrev s__law_term : Stmt := (topS 36)
abbrev s__law_part : Stmt := (topS 37)
abbrev s__law_plain : Stmt := (topS 38)
abbrev s__law_odd : Stmt := (topS 39)
abbrev s__law_made : Stmt := (topS 40)
abbrev s__law_is : Stmt := (topS 41)
abbrev s__law_wrong : Stmt := (topS 42)
abbrev s__law_beside : Stmt := (topS 43)
abbrev s_law : Stmt := (topS 44)
theorem sc__wall : FnScope ["k"] ["k"] (defScope s__wall) := ⟨rfl, rfl, rfl, by decide +kernel, rfl, by decide +kernel, by decide +kernel⟩
theorem sc_is_whole : FnScope ["thing"] ["thing"] (defScope s_is_whole) := ⟨rfl, rfl, rfl, by decide +kernel, rfl, by decide +kernel, by decide +kernel⟩
theorem sc_is_word : FnScope ["thing", "letter"] ["thing"] (defScope s_is_word) := ⟨rfl, rfl, rfl, by decide +kernel, rfl, by decide +kernel, by decide +kernel⟩
theorem sc_common_divisor : FnScope ["one", "other"] ["one", "other"] (defScope s_common_divisor) := ⟨rfl, rfl, rfl, by decide +kernel, rfl, by decide +kernel, by decide +kernel⟩
theorem sc_is_value : FnScope ["thing"] ["thing"] (defScope s_is_value) := ⟨rfl, rfl, rfl, by decide +kernel, rfl, by decide +kernel, by decide +kernel⟩
theorem sc_is_term : FnScope ["thing"] ["thing"] (defScope s_is_term) := ⟨rfl, rfl, rfl, by decide +kernel, rfl, by decide +kernel, by decide +kernel⟩
theorem sc_is_atom : FnScope ["thing"] ["thing"] (defScope s_is_atom) := ⟨rfl, rfl, rfl, by decide +kernel, rfl, by decide +kernel, by decide +kernel⟩
theorem sc_value_at : FnScope ["term", "rows", "row"] ["term", "rows"] (defScope s_value_at) := ⟨rfl, rfl, rfl, by decide +kernel, rfl, by decide +kernel, by decide +kernel⟩
theorem sc_Conditions___init__ : FnScope ["self", "atoms", "kept", "atom"] ["self", "atoms"] (defScope s_Conditions___init__) := ⟨rfl, rfl, rfl, by decide +kernel, rfl, by decide +kernel, by decide +kernel⟩
theorem sc_Conditions_atoms : FnScope ["self"] ["self"] (defScope s_Conditions_atoms) := ⟨rfl, rfl, rfl, by decide +kernel, rfl, by decide +kernel, by decide +kernel⟩
theorem sc_Conditions___eq__ : FnScope ["self", "other"] ["self", "other"] (defScope s_Conditions___eq__) := ⟨rfl, rfl, rfl, by decide +kernel, rfl, by decide +kernel, by decide +kernel⟩
theorem sc_Conditions___iand__ : FnScope ["self", "other"] ["self", "other"] (defScope s_Conditions___iand__) := ⟨rfl, rfl, rfl, by decide +kernel, rfl, by decide +kernel, by decide +kernel⟩
theorem sc_Cell___init__ : FnScope ["self", "place", "at"] ["self", "place", "at"] (defScope s_Cell___init__) := ⟨rfl, rfl, rfl, by decide +kernel, rfl, by decide +kernel, by decide +kernel⟩
theorem sc_Cell_of : FnScope ["thing"] ["thing"] (defScope s_Cell_of) := ⟨rfl, rfl, rfl, by decide +kernel, rfl, by decide +kernel, by decide +kernel⟩
theorem sc_Maker___init__ : FnScope ["self", "terms", "kept", "term"] ["self", "terms"] (defScope s_Maker___init__) := ⟨rfl, rfl, rfl, by decide +kernel, rfl, by decide +kernel, by decide +kernel⟩
theorem sc_Maker_terms : FnScope ["self"] ["self"] (defScope s_Maker_terms) := ⟨rfl, rfl, rfl, by decide +kernel, rfl, by decide +kernel, by decide +kernel⟩
theorem sc_Maker___eq__ : FnScope ["self", "other"] ["self", "other"] (defScope s_Maker___eq__) := ⟨rfl, rfl, rfl, by decide +kernel, rfl, by decide +kernel, by decide +kernel⟩
theorem sc_are_words : FnScope ["thing", "least", "word"] ["thing", "least"] (defScope s_are_words) := ⟨rfl, rfl, rfl, by decide +kernel, rfl, by decide +kernel, by decide +kernel⟩
theorem sc_maker_of : FnScope ["thing", "item"] ["thing"] (defScope s_maker_of) := ⟨rfl, rfl, rfl, by decide +kernel, rfl, by decide +kernel, by decide +kernel⟩
theorem sc_is_depth : FnScope ["thing"] ["thing"] (defScope s_is_depth) := ⟨rfl, rfl, rfl, by decide +kernel, rfl, by decide +kernel, by decide +kernel⟩
theorem sc_Rule___init__ : FnScope ["self", "answer", "old", "tables", "maker", "conditions", "depths"] ["self", "answer", "old", "tables", "maker", "conditions", "depths"] (defScope s_Rule___init__) := ⟨rfl, rfl, rfl, by decide +kernel, rfl, by decide +kernel, by decide +kernel⟩
theorem sc_Rule_is_step : FnScope ["self"] ["self"] (defScope s_Rule_is_step) := ⟨rfl, rfl, rfl, by decide +kernel, rfl, by decide +kernel, by decide +kernel⟩
theorem sc_Rule_answer : FnScope ["self"] ["self"] (defScope s_Rule_answer) := ⟨rfl, rfl, rfl, by decide +kernel, rfl, by decide +kernel, by decide +kernel⟩
theorem sc_Rule_old : FnScope ["self"] ["self"] (defScope s_Rule_old) := ⟨rfl, rfl, rfl, by decide +kernel, rfl, by decide +kernel, by decide +kernel⟩
theorem sc_Rule_tables : FnScope ["self"] ["self"] (defScope s_Rule_tables) := ⟨rfl, rfl, rfl, by decide +kernel, rfl, by decide +kernel, by decide +kernel⟩
theorem sc_Rule_maker : FnScope ["self"] ["self"] (defScope s_Rule_maker) := ⟨rfl, rfl, rfl, by decide +kernel, rfl, by decide +kernel, by decide +kernel⟩
theorem sc_Rule_conditions : FnScope ["self"] ["self"] (defScope s_Rule_conditions) := ⟨rfl, rfl, rfl, by decide +kernel, rfl, by decide +kernel, by decide +kernel⟩
theorem sc_Rule_depths : FnScope ["self"] ["self"] (defScope s_Rule_depths) := ⟨rfl, rfl, rfl, by decide +kernel, rfl, by decide +kernel, by decide +kernel⟩
theorem sc_Rule___eq__ : FnScope ["self", "other"] ["self", "other"] (defScope s_Rule___eq__) := ⟨rfl, rfl, rfl, by decide +kernel, rfl, by decide +kernel, by decide +kernel⟩
theorem sc_base : FnScope ["answer", "tables", "makes", "conditions", "maker", "atoms"] ["answer", "tables", "makes", "conditions"] (defScope s_base) := ⟨rfl, rfl, rfl, by decide +kernel, rfl, by decide +kernel, by decide +kernel⟩
theorem sc_step : FnScope ["answer", "old", "tables", "makes", "conditions", "depth_from", "depth_below", "maker", "atoms"] ["answer", "old", "tables", "makes", "conditions", "depth_from", "depth_below"] (defScope s_step) := ⟨rfl, rfl, rfl, by decide +kernel, rfl, by decide +kernel, by decide +kernel⟩
theorem sc__law_begin : FnScope ["_law_script"] ["_law_script"] (defScope s__law_begin) := ⟨rfl, rfl, rfl, by decide +kernel, rfl, by decide +kernel, by decide +kernel⟩
theorem sc__law_draw : FnScope ["_law_source", "_law_limit", "_law_cell", "_law_digit"] ["_law_source", "_law_limit"] (defScope s__law_draw) := ⟨rfl, rfl, rfl, by decide +kernel, rfl, by decide +kernel, by decide +kernel⟩
theorem sc__law_word : FnScope ["_law_source", "_law_letters", "_law_word_here", "_law_turn"] ["_law_source"] (defScope s__law_word) := ⟨rfl, rfl, rfl, by decide +kernel, rfl, by decide +kernel, by decide +kernel⟩
theorem sc__law_term : FnScope ["_law_source", "_law_kind"] ["_law_source"] (defScope s__law_term) := ⟨rfl, rfl, rfl, by decide +kernel, rfl, by decide +kernel, by decide +kernel⟩
theorem sc__law_part : FnScope ["_law_term_here"] ["_law_term_here"] (defScope s__law_part) := ⟨rfl, rfl, rfl, by decide +kernel, rfl, by decide +kernel, by decide +kernel⟩
theorem sc__law_plain : FnScope ["_law_source", "_law_is_step", "_law_tables", "_law_turn", "_law_old", "_law_depths", "_law_makes", "_law_atoms", "_law_atom"] ["_law_source", "_law_is_step"] (defScope s__law_plain) := ⟨rfl, rfl, rfl, by decide +kernel, rfl, by decide +kernel, by decide +kernel⟩
theorem sc__law_odd : FnScope ["_law_source", "_law_name", "_law_odd_here"] ["_law_source", "_law_name"] (defScope s__law_odd) := ⟨rfl, rfl, rfl, by decide +kernel, rfl, by decide +kernel, by decide +kernel⟩
theorem sc__law_made : FnScope ["_law_is_step", "_law_given", "e"] ["_law_is_step", "_law_given"] (defScope s__law_made) := ⟨rfl, rfl, rfl, by decide +kernel, rfl, by decide +kernel, by decide +kernel⟩
theorem sc__law_is : FnScope ["_law_rule", "_law_plain_here", "_law_listed"] ["_law_rule", "_law_plain_here"] (defScope s__law_is) := ⟨rfl, rfl, rfl, by decide +kernel, rfl, by decide +kernel, by decide +kernel⟩
theorem sc__law_wrong : FnScope ["_law_source", "_law_plain_here", "_law_is_step", "_law_given", "_law_names", "_law_due", "_law_turn", "_law_at"] ["_law_source", "_law_plain_here", "_law_is_step", "_law_given"] (defScope s__law_wrong) := ⟨rfl, rfl, rfl, by decide +kernel, rfl, by decide +kernel, by decide +kernel⟩
theorem sc__law_beside : FnScope ["_law_source", "_law_plain_here", "_law_other", "_law_is_step", "_law_at", "_law_changed"] ["_law_source", "_law_plain_here", "_law_other", "_law_is_step"] (defScope s__law_beside) := ⟨rfl, rfl, rfl, by decide +kernel, rfl, by decide +kernel, by decide +kernel⟩
theorem sc_law : FnScope ["_law_script", "_law_source", "_law_kinds", "_law_rules", "_law_plains", "_law_is_step", "_law_plain_here", "_law_wished", "_law_makes", "_law_term_here", "_law_tables", "_law_given", "_law_rule", "_law_short", "_law_lone", "_law_equal"] ["_law_script"] (defScope s_law) := ⟨rfl, rfl, rfl, by decide +kernel, rfl, by decide +kernel, by decide +kernel⟩
structure Txt (K : PySem.W.Frag) (mg : Str → Option Value) : Prop where
  g__wall : mg "_wall" = some (.ref (ga K "_wall"))
  g_is_whole : mg "is_whole" = some (.ref (ga K "is_whole"))
  g_is_word : mg "is_word" = some (.ref (ga K "is_word"))
  g_common_divisor : mg "common_divisor" = some (.ref (ga K "common_divisor"))
  g_is_value : mg "is_value" = some (.ref (ga K "is_value"))
  g_is_term : mg "is_term" = some (.ref (ga K "is_term"))
  g_is_atom : mg "is_atom" = some (.ref (ga K "is_atom"))
  g_value_at : mg "value_at" = some (.ref (ga K "value_at"))
  g_are_words : mg "are_words" = some (.ref (ga K "are_words"))
  g_maker_of : mg "maker_of" = some (.ref (ga K "maker_of"))
  g_is_depth : mg "is_depth" = some (.ref (ga K "is_depth"))
  g_base : mg "base" = some (.ref (ga K "base"))
  g_step : mg "step" = some (.ref (ga K "step"))
  g__law_begin : mg "_law_begin" = some (.ref (ga K "_law_begin"))
  g__law_draw : mg "_law_draw" = some (.ref (ga K "_law_draw"))
  g__law_word : mg "_law_word" = some (.ref (ga K "_law_word"))
  g__law_term : mg "_law_term" = some (.ref (ga K "_law_term"))
  g__law_part : mg "_law_part" = some (.ref (ga K "_law_part"))
  g__law_plain : mg "_law_plain" = some (.ref (ga K "_law_plain"))
  g__law_odd : mg "_law_odd" = some (.ref (ga K "_law_odd"))
  g__law_made : mg "_law_made" = some (.ref (ga K "_law_made"))
  g__law_is : mg "_law_is" = some (.ref (ga K "_law_is"))
  g__law_wrong : mg "_law_wrong" = some (.ref (ga K "_law_wrong"))
  g__law_beside : mg "_law_beside" = some (.ref (ga K "_law_beside"))
  g_law : mg "law" = some (.ref (ga K "law"))
  g_NotSingle : mg "NotSingle" = some (.ref (ga K "NotSingle"))
  g_NoRule : mg "NoRule" = some (.ref (ga K "NoRule"))
  g_Conditions : mg "Conditions" = some (.ref (ga K "Conditions"))
  g_Cell : mg "Cell" = some (.ref (ga K "Cell"))
  g_Maker : mg "Maker" = some (.ref (ga K "Maker"))
  g_Rule : mg "Rule" = some (.ref (ga K "Rule"))
  x_AskError : XC K mg "AskError"
  x_NoCell : XC K mg "NoCell"
  x_NoCondition : XC K mg "NoCondition"
  g_LETTERS : ∃ u, mg "LETTERS" = some u ∧ RelV (.str "abcdefghijklmnopqrstuvwxyz") u
  g_SIGNS : mg "SIGNS" = some (.ref (ga K "SIGNS"))
  g_NEGATED : mg "NEGATED" = some (.ref (ga K "NEGATED"))
  g_PLACES : mg "PLACES" = some (.ref (ga K "PLACES"))
  g_MOST_COLUMNS : ∃ u, mg "MOST_COLUMNS" = some u ∧ RelV (.int 3) u
  g_MOST_DEPTH : ∃ u, mg "MOST_DEPTH" = some u ∧ RelV (.int 9) u
  z_ValueError : mg "ValueError" = none
  z_super : mg "super" = none
  z_isinstance : mg "isinstance" = none
  z_int : mg "int" = none
  z_bool : mg "bool" = none
  z_str : mg "str" = none
  z_len : mg "len" = none
  z_abs : mg "abs" = none
  z_tuple : mg "tuple" = none
  z_list : mg "list" = none
  z_staticmethod : mg "staticmethod" = none
  z_range : mg "range" = none
  e_NoRule_NoRule : PySem.W.exmOne K (.ref (ga K "NoRule")) (.ref (ga K "NoRule")) = some true
  e_NoCell_NoCell : PySem.W.exmOne K (.ref (ga K "NoCell")) (.ref (ga K "NoCell")) = some true
  m_Conditions : Mk K (ga K "Conditions") (ma K (ga K "Conditions") "__init__")
  h_Conditions_atoms : Meth K (ga K "Conditions") "atoms" (ma K (ga K "Conditions") "atoms")
  h_Conditions___eq__ : Meth K (ga K "Conditions") "__eq__" (ma K (ga K "Conditions") "__eq__")
  h_Conditions___iand__ : Meth K (ga K "Conditions") "__iand__" (ma K (ga K "Conditions") "__iand__")
  m_Cell : Mk K (ga K "Cell") (ma K (ga K "Cell") "__init__")
  m_Maker : Mk K (ga K "Maker") (ma K (ga K "Maker") "__init__")
  h_Maker_terms : Meth K (ga K "Maker") "terms" (ma K (ga K "Maker") "terms")
  h_Maker___eq__ : Meth K (ga K "Maker") "__eq__" (ma K (ga K "Maker") "__eq__")
  m_Rule : Mk K (ga K "Rule") (ma K (ga K "Rule") "__init__")
  h_Rule_is_step : Meth K (ga K "Rule") "is_step" (ma K (ga K "Rule") "is_step")
  h_Rule_answer : Meth K (ga K "Rule") "answer" (ma K (ga K "Rule") "answer")
  h_Rule_old : Meth K (ga K "Rule") "old" (ma K (ga K "Rule") "old")
  h_Rule_tables : Meth K (ga K "Rule") "tables" (ma K (ga K "Rule") "tables")
  h_Rule_maker : Meth K (ga K "Rule") "maker" (ma K (ga K "Rule") "maker")
  h_Rule_conditions : Meth K (ga K "Rule") "conditions" (ma K (ga K "Rule") "conditions")
  h_Rule_depths : Meth K (ga K "Rule") "depths" (ma K (ga K "Rule") "depths")
  h_Rule___eq__ : Meth K (ga K "Rule") "__eq__" (ma K (ga K "Rule") "__eq__")
  n_Conditions_kept_atoms : NoAttr K (ga K "Conditions") "kept_atoms"
  n_Cell_place : NoAttr K (ga K "Cell") "place"
  n_Cell_at : NoAttr K (ga K "Cell") "at"
  n_Maker_kept_terms : NoAttr K (ga K "Maker") "kept_terms"
  n_Rule_made : NoAttr K (ga K "Rule") "made"
  n_Rule_source : NoAttr K (ga K "Rule") "source"
  n_Rule_joined : NoAttr K (ga K "Rule") "joined"
  n_Rule_making : NoAttr K (ga K "Rule") "making"
  n_Rule_demanded : NoAttr K (ga K "Rule") "demanded"
  n_Rule_span : NoAttr K (ga K "Rule") "span"
  f__wall : ∃ fd, FunD K "_wall" "_wall" (defArgs s__wall) (defBody s__wall) (defScope s__wall) ([] : List V) [] (ga K "_wall") fd
  f_is_whole : ∃ fd, FunD K "is_whole" "is_whole" (defArgs s_is_whole) (defBody s_is_whole) (defScope s_is_whole) ([] : List V) [] (ga K "is_whole") fd
  f_is_word : ∃ fd, FunD K "is_word" "is_word" (defArgs s_is_word) (defBody s_is_word) (defScope s_is_word) ([] : List V) [] (ga K "is_word") fd
  f_common_divisor : ∃ fd, FunD K "common_divisor" "common_divisor" (defArgs s_common_divisor) (defBody s_common_divisor) (defScope s_common_divisor) ([] : List V) [] (ga K "common_divisor") fd
  f_is_value : ∃ fd, FunD K "is_value" "is_value" (defArgs s_is_value) (defBody s_is_value) (defScope s_is_value) ([] : List V) [] (ga K "is_value") fd
  f_is_term : ∃ fd, FunD K "is_term" "is_term" (defArgs s_is_term) (defBody s_is_term) (defScope s_is_term) ([] : List V) [] (ga K "is_term") fd
  f_is_atom : ∃ fd, FunD K "is_atom" "is_atom" (defArgs s_is_atom) (defBody s_is_atom) (defScope s_is_atom) ([] : List V) [] (ga K "is_atom") fd
  f_value_at : ∃ fd, FunD K "value_at" "value_at" (defArgs s_value_at) (defBody s_value_at) (defScope s_value_at) ([] : List V) [] (ga K "value_at") fd
  f_Conditions___init__ : ∃ fd, FunD K "__init__" "Conditions.__init__" (defArgs s_Conditions___init__) (defBody s_Conditions___init__) (defScope s_Conditions___init__) ([.ref (dflAt ("Conditions", some "__init__") 0 K)] : List V) [] (ma K (ga K "Conditions") "__init__") fd
  f_Conditions_atoms : ∃ fd, FunD K "atoms" "Conditions.atoms" (defArgs s_Conditions_atoms) (defBody s_Conditions_atoms) (defScope s_Conditions_atoms) ([] : List V) [] (ma K (ga K "Conditions") "atoms") fd
  f_Conditions___eq__ : ∃ fd, FunD K "__eq__" "Conditions.__eq__" (defArgs s_Conditions___eq__) (defBody s_Conditions___eq__) (defScope s_Conditions___eq__) ([] : List V) [] (ma K (ga K "Conditions") "__eq__") fd
  f_Conditions___iand__ : ∃ fd, FunD K "__iand__" "Conditions.__iand__" (defArgs s_Conditions___iand__) (defBody s_Conditions___iand__) (defScope s_Conditions___iand__) ([] : List V) [] (ma K (ga K "Conditions") "__iand__") fd
  f_Cell___init__ : ∃ fd, FunD K "__init__" "Cell.__init__" (defArgs s_Cell___init__) (defBody s_Cell___init__) (defScope s_Cell___init__) ([] : List V) [] (ma K (ga K "Cell") "__init__") fd
  f_Cell_of : ∃ fd, FunD K "of" "Cell.of" (defArgs s_Cell_of) (defBody s_Cell_of) (defScope s_Cell_of) ([] : List V) [] (He5.wf K (ga K "Cell") "staticmethod" "of") fd
  f_Maker___init__ : ∃ fd, FunD K "__init__" "Maker.__init__" (defArgs s_Maker___init__) (defBody s_Maker___init__) (defScope s_Maker___init__) ([] : List V) [] (ma K (ga K "Maker") "__init__") fd
  f_Maker_terms : ∃ fd, FunD K "terms" "Maker.terms" (defArgs s_Maker_terms) (defBody s_Maker_terms) (defScope s_Maker_terms) ([] : List V) [] (ma K (ga K "Maker") "terms") fd
  f_Maker___eq__ : ∃ fd, FunD K "__eq__" "Maker.__eq__" (defArgs s_Maker___eq__) (defBody s_Maker___eq__) (defScope s_Maker___eq__) ([] : List V) [] (ma K (ga K "Maker") "__eq__") fd
  f_are_words : ∃ fd, FunD K "are_words" "are_words" (defArgs s_are_words) (defBody s_are_words) (defScope s_are_words) ([] : List V) [] (ga K "are_words") fd
  f_maker_of : ∃ fd, FunD K "maker_of" "maker_of" (defArgs s_maker_of) (defBody s_maker_of) (defScope s_maker_of) ([] : List V) [] (ga K "maker_of") fd
  f_is_depth : ∃ fd, FunD K "is_depth" "is_depth" (defArgs s_is_depth) (defBody s_is_depth) (defScope s_is_depth) ([] : List V) [] (ga K "is_depth") fd
  f_Rule___init__ : ∃ fd, FunD K "__init__" "Rule.__init__" (defArgs s_Rule___init__) (defBody s_Rule___init__) (defScope s_Rule___init__) ([] : List V) [] (ma K (ga K "Rule") "__init__") fd
  f_Rule_is_step : ∃ fd, FunD K "is_step" "Rule.is_step" (defArgs s_Rule_is_step) (defBody s_Rule_is_step) (defScope s_Rule_is_step) ([] : List V) [] (ma K (ga K "Rule") "is_step") fd
  f_Rule_answer : ∃ fd, FunD K "answer" "Rule.answer" (defArgs s_Rule_answer) (defBody s_Rule_answer) (defScope s_Rule_answer) ([] : List V) [] (ma K (ga K "Rule") "answer") fd
  f_Rule_old : ∃ fd, FunD K "old" "Rule.old" (defArgs s_Rule_old) (defBody s_Rule_old) (defScope s_Rule_old) ([] : List V) [] (ma K (ga K "Rule") "old") fd
  f_Rule_tables : ∃ fd, FunD K "tables" "Rule.tables" (defArgs s_Rule_tables) (defBody s_Rule_tables) (defScope s_Rule_tables) ([] : List V) [] (ma K (ga K "Rule") "tables") fd
  f_Rule_maker : ∃ fd, FunD K "maker" "Rule.maker" (defArgs s_Rule_maker) (defBody s_Rule_maker) (defScope s_Rule_maker) ([] : List V) [] (ma K (ga K "Rule") "maker") fd
  f_Rule_conditions : ∃ fd, FunD K "conditions" "Rule.conditions" (defArgs s_Rule_conditions) (defBody s_Rule_conditions) (defScope s_Rule_conditions) ([] : List V) [] (ma K (ga K "Rule") "conditions") fd
  f_Rule_depths : ∃ fd, FunD K "depths" "Rule.depths" (defArgs s_Rule_depths) (defBody s_Rule_depths) (defScope s_Rule_depths) ([] : List V) [] (ma K (ga K "Rule") "depths") fd
  f_Rule___eq__ : ∃ fd, FunD K "__eq__" "Rule.__eq__" (defArgs s_Rule___eq__) (defBody s_Rule___eq__) (defScope s_Rule___eq__) ([] : List V) [] (ma K (ga K "Rule") "__eq__") fd
  f_base : ∃ fd, FunD K "base" "base" (defArgs s_base) (defBody s_base) (defScope s_base) ([.non] : List V) [] (ga K "base") fd
  f_step : ∃ fd, FunD K "step" "step" (defArgs s_step) (defBody s_step) (defScope s_step) ([.non] : List V) ([("depth_from", .int 0), ("depth_below", .non)] : List (Str × V)) (ga K "step") fd
  f__law_begin : ∃ fd, FunD K "_law_begin" "_law_begin" (defArgs s__law_begin) (defBody s__law_begin) (defScope s__law_begin) ([] : List V) [] (ga K "_law_begin") fd
  f__law_draw : ∃ fd, FunD K "_law_draw" "_law_draw" (defArgs s__law_draw) (defBody s__law_draw) (defScope s__law_draw) ([] : List V) [] (ga K "_law_draw") fd
  f__law_word : ∃ fd, FunD K "_law_word" "_law_word" (defArgs s__law_word) (defBody s__law_word) (defScope s__law_word) ([] : List V) [] (ga K "_law_word") fd
  f__law_term : ∃ fd, FunD K "_law_term" "_law_term" (defArgs s__law_term) (defBody s__law_term) (defScope s__law_term) ([] : List V) [] (ga K "_law_term") fd
  f__law_part : ∃ fd, FunD K "_law_part" "_law_part" (defArgs s__law_part) (defBody s__law_part) (defScope s__law_part) ([] : List V) [] (ga K "_law_part") fd
  f__law_plain : ∃ fd, FunD K "_law_plain" "_law_plain" (defArgs s__law_plain) (defBody s__law_plain) (defScope s__law_plain) ([] : List V) [] (ga K "_law_plain") fd
  f__law_odd : ∃ fd, FunD K "_law_odd" "_law_odd" (defArgs s__law_odd) (defBody s__law_odd) (defScope s__law_odd) ([] : List V) [] (ga K "_law_odd") fd
  f__law_made : ∃ fd, FunD K "_law_made" "_law_made" (defArgs s__law_made) (defBody s__law_made) (defScope s__law_made) ([] : List V) [] (ga K "_law_made") fd
  f__law_is : ∃ fd, FunD K "_law_is" "_law_is" (defArgs s__law_is) (defBody s__law_is) (defScope s__law_is) ([] : List V) [] (ga K "_law_is") fd
  f__law_wrong : ∃ fd, FunD K "_law_wrong" "_law_wrong" (defArgs s__law_wrong) (defBody s__law_wrong) (defScope s__law_wrong) ([] : List V) [] (ga K "_law_wrong") fd
  f__law_beside : ∃ fd, FunD K "_law_beside" "_law_beside" (defArgs s__law_beside) (defBody s__law_beside) (defScope s__law_beside) ([] : List V) [] (ga K "_law_beside") fd
  f_law : ∃ fd, FunD K "law" "law" (defArgs s_law) (defBody s_law) (defScope s_law) ([] : List V) [] (ga K "law") fd
  dc0 : ∀ H : Hp, SqT K H (dflAt ("Conditions", some "__init__") 0 K) []
  c_NoRule : ExcC K (ga K "NoRule")
  k_NoRule_ValueError : PySem.W.kitOne K (.ref (ga K "NoRule")) (.type "ValueError") = some true
  o_Conditions : OC K (ga K "Conditions")
  o_Cell : OC K (ga K "Cell")
  o_Maker : OC K (ga K "Maker")
  o_Rule : OC K (ga K "Rule")
  s_Cell_of : Sm K (ga K "Cell") "of" (He5.wf K (ga K "Cell") "staticmethod" "of")
  u_Conditions___eq__ : PySem.W.findIn K (.ref (ga K "Conditions")) "__eq__" = some (some (.ref (ma K (ga K "Conditions") "__eq__"))) ∧ PySem.W.isFn K (.ref (ma K (ga K "Conditions") "__eq__")) = true
  u_Conditions___iand__ : PySem.W.findIn K (.ref (ga K "Conditions")) "__iand__" = some (some (.ref (ma K (ga K "Conditions") "__iand__"))) ∧ PySem.W.isFn K (.ref (ma K (ga K "Conditions") "__iand__")) = true
  u_Maker___eq__ : PySem.W.findIn K (.ref (ga K "Maker")) "__eq__" = some (some (.ref (ma K (ga K "Maker") "__eq__"))) ∧ PySem.W.isFn K (.ref (ma K (ga K "Maker") "__eq__")) = true
  u_Rule___eq__ : PySem.W.findIn K (.ref (ga K "Rule")) "__eq__" = some (some (.ref (ma K (ga K "Rule") "__eq__"))) ∧ PySem.W.isFn K (.ref (ma K (ga K "Rule") "__eq__")) = true
  sf_Conditions : PySem.W.selfFirst K (ga K "Conditions") = true
  nf_Conditions : PySem.W.notFirst K (ga K "Conditions") (.ref (ga K "Conditions")) = true
  nf_Maker : PySem.W.notFirst K (ga K "Maker") (.ref (ga K "Maker")) = true
  nf_Rule : PySem.W.notFirst K (ga K "Rule") (.ref (ga K "Rule")) = true
  t_PLACES : ∀ H : Hp, SqT K H (ga K "PLACES") [.str "old", .str "first", .str "second"]
  t_SIGNS : ∀ H : Hp, SqT K H (ga K "SIGNS") [.str "<", .str "<=", .str "=", .str "!="]
  y_NoRule : XTf K mg "NoRule" "reason" "/claim/cut.py" ∧ XfC K (ga K "NoRule") ∧ PySem.W.findIn K (.ref (ga K "NoRule")) "reason" = some none
end K11
namespace K11
open PySem PySem.Spec PyProof.Rows L2 He TL EL
def dd__wall : EL.DefE := ⟨fun K => (ga K "_wall"), "_wall", "_wall", defArgs s__wall, defBody s__wall, defScope s__wall, [], []⟩
def dd_is_whole : EL.DefE := ⟨fun K => (ga K "is_whole"), "is_whole", "is_whole", defArgs s_is_whole, defBody s_is_whole, defScope s_is_whole, [], []⟩
def dd_is_word : EL.DefE := ⟨fun K => (ga K "is_word"), "is_word", "is_word", defArgs s_is_word, defBody s_is_word, defScope s_is_word, [], []⟩
def dd_common_divisor : EL.DefE := ⟨fun K => (ga K "common_divisor"), "common_divisor", "common_divisor", defArgs s_common_divisor, defBody s_common_divisor, defScope s_common_divisor, [], []⟩
def dd_is_value : EL.DefE := ⟨fun K => (ga K "is_value"), "is_value", "is_value", defArgs s_is_value, defBody s_is_value, defScope s_is_value, [], []⟩
def dd_is_term : EL.DefE := ⟨fun K => (ga K "is_term"), "is_term", "is_term", defArgs s_is_term, defBody s_is_term, defScope s_is_term, [], []⟩
def dd_is_atom : EL.DefE := ⟨fun K => (ga K "is_atom"), "is_atom", "is_atom", defArgs s_is_atom, defBody s_is_atom, defScope s_is_atom, [], []⟩
def dd_value_at : EL.DefE := ⟨fun K => (ga K "value_at"), "value_at", "value_at", defArgs s_value_at, defBody s_value_at, defScope s_value_at, [], []⟩
def dd_Conditions___init__ : EL.DefE := ⟨fun K => (ma K (ga K "Conditions") "__init__"), "__init__", "Conditions.__init__", defArgs s_Conditions___init__, defBody s_Conditions___init__, defScope s_Conditions___init__, [.adr (dflAt ("Conditions", some "__init__") 0)], []⟩
def dd_Conditions_atoms : EL.DefE := ⟨fun K => (ma K (ga K "Conditions") "atoms"), "atoms", "Conditions.atoms", defArgs s_Conditions_atoms, defBody s_Conditions_atoms, defScope s_Conditions_atoms, [], []⟩
def dd_Conditions___eq__ : EL.DefE := ⟨fun K => (ma K (ga K "Conditions") "__eq__"), "__eq__", "Conditions.__eq__", defArgs s_Conditions___eq__, defBody s_Conditions___eq__, defScope s_Conditions___eq__, [], []⟩
def dd_Conditions___iand__ : EL.DefE := ⟨fun K => (ma K (ga K "Conditions") "__iand__"), "__iand__", "Conditions.__iand__", defArgs s_Conditions___iand__, defBody s_Conditions___iand__, defScope s_Conditions___iand__, [], []⟩
def dd_Cell___init__ : EL.DefE := ⟨fun K => (ma K (ga K "Cell") "__init__"), "__init__", "Cell.__init__", defArgs s_Cell___init__, defBody s_Cell___init__, defScope s_Cell___init__, [], []⟩
def dd_Cell_of : EL.DefE := ⟨fun K => (He5.wf K (ga K "Cell") "staticmethod" "of"), "of", "Cell.of", defArgs s_Cell_of, defBody s_Cell_of, defScope s_Cell_of, [], []⟩
def dd_Maker___init__ : EL.DefE := ⟨fun K => (ma K (ga K "Maker") "__init__"), "__init__", "Maker.__init__", defArgs s_Maker___init__, defBody s_Maker___init__, defScope s_Maker___init__, [], []⟩
def dd_Maker_terms : EL.DefE := ⟨fun K => (ma K (ga K "Maker") "terms"), "terms", "Maker.terms", defArgs s_Maker_terms, defBody s_Maker_terms, defScope s_Maker_terms, [], []⟩
def dd_Maker___eq__ : EL.DefE := ⟨fun K => (ma K (ga K "Maker") "__eq__"), "__eq__", "Maker.__eq__", defArgs s_Maker___eq__, defBody s_Maker___eq__, defScope s_Maker___eq__, [], []⟩
def dd_are_words : EL.DefE := ⟨fun K => (ga K "are_words"), "are_words", "are_words", defArgs s_are_words, defBody s_are_words, defScope s_are_words, [], []⟩
def dd_maker_of : EL.DefE := ⟨fun K => (ga K "maker_of"), "maker_of", "maker_of", defArgs s_maker_of, defBody s_maker_of, defScope s_maker_of, [], []⟩
def dd_is_depth : EL.DefE := ⟨fun K => (ga K "is_depth"), "is_depth", "is_depth", defArgs s_is_depth, defBody s_is_depth, defScope s_is_depth, [], []⟩
def dd_Rule___init__ : EL.DefE := ⟨fun K => (ma K (ga K "Rule") "__init__"), "__init__", "Rule.__init__", defArgs s_Rule___init__, defBody s_Rule___init__, defScope s_Rule___init__, [], []⟩
def dd_Rule_is_step : EL.DefE := ⟨fun K => (ma K (ga K "Rule") "is_step"), "is_step", "Rule.is_step", defArgs s_Rule_is_step, defBody s_Rule_is_step, defScope s_Rule_is_step, [], []⟩
def dd_Rule_answer : EL.DefE := ⟨fun K => (ma K (ga K "Rule") "answer"), "answer", "Rule.answer", defArgs s_Rule_answer, defBody s_Rule_answer, defScope s_Rule_answer, [], []⟩
def dd_Rule_old : EL.DefE := ⟨fun K => (ma K (ga K "Rule") "old"), "old", "Rule.old", defArgs s_Rule_old, defBody s_Rule_old, defScope s_Rule_old, [], []⟩
def dd_Rule_tables : EL.DefE := ⟨fun K => (ma K (ga K "Rule") "tables"), "tables", "Rule.tables", defArgs s_Rule_tables, defBody s_Rule_tables, defScope s_Rule_tables, [], []⟩
def dd_Rule_maker : EL.DefE := ⟨fun K => (ma K (ga K "Rule") "maker"), "maker", "Rule.maker", defArgs s_Rule_maker, defBody s_Rule_maker, defScope s_Rule_maker, [], []⟩
def dd_Rule_conditions : EL.DefE := ⟨fun K => (ma K (ga K "Rule") "conditions"), "conditions", "Rule.conditions", defArgs s_Rule_conditions, defBody s_Rule_conditions, defScope s_Rule_conditions, [], []⟩
def dd_Rule_depths : EL.DefE := ⟨fun K => (ma K (ga K "Rule") "depths"), "depths", "Rule.depths", defArgs s_Rule_depths, defBody s_Rule_depths, defScope s_Rule_depths, [], []⟩
def dd_Rule___eq__ : EL.DefE := ⟨fun K => (ma K (ga K "Rule") "__eq__"), "__eq__", "Rule.__eq__", defArgs s_Rule___eq__, defBody s_Rule___eq__, defScope s_Rule___eq__, [], []⟩
def dd_base : EL.DefE := ⟨fun K => (ga K "base"), "base", "base", defArgs s_base, defBody s_base, defScope s_base, [.non], []⟩
def dd_step : EL.DefE := ⟨fun K => (ga K "step"), "step", "step", defArgs s_step, defBody s_step, defScope s_step, [.non], [("depth_from", .int 0), ("depth_below", .non)]⟩
def dd__law_begin : EL.DefE := ⟨fun K => (ga K "_law_begin"), "_law_begin", "_law_begin", defArgs s__law_begin, defBody s__law_begin, defScope s__law_begin, [], []⟩
def dd__law_draw : EL.DefE := ⟨fun K => (ga K "_law_draw"), "_law_draw", "_law_draw", defArgs s__law_draw, defBody s__law_draw, defScope s__law_draw, [], []⟩
def dd__law_word : EL.DefE := ⟨fun K => (ga K "_law_word"), "_law_word", "_law_word", defArgs s__law_word, defBody s__law_word, defScope s__law_word, [], []⟩
def dd__law_term : EL.DefE := ⟨fun K => (ga K "_law_term"), "_law_term", "_law_term", defArgs s__law_term, defBody s__law_term, defScope s__law_term, [], []⟩
def dd__law_part : EL.DefE := ⟨fun K => (ga K "_law_part"), "_law_part", "_law_part", defArgs s__law_part, defBody s__law_part, defScope s__law_part, [], []⟩
def dd__law_plain : EL.DefE := ⟨fun K => (ga K "_law_plain"), "_law_plain", "_law_plain", defArgs s__law_plain, defBody s__law_plain, defScope s__law_plain, [], []⟩
def dd__law_odd : EL.DefE := ⟨fun K => (ga K "_law_odd"), "_law_odd", "_law_odd", defArgs s__law_odd, defBody s__law_odd, defScope s__law_odd, [], []⟩
def dd__law_made : EL.DefE := ⟨fun K => (ga K "_law_made"), "_law_made", "_law_made", defArgs s__law_made, defBody s__law_made, defScope s__law_made, [], []⟩
def dd__law_is : EL.DefE := ⟨fun K => (ga K "_law_is"), "_law_is", "_law_is", defArgs s__law_is, defBody s__law_is, defScope s__law_is, [], []⟩
def dd__law_wrong : EL.DefE := ⟨fun K => (ga K "_law_wrong"), "_law_wrong", "_law_wrong", defArgs s__law_wrong, defBody s__law_wrong, defScope s__law_wrong, [], []⟩
def dd__law_beside : EL.DefE := ⟨fun K => (ga K "_law_beside"), "_law_beside", "_law_beside", defArgs s__law_beside, defBody s__law_beside, defScope s__law_beside, [], []⟩
def dd_law : EL.DefE := ⟨fun K => (ga K "law"), "law", "law", defArgs s_law, defBody s_law, defScope s_law, [], []⟩
def fn : List EL.DefE := [dd__wall, dd_is_whole, dd_is_word, dd_common_divisor, dd_is_value, dd_is_term, dd_is_atom, dd_value_at, dd_Conditions___init__, dd_Conditions_atoms, dd_Conditions___eq__, dd_Conditions___iand__, dd_Cell___init__, dd_Cell_of, dd_Maker___init__, dd_Maker_terms, dd_Maker___eq__, dd_are_words, dd_maker_of, dd_is_depth, dd_Rule___init__, dd_Rule_is_step, dd_Rule_answer, dd_Rule_old, dd_Rule_tables, dd_Rule_maker, dd_Rule_conditions, dd_Rule_depths, dd_Rule___eq__, dd_base, dd_step, dd__law_begin, dd__law_draw, dd__law_word, dd__law_term, dd__law_part, dd__law_plain, dd__law_odd, dd__law_made, dd__law_is, dd__law_wrong, dd__law_beside, dd_law]
def fa : List He.Fa := [.glo "_wall", .glo "is_whole", .glo "is_word", .glo "common_divisor", .glo "is_value", .glo "is_term", .glo "is_atom", .glo "value_at", .glo "are_words", .glo "maker_of", .glo "is_depth", .glo "base", .glo "step", .glo "_law_begin", .glo "_law_draw", .glo "_law_word", .glo "_law_term", .glo "_law_part", .glo "_law_plain", .glo "_law_odd", .glo "_law_made", .glo "_law_is", .glo "_law_wrong", .glo "_law_beside", .glo "law", .glo "NotSingle", .glo "NoRule", .glo "Conditions", .glo "Cell", .glo "Maker", .glo "Rule", .glo "AskError", .exc "AskError", .glo "NoCell", .exc "NoCell", .glo "NoCondition", .exc "NoCondition", .str "LETTERS" "abcdefghijklmnopqrstuvwxyz", .glo "SIGNS", .glo "NEGATED", .glo "PLACES", .int "MOST_COLUMNS" 3, .int "MOST_DEPTH" 9, .free "ValueError", .free "super", .free "isinstance", .free "int", .free "bool", .free "str", .free "len", .free "abs", .free "tuple", .free "list", .free "staticmethod", .free "range", .exm "NoRule" "NoRule" true, .exm "NoCell" "NoCell" true, .mkr "Conditions", .meth "Conditions" "atoms", .meth "Conditions" "__eq__", .meth "Conditions" "__iand__", .mkr "Cell", .mkr "Maker", .meth "Maker" "terms", .meth "Maker" "__eq__", .mkr "Rule", .meth "Rule" "is_step", .meth "Rule" "answer", .meth "Rule" "old", .meth "Rule" "tables", .meth "Rule" "maker", .meth "Rule" "conditions", .meth "Rule" "depths", .meth "Rule" "__eq__", .noat "Conditions" "kept_atoms", .noat "Cell" "place", .noat "Cell" "at", .noat "Maker" "kept_terms", .noat "Rule" "made", .noat "Rule" "source", .noat "Rule" "joined", .noat "Rule" "making", .noat "Rule" "demanded", .noat "Rule" "span"]
def xn : List EL.DefX := [xw_NoRule]
def exL (K : PySem.W.Frag) : List Bool := [tupAB K (dflAt ("Conditions", some "__init__") 0 K), excCB K (ga K "NoRule"), decide (PySem.W.kitOne K (.ref (ga K "NoRule")) (.type "ValueError") = some true), ocB K (ga K "Conditions"), ocB K (ga K "Cell"), ocB K (ga K "Maker"), ocB K (ga K "Rule"), smB K (ga K "Cell") "of", dunB K (ga K "Conditions") "__eq__", dunB K (ga K "Conditions") "__iand__", dunB K (ga K "Maker") "__eq__", dunB K (ga K "Rule") "__eq__", PySem.W.selfFirst K (ga K "Conditions"), PySem.W.notFirst K (ga K "Conditions") (.ref (ga K "Conditions")), PySem.W.notFirst K (ga K "Maker") (.ref (ga K "Maker")), PySem.W.notFirst K (ga K "Rule") (.ref (ga K "Rule")), tupB K "PLACES" [.str "old", .str "first", .str "second"], tupB K "SIGNS" [.str "<", .str "<=", .str "=", .str "!="], xtB K "NoRule" "reason" "/claim/cut.py"]
def ex (K : PySem.W.Frag) : Bool := (exL K).all id
theorem txt_of {K : PySem.W.Frag} {h : Heap} {mg : Str → Option Value} (X : K.In h) (G : h.Ns mainGlobals mg) (cx : EL.SaysX fa fn xn ex K) : Txt K mg := by
  have c := cx.e
  have m := c.ex_
  exact ⟨He.glo_ok X G (c.fact 0 (by rfl)),
    He.glo_ok X G (c.fact 1 (by rfl)),
    He.glo_ok X G (c.fact 2 (by rfl)),
    He.glo_ok X G (c.fact 3 (by rfl)),
    He.glo_ok X G (c.fact 4 (by rfl)),
    He.glo_ok X G (c.fact 5 (by rfl)),
    He.glo_ok X G (c.fact 6 (by rfl)),
    He.glo_ok X G (c.fact 7 (by rfl)),
    He.glo_ok X G (c.fact 8 (by rfl)),
    He.glo_ok X G (c.fact 9 (by rfl)),
    He.glo_ok X G (c.fact 10 (by rfl)),
    He.glo_ok X G (c.fact 11 (by rfl)),
    He.glo_ok X G (c.fact 12 (by rfl)),
    He.glo_ok X G (c.fact 13 (by rfl)),
    He.glo_ok X G (c.fact 14 (by rfl)),
    He.glo_ok X G (c.fact 15 (by rfl)),
    He.glo_ok X G (c.fact 16 (by rfl)),
    He.glo_ok X G (c.fact 17 (by rfl)),
    He.glo_ok X G (c.fact 18 (by rfl)),
    He.glo_ok X G (c.fact 19 (by rfl)),
    He.glo_ok X G (c.fact 20 (by rfl)),
    He.glo_ok X G (c.fact 21 (by rfl)),
    He.glo_ok X G (c.fact 22 (by rfl)),
    He.glo_ok X G (c.fact 23 (by rfl)),
    He.glo_ok X G (c.fact 24 (by rfl)),
    He.glo_ok X G (c.fact 25 (by rfl)),
    He.glo_ok X G (c.fact 26 (by rfl)),
    He.glo_ok X G (c.fact 27 (by rfl)),
    He.glo_ok X G (c.fact 28 (by rfl)),
    He.glo_ok X G (c.fact 29 (by rfl)),
    He.glo_ok X G (c.fact 30 (by rfl)),
    xc_of (He.glo_ok X G (c.fact 31 (by rfl))) (He.exc_ok (c.fact 32 (by rfl))),
    xc_of (He.glo_ok X G (c.fact 33 (by rfl))) (He.exc_ok (c.fact 34 (by rfl))),
    xc_of (He.glo_ok X G (c.fact 35 (by rfl))) (He.exc_ok (c.fact 36 (by rfl))),
    gv_str (He.str_ok X G (c.fact 37 (by rfl))),
    He.glo_ok X G (c.fact 38 (by rfl)),
    He.glo_ok X G (c.fact 39 (by rfl)),
    He.glo_ok X G (c.fact 40 (by rfl)),
    gv_int (He.int_ok X G (c.fact 41 (by rfl))),
    gv_int (He.int_ok X G (c.fact 42 (by rfl))),
    He.free_ok X G (c.fact 43 (by rfl)),
    He.free_ok X G (c.fact 44 (by rfl)),
    He.free_ok X G (c.fact 45 (by rfl)),
    He.free_ok X G (c.fact 46 (by rfl)),
    He.free_ok X G (c.fact 47 (by rfl)),
    He.free_ok X G (c.fact 48 (by rfl)),
    He.free_ok X G (c.fact 49 (by rfl)),
    He.free_ok X G (c.fact 50 (by rfl)),
    He.free_ok X G (c.fact 51 (by rfl)),
    He.free_ok X G (c.fact 52 (by rfl)),
    He.free_ok X G (c.fact 53 (by rfl)),
    He.free_ok X G (c.fact 54 (by rfl)),
    He.exm_ok (c.fact 55 (by rfl)),
    He.exm_ok (c.fact 56 (by rfl)),
    He.mkr_ok (c.fact 57 (by rfl)),
    He.meth_ok (c.fact 58 (by rfl)),
    He.meth_ok (c.fact 59 (by rfl)),
    He.meth_ok (c.fact 60 (by rfl)),
    He.mkr_ok (c.fact 61 (by rfl)),
    He.mkr_ok (c.fact 62 (by rfl)),
    He.meth_ok (c.fact 63 (by rfl)),
    He.meth_ok (c.fact 64 (by rfl)),
    He.mkr_ok (c.fact 65 (by rfl)),
    He.meth_ok (c.fact 66 (by rfl)),
    He.meth_ok (c.fact 67 (by rfl)),
    He.meth_ok (c.fact 68 (by rfl)),
    He.meth_ok (c.fact 69 (by rfl)),
    He.meth_ok (c.fact 70 (by rfl)),
    He.meth_ok (c.fact 71 (by rfl)),
    He.meth_ok (c.fact 72 (by rfl)),
    He.meth_ok (c.fact 73 (by rfl)),
    He.noat_ok (c.fact 74 (by rfl)),
    He.noat_ok (c.fact 75 (by rfl)),
    He.noat_ok (c.fact 76 (by rfl)),
    He.noat_ok (c.fact 77 (by rfl)),
    He.noat_ok (c.fact 78 (by rfl)),
    He.noat_ok (c.fact 79 (by rfl)),
    He.noat_ok (c.fact 80 (by rfl)),
    He.noat_ok (c.fact 81 (by rfl)),
    He.noat_ok (c.fact 82 (by rfl)),
    He.noat_ok (c.fact 83 (by rfl)),
    c.def_ 0 (d := dd__wall) rfl,
    c.def_ 1 (d := dd_is_whole) rfl,
    c.def_ 2 (d := dd_is_word) rfl,
    c.def_ 3 (d := dd_common_divisor) rfl,
    c.def_ 4 (d := dd_is_value) rfl,
    c.def_ 5 (d := dd_is_term) rfl,
    c.def_ 6 (d := dd_is_atom) rfl,
    c.def_ 7 (d := dd_value_at) rfl,
    c.def_ 8 (d := dd_Conditions___init__) rfl,
    c.def_ 9 (d := dd_Conditions_atoms) rfl,
    c.def_ 10 (d := dd_Conditions___eq__) rfl,
    c.def_ 11 (d := dd_Conditions___iand__) rfl,
    c.def_ 12 (d := dd_Cell___init__) rfl,
    c.def_ 13 (d := dd_Cell_of) rfl,
    c.def_ 14 (d := dd_Maker___init__) rfl,
    c.def_ 15 (d := dd_Maker_terms) rfl,
    c.def_ 16 (d := dd_Maker___eq__) rfl,
    c.def_ 17 (d := dd_are_words) rfl,
    c.def_ 18 (d := dd_maker_of) rfl,
    c.def_ 19 (d := dd_is_depth) rfl,
    c.def_ 20 (d := dd_Rule___init__) rfl,
    c.def_ 21 (d := dd_Rule_is_step) rfl,
    c.def_ 22 (d := dd_Rule_answer) rfl,
    c.def_ 23 (d := dd_Rule_old) rfl,
    c.def_ 24 (d := dd_Rule_tables) rfl,
    c.def_ 25 (d := dd_Rule_maker) rfl,
    c.def_ 26 (d := dd_Rule_conditions) rfl,
    c.def_ 27 (d := dd_Rule_depths) rfl,
    c.def_ 28 (d := dd_Rule___eq__) rfl,
    c.def_ 29 (d := dd_base) rfl,
    c.def_ 30 (d := dd_step) rfl,
    c.def_ 31 (d := dd__law_begin) rfl,
    c.def_ 32 (d := dd__law_draw) rfl,
    c.def_ 33 (d := dd__law_word) rfl,
    c.def_ 34 (d := dd__law_term) rfl,
    c.def_ 35 (d := dd__law_part) rfl,
    c.def_ 36 (d := dd__law_plain) rfl,
    c.def_ 37 (d := dd__law_odd) rfl,
    c.def_ 38 (d := dd__law_made) rfl,
    c.def_ 39 (d := dd__law_is) rfl,
    c.def_ 40 (d := dd__law_wrong) rfl,
    c.def_ 41 (d := dd__law_beside) rfl,
    c.def_ 42 (d := dd_law) rfl,
    fun H => tupAB_ok (exG m 0 (by rfl)) H,
    excCB_ok (exG m 1 (by rfl)),
    of_decide_eq_true (exG m 2 (by rfl)),
    ocB_ok (exG m 3 (by rfl)),
    ocB_ok (exG m 4 (by rfl)),
    ocB_ok (exG m 5 (by rfl)),
    ocB_ok (exG m 6 (by rfl)),
    smB_ok (exG m 7 (by rfl)),
    dunB_ok (exG m 8 (by rfl)),
    dunB_ok (exG m 9 (by rfl)),
    dunB_ok (exG m 10 (by rfl)),
    dunB_ok (exG m 11 (by rfl)),
    (exG m 12 (by rfl)),
    (exG m 13 (by rfl)),
    (exG m 14 (by rfl)),
    (exG m 15 (by rfl)),
    fun H => tupB_ok (exG m 16 (by rfl)) H,
    fun H => tupB_ok (exG m 17 (by rfl)) H,
    xt_of xwok_NoRule (cx.xd 0 (by rfl)) (He.glo_ok X G (c.fact 26 (by rfl))) (He.free_ok X G (c.fact 44 (by rfl))) (exG m 18 (by rfl))⟩
def loose : List Str := [("_wall" : Str), ("AskError" : Str), ("NoCell" : Str), ("NoCondition" : Str), ("NotSingle" : Str), ("NoRule" : Str), ("LETTERS" : Str), ("SIGNS" : Str), ("NEGATED" : Str), ("is_whole" : Str), ("is_word" : Str), ("common_divisor" : Str), ("is_value" : Str), ("PLACES" : Str), ("MOST_COLUMNS" : Str), ("is_term" : Str), ("is_atom" : Str), ("value_at" : Str), ("Conditions" : Str), ("Cell" : Str), ("Maker" : Str), ("MOST_DEPTH" : Str), ("are_words" : Str), ("maker_of" : Str), ("is_depth" : Str), ("Rule" : Str), ("base" : Str), ("step" : Str), ("_law_begin" : Str), ("_law_draw" : Str), ("_law_word" : Str), ("_law_term" : Str), ("_law_part" : Str), ("_law_plain" : Str), ("_law_odd" : Str), ("_law_made" : Str), ("_law_is" : Str), ("_law_wrong" : Str), ("_law_beside" : Str)]
abbrev R : PySem.W.OpenRow := PySem.W.OpenLaw.row PySem.Challenge.rw_endlessasks_k11_rules
abbrev hk : PySem.W.Hook := hookX 6 fa fn xn ex
def ob (s : PySem.W.SharedT) : AlX := obsXG 6 fa fn xn ex (HandSHeadRun.getT s)
theorem ob_eq (s : PySem.W.SharedT) : ob s = hk.obs s.abs := obsXG_eq (HandSHeadRun.getT_eq s)
theorem run_f (w : World) : HandSHeadRun.RunEq R (PySem.W.view R.prog [44]) hk ob 8000 loose (w.withFollow "special-get-raises" false) := by
  intro os; kernel_rfl
theorem run_t (w : World) : HandSHeadRun.RunEq R (PySem.W.view R.prog [44]) hk ob 8000 loose (w.withFollow "special-get-raises" true) := by
  intro os; kernel_rfl
theorem run (w : World) : HandSHeadRun.RunEq R (PySem.W.view R.prog [44]) hk ob 8000 loose w :=
  PySem.W.byRow2 "special-get-raises" (P := fun w => HandSHeadRun.RunEq R (PySem.W.view R.prog [44]) hk ob 8000 loose w) run_f run_t w
end K11
namespace K11
open PySem PySem.Spec PyProof.Rows L2 He TL EL
section
variable {P : Program} {w : World} {K : PySem.W.Frag} {mg : Str → Option Value} {base : Heap}
/-! is_whole -/
def spIsWhole (K : PySem.W.Frag) : Sp := fun vs H Q _ => ∃ v th, vs = [v] ∧ ThOk K H v th ∧ Q (.bl (isWholeT th)) H
theorem d_is_whole (T : Txt K mg) : Dn P w K mg base CX0 1 "is_whole" (spIsWhole K) := by
  obtain ⟨fd, F⟩ := T.f_is_whole
  refine dnN T.g_is_whole F (fun _ _ _ _ _ _ us hl => match us, hl with | [_], _ => rfl) sc_is_whole (fun vs H Q E h => ?_) (fun cdv A outer s H vs Q E hr h => ?_)
  · obtain ⟨v, th, rfl, _⟩ := h
    rfl
  · obtain ⟨v, th, rfl, ht, q⟩ := h
    obtain ⟨t, ty, ki⟩ := ht.ty
    refine ⟨_, PSs.nox (pss_one (ps_ret (pe_and (pe_callB call_isi (by rfl) T.z_isinstance (by decide +kernel) (pa_cons (pv 0) (pa_cons (pe_bltn (v := .ty "int") (by rfl) T.z_int (by decide +kernel) rfl) pa_nil))) (pe_one (pe_not (pe_callB call_isi (by rfl) T.z_isinstance (by decide +kernel) (pa_cons (pv 0) (pa_cons (pe_bltn (v := .ty "bool") (by rfl) T.z_bool (by decide +kernel) rfl) pa_nil)))))))), ?_⟩
    refine ⟨_, rfl, _, _, t, _, _, rfl, .ty _, ty, ki .int, _, rfl, ie (fun h1 => ?_) (fun h1 => ?_)⟩
    · refine ⟨_, rfl, _, _, t, _, _, rfl, .ty _, ty, ki .bl, _, rfl, ?_⟩
      have e : isWholeT th = !th.is .bl := by unfold isWholeT; rw [h1]; rfl
      rw [e] at q
      exact q
    · have e : isWholeT th = false := by unfold isWholeT; rw [h1]; rfl
      rw [e] at q
      exact q
/-! common_divisor -/
def spCD : Sp := fun vs H Q _ => ∃ a b : Int, vs = [.int a, .int b] ∧ Q (.int (cd a b)) H
theorem d_common_divisor (T : Txt K mg) : Dn P w K mg base CX0 1 "common_divisor" spCD := by
  obtain ⟨fd, F⟩ := T.f_common_divisor
  refine dnN T.g_common_divisor F (fun _ _ _ _ _ _ us hl => match us, hl with | [_, _], _ => rfl) sc_common_divisor (fun vs H Q E h => ?_) (fun cdv A outer s H vs Q E hr h => ?_)
  · obtain ⟨a, b, rfl, _⟩ := h
    rfl
  · obtain ⟨a, b, rfl, q⟩ := h
    refine ⟨_, PSs.nox (pss_cons (ps_par (i := 0) (j := 1) (by rfl) sc_common_divisor.nd rfl rfl (by decide) rfl rfl (pa_cons (pe_callB call_abs (by rfl) T.z_abs (by decide +kernel) (pa_cons (pv 0) pa_nil)) (pa_cons (pe_callB call_abs (by rfl) T.z_abs (by decide +kernel) (pa_cons (pv 1) pa_nil)) pa_nil)) (by rfl))
      (pss_cons (ps_while PassesOwn.never (pt_cmpR op_gt (pv 1) pe_int (nomark _))
      (pss_one (ps_par (i := 0) (j := 1) (by rfl) sc_common_divisor.nd rfl rfl (by decide) rfl rfl (pa_cons (pv 1) (pa_cons (pe_op op_mod (pv 0) (pv 1)) pa_nil)) (by rfl))))
      (pss_one (ps_ret (pv 0))))), ?_⟩
    refine ⟨_, rfl, _, rfl, _, rfl, _, rfl, _, _, rfl, ?_⟩
    refine ⟨fun m σ H' => ∃ x y : Nat, m = y ∧ σ = [some (.int x), some (.int y)] ∧ H' = H ∧ Nat.gcd x y = Nat.gcd a.natAbs b.natAbs, ⟨b.natAbs, a.natAbs, b.natAbs, rfl, ?_, rfl, rfl⟩, ?_⟩
    · have e : ∀ z : Int, (if z < 0 then -z else z) = (z.natAbs : Int) := fun z => by split <;> omega
      show [some (V.int _), some (V.int _)] = _
      rw [e, e]
    · rintro m σ H' ⟨x, y, em, rfl, rfl, hg⟩
      subst m
      refine ⟨_, rfl, _, _, rfl, rfl, _, rfl, ie (fun h1 => ?_) (fun h1 => ?_)⟩
      · have hy : 0 < y := by
          have := of_decide_eq_true h1
          omega
        refine ⟨_, fun σ' H2 hN => hN, _, rfl, _, rfl, _, rfl, _, _, rfl, rfl, (by show (0 : Int) < (y : Int); omega), _, _, rfl, ?_⟩
        exact ⟨x % y, Nat.mod_lt _ hy, y, x % y, rfl, rfl, rfl, by rw [← hg, Nat.gcd_comm x y, Nat.gcd_rec y x, Nat.gcd_comm]⟩
      · have hy : y = 0 := by
          have := of_decide_eq_false h1
          omega
        refine ⟨_, rfl, ?_⟩
        subst hy
        rw [Nat.gcd_zero_right] at hg
        unfold cd at q
        rw [← hg] at q
        exact q
/-! is_value -/
def spIsValue (K : PySem.W.Frag) : Sp := fun vs H Q _ => ∃ v th, vs = [v] ∧ ThOk K H v th ∧ Q (.bl (isValT th)) H
theorem d_is_value (T : Txt K mg) : Dn P w K mg base CX0 2 "is_value" (spIsValue K) := by
  obtain ⟨fd, F⟩ := T.f_is_value
  have D_is_whole := d_is_whole (P := P) (w := w) (base := base) T
  have D_common_divisor := d_common_divisor (P := P) (w := w) (base := base) T
  refine dnN T.g_is_value F (fun _ _ _ _ _ _ us hl => match us, hl with | [_], _ => rfl) sc_is_value (fun vs H Q E h => ?_) (fun cdv A outer s H vs Q E hr h => ?_)
  · obtain ⟨v, th, rfl, _⟩ := h
    rfl
  · obtain ⟨v, th, rfl, ht, q⟩ := h
    obtain ⟨t, ty, ki⟩ := ht.ty
    refine ⟨_, PSs.nox (pss_cons (ps_if (PW.pt (pw_or (pt_not (pt_val (pe_callB call_isi (by rfl) T.z_isinstance (by decide +kernel) (pa_cons (pv 0) (pa_cons (pe_bltn (v := .ty "tuple") (by rfl) T.z_tuple (by decide +kernel) rfl) pa_nil))))) (pw_or1 (pt_cmpR op_ne (pe_callB call_len_seq (by rfl) T.z_len (by decide +kernel) (pa_cons (pv 0) pa_nil)) pe_int (nomark _))))) (pss_one (ps_ret pe_bl)) pss_nil)
      (pss_cons (ps_if (PW.pt (pw_or (pt_not (pt_val (cl D_is_whole (hr.mono (by decide)) (pa_cons (pe_ix ix_tup (pv 0) pe_int (fun _ _ => rfl)) pa_nil)))) (pw_or (pt_not (pt_val (cl D_is_whole (hr.mono (by decide)) (pa_cons (pe_ix ix_tup (pv 0) pe_int (fun _ _ => rfl)) pa_nil)))) (pw_or1 (pt_cmpR op_lt (pe_ix ix_tup (pv 0) pe_int (fun _ _ => rfl)) pe_int (nomark _)))))) (pss_one (ps_ret pe_bl)) pss_nil)
      (pss_one (ps_ret (pe_cmpR op_eq (cl D_common_divisor (hr.mono (by decide)) (pa_cons (pe_ix ix_tup (pv 0) pe_int (fun _ _ => rfl)) (pa_cons (pe_ix ix_tup (pv 0) pe_int (fun _ _ => rfl)) pa_nil))) pe_int (nomark _)))))), ?_⟩
    refine ⟨_, rfl, _, _, t, _, _, rfl, .ty _, ty, ki .tup, _, rfl, ?_⟩
    by_cases hn : ∃ ds, th = .d (.tuple ds)
    · obtain ⟨ds, rfl⟩ := hn
      refine iteF ?_
      cases ht with
      | @tup a xs _ hS hA =>
      refine ⟨_, rfl, _, _, rfl, .inr hS, rfl, _, rfl, ?_⟩
      by_cases hl : xs.length = 2
      · match xs, hl with
        | [v0, v1], _ =>
        match ds, hA with
        | [d0, d1], .cons h0 (.cons h1 .nil) =>
        refine iteF ?_
        -- is_whole(thing[0])
        refine ⟨_, rfl, _, _, 0, v0, rfl, rfl, hS, atI_nat (j := 0) rfl, v0, .d d0, rfl, h0, _, rfl, ?_⟩
        rw [isWholeT_d]
        by_cases w0 : ∃ a, d0 = .int a
        · obtain ⟨a0, rfl⟩ := w0
          refine iteF ?_
          refine ⟨_, rfl, _, _, 1, v1, rfl, rfl, hS, atI_nat (j := 1) rfl, v1, .d d1, rfl, h1, _, rfl, ?_⟩
          rw [isWholeT_d]
          by_cases w1 : ∃ b, d1 = .int b
          · obtain ⟨b0, rfl⟩ := w1
            refine iteF ?_
            cases h0
            cases h1
            refine ⟨_, rfl, _, _, 1, _, rfl, rfl, hS, atI_nat (j := 1) rfl, _, _, rfl, rfl, _, rfl, ie (fun c => ?_) (fun c => ?_)⟩
            · have e : isValT (.d (.tuple [.int a0, .int b0])) = false := by
                show (!decide (b0 < 1) && decide (cd a0 b0 = 1)) = false
                rw [c]
                rfl
              rw [e] at q
              exact q
            · have e : isValT (.d (.tuple [.int a0, .int b0])) = decide (V.int (cd a0 b0) = V.int 1) := by
                show (!decide (b0 < 1) && decide (cd a0 b0 = 1)) = decide (V.int (cd a0 b0) = V.int 1)
                rw [c]
                simp
              rw [e] at q
              exact ⟨_, rfl, _, _, 0, _, rfl, rfl, hS, atI_nat (j := 0) rfl, _, rfl, _, _, 1, _, rfl, rfl, hS, atI_nat (j := 1) rfl, _, _, rfl, rfl, q⟩
          · have e2 : isWholeD d1 = false := by
              cases d1 <;> first | rfl | exact absurd ⟨_, rfl⟩ w1
            rw [e2]
            have e : isValT (.d (.tuple [.int a0, d1])) = false := by
              cases d1 <;> first | rfl | exact absurd ⟨_, rfl⟩ w1
            rw [e] at q
            exact q
        · have e2 : isWholeD d0 = false := by
            cases d0 <;> first | rfl | exact absurd ⟨_, rfl⟩ w0
          rw [e2]
          have e : isValT (.d (.tuple [d0, d1])) = false := by
            cases d0 <;> first | rfl | exact absurd ⟨_, rfl⟩ w0
          rw [e] at q
          exact q
      · have e2 : decide (V.int (xs.length : Int) = V.int 2) = false := decide_eq_false fun z => hl (by injection z; omega)
        rw [e2]
        have hdl : ds.length ≠ 2 := by
          rw [← DpAll.length hA]
          exact hl
        have e : isValT (.d (.tuple ds)) = false := by
          match ds, hdl with
          | [], _ => rfl
          | [_], _ => simp [isValT, isValD]
          | [_, _], h => exact absurd rfl h
          | _ :: _ :: _ :: _, _ => simp [isValT, isValD]
        rw [e] at q
        exact q
    · have e1 : th.is .tup = false := by
        cases th with
        | o => rfl
        | d d => cases d <;> first | rfl | exact absurd ⟨_, rfl⟩ hn
      rw [e1]
      have e : isValT th = false := by
        cases th with
        | o => rfl
        | d d => cases d <;> first | rfl | exact absurd ⟨_, rfl⟩ hn
      rw [e] at q
      exact q
/-! _law_begin -/
def spBegin (K : PySem.W.Frag) : Sp := fun vs H Q _ => ∃ (a : Addr) (ns : List Int), vs = [.ref a] ∧ SqL K H a (ns.map V.int) ∧ ∀ p l H', H p = none → H l = none → Same H H' → Src H' p l → Q (.ref p) H'
theorem cut_map (ns : List Int) (lo hi : Option Int) : ∃ ms : List Int, cutV (ns.map V.int) lo hi = ms.map V.int := by
  unfold cutV
  rw [← List.map_drop, ← List.map_take]
  exact ⟨_, rfl⟩
theorem d_begin (T : Txt K mg) : Dn P w K mg base CX0 1 "_law_begin" (spBegin K) := by
  obtain ⟨fd, F⟩ := T.f__law_begin
  refine dnN T.g__law_begin F (fun _ _ _ _ _ _ us hl => match us, hl with | [_], _ => rfl) sc__law_begin (fun vs H Q E h => ?_) (fun cdv A outer s H vs Q E hr h => ?_)
  · obtain ⟨a, ns, rfl, _⟩ := h
    rfl
  · obtain ⟨a, ns, rfl, hS, q⟩ := h
    refine ⟨_, PSs.nox (pss_one (ps_ret (pe_lst (pa_cons (pe_callTy call_list_of (by rfl) T.z_list (by decide +kernel) (pa_cons (pe_slice sl_list (pv 0) po_none (po_some pe_int)) pa_nil)) (pa_cons pe_int (pa_cons pe_int (pa_cons pe_int pa_nil))))))), ?_⟩
    obtain ⟨ms, hm⟩ := cut_map ns none (some 63)
    refine ⟨_, rfl, _, rfl, _, _, rfl, hS, fun c nc => ?_⟩
    rw [hm]
    generalize eH1 : upd H c _ = H1
    have s1 : Same H H1 := eH1 ▸ same_upd nc
    have h1 : H1 c = some _ := eH1 ▸ upd_same
    refine ⟨_, _, rfl, .inl (SqL.of h1), fun l nl => ?_⟩
    generalize eH2 : upd H1 l _ = H2
    have s2 : Same H1 H2 := eH2 ▸ same_upd nl
    have h2 : H2 l = some _ := eH2 ▸ upd_same
    refine ⟨(by show 4 ≤ sizeLine; decide), fun p np => ?_⟩
    generalize eH3 : upd H2 p _ = H3
    have s3 : Same H2 H3 := eH3 ▸ same_upd np
    have h3 : H3 p = some _ := eH3 ▸ upd_same
    exact q p l H3 (s1.free (s2.free np)) (s1.free nl) (s1.trans (s2.trans s3)) ⟨ms, 0, 0, 7, h3, s3 _ _ h2, by omega, by omega, by omega⟩
/-! _law_draw -/
def spDraw : Sp := fun vs H Q _ => ∃ (p l : Addr) (L : Int), vs = [.ref p, .int L] ∧ 0 < L ∧ L ≤ 1000000000000000000 ∧ Src H p l ∧ ∀ (n : Int) (H' : Hp), 0 ≤ n → n < L → Src H' p l → But p H H' → Q (.int n) H'
theorem mulok {i j : Int} {a : Nat} (h1 : i.natAbs < 2 ^ 70) (h2 : j.natAbs < 2 ^ 70) : CMulW i j := wide_mul h1 h2 (by decide) (by decide) (by decide)
theorem pow18 : ((10 : Int) ^ (18 : Int).toNat) = 1000000000000000000 := by decide +kernel
theorem d_draw (T : Txt K mg) : Dn P w K mg base CX0 1 "_law_draw" spDraw := by
  obtain ⟨fd, F⟩ := T.f__law_draw
  refine dnN T.g__law_draw F (fun _ _ _ _ _ _ us hl => match us, hl with | [_, _], _ => rfl) sc__law_draw (fun vs H Q E h => ?_) (fun cdv A outer s H vs Q E hr h => ?_)
  · obtain ⟨p, l, L, rfl, _⟩ := h
    rfl
  · obtain ⟨p, l, L, rfl, hL0, hL1, hS, q⟩ := h
    obtain ⟨ns, i, c, r, h1, h2, hc, hr0, hr1⟩ := id hS
    have npl : l ≠ p := hS.ne
    have hpw : CPow 10 18 := ⟨by decide, by decide, by decide⟩
    refine ⟨_, PSs.nox (pss_mid (ps_if (PW.pt (pw_and (pt_cmpR op_lt (pe_ix ix_list (pv 0) pe_int (fun _ _ => rfl)) (pe_op op_pow pe_int pe_int) (nomark _)) (pw_and1 (pt_cmpR op_lt (pe_ix ix_list (pv 0) pe_int (fun _ _ => rfl)) (pe_callB call_len_seq (by rfl) T.z_len (by decide +kernel) (pa_cons (pe_ix ix_list (pv 0) pe_int (fun _ _ => rfl)) pa_nil)) (nomark _))))) (pss_cons (ps_set (i := 2) sc__law_draw.nd rfl (.inl rfl) (pe_callTy call_int1 (by rfl) T.z_int (by decide +kernel) (pa_cons (pe_ix ix_list (pe_ix ix_list (pv 0) pe_int (fun _ _ => rfl)) (pe_ix ix_list (pv 0) pe_int (fun _ _ => rfl)) (fun _ _ => rfl)) pa_nil)))
      (pss_cons (ps_asg (pe_op op_add (pe_ix ix_list (pv 0) pe_int (fun _ _ => rfl)) pe_int) (pg_sub (pv 0) pe_int set_list))
      (pss_cons (ps_asg pe_int (pg_sub (pv 0) pe_int set_list))
      (pss_mid (ps_if (pt_cmpR op_ge (pv 2) (pe_op op_pow pe_int pe_int) (nomark _)) (pss_one (ps_asg (pv 2) (pg_sub (pv 0) pe_int set_list))) pss_nil)
      (pss_one (ps_asg (pe_op op_mod (pe_op op_add (pe_op op_add (pe_op op_mulW (pe_ix ix_list (pv 0) pe_int (fun _ _ => rfl)) pe_int) (pe_op op_mod (pv 2) pe_int)) pe_int) pe_int) (pg_sub (pv 0) pe_int set_list))))))) pss_nil)
      (pss_cons (ps_if (pt_cmpR op_ge (pe_ix ix_list (pv 0) pe_int (fun _ _ => rfl)) (pe_op op_pow pe_int pe_int) (nomark _)) (pss_cons (ps_set (i := 3) sc__law_draw.nd rfl (.inl rfl) (pe_op op_mod (pe_ix ix_list (pv 0) pe_int (fun _ _ => rfl)) (pv 1)))
      (pss_cons (ps_asg (pe_op op_fdivW (pe_ix ix_list (pv 0) pe_int (fun _ _ => rfl)) (pv 1)) (pg_sub (pv 0) pe_int set_list))
      (pss_one (ps_ret (pv 3))))) pss_nil)
      (pss_cons (ps_asg (pe_op op_mod (pe_op op_add (pe_op op_mulW (pe_ix ix_list (pv 0) pe_int (fun _ _ => rfl)) pe_int) pe_int) pe_int) (pg_sub (pv 0) pe_int set_list))
      (pss_one (ps_ret (pe_op op_mod (pe_op op_fdivW (pe_ix ix_list (pv 0) pe_int (fun _ _ => rfl)) pe_int) (pv 1))))))), ?_⟩
    refine ⟨fun σ' H' => ∃ v2, σ' = [some (.ref p), some (.int L), v2, none] ∧ Src H' p l ∧ But p H H', ?_, ?_⟩
    · -- the first test
      refine ⟨_, rfl, _, _, 2, _, rfl, rfl, SqL.of h1, atI_nat (j := 2) rfl, _, _, rfl, rfl, hpw, _, _, rfl, rfl, _, rfl, ie (fun c1 => ?_) (fun c1 => ?_)⟩
      · refine ⟨_, rfl, _, _, 1, _, rfl, rfl, SqL.of h1, atI_nat (j := 1) rfl, _, rfl, _, _, 0, _, rfl, rfl, SqL.of h1, atI_nat (j := 0) rfl, _, _, rfl, .inl (SqL.of h2), _, _, rfl, rfl, _, rfl, ie (fun c2 => ?_) (fun c2 => ?_)⟩
        · have c2 := of_decide_eq_true c2
          rw [List.length_map] at c2
          have hi : i < ns.length := by omega
          have hg : (ns.map V.int)[i]? = some (.int ns[i]) := by
            rw [List.getElem?_map, List.getElem?_eq_getElem hi]
            rfl
          generalize ns[i] = z at hg
          -- _law_cell = int(_law_source[0][_law_source[1]])
          refine ⟨_, rfl, _, _, 0, _, rfl, rfl, SqL.of h1, atI_nat (j := 0) rfl, _, rfl, _, _, 1, _, rfl, rfl, SqL.of h1, atI_nat (j := 1) rfl, _, _, _, _, rfl, rfl, SqL.of h2, atI_nat hg, .inl ⟨_, rfl, ?_⟩⟩
          -- _law_source[1] = _law_source[1] + 1
          refine ⟨_, rfl, _, _, 1, _, rfl, rfl, SqL.of h1, atI_nat (j := 1) rfl, _, _, rfl, rfl, _, rfl, p, _, 1, 1, rfl, rfl, h1, rfl, ?_⟩
          generalize e3 : upd H p _ = H3
          have b3 : But p H H3 := e3 ▸ but_upd
          have h3 : H3 p = some (.lst [.ref l, .int (i + 1), .int c, .int r]) := e3 ▸ upd_same
          -- _law_source[2] = 0
          refine ⟨_, rfl, p, _, 2, 2, rfl, rfl, h3, rfl, ?_⟩
          generalize e4 : upd H3 p _ = H4
          have b4 : But p H3 H4 := e4 ▸ but_upd
          have h4 : H4 p = some (.lst [.ref l, .int (i + 1), .int 0, .int r]) := e4 ▸ upd_same
          -- if _law_cell >= 10 ** 18: _law_source[2] = _law_cell
          refine ⟨fun σ' H' => ∃ c' : Int, 0 ≤ c' ∧ σ' = [some (.ref p), some (.int L), some (.int z), none] ∧ But p H H' ∧ H' p = some (.lst [.ref l, .int (i + 1), .int c', .int r]), ?_, ?_⟩
          · refine ⟨_, rfl, _, _, rfl, rfl, hpw, _, _, rfl, rfl, _, rfl, ie (fun c3 => ?_) (fun c3 => ?_)⟩
            · have c3 := of_decide_eq_true c3
              rw [pow18] at c3
              refine ⟨_, rfl, _, rfl, p, _, 2, 2, rfl, rfl, h4, rfl, ?_⟩
              exact ⟨z, by omega, rfl, b3.trans (b4.trans but_upd), upd_same⟩
            · exact ⟨0, by omega, rfl, b3.trans b4, h4⟩
          · rintro σ' H5 ⟨c', hc', rfl, b5, h5⟩
            have hm : CMulW r 48271 := mulok (a := 0) (by omega) (by decide)
            have hmod : 0 ≤ (r * 48271 + z % 2147483629 + 11) % 2147483647 ∧ (r * 48271 + z % 2147483629 + 11) % 2147483647 < 2147483647 := ⟨Int.emod_nonneg _ (by decide), Int.emod_lt_of_pos _ (by decide)⟩
            refine ⟨_, rfl, _, _, 3, _, rfl, rfl, SqL.of h5, atI_nat (j := 3) rfl, _, _, rfl, rfl, hm, _, rfl, _, _, rfl, rfl, (by show (0 : Int) < 2147483629; decide), _, _, rfl, rfl, _, _, rfl, rfl, _, _, rfl, rfl, (by show (0 : Int) < 2147483647; decide), _, rfl, p, _, 3, 3, rfl, rfl, h5, rfl, ?_⟩
            exact ⟨_, rfl, ⟨ns, i + 1, c', _, upd_same, by rw [upd_ne npl]; exact b5 _ _ h2 npl, hc', hmod.1, hmod.2⟩, b5.trans but_upd⟩
        · exact ⟨none, rfl, hS, .refl _ _⟩
      · exact ⟨none, rfl, hS, .refl _ _⟩
    · rintro σ' H1 ⟨v2, rfl, hS1, b1⟩
      clear h1 h2 hc hr0 hr1 npl
      obtain ⟨ns, i, c, r, h1, h2, hc, hr0, hr1⟩ := id hS1
      have npl : l ≠ p := hS1.ne
      refine ⟨_, rfl, _, _, 2, _, rfl, rfl, SqL.of h1, atI_nat (j := 2) rfl, _, _, rfl, rfl, hpw, _, _, rfl, rfl, _, rfl, ie (fun c1 => ?_) (fun c1 => ?_)⟩
      · refine ⟨_, rfl, _, _, 2, _, rfl, rfl, SqL.of h1, atI_nat (j := 2) rfl, _, rfl, _, _, rfl, rfl, hL0, ?_⟩
        have hdv : CDivW c L := wide_div hL0 (b := 64) (by omega) (by decide) (by decide)
        refine ⟨_, rfl, _, _, 2, _, rfl, rfl, SqL.of h1, atI_nat (j := 2) rfl, _, rfl, _, _, rfl, rfl, hdv, _, rfl, p, _, 2, 2, rfl, rfl, h1, rfl, ?_⟩
        refine ⟨_, rfl, ?_⟩
        refine q (c % L) _ (Int.emod_nonneg _ (by omega)) (Int.emod_lt_of_pos _ hL0) ⟨ns, i, c / L, r, upd_same, by rw [upd_ne npl]; exact h2, Int.ediv_nonneg hc (by omega), hr0, hr1⟩ (b1.trans but_upd)
      · have hm : CMulW r 39373 := mulok (a := 0) (by omega) (by decide)
        have hmod : 0 ≤ (r * 39373 + 12820163) % 2147483647 ∧ (r * 39373 + 12820163) % 2147483647 < 2147483647 := ⟨Int.emod_nonneg _ (by decide), Int.emod_lt_of_pos _ (by decide)⟩
        refine ⟨_, rfl, _, _, 3, _, rfl, rfl, SqL.of h1, atI_nat (j := 3) rfl, _, _, rfl, rfl, hm, _, _, rfl, rfl, _, _, rfl, rfl, (by show (0 : Int) < 2147483647; decide), _, rfl, p, _, 3, 3, rfl, rfl, h1, rfl, ?_⟩
        generalize e3 : upd H1 p _ = H3
        have b3 : But p H1 H3 := e3 ▸ but_upd
        have h3 : H3 p = some (.lst [.ref l, .int i, .int c, .int ((r * 39373 + 12820163) % 2147483647)]) := e3 ▸ upd_same
        generalize (r * 39373 + 12820163) % 2147483647 = r2 at *
        have hdv : CDivW r2 16 := ⟨by decide, by decide⟩
        refine ⟨_, rfl, _, _, 3, _, rfl, rfl, SqL.of h3, atI_nat (j := 3) rfl, _, _, rfl, rfl, hdv, _, rfl, _, _, rfl, rfl, hL0, ?_⟩
        exact q (r2 / 16 % L) _ (Int.emod_nonneg _ (by omega)) (Int.emod_lt_of_pos _ hL0) ⟨ns, i, c, r2, h3, b3 _ _ h2 npl, hc, hmod.1, hmod.2⟩ (b1.trans b3)
/-! is_term -/
def plV : List V := [.str "old", .str "first", .str "second"]
def sgV : List V := [.str "<", .str "<=", .str "=", .str "!="]
def colD : PyData → Bool
  | .int i => decide (0 ≤ i) && decide (i < 3)
  | _ => false
def termD (z : Str) (d : PyData) : Bool := if decide (V.str z = V.str "value") = true then isValD d else inV (.str z) plV && colD d
def isTermD : PyData → Bool
  | .tuple [.str z, d] => termD z d
  | _ => false
def isTermT : Th → Bool
  | Th.d x => isTermD x
  | Th.o => false
def spIsTerm (K : PySem.W.Frag) : Sp := fun vs H Q _ => ∃ v th, vs = [v] ∧ ThOk K H v th ∧ Q (.bl (isTermT th)) H
theorem d_is_term (T : Txt K mg) : Dn P w K mg base CX0 3 "is_term" (spIsTerm K) := by
  obtain ⟨fd, F⟩ := T.f_is_term
  have D_is_whole := d_is_whole (P := P) (w := w) (base := base) T
  have D_is_value := d_is_value (P := P) (w := w) (base := base) T
  refine dnN T.g_is_term F (fun _ _ _ _ _ _ us hl => match us, hl with | [_], _ => rfl) sc_is_term (fun vs H Q E h => ?_) (fun cdv A outer s H vs Q E hr h => ?_)
  · obtain ⟨v, th, rfl, _⟩ := h
    rfl
  · obtain ⟨v, th, rfl, ht, q⟩ := h
    obtain ⟨t, ty, ki⟩ := ht.ty
    refine ⟨_, PSs.nox (pss_cons (ps_if (PW.pt (pw_or (pt_not (pt_val (pe_callB call_isi (by rfl) T.z_isinstance (by decide +kernel) (pa_cons (pv 0) (pa_cons (pe_bltn (v := .ty "tuple") (by rfl) T.z_tuple (by decide +kernel) rfl) pa_nil))))) (pw_or (pt_cmpR op_ne (pe_callB call_len_seq (by rfl) T.z_len (by decide +kernel) (pa_cons (pv 0) pa_nil)) pe_int (nomark _)) (pw_or1 (pt_not (pt_val (pe_callB call_isi (by rfl) T.z_isinstance (by decide +kernel) (pa_cons (pe_ix ix_tup (pv 0) pe_int (fun _ _ => rfl)) (pa_cons (pe_bltn (v := .ty "str") (by rfl) T.z_str (by decide +kernel) rfl) pa_nil))))))))) (pss_one (ps_ret pe_bl)) pss_nil)
      (pss_cons (ps_if (pt_cmpR op_eq (pe_ix ix_tup (pv 0) pe_int (fun _ _ => rfl)) pe_str (nomark _)) (pss_one (ps_ret (cl D_is_value (hr.mono (by decide)) (pa_cons (pe_ix ix_tup (pv 0) pe_int (fun _ _ => rfl)) pa_nil)))) pss_nil)
      (pss_one (ps_ret (pe_and (pe_cmpR op_in_seq (pe_ix ix_tup (pv 0) pe_int (fun _ _ => rfl)) (pe_glob (v := .ref (ga K "PLACES")) (by rfl) T.g_PLACES rfl) (by rfl)) (pe_and (cl D_is_whole (hr.mono (by decide)) (pa_cons (pe_ix ix_tup (pv 0) pe_int (fun _ _ => rfl)) pa_nil)) (pe_one (pe_chain op_le op_lt pe_int (pe_ix ix_tup (pv 0) pe_int (fun _ _ => rfl)) (pe_gv T.g_MOST_COLUMNS))))))))), ?_⟩
    refine ⟨_, rfl, _, _, t, _, _, rfl, .ty _, ty, ki .tup, _, rfl, ?_⟩
    by_cases hn : ∃ ds, th = .d (.tuple ds)
    · obtain ⟨ds, rfl⟩ := hn
      refine iteF ?_
      cases ht with
      | @tup a xs _ hS hA =>
      refine ⟨_, rfl, _, _, rfl, .inr hS, rfl, _, rfl, ?_⟩
      by_cases hl : xs.length = 2
      · match xs, hl with
        | [v0, v1], _ =>
        match ds, hA with
        | [d0, d1], .cons h0 (.cons h1 .nil) =>
        refine iteF ?_
        refine ⟨_, rfl, _, _, 0, v0, rfl, rfl, hS, atI_nat (j := 0) rfl, _, _, _, _, _, rfl, .ty _, Dp.ty h0, kit_d K .str d0, _, rfl, ?_⟩
        by_cases w0 : ∃ z, d0 = .str z
        · obtain ⟨z, rfl⟩ := w0
          cases h0
          refine iteF ?_
          have e : isTermT (.d (.tuple [.str z, d1])) = termD z d1 := rfl
          rw [e] at q
          unfold termD at q
          refine ⟨_, rfl, _, _, 0, _, rfl, rfl, hS, atI_nat (j := 0) rfl, rfl, _, rfl, ie (fun c => ?_) (fun c => ?_)⟩
          · rw [if_pos c] at q
            exact ⟨_, rfl, _, _, 1, _, rfl, rfl, hS, atI_nat (j := 1) rfl, v1, .d d1, rfl, h1, q⟩
          · rw [c, if_neg Bool.false_ne_true] at q
            refine ⟨_, rfl, _, _, 0, _, rfl, rfl, hS, atI_nat (j := 0) rfl, _, _, rfl, .inr (T.t_PLACES _), rfl, rfl, _, rfl, ie (fun c1 => ?_) (fun c1 => ?_)⟩
            · have c1' : inV (.str z) plV = true := c1
              rw [c1', Bool.true_and] at q
              refine ⟨_, rfl, _, _, 1, _, rfl, rfl, hS, atI_nat (j := 1) rfl, v1, .d d1, rfl, h1, _, rfl, ?_⟩
              rw [isWholeT_d]
              by_cases w1 : ∃ b, d1 = .int b
              · obtain ⟨b, rfl⟩ := w1
                cases h1
                refine iteT ?_
                have q : Q (.bl (decide (0 ≤ b) && decide (b < 3))) H := q
                refine ⟨_, rfl, _, _, 1, _, rfl, rfl, hS, atI_nat (j := 1) rfl, _, _, rfl, rfl, _, rfl, ie (fun c2 => ?_) (fun c2 => ?_)⟩
                · rw [c2, Bool.true_and] at q
                  exact ⟨_, _, rfl, rfl, q⟩
                · rw [c2] at q
                  exact q
              · have e2 : isWholeD d1 = false := by
                  cases d1 <;> first | rfl | exact absurd ⟨_, rfl⟩ w1
                rw [e2]
                have e3 : colD d1 = false := by
                  cases d1 <;> first | rfl | exact absurd ⟨_, rfl⟩ w1
                rw [e3] at q
                exact q
            · have c1' : inV (.str z) plV = false := c1
              rw [c1', Bool.false_and] at q
              exact q
        · have e2 : isTy .str d0 = false := by
            cases d0 <;> first | rfl | exact absurd ⟨_, rfl⟩ w0
          rw [e2]
          have e : isTermT (.d (.tuple [d0, d1])) = false := by
            cases d0 <;> first | rfl | exact absurd ⟨_, rfl⟩ w0
          rw [e] at q
          exact q
      · have e2 : decide (V.int (xs.length : Int) = V.int 2) = false := decide_eq_false fun z => hl (by injection z; omega)
        rw [e2]
        have hdl : ds.length ≠ 2 := by
          rw [← DpAll.length hA]
          exact hl
        have e : isTermT (.d (.tuple ds)) = false := by
          match ds, hdl with
          | [], _ => rfl
          | [_], _ => simp [isTermT, isTermD]
          | [_, _], h => exact absurd rfl h
          | _ :: _ :: _ :: _, _ => simp [isTermT, isTermD]
        rw [e] at q
        exact q
    · have e1 : th.is .tup = false := by
        cases th with
        | o => rfl
        | d d => cases d <;> first | rfl | exact absurd ⟨_, rfl⟩ hn
      rw [e1]
      have e : isTermT th = false := by
        cases th with
        | o => rfl
        | d d => cases d <;> first | rfl | exact absurd ⟨_, rfl⟩ hn
      rw [e] at q
      exact q
/-! is_atom -/
def isAtomD : PyData → Bool
  | .tuple [.str z, d1, d2] => inV (.str z) sgV && (isTermD d1 && isTermD d2)
  | _ => false
def isAtomT : Th → Bool
  | Th.d x => isAtomD x
  | Th.o => false
def spIsAtom (K : PySem.W.Frag) : Sp := fun vs H Q _ => ∃ v th, vs = [v] ∧ ThOk K H v th ∧ Q (.bl (isAtomT th)) H
theorem d_is_atom (T : Txt K mg) : Dn P w K mg base CX0 4 "is_atom" (spIsAtom K) := by
  obtain ⟨fd, F⟩ := T.f_is_atom
  have D_is_term := d_is_term (P := P) (w := w) (base := base) T
  refine dnN T.g_is_atom F (fun _ _ _ _ _ _ us hl => match us, hl with | [_], _ => rfl) sc_is_atom (fun vs H Q E h => ?_) (fun cdv A outer s H vs Q E hr h => ?_)
  · obtain ⟨v, th, rfl, _⟩ := h
    rfl
  · obtain ⟨v, th, rfl, ht, q⟩ := h
    obtain ⟨t, ty, ki⟩ := ht.ty
    refine ⟨_, PSs.nox (pss_cons (ps_if (PW.pt (pw_or (pt_not (pt_val (pe_callB call_isi (by rfl) T.z_isinstance (by decide +kernel) (pa_cons (pv 0) (pa_cons (pe_bltn (v := .ty "tuple") (by rfl) T.z_tuple (by decide +kernel) rfl) pa_nil))))) (pw_or (pt_cmpR op_ne (pe_callB call_len_seq (by rfl) T.z_len (by decide +kernel) (pa_cons (pv 0) pa_nil)) pe_int (nomark _)) (pw_or1 (pt_not (pt_val (pe_callB call_isi (by rfl) T.z_isinstance (by decide +kernel) (pa_cons (pe_ix ix_tup (pv 0) pe_int (fun _ _ => rfl)) (pa_cons (pe_bltn (v := .ty "str") (by rfl) T.z_str (by decide +kernel) rfl) pa_nil))))))))) (pss_one (ps_ret pe_bl)) pss_nil)
      (pss_one (ps_ret (pe_and (pe_cmpR op_in_seq (pe_ix ix_tup (pv 0) pe_int (fun _ _ => rfl)) (pe_glob (v := .ref (ga K "SIGNS")) (by rfl) T.g_SIGNS rfl) (by rfl)) (pe_and (cl D_is_term (hr.mono (by decide)) (pa_cons (pe_ix ix_tup (pv 0) pe_int (fun _ _ => rfl)) pa_nil)) (pe_one (cl D_is_term (hr.mono (by decide)) (pa_cons (pe_ix ix_tup (pv 0) pe_int (fun _ _ => rfl)) pa_nil)))))))), ?_⟩
    refine ⟨_, rfl, _, _, t, _, _, rfl, .ty _, ty, ki .tup, _, rfl, ?_⟩
    by_cases hn : ∃ ds, th = .d (.tuple ds)
    · obtain ⟨ds, rfl⟩ := hn
      refine iteF ?_
      cases ht with
      | @tup a xs _ hS hA =>
      refine ⟨_, rfl, _, _, rfl, .inr hS, rfl, _, rfl, ?_⟩
      by_cases hl : xs.length = 3
      · match xs, hl with
        | [v0, v1, v2], _ =>
        match ds, hA with
        | [d0, d1, d2], .cons h0 (.cons h1 (.cons h2 .nil)) =>
        refine iteF ?_
        refine ⟨_, rfl, _, _, 0, v0, rfl, rfl, hS, atI_nat (j := 0) rfl, _, _, _, _, _, rfl, .ty _, Dp.ty h0, kit_d K .str d0, _, rfl, ?_⟩
        by_cases w0 : ∃ z, d0 = .str z
        · obtain ⟨z, rfl⟩ := w0
          cases h0
          refine iteF ?_
          have e : isAtomT (.d (.tuple [.str z, d1, d2])) = (inV (.str z) sgV && (isTermD d1 && isTermD d2)) := rfl
          rw [e] at q
          refine ⟨_, rfl, _, _, 0, _, rfl, rfl, hS, atI_nat (j := 0) rfl, _, _, rfl, .inr (T.t_SIGNS _), rfl, rfl, _, rfl, ie (fun c1 => ?_) (fun c1 => ?_)⟩
          · have c1' : inV (.str z) sgV = true := c1
            rw [c1', Bool.true_and] at q
            refine ⟨_, rfl, _, _, 1, _, rfl, rfl, hS, atI_nat (j := 1) rfl, v1, .d d1, rfl, h1, _, rfl, ie (fun c2 => ?_) (fun c2 => ?_)⟩
            · have c2' : isTermD d1 = true := c2
              rw [c2', Bool.true_and] at q
              exact ⟨_, rfl, _, _, 2, _, rfl, rfl, hS, atI_nat (j := 2) rfl, v2, .d d2, rfl, h2, q⟩
            · have c2' : isTermD d1 = false := c2
              rw [c2', Bool.false_and] at q
              exact q
          · have c1' : inV (.str z) sgV = false := c1
            rw [c1', Bool.false_and] at q
            exact q
        · have e2 : isTy .str d0 = false := by
            cases d0 <;> first | rfl | exact absurd ⟨_, rfl⟩ w0
          rw [e2]
          have e : isAtomT (.d (.tuple [d0, d1, d2])) = false := by
            cases d0 <;> first | rfl | exact absurd ⟨_, rfl⟩ w0
          rw [e] at q
          exact q
      · have e2 : decide (V.int (xs.length : Int) = V.int 3) = false := decide_eq_false fun z => hl (by injection z; omega)
        rw [e2]
        have hdl : ds.length ≠ 3 := by
          rw [← DpAll.length hA]
          exact hl
        have e : isAtomT (.d (.tuple ds)) = false := by
          match ds, hdl with
          | [], _ => rfl
          | [_], _ => simp [isAtomT, isAtomD]
          | [_, _], _ => simp [isAtomT, isAtomD]
          | [_, _, _], h => exact absurd rfl h
          | _ :: _ :: _ :: _ :: _, _ => simp [isAtomT, isAtomD]
        rw [e] at q
        exact q
    · have e1 : th.is .tup = false := by
        cases th with
        | o => rfl
        | d d => cases d <;> first | rfl | exact absurd ⟨_, rfl⟩ hn
      rw [e1]
      have e : isAtomT th = false := by
        cases th with
        | o => rfl
        | d d => cases d <;> first | rfl | exact absurd ⟨_, rfl⟩ hn
      rw [e] at q
      exact q
/-! is_word -/
def ltL : List Nat := (List.range 26).map (· + 97)
def wordS (z : Str) : Bool := (decide (1 ≤ (tl z).length) && decide ((tl z).length ≤ 8)) && (tl z).all fun c => decide (c ∈ ltL)
def isWordD : PyData → Bool
  | .str z => wordS z
  | _ => false
theorem tl_letters : tl ("abcdefghijklmnopqrstuvwxyz" : Str) = ltL := by decide +kernel
theorem mem_letters (c : Nat) : decide (c ∈ tl ("abcdefghijklmnopqrstuvwxyz" : Str)) = decide (c ∈ ltL) := by rw [tl_letters]
def spWord (K : PySem.W.Frag) : Sp := fun vs H Q _ => ∃ v d, vs = [v] ∧ Dp K H v d ∧ (∀ z, d = .str z → z.length ≤ 100000) ∧ Q (.bl (isWordD d)) H
theorem d_is_word (T : Txt K mg) : Dn P w K mg base CX0 1 "is_word" (spWord K) := by
  obtain ⟨fd, F⟩ := T.f_is_word
  refine dnN T.g_is_word F (fun _ _ _ _ _ _ us hl => match us, hl with | [_], _ => rfl) sc_is_word (fun vs H Q E h => ?_) (fun cdv A outer s H vs Q E hr h => ?_)
  · obtain ⟨v, d, rfl, _⟩ := h
    rfl
  · obtain ⟨v, d, rfl, hd, hlz, q⟩ := h
    refine ⟨_, PSs.nox (pss_cons (ps_if (PW.pt (pw_or (pt_not (pt_val (pe_callB call_isi (by rfl) T.z_isinstance (by decide +kernel) (pa_cons (pv 0) (pa_cons (pe_bltn (v := .ty "str") (by rfl) T.z_str (by decide +kernel) rfl) pa_nil))))) (pw_or1 (pt_not (pt_chain op_le op_le pe_int (pe_callB call_len_str (by rfl) T.z_len (by decide +kernel) (pa_cons (pv 0) pa_nil)) pe_int))))) (pss_one (ps_ret pe_bl)) pss_nil)
      (pss_cons (ps_for PassesOwn.never rfl (pi_str (pv 0)) (pg_name (i := 1) sc_is_word.nd rfl (.inl rfl))
      (pss_one (ps_if (pt_cmpR op_notIn_sign (pv 1) (pe_gv T.g_LETTERS) (by rfl)) (pss_one (ps_ret pe_bl)) pss_nil)))
      (pss_one (ps_ret pe_bl)))), ?_⟩
    refine ⟨_, rfl, _, _, _, _, _, rfl, .ty _, Dp.ty hd, kit_d K .str d, _, rfl, ?_⟩
    by_cases w0 : ∃ z, d = .str z
    · obtain ⟨z, rfl⟩ := w0
      cases hd
      refine iteF ?_
      have hz' : z.length ≤ sizeLine := small40 (hlz z rfl)
      have hlt := len_tl z
      have qf : isWordD (.str z) = false → Q (.bl false) H := fun e => by rw [e] at q; exact q
      refine ⟨_, rfl, _, rfl, hz', _, _, rfl, rfl, _, rfl, ?_⟩
      cases c1 : decide ((1 : Int) ≤ (z.length : Nat)) with
      | false =>
        have := of_decide_eq_false c1
        refine iteF ⟨_, rfl, iteT ?_⟩
        refine qf ?_
        show ((decide (1 ≤ (tl z).length) && decide ((tl z).length ≤ 8)) && _) = false
        rw [decide_eq_false (by omega)]
        rfl
      | true =>
        have := of_decide_eq_true c1
        refine iteT ⟨_, _, rfl, rfl, _, rfl, ?_⟩
        cases c2 : decide (((z.length : Nat) : Int) ≤ 8) with
        | false =>
          have := of_decide_eq_false c2
          refine iteT ?_
          refine qf ?_
          show ((decide (1 ≤ (tl z).length) && decide ((tl z).length ≤ 8)) && _) = false
          rw [decide_eq_false (show ¬ (tl z).length ≤ 8 by omega), Bool.and_false]
          rfl
        | true =>
          have := of_decide_eq_true c2
          refine iteF ?_
          have eW : isWordD (.str z) = (tl z).all fun c => decide (c ∈ ltL) := by
            show ((decide (1 ≤ (tl z).length) && decide ((tl z).length ≤ 8)) && _) = _
            rw [decide_eq_true (by omega), decide_eq_true (by omega)]
            rfl
          refine ⟨_, rfl, _, rfl, for_it walk_str (fun i σ H' => ∃ v, σ = [some (.str z), v] ∧ H' = H ∧ ((tl z).take i).all (fun c => decide (c ∈ ltL)) = true) ⟨none, rfl, rfl, rfl⟩ (fun _ _ _ _ _ => trivial) ?_ ?_⟩
          · rintro i x σ H1 H2 hi ⟨v, rfl, rfl, ha⟩ ⟨rfl, c, hc, rfl⟩
            have hc' : (tl z)[i]? = some c := by rw [← hc]; simp
            obtain ⟨u, hu1, hu2⟩ := T.g_LETTERS
            refine ⟨_, rfl, _, _, rfl, rfl, _, rfl, ?_⟩
            rw [mem_letters]
            cases hd : decide (c ∈ ltL) with
            | true =>
              refine iteF ⟨_, rfl, rfl, ?_⟩
              rw [List.take_add_one, hc', List.all_append, ha]
              simp [of_decide_eq_true hd]
            | false =>
              refine iteT ?_
              refine qf ?_
              rw [eW, Bool.eq_false_iff]
              intro h
              have := List.all_eq_true.mp h c (List.mem_of_getElem? hc')
              rw [hd] at this
              cases this
          · rintro σ H1 ⟨v, rfl, rfl, ha⟩
            have ha' : (tl z).all (fun c => decide (c ∈ ltL)) = true := by
              have e : z.cps.size = (tl z).length := by simp
              rw [e, List.take_length] at ha
              exact ha
            rw [eW, ha'] at q
            exact q
    · have e2 : isTy .str d = false := by
        cases d <;> first | rfl | exact absurd ⟨_, rfl⟩ w0
      rw [e2]
      refine iteT ?_
      have e : isWordD d = false := by
        cases d <;> first | rfl | exact absurd ⟨_, rfl⟩ w0
      rw [e] at q
      exact q

/-! terms, atoms and rows, as the law and the program have them -/
inductive Pl where
  | old | first | second
  deriving DecidableEq
def Pl.s : Pl → Str
  | .old => "old"
  | .first => "first"
  | .second => "second"
inductive Tm where
  | cell (p : Pl) (c : Nat)
  | val (a b : Int)
  deriving DecidableEq
inductive Sg where
  | lt | le | eq | ne
  deriving DecidableEq
def Sg.s : Sg → Str
  | .lt => "<"
  | .le => "<="
  | .eq => "="
  | .ne => "!="
structure At where
  s : Sg
  l : Tm
  r : Tm
  deriving DecidableEq
def valD (x : Int × Int) : PyData := .tuple [.int x.1, .int x.2]
def Tm.d : Tm → PyData
  | .cell p c => .tuple [.str p.s, .int (c : Nat)]
  | .val a b => .tuple [.str "value", valD (a, b)]
def At.d (a : At) : PyData := .tuple [.str a.s.s, a.l.d, a.r.d]
abbrev Row := Option (List (Int × Int))
def rowD : Row → PyData
  | none => .none
  | some l => .tuple (l.map valD)
/-- a value: lowest terms, not too great -/
structure Vl (x : Int × Int) : Prop where
  low : Low x.1 x.2
  top : x.1.natAbs < 2 ^ 70
  bot : x.2.natAbs < 2 ^ 70
def Tm.ok : Tm → Prop
  | .cell _ c => c < 3
  | .val a b => Vl (a, b)
def At.ok (a : At) : Prop := a.l.ok ∧ a.r.ok
def rowOk (r : Row) : Prop := ∀ l, r = some l → (l.length ≤ 3 ∧ ∀ x ∈ l, Vl x)
def Tm.at (r : Pl → Row) : Tm → Option (Int × Int)
  | .val a b => some (a, b)
  | .cell p c => (r p).bind fun l => l[c]?
def Sg.holds : Sg → Int × Int → Int × Int → Bool
  | .lt, x, y => decide (x.1 * y.2 < y.1 * x.2)
  | .le, x, y => !decide (y.1 * x.2 < x.1 * y.2)
  | .eq, x, y => decide (x = y)
  | .ne, x, y => !decide (x = y)
def At.at (r : Pl → Row) (a : At) : Option Bool := match a.l.at r, a.r.at r with
  | some x, some y => some (a.s.holds x y)
  | _, _ => none
def holdO (r : Pl → Row) (as : List At) : Option Bool := if (as.any fun a => (a.at r).isNone) = true then none else some (as.all fun a => decide (a.at r = some true))
theorem Pl.ne_value (p : Pl) : decide (V.str p.s = V.str "value") = false := by cases p <;> decide +kernel
theorem Pl.inj {p q : Pl} : (p.s == q.s) = decide (p = q) := by cases p <;> cases q <;> decide +kernel
theorem Sg.inj {p q : Sg} : (p.s == q.s) = decide (p = q) := by cases p <;> cases q <;> decide +kernel
theorem isVal_of {x : Int × Int} (h : Low x.1 x.2) : isValD (valD x) = true := by
  show (!decide (x.2 < 1) && decide (cd x.1 x.2 = 1)) = true
  rw [decide_eq_false (by have := h.1; omega), decide_eq_true h.2]
  rfl
theorem Tm.isTerm {t : Tm} (h : t.ok) : isTermD t.d = true := by
  cases t with
  | cell p c =>
    show termD p.s (.int (c : Nat)) = true
    unfold termD
    rw [Pl.ne_value, if_neg Bool.false_ne_true]
    have h' : c < 3 := h
    have e1 : inV (.str p.s) plV = true := by cases p <;> decide +kernel
    rw [e1]
    show (decide ((0 : Int) ≤ (c : Nat)) && decide (((c : Nat) : Int) < 3)) = true
    rw [decide_eq_true (by omega), decide_eq_true (by omega)]
    rfl
  | val a b =>
    show termD "value" (valD (a, b)) = true
    unfold termD
    rw [if_pos (by decide +kernel)]
    exact isVal_of (x := (a, b)) h.low
theorem At.isAtom {a : At} (h : a.ok) : isAtomD a.d = true := by
  show (inV (.str a.s.s) sgV && (isTermD a.l.d && isTermD a.r.d)) = true
  have e1 : inV (.str a.s.s) sgV = true := by cases a.s <;> decide +kernel
  rw [e1, Tm.isTerm h.1, Tm.isTerm h.2]
  rfl
theorem eqv_int (i j : Int) : PyData.eqv (.int i) (.int j) = decide (i = j) := by
  show (i == j) = _
  by_cases h : i = j
  · subst h; simp
  · rw [decide_eq_false h, beq_eq_false_iff_ne.mpr h]
theorem eqv_valD (x y : Int × Int) : PyData.eqv (valD x) (valD y) = decide (x = y) := by
  show (PyData.eqv (.int x.1) (.int y.1) && (PyData.eqv (.int x.2) (.int y.2) && true)) = _
  rw [eqv_int, eqv_int, Bool.and_true, ← Bool.decide_and]
  exact decide_eq_decide.mpr ⟨fun h => Prod.ext h.1 h.2, fun h => by subst h; exact ⟨rfl, rfl⟩⟩
theorem eqv_tm (x y : Tm) : PyData.eqv x.d y.d = decide (x = y) := by
  cases x with
  | cell p c =>
    cases y with
    | cell q e =>
      show ((p.s == q.s) && (PyData.eqv (.int (c : Nat)) (.int (e : Nat)) && true)) = _
      rw [Pl.inj, eqv_int, Bool.and_true, ← Bool.decide_and]
      refine decide_eq_decide.mpr ⟨fun h => ?_, fun h => by cases h; exact ⟨rfl, rfl⟩⟩
      obtain ⟨rfl, h2⟩ := h
      have : c = e := by omega
      subst this
      rfl
    | val a b =>
      show ((p.s == "value") && (PyData.eqv (.int (c : Nat)) (valD (a, b)) && true)) = _
      rw [show (p.s == ("value" : Str)) = false by cases p <;> decide +kernel, decide_eq_false (by intro h; cases h)]
      rfl
  | val a b =>
    cases y with
    | cell q e =>
      show ((("value" : Str) == q.s) && (PyData.eqv (valD (a, b)) (.int (e : Nat)) && true)) = _
      rw [show (("value" : Str) == q.s) = false by cases q <;> decide +kernel, decide_eq_false (by intro h; cases h)]
      rfl
    | val c d =>
      show ((("value" : Str) == "value") && (PyData.eqv (valD (a, b)) (valD (c, d)) && true)) = _
      rw [eqv_valD, show (("value" : Str) == "value") = true by decide +kernel, Bool.true_and, Bool.and_true]
      exact decide_eq_decide.mpr ⟨fun h => by cases h; rfl, fun h => by cases h; rfl⟩
theorem eqv_at (x y : At) : PyData.eqv x.d y.d = decide (x = y) := by
  show ((x.s.s == y.s.s) && (PyData.eqv x.l.d y.l.d && (PyData.eqv x.r.d y.r.d && true))) = _
  rw [Sg.inj, eqv_tm, eqv_tm, Bool.and_true, ← Bool.decide_and, ← Bool.decide_and]
  refine decide_eq_decide.mpr ⟨fun h => ?_, fun h => by subst h; exact ⟨rfl, rfl, rfl⟩⟩
  obtain ⟨xs, xl, xr⟩ := x
  obtain ⟨ys, yl, yr⟩ := y
  obtain ⟨h1, h2, h3⟩ := h
  dsimp only at h1 h2 h3
  subst h1 h2 h3
  rfl
theorem Pd.valD (x : Int × Int) : Pd (valD x) := ⟨rfl, rfl, by show 1 ≤ 16; decide⟩
theorem Tm.pd (t : Tm) : Pd t.d ∧ t.d.depth ≤ 2 := by
  cases t with
  | cell p c => exact ⟨⟨rfl, (show (PyData.strOk p.s && (true && true)) = true from by cases p <;> decide +kernel), by show 1 ≤ 16; decide⟩, by show 1 ≤ 2; decide⟩
  | val a b => exact ⟨⟨rfl, (show (PyData.strOk "value" && ((true && (true && true)) && true)) = true from by decide +kernel), by show 2 ≤ 16; decide⟩, by show 2 ≤ 2; decide⟩
theorem At.pd (a : At) : Pd a.d := by
  obtain ⟨h1, e1⟩ := Tm.pd a.l
  obtain ⟨h2, e2⟩ := Tm.pd a.r
  refine ⟨?_, ?_, ?_⟩
  · show (true && (noL a.l.d && (noL a.r.d && true))) = true
    rw [h1.nl, h2.nl]; rfl
  · show (PyData.strOk a.s.s && (a.l.d.canLay0 && (a.r.d.canLay0 && true))) = true
    rw [h1.cl, h2.cl, show PyData.strOk a.s.s = true by cases a.s <;> decide +kernel]; rfl
  · show max 0 (max a.l.d.depth (max a.r.d.depth 0)) + 1 ≤ 16
    omega
theorem rowD_pd (r : Row) : Pd (rowD r) := by
  cases r with
  | none => exact ⟨rfl, rfl, by decide⟩
  | some l =>
    have h : Pds (l.map valD) ∧ PyData.depthAll (l.map valD) ≤ 1 := by
      refine ⟨fun d hd => ?_, ?_⟩
      · obtain ⟨x, _, rfl⟩ := List.mem_map.mp hd
        exact Pd.valD x
      · induction l with
        | nil => exact Nat.zero_le _
        | cons x r ih => exact Nat.max_le.mpr ⟨Nat.le_refl 1, ih⟩
    exact ⟨h.1.nl, h.1.cl, by show PyData.depthAll (l.map valD) + 1 ≤ 16; have := h.2; omega⟩

/-! Conditions.__init__ -/
abbrev aCd (K : PySem.W.Frag) : Addr := ga K "Conditions"
def cdF (l : Addr) : List (Str × V) := putF "kept_atoms" (.ref l) []
theorem cdF_at {l : Addr} : (cdF l).lookup ("kept_atoms" : Str) = some (.ref l) := by
  unfold cdF
  rw [lookup_putF, if_pos rfl]
theorem cdF_no {l : Addr} {m : Str} (h : m ≠ "kept_atoms") : (cdF l).lookup m = none := by
  unfold cdF
  rw [lookup_putF, if_neg h]
  rfl
/-- each atom once -/
def ddS (acc : List At) (a : At) : List At := if (acc.any fun z => decide (z = a)) = true then acc else acc ++ [a]
def dd (as : List At) : List At := as.foldl ddS []
theorem dd_snoc (as : List At) (a : At) : dd (as ++ [a]) = ddS (dd as) a := by
  unfold dd
  rw [List.foldl_append]
  rfl
theorem dd_len (as : List At) : (dd as).length ≤ as.length := by
  have h : ∀ (l acc : List At), (l.foldl ddS acc).length ≤ acc.length + l.length := by
    intro l
    induction l with
    | nil => intro acc; exact Nat.le_refl _
    | cons a r ih =>
      intro acc
      have h1 := ih (ddS acc a)
      have h2 : (ddS acc a).length ≤ acc.length + 1 := by
        unfold ddS
        split
        · omega
        · rw [List.length_append]; exact Nat.le_refl _
      show (r.foldl ddS (ddS acc a)).length ≤ acc.length + (r.length + 1)
      omega
  have := h as []
  simpa [dd] using this
theorem dd_mem (as : List At) (a : At) : a ∈ dd as ↔ a ∈ as := by
  have h : ∀ (l acc : List At), a ∈ l.foldl ddS acc ↔ a ∈ acc ∨ a ∈ l := by
    intro l
    induction l with
    | nil => intro acc; simp
    | cons b r ih =>
      intro acc
      show a ∈ r.foldl ddS (ddS acc b) ↔ _
      rw [ih]
      have h2 : a ∈ ddS acc b ↔ a ∈ acc ∨ a = b := by
        unfold ddS
        split
        · rename_i hc
          obtain ⟨z, hz, e⟩ := List.any_eq_true.mp hc
          have e' := of_decide_eq_true e
          subst e'
          exact ⟨.inl, fun h => h.elim id (fun e => by rw [e]; exact hz)⟩
        · simp
      rw [h2, List.mem_cons]
      constructor
      · rintro ((h | h) | h)
        · exact .inl h
        · exact .inr (.inl h)
        · exact .inr (.inr h)
      · rintro (h | h | h)
        · exact .inl (.inl h)
        · exact .inl (.inr h)
        · exact .inr h
  have := h as []
  simpa [dd] using this
theorem any_eqv (as : List At) (a : At) : ((as.map At.d).any fun z => PyData.eqv z a.d) = as.any fun z => decide (z = a) := by
  rw [List.any_map]
  congr 1
  funext z
  exact eqv_at z a
theorem pds_at (as : List At) : Pds (as.map At.d) := fun d hd => by
  obtain ⟨a, _, rfl⟩ := List.mem_map.mp hd
  exact At.pd a
def spCd (K : PySem.W.Frag) : Sp := fun args H Q _ => ∃ x dx a vs as, args = [.ref x, .ref a] ∧ H x = some (.ins (aCd K) dx []) ∧ (SqL K H a vs ∨ SqT K H a vs) ∧ DpAll K H vs (as.map At.d) ∧ (∀ a ∈ as, At.ok a) ∧ as.length ≤ 1000 ∧
  ∀ l us H', Md [x] H H' → H l = none → H' x = some (.ins (aCd K) dx (cdF l)) → H' l = some (.lst us) → DpAll K H' us ((dd as).map At.d) → Q .non H'
theorem ok_cd (T : Txt K mg) : ∃ fd, FunD K "__init__" "Conditions.__init__" (defArgs s_Conditions___init__) (defBody s_Conditions___init__) (defScope s_Conditions___init__) ([.ref (dflAt ("Conditions", some "__init__") 0 K)] : List V) [] (ma K (ga K "Conditions") "__init__") fd ∧
    FnOk P w K mg base (L2.CX P w) 5 (ma K (ga K "Conditions") "__init__") fd ["self", "atoms"] (spCd K) := by
  obtain ⟨fd, F⟩ := T.f_Conditions___init__
  have D_is_atom := d_is_atom (P := P) (w := w) (base := base) T
  refine ⟨fd, F, F.ok sc_Conditions___init__ (fun vs H Q E h => ?_) (fun cdv A outer s H vs Q E hr h => ?_)⟩
  · obtain ⟨x, dx, a, vs, as, rfl, _⟩ := h
    rfl
  · obtain ⟨x, dx, a, vs, as, rfl, hx, ha, hA, hok, hl, hQ⟩ := h
    refine ⟨_, (pss_cons (ps_if (pt_not (pt_val (pe_callB call_isiT (by rfl) T.z_isinstance (by decide +kernel) (pa_cons (pv 1) (pa_cons (pe_tup (pa_cons (pe_bltn (v := .ty "list") (by rfl) T.z_list (by decide +kernel) rfl) (pa_cons (pe_bltn (v := .ty "tuple") (by rfl) T.z_tuple (by decide +kernel) rfl) pa_nil))) pa_nil))))) (pss_one (EL.rs (by rfl) (takes_of rfl rfl rfl rfl) T.x_NoCondition (by rfl))) pss_nil)
      (pss_cons (ps_set (i := 2) sc_Conditions___init__.nd rfl (.inl rfl) (pe_lst pa_nil))
      (pss_cons (ps_for (passes_of rfl) rfl (PI.or_ (pi_list (pv 1)) (pi_tup (pv 1))) (pg_name (i := 3) sc_Conditions___init__.nd rfl (.inl rfl))
      (pss_cons (ps_if (pt_not (pt_val (cl D_is_atom (hr.mono (by decide)) (pa_cons (pv 3) pa_nil)))) (pss_one (EL.rs (by rfl) (takes_of rfl rfl rfl rfl) T.x_NoCondition (by rfl))) pss_nil)
      (pss_one (ps_if (pt_cmpR (op_notInD (u65 hr)) (pv 3) (pv 2) (by rfl)) (pss_one (ps_expr (pe_bm PySem.F.plainAttrs_list PySem.F.slot_list_append PySem.F.type_list_append mt_append (pv 2) (pa_cons (pv 3) pa_nil)))) pss_nil))))
      (pss_one (ps_fld (pv 0) (pv 2) rfl))))), ?_⟩
    refine ⟨_, rfl, (by show 2 ≤ sizeLine; decide), fun tp ntp => ?_⟩
    generalize eH1 : upd H tp _ = H1
    have s1 : Same H H1 := eH1 ▸ same_upd ntp
    have e1 : H1 tp = some _ := eH1 ▸ upd_same
    have lv : vs.length = as.length := by rw [DpAll.length hA, List.length_map]
    have tyA : ∃ t, TyX K H1 (.ref a) t ∧ PySem.W.kitAny K t [.type "list", .type "tuple"] = some true := by
      rcases ha with ha | ha
      · exact ⟨_, SqL.ty (s1.seq ha), kit_any2 K .lst .tup (.list [])⟩
      · exact ⟨_, SqT.ty (Same.seqT s1 ha), kit_any2 K .lst .tup (.tuple [])⟩
    obtain ⟨t, ty, ki⟩ := tyA
    refine ⟨_, tp, _, t, _, true, rfl, e1, .cons (.ty _) (.cons (.ty _) .nil), ty, ki, _, rfl, iteF ?_⟩
    refine ⟨(by show 0 ≤ sizeLine; decide), fun kl nkl => ?_⟩
    generalize eH2 : upd H1 kl _ = H2
    have s2 : Same H1 H2 := eH2 ▸ same_upd nkl
    have e2 : H2 kl = some _ := eH2 ▸ upd_same
    have s12 := s1.trans s2
    have nk0 : H kl = none := s1.free nkl
    have hx2 := s12 _ _ hx
    have nkx : kl ≠ x := fun z => by rw [z, hx] at nk0; cases nk0
    have step : ∀ (i : Nat) (xv : V) (σ : L2.St) (H' : Hp), vs[i]? = some xv → (∃ o, σ = [some (.ref x), some (.ref a), some (.ref kl), o]) → (∃ us, H' kl = some (.lst us) ∧ DpAll K H' us ((dd (as.take i)).map At.d) ∧ Md [kl] H2 H') → ∃ at_, as[i]? = some at_ ∧ Dp K H' xv at_.d := by
      rintro i xv σ H' hg _ ⟨us, _, _, m⟩
      obtain ⟨d, hd, hdp⟩ := DpAll.get hA hg
      rw [List.getElem?_map] at hd
      cases he : as[i]? with
      | none => rw [he] at hd; cases hd
      | some at_ =>
        rw [he] at hd
        have e : at_.d = d := Option.some.inj hd
        subst e
        exact ⟨at_, rfl, m.dp (At.pd at_).nl (Dp.same s12 hdp)⟩
    have fin : ∀ H', (∃ us, H' kl = some (.lst us) ∧ DpAll K H' us ((dd (as.take as.length)).map At.d) ∧ Md [kl] H2 H') → Q .non (upd H' x (.ins (aCd K) dx (putF "kept_atoms" (.ref kl) []))) := by
      rintro H' ⟨us, eu, au, m⟩
      rw [List.take_length] at au
      have hx' := m.out _ _ hx2 (by simp; exact Ne.symm nkx)
      have mx : Md [x] H' (upd H' x (.ins (aCd K) dx (putF "kept_atoms" (.ref kl) []))) := Md.upd hx' rfl (by simp)
      have m0 : Md [x] H H' := Md.mono (S := []) (Md.newM (S := []) (m) (Md.of s12) nk0) (by simp)
      exact hQ kl us _ (m0.trans mx) nk0 upd_same (by rw [upd_ne nkx]; exact eu) (mx.dpAll (pds_at _).nl au)
    have body : ∀ (i : Nat) (xv : V) (σ : L2.St) (H' : Hp) (NX : L2.St → Hp → Prop), vs[i]? = some xv → (∃ o, σ = [some (.ref x), some (.ref a), some (.ref kl), o]) ∧ (∃ us, H' kl = some (.lst us) ∧ DpAll K H' us ((dd (as.take i)).map At.d) ∧ Md [kl] H2 H') →
        (∀ σ' H'', (∃ o, σ' = [some (.ref x), some (.ref a), some (.ref kl), o]) ∧ (∃ us, H'' kl = some (.lst us) ∧ DpAll K H'' us ((dd (as.take (i + 1))).map At.d) ∧ Md [kl] H2 H'') → NX σ' H'') →
        (∃ at_ us, Dp K H' xv (At.d at_) ∧ At.ok at_ ∧ H' kl = some (.lst us) ∧ us.length < sizeLine ∧ DpAll K H' us ((dd (as.take i)).map At.d) ∧ ((((dd (as.take i)).map At.d).any fun z => PyData.eqv z at_.d) = true → NX [some (.ref x), some (.ref a), some (.ref kl), some xv] H') ∧
          ((((dd (as.take i)).map At.d).any fun z => PyData.eqv z at_.d) = false → NX [some (.ref x), some (.ref a), some (.ref kl), some xv] (upd H' kl (.lst (us ++ [xv]))))) := by
      rintro i xv σ H' NX hg ⟨ho, us, eu, au, m⟩ hN
      obtain ⟨at_, hat, hdp⟩ := step i xv σ H' hg ho ⟨us, eu, au, m⟩
      have tk1 : as.take (i + 1) = as.take i ++ [at_] := by rw [List.take_add_one, hat]; rfl
      have hlu : us.length < sizeLine := by
        rw [DpAll.length au, List.length_map]
        have h1 := dd_len (as.take i)
        rw [List.length_take] at h1
        exact Nat.lt_of_le_of_lt (Nat.le_trans h1 (Nat.le_trans (Nat.min_le_right _ _) hl)) (by decide)
      refine ⟨at_, us, hdp, hok _ (List.mem_of_getElem? hat), eu, hlu, au, fun c => ?_, fun c => ?_⟩
      · refine hN _ _ ⟨⟨_, rfl⟩, us, eu, ?_, m⟩
        rw [any_eqv] at c
        rw [tk1, dd_snoc, ddS, if_pos c]
        exact au
      · have mu : Md [kl] H' (upd H' kl (.lst (us ++ [xv]))) := Md.upd eu rfl (by simp)
        refine hN _ _ ⟨⟨_, rfl⟩, _, upd_same, ?_, m.trans mu⟩
        rw [any_eqv] at c
        rw [tk1, dd_snoc, ddS, if_neg (by rw [c]; exact Bool.false_ne_true), List.map_append]
        exact DpAll.snoc (mu.dp (At.pd at_).nl hdp) (mu.dpAll (pds_at _).nl au)
    have start : (∃ o : Option V, ([some (.ref x), some (.ref a), some (.ref kl), none] : L2.St) = [some (.ref x), some (.ref a), some (.ref kl), o]) ∧ ∃ us, H2 kl = some (.lst us) ∧ DpAll K H2 us ((dd (as.take 0)).map At.d) ∧ Md [kl] H2 H2 := ⟨⟨none, rfl⟩, [], e2, .nil, .refl _ _⟩
    rcases ha with ha | ha
    · refine .inl ⟨_, rfl, a, rfl, ⟨_, s12.seq ha⟩, for_list (K := K) (a := a) (xs := vs) (fun i σ H' => (∃ o, σ = [some (.ref x), some (.ref a), some (.ref kl), o]) ∧ ∃ us, H' kl = some (.lst us) ∧ DpAll K H' us ((dd (as.take i)).map At.d) ∧ Md [kl] H2 H') start (fun i σ H' _ h => ?_) ?_ ?_⟩
      · obtain ⟨_, us, _, _, m⟩ := h
        exact SqL.new ha (Md.newM (S := []) m (Md.of s12) nk0) (by simp)
      · rintro i xv σ H' hg h
        obtain ⟨at_, us, hdp, hao, eu, hlu, au, h1, h2⟩ := body i xv σ H' _ hg h (fun _ _ z => z)
        obtain ⟨⟨o, rfl⟩, _⟩ := h
        refine ⟨_, rfl, xv, .d at_.d, rfl, hdp, _, rfl, ?_⟩
        rw [show isAtomT (.d at_.d) = true from At.isAtom hao]
        refine iteF ?_
        refine ⟨_, rfl, _, rfl, at_.d, _, hdp, .lst (SqL.of eu) au, (At.pd at_).shaped, (pds_at _).shaped, _, rfl, ie (fun c => ?_) (fun c => ?_)⟩
        · have c' : (((dd (as.take i)).map At.d).any fun z => PyData.eqv z at_.d) = false := by
            cases hb : (((dd (as.take i)).map At.d).any fun z => PyData.eqv z at_.d) with
            | false => rfl
            | true => rw [hb] at c; cases c
          exact ⟨_, rfl, .inl ⟨rfl, _, SqL.of eu⟩, _, rfl, kl, _, _, rfl, rfl, eu, hlu, h2 c'⟩
        · have c' : (((dd (as.take i)).map At.d).any fun z => PyData.eqv z at_.d) = true := by
            cases hb : (((dd (as.take i)).map At.d).any fun z => PyData.eqv z at_.d) with
            | true => rfl
            | false => rw [hb] at c; cases c
          exact h1 c'
      · rintro σ H' ⟨⟨o, rfl⟩, h⟩
        have h' : ∃ us, H' kl = some (.lst us) ∧ DpAll K H' us ((dd (as.take as.length)).map At.d) ∧ Md [kl] H2 H' := by rw [← lv]; exact h
        obtain ⟨us, eu, au, m⟩ := id h'
        exact ⟨_, rfl, _, rfl, _, _, _, _, rfl, m.out _ _ hx2 (by simp; exact Ne.symm nkx), T.o_Conditions.cl, T.n_Conditions_kept_atoms, (by show 0 < 1000; decide), fin H' h'⟩
    · refine .inr ⟨_, rfl, a, rfl, ⟨_, Same.seqT s12 ha⟩, for_tup (K := K) (a := a) (xs := vs) (fun i σ H' => (∃ o, σ = [some (.ref x), some (.ref a), some (.ref kl), o]) ∧ ∃ us, H' kl = some (.lst us) ∧ DpAll K H' us ((dd (as.take i)).map At.d) ∧ Md [kl] H2 H') start (fun i σ H' _ h => ?_) ?_ ?_⟩
      · obtain ⟨_, us, _, _, m⟩ := h
        exact m.sqT (Same.seqT s12 ha)
      · rintro i xv σ H' hg h
        obtain ⟨at_, us, hdp, hao, eu, hlu, au, h1, h2⟩ := body i xv σ H' _ hg h (fun _ _ z => z)
        obtain ⟨⟨o, rfl⟩, _⟩ := h
        refine ⟨_, rfl, xv, .d at_.d, rfl, hdp, _, rfl, ?_⟩
        rw [show isAtomT (.d at_.d) = true from At.isAtom hao]
        refine iteF ?_
        refine ⟨_, rfl, _, rfl, at_.d, _, hdp, .lst (SqL.of eu) au, (At.pd at_).shaped, (pds_at _).shaped, _, rfl, ie (fun c => ?_) (fun c => ?_)⟩
        · have c' : (((dd (as.take i)).map At.d).any fun z => PyData.eqv z at_.d) = false := by
            cases hb : (((dd (as.take i)).map At.d).any fun z => PyData.eqv z at_.d) with
            | false => rfl
            | true => rw [hb] at c; cases c
          exact ⟨_, rfl, .inl ⟨rfl, _, SqL.of eu⟩, _, rfl, kl, _, _, rfl, rfl, eu, hlu, h2 c'⟩
        · have c' : (((dd (as.take i)).map At.d).any fun z => PyData.eqv z at_.d) = true := by
            cases hb : (((dd (as.take i)).map At.d).any fun z => PyData.eqv z at_.d) with
            | true => rfl
            | false => rw [hb] at c; cases c
          exact h1 c'
      · rintro σ H' ⟨⟨o, rfl⟩, h⟩
        have h' : ∃ us, H' kl = some (.lst us) ∧ DpAll K H' us ((dd (as.take as.length)).map At.d) ∧ Md [kl] H2 H' := by rw [← lv]; exact h
        obtain ⟨us, eu, au, m⟩ := id h'
        exact ⟨_, rfl, _, rfl, _, _, _, _, rfl, m.out _ _ hx2 (by simp; exact Ne.symm nkx), T.o_Conditions.cl, T.n_Conditions_kept_atoms, (by show 0 < 1000; decide), fin H' h'⟩
/-! Conditions objects -/
structure CdAt (K : PySem.W.Frag) (H : Hp) (x dx l : Addr) (as : List At) : Prop where
  hx : H x = some (.ins (aCd K) dx (cdF l))
  hl : ∃ vs, H l = some (.lst vs) ∧ DpAll K H vs (as.map At.d)
  ok : ∀ a ∈ as, At.ok a
theorem CdAt.md {H H' : Hp} {x dx l : Addr} {as : List At} {S : List Addr} (C : CdAt K H x dx l as) (m : Md S H H') (h1 : x ∉ S) (h2 : l ∉ S) : CdAt K H' x dx l as := by
  obtain ⟨hx, ⟨vs, e, a⟩, ok⟩ := C
  exact ⟨m.out _ _ hx h1, ⟨vs, m.out _ _ e h2, m.dpAll (pds_at as).nl a⟩, ok⟩
theorem CdAt.same {H H' : Hp} {x dx l : Addr} {as : List At} (C : CdAt K H x dx l as) (s : Same H H') : CdAt K H' x dx l as := C.md (S := []) (.of s) (by simp) (by simp)
theorem at_tup {H : Hp} {v : V} {a : At} (h : Dp K H v a.d) : ∃ t v1 v2, v = .ref t ∧ SqT K H t [.str a.s.s, v1, v2] ∧ Dp K H v1 a.l.d ∧ Dp K H v2 a.r.d := by
  cases h with
  | tup hS hA =>
    cases hA with
    | cons h1 hA =>
      cases hA with
      | cons h2 hA =>
        cases hA with
        | cons h3 hA =>
          cases hA
          cases h1
          exact ⟨_, _, _, rfl, hS, h2, h3⟩
theorem getM {α β : Type} {f : α → β} {l : List α} {i : Nat} {d : β} (h : (l.map f)[i]? = some d) : ∃ a, l[i]? = some a ∧ f a = d := by
  rw [List.getElem?_map] at h
  cases e : l[i]? with
  | none => rw [e] at h; cases h
  | some a => rw [e] at h; exact ⟨a, rfl, Option.some.inj h⟩
theorem tk1 {α : Type} {l : List α} {i : Nat} {a : α} (h : l[i]? = some a) : l.take (i + 1) = l.take i ++ [a] := by
  rw [List.take_add_one, h]
  rfl
theorem DpAll.app {H : Hp} : ∀ {ds es : List PyData} {vs us : List V}, DpAll K H vs ds → DpAll K H us es → DpAll K H (vs ++ us) (ds ++ es)
  | _, _, _, _, .nil, h => h
  | _, _, _, _, .cons a b, h => .cons a (DpAll.app b h)
/-! making Conditions -/
theorem mkCd {H : Hp} {a : Addr} {vs : List V} {as : List At} {Q : Addr → Hp → Prop} {E : XK} (ha : SqL K H a vs ∨ SqT K H a vs) (hA : DpAll K H vs (as.map At.d)) (hok : ∀ a ∈ as, At.ok a) (hl : as.length ≤ 1000)
    (hQ : ∀ z dz n H', Same H H' → H z = none → H n = none → z ≠ n → CdAt K H' z dz n (dd as) → Q z H') :
    ∀ x dx, H x = none → H dx = none → dx ≠ x → spCd K [.ref x, .ref a] (upd (upd H dx (.own x)) x (.ins (aCd K) dx [])) (fun v H2 => v = .non ∧ Q x H2) E := by
  intro x dx nx ndx hne
  generalize eH1 : upd (upd H dx _) x _ = H1
  have s1 : Same H H1 := eH1 ▸ (same_upd ndx).trans (same_upd (by rw [upd_ne (Ne.symm hne)]; exact nx))
  have x1 : H1 x = some (.ins (aCd K) dx []) := eH1 ▸ upd_same
  refine ⟨x, dx, a, vs, as, rfl, x1, ha.elim (fun z => .inl (s1.seq z)) (fun z => .inr (Same.seqT s1 z)), DpAll.same s1 hA, hok, hl, fun l us H' m nl hx hu hd => ⟨rfl, ?_⟩⟩
  have sH : Same H H' := fun b o hb => m.out _ _ (s1 _ _ hb) (by simp; exact ne_of_none hb nx)
  have nl0 : H l = none := s1.free nl
  have nxl : x ≠ l := fun z => by rw [← z, x1] at nl; cases nl
  exact hQ x dx l H' sH nx nl0 nxl ⟨hx, ⟨us, hu, hd⟩, fun a ha => hok a ((dd_mem as a).mp ha)⟩
theorem d_cd1 (T : Txt K mg) : FnR P w K mg base (L2.CX P w) 5 (ma K (ga K "Conditions") "__init__") (spCd K) := by
  obtain ⟨fd, F, ok⟩ := ok_cd (P := P) (w := w) (base := base) T
  have := fnD F ok 2 1 (by simp) rfl (fun _ _ _ _ _ _ _ us its h1 h2 => match us, its, h1, h2 with | [_, _], [_], _, _ => ⟨_, rfl, rfl⟩)
  exact this.imp fun vs H Q E h => by
    rw [show ([V.ref (dflAt ("Conditions", some "__init__") 0 K)] : List V).drop 1 = [] from rfl, List.append_nil]
    exact h
theorem d_cd0 (T : Txt K mg) : FnR P w K mg base (L2.CX P w) 5 (ma K (ga K "Conditions") "__init__") (fun vs H Q E => spCd K (vs ++ [.ref (dflAt ("Conditions", some "__init__") 0 K)]) H Q E) := by
  obtain ⟨fd, F, ok⟩ := ok_cd (P := P) (w := w) (base := base) T
  exact fnD F ok 1 0 (by simp) rfl (fun _ _ _ _ _ _ _ us its h1 h2 => match us, its, h1, h2 with | [_], [_], _, _ => ⟨_, rfl, rfl⟩)

end
end K11
namespace K11
open PySem PySem.Spec PyProof.Rows L2 He TL EL
section
variable {P : Program} {w : World} {K : PySem.W.Frag} {mg : Str → Option Value} {base : Heap}
/-! Conditions.atoms, __eq__, __iand__ -/
def spAtoms (K : PySem.W.Frag) : Sp := fun vs H Q _ => ∃ x dx l as, vs = [.ref x] ∧ CdAt K H x dx l as ∧ ∀ p us H', H p = none → Same H H' → H' p = some (.lst us) → DpAll K H' us (as.map At.d) → Q (.ref p) H'
theorem d_atoms (T : Txt K mg) : FnR P w K mg base CX0 1 (ma K (ga K "Conditions") "atoms") (spAtoms K) := by
  obtain ⟨fd, F⟩ := T.f_Conditions_atoms
  refine fnN F (fun _ _ _ _ _ _ us hl => match us, hl with | [_], _ => rfl) sc_Conditions_atoms (fun vs H Q E h => ?_) (fun cdv A outer s H vs Q E hr h => ?_)
  · obtain ⟨x, dx, l, as, rfl, _⟩ := h
    rfl
  · obtain ⟨x, dx, l, as, rfl, C, hQ⟩ := h
    obtain ⟨v1, e1, a1⟩ := C.hl
    refine ⟨_, PSs.nox (pss_one (ps_ret (pe_callTy call_list_of (by rfl) T.z_list (by decide +kernel) (pa_cons (pe_fld (pv 0) rfl) pa_nil)))), ?_⟩
    refine ⟨_, rfl, _, _, _, _, _, rfl, C.hx, T.o_Conditions.cl, T.n_Conditions_kept_atoms, cdF_at, _, _, rfl, .inl (SqL.of e1), fun p np => ?_⟩
    generalize eH1 : upd H p _ = H1
    have s1 : Same H H1 := eH1 ▸ same_upd np
    have h1 : H1 p = some _ := eH1 ▸ upd_same
    exact hQ p v1 H1 np s1 h1 (DpAll.same s1 a1)
theorem eqv_ats : ∀ as bs : List At, PyData.eqv (.list (as.map At.d)) (.list (bs.map At.d)) = decide (as = bs)
  | [], [] => rfl
  | [], _ :: _ => rfl
  | _ :: _, [] => rfl
  | t :: ts, u :: us => by
    show (PyData.eqv t.d u.d && PyData.eqv (.list (ts.map At.d)) (.list (us.map At.d))) = _
    rw [eqv_at, eqv_ats ts us, ← Bool.decide_and]
    exact decide_eq_decide.mpr ⟨fun h => by rw [h.1, h.2], fun h => by cases h; exact ⟨rfl, rfl⟩⟩
def spCdEq (K : PySem.W.Frag) : Sp := fun vs H Q _ => ∃ x dx l as y dy m bs, vs = [.ref x, .ref y] ∧ CdAt K H x dx l as ∧ CdAt K H y dy m bs ∧ Q (.bl (decide (as = bs))) H
theorem d_cd_eq (T : Txt K mg) : FnR P w K mg base CX0 1 (ma K (ga K "Conditions") "__eq__") (spCdEq K) := by
  obtain ⟨fd, F⟩ := T.f_Conditions___eq__
  refine fnN F (fun _ _ _ _ _ _ us hl => match us, hl with | [_, _], _ => rfl) sc_Conditions___eq__ (fun vs H Q E h => ?_) (fun cdv A outer s H vs Q E hr h => ?_)
  · obtain ⟨x, dx, l, as, y, dy, m, bs, rfl, _⟩ := h
    rfl
  · obtain ⟨x, dx, l, as, y, dy, m, bs, rfl, C, D, q⟩ := h
    obtain ⟨v1, e1, a1⟩ := C.hl
    obtain ⟨v2, e2, a2⟩ := D.hl
    refine ⟨_, PSs.nox (pss_one (ps_ret (pe_and (pe_callB call_isi (by rfl) T.z_isinstance (by decide +kernel) (pa_cons (pv 1) (pa_cons (pe_glob (v := .ref (ga K "Conditions")) (by rfl) T.g_Conditions rfl) pa_nil))) (pe_one (pe_cmpR (op_eqD hr.units) (pe_fld (pv 0) rfl) (pe_fld (pv 1) rfl) (nomark _)))))), ?_⟩
    refine ⟨_, rfl, _, _, _, _, _, rfl, .own _, T.o_Conditions.ty D.hx, T.o_Conditions.self, _, rfl, iteT ?_⟩
    refine ⟨_, rfl, _, _, _, _, _, rfl, C.hx, T.o_Conditions.cl, T.n_Conditions_kept_atoms, cdF_at, _, rfl, _, _, _, _, _, rfl, D.hx, T.o_Conditions.cl, T.n_Conditions_kept_atoms, cdF_at, _, _, .lst (SqL.of e1) a1, .lst (SqL.of e2) a2, (pds_at as).shaped, (pds_at bs).shaped, ?_⟩
    rw [eqv_ats]
    exact q
def spIand (K : PySem.W.Frag) : Sp := fun vs H Q _ => ∃ x dx l as y dy m bs, vs = [.ref x, .ref y] ∧ CdAt K H x dx l as ∧ CdAt K H y dy m bs ∧ as.length ≤ 400 ∧ bs.length ≤ 400 ∧ ∀ n H', Md [x] H H' → H n = none → CdAt K H' x dx n (dd (as ++ bs)) → Q (.ref x) H'
theorem d_iand (T : Txt K mg) : FnR P w K mg base CX0 7 (ma K (ga K "Conditions") "__iand__") (spIand K) := by
  obtain ⟨fd, F⟩ := T.f_Conditions___iand__
  have D_cd := d_cd1 (P := P) (w := w) (base := base) T
  refine fnN F (fun _ _ _ _ _ _ us hl => match us, hl with | [_, _], _ => rfl) sc_Conditions___iand__ (fun vs H Q E h => ?_) (fun cdv A outer s H vs Q E hr h => ?_)
  · obtain ⟨x, dx, l, as, y, dy, m, bs, rfl, _⟩ := h
    rfl
  · obtain ⟨x, dx, l, as, y, dy, m, bs, rfl, C, D, h1, h2, hQ⟩ := h
    refine ⟨_, PSs.nox (pss_cons (ps_if (pt_not (pt_val (pe_callB call_isi (by rfl) T.z_isinstance (by decide +kernel) (pa_cons (pv 1) (pa_cons (pe_glob (v := .ref (ga K "Conditions")) (by rfl) T.g_Conditions rfl) pa_nil))))) (pss_one ps_never) pss_nil)
      (pss_cons (ps_fld (pv 0) (pe_fld (pe_makeE T.m_Conditions D_cd hr T.g_Conditions pxq (pa_cons (pe_op op_cat (pe_fld (pv 0) rfl) (pe_fld (pv 1) rfl)) pa_nil)) rfl) rfl)
      (pss_one (ps_ret (pv 0))))), ?_⟩
    obtain ⟨v1, e1, a1⟩ := C.hl
    obtain ⟨v2, e2, a2⟩ := D.hl
    have l1 : v1.length = as.length := by rw [DpAll.length a1, List.length_map]
    have l2 : v2.length = bs.length := by rw [DpAll.length a2, List.length_map]
    refine ⟨_, rfl, _, _, _, _, _, rfl, .own _, T.o_Conditions.ty D.hx, T.o_Conditions.self, _, rfl, iteF ?_⟩
    refine ⟨_, rfl, _, _, _, _, _, rfl, C.hx, T.o_Conditions.cl, T.n_Conditions_kept_atoms, cdF_at, _, rfl, _, _, _, _, _, rfl, D.hx, T.o_Conditions.cl, T.n_Conditions_kept_atoms, cdF_at, l, m, _, _, rfl, rfl, e1, e2, (by rw [l1, l2]; exact Nat.le_trans (Nat.add_le_add h1 h2) (by decide)), fun p np => ?_⟩
    generalize eH1 : upd H p _ = H1
    have s1 : Same H H1 := eH1 ▸ same_upd np
    have e3 : H1 p = some _ := eH1 ▸ upd_same
    refine mkCd (as := as ++ bs) (.inl (SqL.of e3)) ?_ ?_ (by rw [List.length_append]; omega) fun z dz n H2 s2 nz nn hzn CD => ?_
    · rw [List.map_append]
      exact DpAll.app (DpAll.same s1 a1) (DpAll.same s1 a2)
    · exact fun a ha => (List.mem_append.mp ha).elim (C.ok a) (D.ok a)
    · have s02 := s1.trans s2
      have hx2 := s02 _ _ C.hx
      refine ⟨_, _, _, _, _, rfl, CD.hx, T.o_Conditions.cl, T.n_Conditions_kept_atoms, cdF_at, _, rfl, _, _, _, _, rfl, hx2, T.o_Conditions.cl, T.n_Conditions_kept_atoms, (by show 1 < 1000; decide), _, rfl, ?_⟩
      have mx : Md [x] H2 (upd H2 x (.ins (aCd K) dx (putF "kept_atoms" (.ref n) (cdF l)))) := Md.upd hx2 rfl (by simp)
      obtain ⟨v3, e4, a4⟩ := CD.hl
      have nx : n ≠ x := fun z => by rw [z] at nn; rw [s1 _ _ C.hx] at nn; cases nn
      have ef : putF "kept_atoms" (.ref n) (cdF l) = cdF n := by
        show (if ("kept_atoms" : Str) = "kept_atoms" then [(("kept_atoms" : Str), V.ref n)] else _) = _
        rw [if_pos rfl]
        rfl
      refine hQ n _ ((Md.of s02).trans mx) (s1.free nn) ⟨by rw [upd_same, ef], ⟨v3, by rw [upd_ne nx]; exact e4, mx.dpAll (pds_at _).nl a4⟩, CD.ok⟩

end
end K11
namespace K11
open PySem PySem.Spec PyProof.Rows L2 He TL EL
section
variable {P : Program} {w : World} {K : PySem.W.Frag} {mg : Str → Option Value} {base : Heap}
/-! what stands for a term -/
theorem tm_cell {H : Hp} {v : V} {p : Pl} {c : Nat} (h : Dp K H v (Tm.cell p c).d) : ∃ a, v = .ref a ∧ SqT K H a [.str p.s, .int (c : Nat)] := by
  cases h with
  | tup hS hA =>
    cases hA with
    | cons h1 hA =>
      cases hA with
      | cons h2 hA =>
        cases hA
        cases h1
        cases h2
        exact ⟨_, rfl, hS⟩
theorem tm_val {H : Hp} {v : V} {a b : Int} (h : Dp K H v (Tm.val a b).d) : ∃ q r, v = .ref q ∧ SqT K H q [.str "value", r] ∧ Dp K H r (valD (a, b)) := by
  cases h with
  | tup hS hA =>
    cases hA with
    | cons h1 hA =>
      cases hA with
      | cons h2 hA =>
        cases hA
        cases h1
        exact ⟨_, _, rfl, hS, h2⟩
/-! Maker -/
abbrev aMk (K : PySem.W.Frag) : Addr := ga K "Maker"
def mkF (t : Addr) : List (Str × V) := putF "kept_terms" (.ref t) []
theorem mkF_at {l : Addr} : (mkF l).lookup ("kept_terms" : Str) = some (.ref l) := by
  unfold mkF
  rw [lookup_putF, if_pos rfl]
theorem mkF_no {l : Addr} {m : Str} (h : m ≠ "kept_terms") : (mkF l).lookup m = none := by
  unfold mkF
  rw [lookup_putF, if_neg h]
  rfl
def makeOk : PyData → Bool
  | .list ds => (decide (1 ≤ ds.length) && decide (ds.length ≤ 3)) && ds.all isTermD
  | .tuple ds => (decide (1 ≤ ds.length) && decide (ds.length ≤ 3)) && ds.all isTermD
  | _ => false
def itemsD : PyData → List PyData
  | .list ds => ds
  | .tuple ds => ds
  | _ => []
theorem val_noL {d : PyData} (h : isValD d = true) : noL d = true := by
  unfold isValD at h
  split at h
  · rfl
  · cases h
theorem term_noL {d : PyData} (h : isTermD d = true) : noL d = true := by
  unfold isTermD at h
  split at h
  · rename_i z e
    show (true && (noL e && true)) = true
    have : noL e = true := by
      unfold termD at h
      split at h
      · exact val_noL h
      · cases e <;> first | rfl | (rw [show colD _ = false from rfl, Bool.and_false] at h; cases h)
    rw [this]
    rfl
  · cases h
theorem terms_noL : ∀ {ds : List PyData}, ds.all isTermD = true → noLs ds = true
  | [], _ => rfl
  | d :: r, h => by
    rw [List.all_cons, Bool.and_eq_true] at h
    exact Bool.and_eq_true_iff.mpr ⟨term_noL h.1, terms_noL h.2⟩
def spMk (K : PySem.W.Frag) : Sp := fun args H Q E => ∃ x dx v d, args = [.ref x, v] ∧ H x = some (.ins (aMk K) dx []) ∧ Dp K H v d ∧ (itemsD d).length ≤ 1000 ∧ (makeOk d = false → ∀ H', Same H H' → E (.ref (ga K "NoCell")) none H') ∧
  (makeOk d = true → ∀ t us H', Md [x] H H' → H t = none → H' x = some (.ins (aMk K) dx (mkF t)) → H' t = some (.tup us) → DpAll K H' us (itemsD d) → Q .non H')
theorem d_mk (T : Txt K mg) : FnR P w K mg base (L2.CX P w) 4 (ma K (ga K "Maker") "__init__") (spMk K) := by
  obtain ⟨fd, F⟩ := T.f_Maker___init__
  have D_is_term := d_is_term (P := P) (w := w) (base := base) T
  refine fnN F (fun _ _ _ _ _ _ us hl => match us, hl with | [_, _], _ => rfl) sc_Maker___init__ (fun vs H Q E h => ?_) (fun cdv A outer s H vs Q E hr h => ?_)
  · obtain ⟨x, dx, v, d, rfl, _⟩ := h
    rfl
  · obtain ⟨x, dx, v, d, rfl, hx, hd, hlen, hE, hQ⟩ := h
    refine ⟨_, (pss_cons (ps_if (PW.pt (pw_or (pt_not (pt_val (pe_callB call_isiT (by rfl) T.z_isinstance (by decide +kernel) (pa_cons (pv 1) (pa_cons (pe_tup (pa_cons (pe_bltn (v := .ty "list") (by rfl) T.z_list (by decide +kernel) rfl) (pa_cons (pe_bltn (v := .ty "tuple") (by rfl) T.z_tuple (by decide +kernel) rfl) pa_nil))) pa_nil))))) (pw_or1 (pt_not (pt_chain op_le op_le pe_int (pe_callB call_len_seq (by rfl) T.z_len (by decide +kernel) (pa_cons (pv 1) pa_nil)) (pe_gv T.g_MOST_COLUMNS)))))) (pss_one (EL.rs (by rfl) (takes_of rfl rfl rfl rfl) T.x_NoCell (by rfl))) pss_nil)
      (pss_cons (ps_set (i := 2) sc_Maker___init__.nd rfl (.inl rfl) (pe_lst pa_nil))
      (pss_cons (ps_for (passes_of rfl) rfl (PI.or_ (pi_list (pv 1)) (pi_tup (pv 1))) (pg_name (i := 3) sc_Maker___init__.nd rfl (.inl rfl))
      (pss_cons (ps_if (pt_not (pt_val (cl D_is_term (hr.mono (by decide)) (pa_cons (pv 3) pa_nil)))) (pss_one (EL.rs (by rfl) (takes_of rfl rfl rfl rfl) T.x_NoCell (by rfl))) pss_nil)
      (pss_one (ps_expr (pe_bm PySem.F.plainAttrs_list PySem.F.slot_list_append PySem.F.type_list_append mt_append (pv 2) (pa_cons (pv 3) pa_nil))))))
      (pss_one (ps_fld (pv 0) (pe_callTy call_tuple_of (by rfl) T.z_tuple (by decide +kernel) (pa_cons (pv 2) pa_nil)) rfl))))), ?_⟩
    refine ⟨_, rfl, (by show 2 ≤ sizeLine; decide), fun tp ntp => ?_⟩
    generalize eH1 : upd H tp _ = H1
    have s1 : Same H H1 := eH1 ▸ same_upd ntp
    have e1 : H1 tp = some _ := eH1 ▸ upd_same
    refine ⟨_, tp, _, _, _, _, rfl, e1, .cons (.ty _) (.cons (.ty _) .nil), Dp.ty (Dp.same s1 hd), kit_any2 K .lst .tup d, _, rfl, ?_⟩
    by_cases hk : ∃ a vs, v = .ref a ∧ (isTy .lst d || isTy .tup d) = true ∧ (SqL K H a vs ∨ SqT K H a vs) ∧ DpAll K H vs (itemsD d) ∧ makeOk d = ((decide (1 ≤ (itemsD d).length) && decide ((itemsD d).length ≤ 3)) && (itemsD d).all isTermD)
    · obtain ⟨a, vs, rfl, hty, ha, hA, hmk⟩ := hk
      rw [hty]
      refine iteF ?_
      generalize itemsD d = ds at *
      have lv : vs.length = ds.length := DpAll.length hA
      have ha1 : SqL K H1 a vs ∨ SqT K H1 a vs := ha.elim (fun z => .inl (s1.seq z)) (fun z => .inr (Same.seqT s1 z))
      refine ⟨_, rfl, _, _, rfl, ha1, _, _, rfl, rfl, _, rfl, ?_⟩
      rw [lv]
      cases c1 : decide ((1 : Int) ≤ (ds.length : Nat)) with
      | false =>
        refine iteF ?_
        refine ⟨_, rfl, iteT ?_⟩
        refine hE ?_ H1 s1
        have := of_decide_eq_false c1
        rw [hmk, decide_eq_false (by omega)]
        rfl
      | true =>
        have c1' := of_decide_eq_true c1
        refine iteT ?_
        refine ⟨_, _, rfl, rfl, _, rfl, ?_⟩
        cases c2 : decide (((ds.length : Nat) : Int) ≤ 3) with
        | false =>
          refine iteT ?_
          refine hE ?_ H1 s1
          have := of_decide_eq_false c2
          rw [hmk, decide_eq_false (show ¬ ds.length ≤ 3 by omega), Bool.and_false]
          rfl
        | true =>
          have c2' := of_decide_eq_true c2
          refine iteF ?_
          have hmk2 : makeOk d = ds.all isTermD := by rw [hmk, decide_eq_true (by omega), decide_eq_true (by omega)]; rfl
          refine ⟨(by show 0 ≤ sizeLine; decide), fun kl nkl => ?_⟩
          generalize eH2 : upd H1 kl _ = H2
          have s2 : Same H1 H2 := eH2 ▸ same_upd nkl
          have e2 : H2 kl = some _ := eH2 ▸ upd_same
          have s12 := s1.trans s2
          have nk0 : H kl = none := s1.free nkl
          have hx2 := s12 _ _ hx
          have nkx : kl ≠ x := fun z => by rw [z, hx] at nk0; cases nk0
          have body : ∀ (i : Nat) (xv : V) (H' : Hp), vs[i]? = some xv → (∃ us, H' kl = some (.lst us) ∧ us = vs.take i ∧ Md [kl] H2 H' ∧ (ds.take i).all isTermD = true) →
              ∃ e us, ds[i]? = some e ∧ Dp K H' xv e ∧ H' kl = some (.lst us) ∧ us.length < sizeLine ∧ Same H H' ∧ (isTermD e = true → ∃ us', upd H' kl (.lst (us ++ [xv])) kl = some (.lst us') ∧ us' = vs.take (i + 1) ∧ Md [kl] H2 (upd H' kl (.lst (us ++ [xv]))) ∧ (ds.take (i + 1)).all isTermD = true) := by
            rintro i xv H' hg ⟨us, eu, au, m, al⟩
            obtain ⟨e, he, hdp⟩ := DpAll.get hA hg
            have hlu : us.length < sizeLine := by
              rw [au, List.length_take, lv]
              exact Nat.lt_of_le_of_lt (Nat.le_trans (Nat.min_le_right _ _) hlen) (by decide)
            have sH : Same H H' := (Md.newM (S := []) m (Md.of s12) nk0).same
            refine ⟨e, us, he, Dp.same sH hdp, eu, hlu, sH, fun ht => ?_⟩
            have mu : Md [kl] H' (upd H' kl (.lst (us ++ [xv]))) := Md.upd eu rfl (by simp)
            refine ⟨_, upd_same, ?_, m.trans mu, ?_⟩
            · rw [tk1 hg, au]
            · rw [tk1 he, List.all_append, al]
              simp [ht]
          have bad : ∀ (i : Nat) e, ds[i]? = some e → isTermD e = false → makeOk d = false := fun i e he ht => by
            rw [hmk2, Bool.eq_false_iff]
            intro z
            have := List.all_eq_true.mp z e (List.mem_of_getElem? he)
            rw [ht] at this
            cases this
          have fin : ∀ H', (∃ us, H' kl = some (.lst us) ∧ us = vs.take vs.length ∧ Md [kl] H2 H' ∧ (ds.take vs.length).all isTermD = true) → ∃ us, H' kl = some (.lst us) ∧ ∀ t, H' t = none → H' x = some (.ins (aMk K) dx []) ∧ Q .non (upd (upd H' t (.tup us)) x (.ins (aMk K) dx (putF "kept_terms" (.ref t) []))) := by
            rintro H' ⟨us, eu, au, m, al⟩
            rw [List.take_length] at au
            rw [lv, List.take_length] at al
            subst au
            have sH : Same H H' := (Md.newM (S := []) m (Md.of s12) nk0).same
            have hx' := m.out _ _ hx2 (by simp; exact Ne.symm nkx)
            refine ⟨us, eu, fun t nt => ⟨hx', ?_⟩⟩
            have s3 : Same H' (upd H' t (.tup us)) := same_upd nt
            have ntx : t ≠ x := fun z => by rw [z, hx'] at nt; cases nt
            have mx : Md [x] (upd H' t (.tup us)) (upd (upd H' t (.tup us)) x (.ins (aMk K) dx (putF "kept_terms" (.ref t) []))) := Md.upd (s3 _ _ hx') rfl (by simp)
            refine hQ (by rw [hmk2]; exact al) t us _ ((Md.of (sH.trans s3)).trans mx) (sH.free nt) upd_same (by rw [upd_ne ntx]; exact upd_same) (mx.dpAll (terms_noL al) (DpAll.same (sH.trans s3) hA))
          have start : ∃ us, H2 kl = some (.lst us) ∧ us = vs.take 0 ∧ Md [kl] H2 H2 ∧ (ds.take 0).all isTermD = true := ⟨[], e2, rfl, .refl _ _, rfl⟩
          rcases ha with ha | ha
          · refine .inl ⟨_, rfl, a, rfl, ⟨_, s12.seq ha⟩, for_list (K := K) (a := a) (xs := vs) (fun i σ H' => (∃ o, σ = [some (.ref x), some (.ref a), some (.ref kl), o]) ∧ ∃ us, H' kl = some (.lst us) ∧ us = vs.take i ∧ Md [kl] H2 H' ∧ (ds.take i).all isTermD = true) ⟨⟨none, rfl⟩, start⟩ (fun i σ H' _ h => ?_) ?_ ?_⟩
            · obtain ⟨_, us, _, _, m, _⟩ := h
              exact SqL.new ha (Md.newM (S := []) m (Md.of s12) nk0) (by simp)
            · rintro i xv σ H' hg ⟨⟨o, rfl⟩, h⟩
              obtain ⟨e, us, he, hdp, eu, hlu, sH, hN⟩ := body i xv H' hg h
              refine ⟨_, rfl, xv, .d e, rfl, hdp, _, rfl, ?_⟩
              cases ht : isTermT (.d e) with
              | false => exact iteT (hE (bad i e he ht) H' sH)
              | true => exact iteF ⟨_, rfl, .inl ⟨rfl, _, SqL.of eu⟩, _, rfl, kl, _, _, rfl, rfl, eu, hlu, ⟨_, rfl⟩, hN ht⟩
            · rintro σ H' ⟨⟨o, rfl⟩, h⟩
              obtain ⟨us, eu, hf⟩ := fin H' h
              refine ⟨_, rfl, _, _, rfl, .inl ⟨SqL.of eu, fun t nt => ?_⟩⟩
              obtain ⟨hx', q⟩ := hf t nt
              exact ⟨_, rfl, _, _, _, _, rfl, same_upd nt _ _ hx', T.o_Maker.cl, T.n_Maker_kept_terms, (by show 0 < 1000; decide), q⟩
          · refine .inr ⟨_, rfl, a, rfl, ⟨_, Same.seqT s12 ha⟩, for_tup (K := K) (a := a) (xs := vs) (fun i σ H' => (∃ o, σ = [some (.ref x), some (.ref a), some (.ref kl), o]) ∧ ∃ us, H' kl = some (.lst us) ∧ us = vs.take i ∧ Md [kl] H2 H' ∧ (ds.take i).all isTermD = true) ⟨⟨none, rfl⟩, start⟩ (fun i σ H' _ h => ?_) ?_ ?_⟩
            · obtain ⟨_, us, _, _, m, _⟩ := h
              exact m.sqT (Same.seqT s12 ha)
            · rintro i xv σ H' hg ⟨⟨o, rfl⟩, h⟩
              obtain ⟨e, us, he, hdp, eu, hlu, sH, hN⟩ := body i xv H' hg h
              refine ⟨_, rfl, xv, .d e, rfl, hdp, _, rfl, ?_⟩
              cases ht : isTermT (.d e) with
              | false => exact iteT (hE (bad i e he ht) H' sH)
              | true => exact iteF ⟨_, rfl, .inl ⟨rfl, _, SqL.of eu⟩, _, rfl, kl, _, _, rfl, rfl, eu, hlu, ⟨_, rfl⟩, hN ht⟩
            · rintro σ H' ⟨⟨o, rfl⟩, h⟩
              obtain ⟨us, eu, hf⟩ := fin H' h
              refine ⟨_, rfl, _, _, rfl, .inl ⟨SqL.of eu, fun t nt => ?_⟩⟩
              obtain ⟨hx', q⟩ := hf t nt
              exact ⟨_, rfl, _, _, _, _, rfl, same_upd nt _ _ hx', T.o_Maker.cl, T.n_Maker_kept_terms, (by show 0 < 1000; decide), q⟩
    · have e2 : (isTy .lst d || isTy .tup d) = false := by
        cases hd with
        | lst h a => exact absurd ⟨_, _, rfl, rfl, .inl h, a, rfl⟩ hk
        | tup h a => exact absurd ⟨_, _, rfl, rfl, .inr h, a, rfl⟩ hk
        | _ => rfl
      rw [e2]
      refine iteT ?_
      refine hE ?_ H1 s1
      cases d <;> first | rfl | cases e2

end
end K11
namespace K11
open PySem PySem.Spec PyProof.Rows L2 He TL EL
section
variable {P : Program} {w : World} {K : PySem.W.Frag} {mg : Str → Option Value} {base : Heap}
/-! Cell -/
def cellF (v1 v2 : V) : List (Str × V) := putF "at" v2 (putF "place" v1 [])
theorem cellF_place (v1 v2 : V) : (cellF v1 v2).lookup ("place" : Str) = some v1 := by
  unfold cellF
  rw [lookup_putF, if_neg (by decide +kernel), lookup_putF, if_pos rfl]
theorem cellF_at (v1 v2 : V) : (cellF v1 v2).lookup ("at" : Str) = some v2 := by
  unfold cellF
  rw [lookup_putF, if_pos rfl]
abbrev aCell (K : PySem.W.Frag) : Addr := ga K "Cell"
abbrev plF (p : Pl) (c : Nat) : List (Str × V) := cellF (.str p.s) (.int c)
def spCell (K : PySem.W.Frag) : Sp := fun vs H Q _ => ∃ x dx p c, vs = [.ref x, .str (Pl.s p), .int ((c : Nat) : Int)] ∧ c < 3 ∧ H x = some (.ins (aCell K) dx []) ∧ ∀ H', Md [x] H H' → H' x = some (.ins (aCell K) dx (plF p c)) → Q .non H'
theorem cell_term {p : Pl} {c : Nat} (h : c < 3) : isTermD (Tm.cell p c).d = true := Tm.isTerm (t := .cell p c) h
theorem d_cell (T : Txt K mg) : FnR P w K mg base CX0 4 (ma K (ga K "Cell") "__init__") (spCell K) := by
  obtain ⟨fd, F⟩ := T.f_Cell___init__
  have D_is_term := d_is_term (P := P) (w := w) (base := base) T
  refine fnN F (fun _ _ _ _ _ _ us hl => match us, hl with | [_, _, _], _ => rfl) sc_Cell___init__ (fun vs H Q E h => ?_) (fun cdv A outer s H vs Q E hr h => ?_)
  · obtain ⟨x, dx, p, c, rfl, _⟩ := h
    rfl
  · obtain ⟨x, dx, p, c, rfl, hc, hx, hQ⟩ := h
    refine ⟨_, PSs.nox (pss_cons (ps_if (PW.pt (pw_or (pt_not (pt_val (pe_callB call_isi (by rfl) T.z_isinstance (by decide +kernel) (pa_cons (pv 1) (pa_cons (pe_bltn (v := .ty "str") (by rfl) T.z_str (by decide +kernel) rfl) pa_nil))))) (pw_or (pt_cmpR op_notIn_seq (pv 1) (pe_glob (v := .ref (ga K "PLACES")) (by rfl) T.g_PLACES rfl) (by rfl)) (pw_or1 (pt_not (pt_val (cl D_is_term (hr.mono (by decide)) (pa_cons (pe_tup (pa_cons (pv 1) (pa_cons (pv 2) pa_nil))) pa_nil)))))))) (pss_one (ps_never)) pss_nil)
      (pss_cons (ps_fld (pv 0) (pv 1) rfl)
      (pss_one (ps_fld (pv 0) (pv 2) rfl)))), ?_⟩
    refine ⟨_, rfl, _, _, _, _, _, rfl, .ty _, Dp.ty (.str _), kit_d K .str (.str p.s), _, rfl, iteF ?_⟩
    have hv : inV (.str p.s) plV = true := by cases p <;> rfl
    refine ⟨_, rfl, _, _, rfl, .inr (T.t_PLACES _), rfl, rfl, _, rfl, if_neg_of (by show (!inV (.str p.s) plV) = false; rw [hv]; rfl) ?_⟩
    refine ⟨_, rfl, _, rfl, (by show 2 ≤ sizeLine; decide), fun q nq => ?_⟩
    generalize eH1 : upd H q _ = H1
    have s1 : Same H H1 := eH1 ▸ same_upd nq
    have h1 : H1 q = some _ := eH1 ▸ upd_same
    refine ⟨_, .d (Tm.cell p c).d, rfl, .tup (SqT.of h1) (.cons (.str _) (.cons (.int _) .nil)), _, rfl, if_neg_of (by show (!isTermD (Tm.cell p c).d) = false; rw [cell_term hc]; rfl) ?_⟩
    refine ⟨_, rfl, _, rfl, _, _, _, _, rfl, s1 _ _ hx, T.o_Cell.cl, T.n_Cell_place, (by decide), ?_⟩
    refine ⟨_, rfl, _, rfl, _, _, _, _, rfl, upd_same, T.o_Cell.cl, T.n_Cell_at, (by show 1 < 1000; decide), ?_⟩
    refine hQ _ ?_ upd_same
    rw [upd_upd]
    exact (Md.of s1).trans (Md.upd (s1 _ _ hx) rfl (by simp))
theorem mkCell {H : Hp} {p : Pl} {c : Nat} {Q : Addr → Hp → Prop} {E : XK} (hc : c < 3) (hQ : ∀ x dx H', Same H H' → H x = none → H' x = some (.ins (aCell K) dx (plF p c)) → Q x H') :
    ∀ x dx, H x = none → H dx = none → dx ≠ x → spCell K [.ref x, .str p.s, .int ((c : Nat) : Int)] (upd (upd H dx (.own x)) x (.ins (aCell K) dx [])) (fun v H2 => v = .non ∧ Q x H2) E := by
  intro x dx nx ndx hne
  generalize eH1 : upd (upd H dx _) x _ = H1
  have s1 : Same H H1 := eH1 ▸ (same_upd ndx).trans (same_upd (by rw [upd_ne (Ne.symm hne)]; exact nx))
  have x1 : H1 x = some (.ins (aCell K) dx []) := eH1 ▸ upd_same
  refine ⟨x, dx, p, c, rfl, hc, x1, fun H' m hx => ⟨rfl, hQ x dx H' (fun b o hb => m.out _ _ (s1 _ _ hb) (by simp; exact ne_of_none hb nx)) nx hx⟩⟩
/-! Cell.of -/
def ofD : PyData → Option PyData
  | .int i => some (.tuple [.str "value", .tuple [.int i, .int 1]])
  | d => if isValD d = true then some (.tuple [.str "value", d]) else none
/-- what Cell.of is asked for: a term as a cell, an int, a value; or none of these -/
def ItAt (K : PySem.W.Frag) (H : Hp) (v : V) : Option Tm → Prop
  | some (.cell p c) => ∃ x dx, v = .ref x ∧ H x = some (.ins (aCell K) dx (plF p c)) ∧ c < 3
  | some (.val a b) => (v = .int a ∧ b = 1) ∨ (Dp K H v (valD (a, b)) ∧ Low a b)
  | none => ∃ d, Dp K H v d ∧ ofD d = none
def spOf (K : PySem.W.Frag) : Sp := fun vs H Q E => ∃ v o, vs = [v] ∧ ItAt K H v o ∧ (o = none → E (.ref (ga K "NoCell")) none H) ∧ ∀ t, o = some t → ∀ p H', Same H H' → Dp K H' (.ref p) t.d → Q (.ref p) H'
theorem d_of (T : Txt K mg) : FnR P w K mg base (L2.CX P w) 3 (He5.wf K (ga K "Cell") "staticmethod" "of") (spOf K) := by
  obtain ⟨fd, F⟩ := T.f_Cell_of
  have D_is_whole := d_is_whole (P := P) (w := w) (base := base) T
  have D_is_value := d_is_value (P := P) (w := w) (base := base) T
  refine fnN F (fun _ _ _ _ _ _ us hl => match us, hl with | [_], _ => rfl) sc_Cell_of (fun vs H Q E h => ?_) (fun cdv A outer s H vs Q E hr h => ?_)
  · obtain ⟨v, o, rfl, _⟩ := h
    rfl
  · obtain ⟨v, o, rfl, hI, hE, hQ⟩ := h
    have main : (∃ d r, Dp K H v d ∧ ofD d = r ∧ (r = none → E (.ref (ga K "NoCell")) none H) ∧ ∀ e, r = some e → ∀ p H', Same H H' → Dp K H' (.ref p) e → Q (.ref p) H') ∨ ∃ x dx p c, v = .ref x ∧ H x = some (.ins (aCell K) dx (plF p c)) ∧ o = some (.cell p c) := by
      match o, hI with
      | some (.cell p c), ⟨x, dx, e1, e2, _⟩ => exact .inr ⟨x, dx, p, c, e1, e2, rfl⟩
      | some (.val a b), .inl ⟨e1, e2⟩ =>
        subst e1 e2
        exact .inl ⟨.int a, _, .int a, rfl, (fun z => by cases z), fun e he p H' s d => hQ _ rfl p H' s (by cases he; exact d)⟩
      | some (.val a b), .inr ⟨e1, lw⟩ =>
        have e3 : ofD (valD (a, b)) = some (.tuple [.str "value", valD (a, b)]) := by
          show (if isValD (valD (a, b)) = true then some (PyData.tuple [.str "value", valD (a, b)]) else none) = _
          rw [isVal_of lw, if_pos rfl]
        exact .inl ⟨_, _, e1, e3, (fun z => by cases z), fun e he p H' s d => hQ _ rfl p H' s (by cases he; exact d)⟩
      | none, ⟨d, e1, e2⟩ => exact .inl ⟨d, none, e1, e2, fun _ => hE rfl, fun e he => by cases he⟩
    refine ⟨_, (pss_cons (ps_if (pt_val (pe_callB call_isi (by rfl) T.z_isinstance (by decide +kernel) (pa_cons (pv 0) (pa_cons (pe_glob (v := .ref (ga K "Cell")) (by rfl) T.g_Cell rfl) pa_nil)))) (pss_one (ps_ret (pe_tup (pa_cons (pe_fld (pv 0) rfl) (pa_cons (pe_fld (pv 0) rfl) pa_nil))))) pss_nil)
      (pss_cons (ps_if (pt_val (cl D_is_whole (hr.mono (by decide)) (pa_cons (pv 0) pa_nil))) (pss_one (ps_ret (pe_tup (pa_cons pe_str (pa_cons (pe_tup (pa_cons (pv 0) (pa_cons pe_int pa_nil))) pa_nil))))) pss_nil)
      (pss_cons (ps_if (pt_val (cl D_is_value (hr.mono (by decide)) (pa_cons (pv 0) pa_nil))) (pss_one (ps_ret (pe_tup (pa_cons pe_str (pa_cons (pv 0) pa_nil))))) pss_nil)
      (pss_one (EL.rs (by rfl) (takes_of rfl rfl rfl rfl) T.x_NoCell (by rfl)))))), ?_⟩
    rcases main with ⟨d, r, hd, hr', hE, hQ⟩ | ⟨x, dx, p, c, rfl, hx, rfl⟩
    · refine ⟨_, rfl, _, _, _, _, _, rfl, .own _, Dp.ty hd, T.o_Cell.isD d, _, rfl, iteF ?_⟩
      refine ⟨_, rfl, v, .d d, rfl, hd, _, rfl, ?_⟩
      rw [isWholeT_d]
      by_cases w1 : ∃ i, d = .int i
      · obtain ⟨i, rfl⟩ := w1
        cases hd
        refine iteT ?_
        refine ⟨_, rfl, (by show 2 ≤ sizeLine; decide), fun p np => ?_⟩
        generalize eH1 : upd H p _ = H1
        have s1 : Same H H1 := eH1 ▸ same_upd np
        have h1 : H1 p = some _ := eH1 ▸ upd_same
        refine ⟨(by show 2 ≤ sizeLine; decide), fun p2 np2 => ?_⟩
        generalize eH2 : upd H1 p2 _ = H2
        have s2 : Same H1 H2 := eH2 ▸ same_upd np2
        have h2 : H2 p2 = some _ := eH2 ▸ upd_same
        exact hQ _ hr'.symm p2 H2 (s1.trans s2) (.tup (SqT.of h2) (.cons (.str _) (.cons (.tup (SqT.of (s2 _ _ h1)) (.cons (.int _) (.cons (.int _) .nil))) .nil)))
      · have e2 : isWholeD d = false := by
          cases d <;> first | rfl | exact absurd ⟨_, rfl⟩ w1
        rw [e2]
        refine iteF ?_
        have eo : ofD d = if isValD d = true then some (.tuple [.str "value", d]) else none := by
          cases d <;> first | rfl | exact absurd ⟨_, rfl⟩ w1
        refine ⟨_, rfl, v, .d d, rfl, hd, _, rfl, ie (fun c => ?_) (fun c => ?_)⟩
        · have c' : isValD d = true := c
          refine ⟨_, rfl, (by show 2 ≤ sizeLine; decide), fun p np => ?_⟩
          generalize eH1 : upd H p _ = H1
          have s1 : Same H H1 := eH1 ▸ same_upd np
          have h1 : H1 p = some _ := eH1 ▸ upd_same
          exact hQ _ (by rw [← hr', eo, if_pos c']) p H1 s1 (.tup (SqT.of h1) (.cons (.str _) (.cons (Dp.same s1 hd) .nil)))
        · have c' : isValD d = false := c
          exact hE (by rw [← hr', eo, c', if_neg Bool.false_ne_true])
    · refine ⟨_, rfl, _, _, _, _, _, rfl, .own _, T.o_Cell.ty hx, T.o_Cell.self, _, rfl, iteT ?_⟩
      refine ⟨_, rfl, _, _, _, _, _, rfl, hx, T.o_Cell.cl, T.n_Cell_place, cellF_place _ _, _, rfl, _, _, _, _, _, rfl, hx, T.o_Cell.cl, T.n_Cell_at, cellF_at _ _, (by show 2 ≤ sizeLine; decide), fun p np => ?_⟩
      generalize eH1 : upd H p _ = H1
      have s1 : Same H H1 := eH1 ▸ same_upd np
      have h1' : H1 p = some _ := eH1 ▸ upd_same
      exact hQ _ rfl p H1 s1 (.tup (SqT.of h1') (.cons (.str _) (.cons (.int _) .nil)))

end
end K11
namespace K11
open PySem PySem.Spec PyProof.Rows L2 He TL EL
section
variable {P : Program} {w : World} {K : PySem.W.Frag} {mg : Str → Option Value} {base : Heap}
/-! are_words, is_depth -/
def areW (n : Nat) : PyData → Bool
  | .list ds => (decide (n ≤ ds.length) && decide (ds.length ≤ 2)) && ds.all isWordD
  | _ => false
def shortD : PyData → Prop
  | .str z => z.length ≤ 100000
  | _ => True
def shortL : PyData → Prop
  | .list ds => ∀ d ∈ ds, shortD d
  | _ => True
def spWords (K : PySem.W.Frag) : Sp := fun vs H Q _ => ∃ v d n, vs = [v, .int ((n : Nat) : Int)] ∧ Dp K H v d ∧ shortL d ∧ Q (.bl (areW n d)) H
theorem d_are_words (T : Txt K mg) : Dn P w K mg base CX0 2 "are_words" (spWords K) := by
  obtain ⟨fd, F⟩ := T.f_are_words
  have D_is_word := d_is_word (P := P) (w := w) (base := base) T
  refine dnN T.g_are_words F (fun _ _ _ _ _ _ us hl => match us, hl with | [_, _], _ => rfl) sc_are_words (fun vs H Q E h => ?_) (fun cdv A outer s H vs Q E hr h => ?_)
  · obtain ⟨v, d, n, rfl, _⟩ := h
    rfl
  · obtain ⟨v, d, n, rfl, hd, hs, q⟩ := h
    refine ⟨_, PSs.nox (pss_cons (ps_if (PW.pt (pw_or (pt_not (pt_val (pe_callB call_isi (by rfl) T.z_isinstance (by decide +kernel) (pa_cons (pv 0) (pa_cons (pe_bltn (v := .ty "list") (by rfl) T.z_list (by decide +kernel) rfl) pa_nil))))) (pw_or1 (pt_not (pt_chain op_le op_le (pv 1) (pe_callB call_len_seq (by rfl) T.z_len (by decide +kernel) (pa_cons (pv 0) pa_nil)) pe_int))))) (pss_one (ps_ret pe_bl)) pss_nil)
      (pss_cons (ps_for PassesOwn.never rfl (pi_list (pv 0)) (pg_name (i := 2) sc_are_words.nd rfl (.inl rfl))
      (pss_one (ps_if (pt_not (pt_val (cl D_is_word (hr.mono (by decide)) (pa_cons (pv 2) pa_nil)))) (pss_one (ps_ret pe_bl)) pss_nil)))
      (pss_one (ps_ret pe_bl)))), ?_⟩
    refine ⟨_, rfl, _, _, _, _, _, rfl, .ty _, Dp.ty hd, kit_d K .lst d, _, rfl, ?_⟩
    by_cases hk : ∃ ds, d = .list ds
    · obtain ⟨ds, rfl⟩ := hk
      cases hd with
      | lst ha hA =>
        rename_i a vs
        have lv : vs.length = ds.length := DpAll.length hA
        have e0 : areW n (.list ds) = ((decide (n ≤ ds.length) && decide (ds.length ≤ 2)) && ds.all isWordD) := rfl
        rw [e0] at q
        refine iteF ?_
        refine ⟨_, rfl, _, rfl, _, _, rfl, .inl ha, _, _, rfl, rfl, _, rfl, ?_⟩
        rw [lv]
        cases c1 : decide (((n : Nat) : Int) ≤ (ds.length : Nat)) with
        | false =>
          refine iteF ⟨_, rfl, iteT ?_⟩
          have := of_decide_eq_false c1
          rw [decide_eq_false (by omega)] at q
          exact q
        | true =>
          have c1' := of_decide_eq_true c1
          refine iteT ?_
          refine ⟨_, _, rfl, rfl, _, rfl, ?_⟩
          cases c2 : decide (((ds.length : Nat) : Int) ≤ 2) with
          | false =>
            refine iteT ?_
            have := of_decide_eq_false c2
            rw [decide_eq_false (show ¬ ds.length ≤ 2 by omega), Bool.and_false] at q
            exact q
          | true =>
            have c2' := of_decide_eq_true c2
            refine iteF ?_
            rw [decide_eq_true (show n ≤ ds.length by omega), decide_eq_true (show ds.length ≤ 2 by omega)] at q
            refine ⟨_, rfl, a, rfl, ⟨_, ha⟩, for_list (K := K) (a := a) (xs := vs) (fun i σ H' => H' = H ∧ (∃ o, σ = [some (.ref a), some (.int ((n : Nat) : Int)), o]) ∧ (ds.take i).all isWordD = true) ⟨rfl, ⟨none, rfl⟩, rfl⟩ (fun i σ H' _ h => ?_) ?_ ?_⟩
            · rw [h.1]
              exact ha
            · rintro i xv σ H' hg ⟨rfl, ⟨o, rfl⟩, al⟩
              obtain ⟨e, he, hdp⟩ := DpAll.get hA hg
              have mem := List.mem_of_getElem? he
              refine ⟨_, rfl, xv, e, rfl, hdp, (fun z ez => by have := hs e mem; rw [ez] at this; exact this), _, rfl, ?_⟩
              cases ht : isWordD e with
              | false =>
                refine iteT ?_
                have : ds.all isWordD = false := by
                  rw [Bool.eq_false_iff]
                  intro z
                  rw [List.all_eq_true.mp z e mem] at ht
                  cases ht
                rw [this] at q
                exact q
              | true =>
                refine iteF ⟨rfl, ⟨_, rfl⟩, ?_⟩
                rw [tk1 he, List.all_append, al]
                simp [ht]
            · rintro σ H' ⟨rfl, _, al⟩
              rw [lv, List.take_length] at al
              rw [al] at q
              exact q
    · have e2 : isTy .lst d = false := by
        cases d <;> first | rfl | exact absurd ⟨_, rfl⟩ hk
      rw [e2]
      refine iteT ?_
      have e3 : areW n d = false := by
        cases d <;> first | rfl | exact absurd ⟨_, rfl⟩ hk
      rw [e3] at q
      exact q
def isDepD : PyData → Bool
  | .int i => decide (0 ≤ i) && decide (i ≤ 9)
  | _ => false
def spDep (K : PySem.W.Frag) : Sp := fun vs H Q _ => ∃ v d, vs = [v] ∧ Dp K H v d ∧ Q (.bl (isDepD d)) H
theorem d_is_depth (T : Txt K mg) : Dn P w K mg base CX0 2 "is_depth" (spDep K) := by
  obtain ⟨fd, F⟩ := T.f_is_depth
  have D_is_whole := d_is_whole (P := P) (w := w) (base := base) T
  refine dnN T.g_is_depth F (fun _ _ _ _ _ _ us hl => match us, hl with | [_], _ => rfl) sc_is_depth (fun vs H Q E h => ?_) (fun cdv A outer s H vs Q E hr h => ?_)
  · obtain ⟨v, d, rfl, _⟩ := h
    rfl
  · obtain ⟨v, d, rfl, hd, q⟩ := h
    refine ⟨_, PSs.nox (pss_one (ps_ret (pe_and (cl D_is_whole (hr.mono (by decide)) (pa_cons (pv 0) pa_nil)) (pe_one (pe_chain op_le op_le pe_int (pv 0) (pe_gv T.g_MOST_DEPTH)))))), ?_⟩
    refine ⟨_, rfl, v, .d d, rfl, hd, _, rfl, ?_⟩
    rw [isWholeT_d]
    by_cases hk : ∃ i, d = .int i
    · obtain ⟨i, rfl⟩ := hk
      cases hd
      refine iteT ?_
      have e0 : isDepD (.int i) = (decide (0 ≤ i) && decide (i ≤ 9)) := rfl
      rw [e0] at q
      refine ⟨_, rfl, _, _, rfl, rfl, _, rfl, ?_⟩
      cases c1 : decide (0 ≤ i) with
      | false =>
        rw [c1] at q
        exact iteF q
      | true =>
        rw [c1] at q
        exact iteT ⟨_, _, rfl, rfl, q⟩
    · have e2 : isWholeD d = false := by
        cases d <;> first | rfl | exact absurd ⟨_, rfl⟩ hk
      rw [e2]
      refine iteF ?_
      have e3 : isDepD d = false := by
        cases d <;> first | rfl | exact absurd ⟨_, rfl⟩ hk
      rw [e3] at q
      exact q

end
end K11
namespace K11
open PySem PySem.Spec PyProof.Rows L2 He TL EL
section
variable {P : Program} {w : World} {K : PySem.W.Frag} {mg : Str → Option Value} {base : Heap}
/-! Maker's methods -/
structure MkAt (K : PySem.W.Frag) (H : Hp) (x dx t : Addr) (ts : List Tm) : Prop where
  hx : H x = some (.ins (aMk K) dx (mkF t))
  ht : ∃ us, H t = some (.tup us) ∧ DpAll K H us (ts.map Tm.d)
  ok : ∀ a ∈ ts, Tm.ok a
theorem pds_tm (ts : List Tm) : Pds (ts.map Tm.d) ∧ PyData.depthAll (ts.map Tm.d) ≤ 2 := by
  refine ⟨fun d hd => ?_, ?_⟩
  · obtain ⟨a, _, rfl⟩ := List.mem_map.mp hd
    exact (Tm.pd a).1
  · induction ts with
    | nil => exact Nat.zero_le _
    | cons a r ih => exact Nat.max_le.mpr ⟨(Tm.pd a).2, ih⟩
theorem pd_tms (ts : List Tm) : Pd (.tuple (ts.map Tm.d)) := by
  obtain ⟨h1, h2⟩ := pds_tm ts
  exact ⟨h1.nl, h1.cl, by show PyData.depthAll (ts.map Tm.d) + 1 ≤ 16; omega⟩
theorem MkAt.dp {H : Hp} {x dx t : Addr} {ts : List Tm} (M : MkAt K H x dx t ts) : Dp K H (.ref t) (.tuple (ts.map Tm.d)) := by
  obtain ⟨us, h1, h2⟩ := M.ht
  exact .tup (SqT.of h1) h2
theorem MkAt.md {H H' : Hp} {x dx t : Addr} {ts : List Tm} {S : List Addr} (M : MkAt K H x dx t ts) (m : Md S H H') (h : x ∉ S) : MkAt K H' x dx t ts := by
  obtain ⟨hx, ⟨us, h1, h2⟩, ok⟩ := M
  exact ⟨m.out _ _ hx h, ⟨us, m.rig _ _ h1 rfl, m.dpAll (pds_tm ts).1.nl h2⟩, ok⟩
theorem MkAt.same {H H' : Hp} {x dx t : Addr} {ts : List Tm} (M : MkAt K H x dx t ts) (s : Same H H') : MkAt K H' x dx t ts := M.md (S := []) (.of s) (by simp)
theorem eqv_tms : ∀ ts us : List Tm, PyData.eqv (.tuple (ts.map Tm.d)) (.tuple (us.map Tm.d)) = decide (ts = us)
  | [], [] => rfl
  | [], _ :: _ => rfl
  | _ :: _, [] => rfl
  | t :: ts, u :: us => by
    show (PyData.eqv t.d u.d && PyData.eqv (.tuple (ts.map Tm.d)) (.tuple (us.map Tm.d))) = _
    rw [eqv_tm, eqv_tms ts us, ← Bool.decide_and]
    exact decide_eq_decide.mpr ⟨fun h => by rw [h.1, h.2], fun h => by cases h; exact ⟨rfl, rfl⟩⟩
def spMkTerms (K : PySem.W.Frag) : Sp := fun vs H Q _ => ∃ x dx t ts, vs = [.ref x] ∧ MkAt K H x dx t ts ∧ Q (.ref t) H
theorem d_mk_terms (T : Txt K mg) : FnR P w K mg base CX0 1 (ma K (ga K "Maker") "terms") (spMkTerms K) := by
  obtain ⟨fd, F⟩ := T.f_Maker_terms
  refine fnN F (fun _ _ _ _ _ _ us hl => match us, hl with | [_], _ => rfl) sc_Maker_terms (fun vs H Q E h => ?_) (fun cdv A outer s H vs Q E hr h => ?_)
  · obtain ⟨x, dx, t, ts, rfl, _⟩ := h
    rfl
  · obtain ⟨x, dx, t, ts, rfl, M, q⟩ := h
    exact ⟨_, PSs.nox (pss_one (ps_ret (pe_fld (pv 0) rfl))), _, rfl, _, _, _, _, _, rfl, M.hx, T.o_Maker.cl, T.n_Maker_kept_terms, mkF_at, q⟩
def spMkEq (K : PySem.W.Frag) : Sp := fun vs H Q _ => ∃ x dx t ts y dy u us, vs = [.ref x, .ref y] ∧ MkAt K H x dx t ts ∧ MkAt K H y dy u us ∧ Q (.bl (decide (ts = us))) H
theorem d_mk_eq (T : Txt K mg) : FnR P w K mg base CX0 1 (ma K (ga K "Maker") "__eq__") (spMkEq K) := by
  obtain ⟨fd, F⟩ := T.f_Maker___eq__
  refine fnN F (fun _ _ _ _ _ _ us hl => match us, hl with | [_, _], _ => rfl) sc_Maker___eq__ (fun vs H Q E h => ?_) (fun cdv A outer s H vs Q E hr h => ?_)
  · obtain ⟨x, dx, t, ts, y, dy, u, us, rfl, _⟩ := h
    rfl
  · obtain ⟨x, dx, t, ts, y, dy, u, us, rfl, M, N, q⟩ := h
    refine ⟨_, PSs.nox (pss_one (ps_ret (pe_and (pe_callB call_isi (by rfl) T.z_isinstance (by decide +kernel) (pa_cons (pv 1) (pa_cons (pe_glob (v := .ref (ga K "Maker")) (by rfl) T.g_Maker rfl) pa_nil))) (pe_one (pe_cmpR (op_eqD hr.units) (pe_fld (pv 0) rfl) (pe_fld (pv 1) rfl) (nomark _)))))), ?_⟩
    refine ⟨_, rfl, _, _, _, _, _, rfl, .own _, T.o_Maker.ty N.hx, T.o_Maker.self, _, rfl, iteT ?_⟩
    refine ⟨_, rfl, _, _, _, _, _, rfl, M.hx, T.o_Maker.cl, T.n_Maker_kept_terms, mkF_at, _, rfl, _, _, _, _, _, rfl, N.hx, T.o_Maker.cl, T.n_Maker_kept_terms, mkF_at, _, _, M.dp, N.dp, (pd_tms ts).shaped, (pd_tms us).shaped, ?_⟩
    rw [eqv_tms]
    exact q
/-! making a Maker -/
theorem mkMk {H : Hp} {v : V} {d : PyData} {Q : Addr → Hp → Prop} {E : XK} (hd : Dp K H v d) (hl : (itemsD d).length ≤ 1000) (hE : makeOk d = false → ∀ H', Same H H' → E (.ref (ga K "NoCell")) none H')
    (hQ : makeOk d = true → ∀ x dx t us H', Same H H' → H x = none → H' x = some (.ins (aMk K) dx (mkF t)) → H' t = some (.tup us) → DpAll K H' us (itemsD d) → Q x H') :
    ∀ x dx, H x = none → H dx = none → dx ≠ x → spMk K [.ref x, v] (upd (upd H dx (.own x)) x (.ins (aMk K) dx [])) (fun v H2 => v = .non ∧ Q x H2) E := by
  intro x dx nx ndx hne
  generalize eH1 : upd (upd H dx _) x _ = H1
  have s1 : Same H H1 := eH1 ▸ (same_upd ndx).trans (same_upd (by rw [upd_ne (Ne.symm hne)]; exact nx))
  have x1 : H1 x = some (.ins (aMk K) dx []) := eH1 ▸ upd_same
  refine ⟨x, dx, v, d, rfl, x1, Dp.same s1 hd, hl, fun z H' s' => hE z H' (s1.trans s'), fun z t us H' m nt hx ht hu => ⟨rfl, ?_⟩⟩
  have sH : Same H H' := fun b o hb => m.out _ _ (s1 _ _ hb) (by simp; exact ne_of_none hb nx)
  exact hQ z x dx t us H' sH nx hx ht hu
theorem make_ok {ts : List Tm} (h : ∀ t ∈ ts, Tm.ok t) (h1 : 1 ≤ ts.length) (h3 : ts.length ≤ 3) : makeOk (.list (ts.map Tm.d)) = true ∧ makeOk (.tuple (ts.map Tm.d)) = true := by
  have e : ((decide (1 ≤ (ts.map Tm.d).length) && decide ((ts.map Tm.d).length ≤ 3)) && (ts.map Tm.d).all isTermD) = true := by
    rw [List.length_map, decide_eq_true h1, decide_eq_true h3, List.all_map]
    exact List.all_eq_true.mpr fun t ht => Tm.isTerm (h t ht)
  exact ⟨e, e⟩
/-! maker_of -/
def ItsAt (K : PySem.W.Frag) (H : Hp) : List V → List (Option Tm) → Prop
  | [], [] => True
  | v :: vs, o :: os => ItAt K H v o ∧ ItsAt K H vs os
  | _, _ => False
theorem ItAt.same {H H' : Hp} {v : V} {o : Option Tm} (s : Same H H') (h : ItAt K H v o) : ItAt K H' v o := by
  match o, h with
  | some (.cell p c), ⟨x, dx, e1, e2, e3⟩ => exact ⟨x, dx, e1, s _ _ e2, e3⟩
  | some (.val a b), .inl h => exact .inl h
  | some (.val a b), .inr ⟨h, l⟩ => exact .inr ⟨Dp.same s h, l⟩
  | none, ⟨d, h, e⟩ => exact ⟨d, Dp.same s h, e⟩
theorem ItsAt.same {H H' : Hp} (s : Same H H') : ∀ {vs : List V} {os : List (Option Tm)}, ItsAt K H vs os → ItsAt K H' vs os
  | [], [], _ => trivial
  | _ :: _, _ :: _, h => ⟨h.1.same s, ItsAt.same s h.2⟩
  | [], _ :: _, h => h.elim
  | _ :: _, [], h => h.elim
theorem ItsAt.length {H : Hp} : ∀ {vs : List V} {os : List (Option Tm)}, ItsAt K H vs os → vs.length = os.length
  | [], [], _ => rfl
  | _ :: _, _ :: _, h => congrArg Nat.succ (ItsAt.length h.2)
  | [], _ :: _, h => h.elim
  | _ :: _, [], h => h.elim
theorem ItsAt.get {H : Hp} : ∀ {vs : List V} {os : List (Option Tm)} {i : Nat} {v : V}, ItsAt K H vs os → vs[i]? = some v → ∃ o, os[i]? = some o ∧ ItAt K H v o
  | _ :: _, _ :: _, 0, _, h, e => by cases e; exact ⟨_, rfl, h.1⟩
  | _ :: _, _ :: _, i + 1, _, h, e => ItsAt.get (i := i) h.2 e
  | [], [], _, _, _, e => by simp at e
  | [], _ :: _, _, _, h, _ => h.elim
  | _ :: _, [], _, _, h, _ => h.elim
/-- what maker_of is asked for: a list of such items, or data that is no list -/
def MkArg (K : PySem.W.Frag) (H : Hp) (v : V) (o : Option (List (Option Tm))) : Prop := match o with
  | some os => ∃ a vs, v = .ref a ∧ SqL K H a vs ∧ ItsAt K H vs os ∧ os.length ≤ 1000 ∧ ∀ t, some t ∈ os → Tm.ok t
  | none => ∃ d, Dp K H v d ∧ isTy .lst d = false
theorem MkArg.same {H H' : Hp} {v : V} {o : Option (List (Option Tm))} (s : Same H H') (h : MkArg K H v o) : MkArg K H' v o := by
  match o, h with
  | some os, ⟨a, vs, e, h1, h2, h3⟩ => exact ⟨a, vs, e, s.seq h1, h2.same s, h3⟩
  | none, ⟨d, h, e⟩ => exact ⟨d, Dp.same s h, e⟩
/-- the terms, if it is let -/
def mkTs : Option (List (Option Tm)) → Option (List Tm)
  | some os => if (os.all Option.isSome && (decide (1 ≤ os.length) && decide (os.length ≤ 3))) = true then some (os.filterMap id) else none
  | none => none
theorem mkTs_map {ts : List Tm} (h1 : 1 ≤ ts.length) (h3 : ts.length ≤ 3) : mkTs (some (ts.map some)) = some ts := by
  show (if ((ts.map some).all Option.isSome && (decide (1 ≤ (ts.map some).length) && decide ((ts.map some).length ≤ 3))) = true then some ((ts.map some).filterMap id) else none) = _
  rw [List.length_map, decide_eq_true h1, decide_eq_true h3, List.all_map]
  rw [if_pos]
  · congr 1
    rw [List.filterMap_map]
    exact List.filterMap_some
  · rw [Bool.and_true, Bool.and_true]
    exact List.all_eq_true.mpr fun _ _ => rfl
def spMkOf (K : PySem.W.Frag) : Sp := fun vs H Q _ => ∃ v o, vs = [v] ∧ MkArg K H v o ∧ (mkTs o = none → ∀ H', Same H H' → Q .non H') ∧ ∀ ts, mkTs o = some ts → ∀ x dx t H', Same H H' → H x = none → MkAt K H' x dx t ts → Q (.ref x) H'
theorem fm_some : ∀ {os : List (Option Tm)}, os.all Option.isSome = true → os.map (fun o => o.getD (.val 0 1)) = os.filterMap id ∧ os = (os.filterMap id).map some
  | [], _ => ⟨rfl, rfl⟩
  | none :: r, h => by cases h
  | some t :: r, h => by
    have h' : r.all Option.isSome = true := by rw [List.all_cons] at h; exact (Bool.and_eq_true_iff.mp h).2
    obtain ⟨h1, h2⟩ := fm_some h'
    refine ⟨?_, ?_⟩
    · show t :: _ = t :: _
      rw [h1]
    · show some t :: r = some t :: _
      rw [← h2]
theorem d_maker_of (T : Txt K mg) : Dn P w K mg base CX0 6 "maker_of" (spMkOf K) := by
  obtain ⟨fd, F⟩ := T.f_maker_of
  have D_of := d_of (P := P) (w := w) (base := base) T
  have D_mk := d_mk (P := P) (w := w) (base := base) T
  refine dnN T.g_maker_of F (fun _ _ _ _ _ _ us hl => match us, hl with | [_], _ => rfl) sc_maker_of (fun vs H Q E h => ?_) (fun cdv A outer s H vs Q E hr h => ?_)
  · obtain ⟨v, o, rfl, _⟩ := h
    rfl
  · obtain ⟨v, o, rfl, hM, hN, hQ⟩ := h
    refine ⟨_, PSs.nox (pss_cons (ps_if (pt_not (pt_val (pe_callB call_isi (by rfl) T.z_isinstance (by decide +kernel) (pa_cons (pv 0) (pa_cons (pe_bltn (v := .ty "list") (by rfl) T.z_list (by decide +kernel) rfl) pa_nil))))) (pss_one (ps_ret pe_non)) pss_nil)
      (pss_one (ps_try_only (by rfl) (by rfl) ⟨rfl, by decide, .inl T.x_NoCell.g⟩ takes0 (fun W pn xe tk po => (pss_one (ps_ret (pe_makeE T.m_Maker D_mk (hr.mono (by decide)) T.g_Maker (pxx tk) (pa_cons (pe_lcX (own := [("item", 1)]) (tt := tYes) tk (by rfl) (by rfl) (by rfl) sc_maker_of.nd (show PI _ _ _ (iList K (tVar 0)) from pi_list (pv 0)) (blkOk_by (own := [("item", 1)]) (N := ["thing", "item"]) (sc := defScope s_maker_of) (by decide +kernel)) (fun _ _ _ _ _ => (pg_name (i := 1) sc_maker_of.nd rfl (.inl rfl))) (fun _ _ _ _ _ => pts_nil) (fun _ _ _ _ _ _ _ hx => (pe_smE (pe_glob (v := .ref (ga K "Cell")) (by rfl) T.g_Cell rfl) T.s_Cell_of D_of (hr.mono (by decide)) hx (pa_cons (pv 1) pa_nil)))) pa_nil)))))
      (fun a oe cls d pn hz hf => (pss_one (ps_ret pe_non)))))), ?_⟩
    cases o with
    | none =>
      obtain ⟨d, hd, e⟩ := hM
      refine ⟨_, rfl, _, _, _, _, _, rfl, .ty _, Dp.ty hd, kit_d K .lst d, _, rfl, ?_⟩
      rw [e]
      exact iteT (hN rfl H (.refl _))
    | some os =>
      obtain ⟨a, vs, rfl, ha, hI, hl, hok⟩ := hM
      have lv := hI.length
      refine ⟨_, rfl, _, _, _, _, _, rfl, .ty _, SqL.ty ha, kit_ty (kit_k .lst .lst), _, rfl, iteF ?_⟩
      have fail : mkTs (some os) = none → ∀ H', Same H H' → ∃ b, PySem.W.exmOne K (.ref (ga K "NoCell")) (.ref (ga K "NoCell")) = some b ∧ (b = true → ∀ a : Addr, H' a = none → Q .non H') ∧ (b = false → False) := fun e H' s => ⟨true, T.e_NoCell_NoCell, fun _ _ _ => hN e H' s, fun z => by cases z⟩
      refine ⟨_, rfl, a, rfl, ⟨_, ha⟩, fun D nD => ?_⟩
      have sD : Same H (upd H D (.lst [])) := same_upd nD
      refine lcX_it (walk_list (xs := vs)) (fun i H' => (os.take i).all Option.isSome = true ∧ ∃ us, H' D = some (.lst us) ∧ DpAll K H' us (((os.take i).filterMap id).map Tm.d) ∧ Md [D] (upd H D (.lst [])) H') ⟨rfl, [], upd_same, .nil, .refl _ _⟩ (fun i H' _ h => ?_) ?_ ?_
      · obtain ⟨_, us, _, _, m⟩ := h
        exact SqL.new ha (Md.newM (S := []) m (Md.of sD) nD) (by simp)
      · rintro i xv H' H'' hi ⟨hg, us, eu, au, m⟩ ⟨rfl, hx⟩
        obtain ⟨o, ho, hIt⟩ := hI.get hx
        have sH : Same H H'' := (Md.newM (S := []) m (Md.of sD) nD).same
        have mem := List.mem_of_getElem? ho
        refine ⟨rfl, tYes_of ?_⟩
        refine ⟨rfl, _, rfl, xv, o, rfl, hIt.same sH, fun eo => ?_, fun t eo p H3 s3 d3 => ?_⟩
        · subst eo
          refine fail ?_ H'' sH
          refine if_neg fun z => ?_
          have := List.all_eq_true.mp (Bool.and_eq_true_iff.mp z).1 none mem
          cases this
        · subst eo
          have eu3 := s3 _ _ eu
          have hlu : us.length < sizeLine := by
            rw [DpAll.length au, List.length_map]
            have h1 := List.length_filterMap_le id (os.take i)
            rw [List.length_take] at h1
            exact Nat.lt_of_le_of_lt (Nat.le_trans h1 (Nat.le_trans (Nat.min_le_right _ _) hl)) (by decide)
          refine ⟨us, eu3, hlu, ?_⟩
          have mu : Md [D] H3 (upd H3 D (.lst (us ++ [.ref p]))) := Md.upd eu3 rfl (by simp)
          refine ⟨?_, _, upd_same, ?_, (m.trans (Md.of s3)).trans mu⟩
          · rw [tk1 ho, List.all_append, hg]
            rfl
          · rw [tk1 ho, List.filterMap_append, List.map_append]
            refine DpAll.snoc (mu.dp (Tm.pd t).1.nl d3) (mu.dpAll (pds_tm _).1.nl (DpAll.same s3 au))
      · rintro H' ⟨hg, us, eu, au, m⟩
        rw [lv, List.take_length] at hg
        rw [lv, List.take_length] at au
        have sH : Same H H' := (Md.newM (S := []) m (Md.of sD) nD).same
        obtain ⟨_, hos⟩ := fm_some hg
        generalize os.filterMap id = ts at *
        subst hos
        have hok' : ∀ t ∈ ts, Tm.ok t := fun t ht => hok t (List.mem_map.mpr ⟨t, ht, rfl⟩)
        have eM : makeOk (.list (ts.map Tm.d)) = (decide (1 ≤ ts.length) && decide (ts.length ≤ 3)) := by
          show ((decide (1 ≤ (ts.map Tm.d).length) && decide ((ts.map Tm.d).length ≤ 3)) && (ts.map Tm.d).all isTermD) = _
          rw [List.length_map, List.all_map, show ts.all (isTermD ∘ Tm.d) = true from List.all_eq_true.mpr fun t ht => Tm.isTerm (hok' t ht), Bool.and_true]
        have hl' : ts.length ≤ 1000 := by rw [List.length_map] at hl; exact hl
        refine mkMk (d := .list (ts.map Tm.d)) (.lst (SqL.of eu) au) (by show (ts.map Tm.d).length ≤ 1000; rw [List.length_map]; exact hl') (fun z H2 s2 => fail ?_ H2 (sH.trans s2)) fun z x dx t us2 H2 s2 nx hx ht hu => ?_
        · rw [eM] at z
          refine if_neg fun zz => ?_
          rw [List.length_map, z, Bool.and_false] at zz
          cases zz
        · rw [eM] at z
          obtain ⟨z1, z2⟩ := Bool.and_eq_true_iff.mp z
          refine hQ ts (mkTs_map (of_decide_eq_true z1) (of_decide_eq_true z2)) x dx t H2 (sH.trans s2) (sH.free nx) ⟨hx, ⟨us2, ht, hu⟩, hok'⟩

end
end K11
namespace K11
open PySem PySem.Spec PyProof.Rows L2 He TL EL
section
variable {P : Program} {w : World} {K : PySem.W.Frag} {mg : Str → Option Value} {base : Heap}
/-! Rule -/
abbrev aRu (K : PySem.W.Frag) : Addr := ga K "Rule"
def ruF (a o t m c d : V) : List (Str × V) := putF "span" d (putF "demanded" c (putF "making" m (putF "joined" t (putF "source" o (putF "made" a [])))))
section
variable {a o t m c d : V}
theorem ruF_made : (ruF a o t m c d).lookup ("made" : Str) = some a := by
  unfold ruF
  rw [lookup_putF, if_neg (by decide +kernel), lookup_putF, if_neg (by decide +kernel), lookup_putF, if_neg (by decide +kernel), lookup_putF, if_neg (by decide +kernel), lookup_putF, if_neg (by decide +kernel), lookup_putF, if_pos rfl]
theorem ruF_source : (ruF a o t m c d).lookup ("source" : Str) = some o := by
  unfold ruF
  rw [lookup_putF, if_neg (by decide +kernel), lookup_putF, if_neg (by decide +kernel), lookup_putF, if_neg (by decide +kernel), lookup_putF, if_neg (by decide +kernel), lookup_putF, if_pos rfl]
theorem ruF_joined : (ruF a o t m c d).lookup ("joined" : Str) = some t := by
  unfold ruF
  rw [lookup_putF, if_neg (by decide +kernel), lookup_putF, if_neg (by decide +kernel), lookup_putF, if_neg (by decide +kernel), lookup_putF, if_pos rfl]
theorem ruF_making : (ruF a o t m c d).lookup ("making" : Str) = some m := by
  unfold ruF
  rw [lookup_putF, if_neg (by decide +kernel), lookup_putF, if_neg (by decide +kernel), lookup_putF, if_pos rfl]
theorem ruF_demanded : (ruF a o t m c d).lookup ("demanded" : Str) = some c := by
  unfold ruF
  rw [lookup_putF, if_neg (by decide +kernel), lookup_putF, if_pos rfl]
theorem ruF_span : (ruF a o t m c d).lookup ("span" : Str) = some d := by
  unfold ruF
  rw [lookup_putF, if_pos rfl]
theorem ruF_no {z : Str} (h : decide (z ∉ (["made", "source", "joined", "making", "demanded", "span"] : List Str)) = true) : (ruF a o t m c d).lookup z = none := by
  have h := of_decide_eq_true h
  simp only [List.mem_cons, List.not_mem_nil, or_false, not_or] at h
  obtain ⟨h1, h2, h3, h4, h5, h6⟩ := h
  unfold ruF
  rw [lookup_putF, if_neg h6, lookup_putF, if_neg h5, lookup_putF, if_neg h4, lookup_putF, if_neg h3, lookup_putF, if_neg h2, lookup_putF, if_neg h1]
  rfl
end
def spRu (K : PySem.W.Frag) : Sp := fun args H Q _ => ∃ x dx a o t m la vs as d, args = [.ref x, a, o, t, m, .ref la, d] ∧ H x = some (.ins (aRu K) dx []) ∧ SqL K H la vs ∧ DpAll K H vs (as.map At.d) ∧ (∀ a ∈ as, At.ok a) ∧ as.length ≤ 1000 ∧
  ∀ c dc lc H', Md [x] H H' → H c = none → H lc = none → c ≠ lc → H' x = some (.ins (aRu K) dx (ruF a o t m (.ref c) d)) → CdAt K H' c dc lc (dd as) → Q .non H'
theorem d_ru (T : Txt K mg) : FnR P w K mg base CX0 7 (ma K (ga K "Rule") "__init__") (spRu K) := by
  obtain ⟨fd, F⟩ := T.f_Rule___init__
  have D_cd := d_cd1 (P := P) (w := w) (base := base) T
  refine fnN F (fun _ _ _ _ _ _ us hl => match us, hl with | [_, _, _, _, _, _, _], _ => rfl) sc_Rule___init__ (fun vs H Q E h => ?_) (fun cdv A outer s H vs Q E hr h => ?_)
  · obtain ⟨x, dx, a, o, t, m, la, vs, as, d, rfl, _⟩ := h
    rfl
  · obtain ⟨x, dx, a, o, t, m, la, vs, as, d, rfl, hx, hS, hA, hok, hl, hQ⟩ := h
    refine ⟨_, PSs.nox (pss_cons (ps_fld (pv 0) (pv 1) rfl)
      (pss_cons (ps_fld (pv 0) (pv 2) rfl)
      (pss_cons (ps_fld (pv 0) (pv 3) rfl)
      (pss_cons (ps_fld (pv 0) (pv 4) rfl)
      (pss_cons (ps_fld (pv 0) (pe_makeE T.m_Conditions D_cd hr T.g_Conditions pxq (pa_cons (pv 5) pa_nil)) rfl)
      (pss_one (ps_fld (pv 0) (pv 6) rfl))))))), ?_⟩
    refine ⟨_, rfl, _, rfl, _, _, _, _, rfl, hx, T.o_Rule.cl, T.n_Rule_made, (by decide), ?_⟩
    refine ⟨_, rfl, _, rfl, _, _, _, _, rfl, upd_same, T.o_Rule.cl, T.n_Rule_source, (by show 1 < 1000; decide), ?_⟩
    rw [upd_upd]
    refine ⟨_, rfl, _, rfl, _, _, _, _, rfl, upd_same, T.o_Rule.cl, T.n_Rule_joined, (by show 2 < 1000; decide), ?_⟩
    rw [upd_upd]
    refine ⟨_, rfl, _, rfl, _, _, _, _, rfl, upd_same, T.o_Rule.cl, T.n_Rule_making, (by show 3 < 1000; decide), ?_⟩
    rw [upd_upd]
    generalize eH1 : upd H x _ = H1
    have m1 : Md [x] H H1 := eH1 ▸ Md.upd hx rfl (by simp)
    have x1 : H1 x = some (.ins (aRu K) dx (putF "making" m (putF "joined" t (putF "source" o (putF "made" a []))))) := eH1 ▸ upd_same
    have S1 : SqL K H1 la vs := by
      rcases hS with (h | ⟨o, h⟩) | h
      · exact .inl (.inl (m1.out _ _ h (not1 (ne_of h hx (by intro z; cases z)))))
      · exact .inl (.inr ⟨o, m1.rig _ _ h rfl⟩)
      · exact .inr h
    have A1 : DpAll K H1 vs (as.map At.d) := m1.dpAll (pds_at as).nl hA
    refine ⟨_, rfl, ?_⟩
    refine mkCd (as := as) (.inl S1) A1 hok hl fun c dc lc H2 s2 nc nlc hcl CD => ?_
    have x2 := s2 _ _ x1
    refine ⟨_, rfl, _, _, _, _, rfl, x2, T.o_Rule.cl, T.n_Rule_demanded, (by show 4 < 1000; decide), ?_⟩
    refine ⟨_, rfl, _, rfl, _, _, _, _, rfl, upd_same, T.o_Rule.cl, T.n_Rule_span, (by show 5 < 1000; decide), ?_⟩
    rw [upd_upd]
    have m3 : Md [x] H2 (upd H2 x (.ins (aRu K) dx (ruF a o t m (.ref c) d))) := Md.upd x2 rfl (by simp)
    have cx : c ≠ x := fun z => by rw [z, x1] at nc; cases nc
    have lx : lc ≠ x := fun z => by rw [z, x1] at nlc; cases nlc
    exact hQ c dc lc _ ((m1.trans (Md.of s2)).trans m3) (free_md m1 (al1 x1) nc) (free_md m1 (al1 x1) nlc) hcl upd_same (CD.md m3 (not1 cx) (not1 lx))
theorem mkRu {H : Hp} {a o t m d : V} {la : Addr} {vs : List V} {as : List At} {Q : Addr → Hp → Prop} {E : XK} (hS : SqL K H la vs) (hA : DpAll K H vs (as.map At.d)) (hok : ∀ a ∈ as, At.ok a) (hl : as.length ≤ 1000)
    (hQ : ∀ x dx c dc lc H', Same H H' → H x = none → H c = none → H lc = none → H' x = some (.ins (aRu K) dx (ruF a o t m (.ref c) d)) → CdAt K H' c dc lc (dd as) → Q x H') :
    ∀ x dx, H x = none → H dx = none → dx ≠ x → spRu K [.ref x, a, o, t, m, .ref la, d] (upd (upd H dx (.own x)) x (.ins (aRu K) dx [])) (fun v H2 => v = .non ∧ Q x H2) E := by
  intro x dx nx ndx hne
  generalize eH1 : upd (upd H dx _) x _ = H1
  have s1 : Same H H1 := eH1 ▸ (same_upd ndx).trans (same_upd (by rw [upd_ne (Ne.symm hne)]; exact nx))
  have x1 : H1 x = some (.ins (aRu K) dx []) := eH1 ▸ upd_same
  refine ⟨x, dx, a, o, t, m, la, vs, as, d, rfl, x1, s1.seq hS, DpAll.same s1 hA, hok, hl, fun c dc lc H' mm nc nlc hcl hx CD => ⟨rfl, ?_⟩⟩
  exact hQ x dx c dc lc H' (fun b o hb => mm.out _ _ (s1 _ _ hb) (by simp; exact ne_of_none hb nx)) nx (s1.free nc) (s1.free nlc) hx CD
/-! a rule's parts -/
structure Ru where
  a : Str
  o : Option Str
  ws : List Str
  ts : List Tm
  as : List At
  n : Int
  m : Option Int
  deriving DecidableEq
def optS : Option Str → V
  | none => .non
  | some z => .str z
def optI : Option Int → V
  | none => .non
  | some z => .int z
def optSD : Option Str → PyData
  | none => .none
  | some z => .str z
def optID : Option Int → PyData
  | none => .none
  | some z => .int z
def spanD (n : Int) (m : Option Int) : PyData := .tuple [.int n, optID m]
abbrev wsD (ws : List Str) : List PyData := ws.map PyData.str
structure RuAt (K : PySem.W.Frag) (M : List Addr) (H : Hp) (x : Addr) (r : Ru) : Prop where
  ex : ∃ dx t mk dmk tm c dc lc d, H x = some (.ins (aRu K) dx (ruF (.str r.a) (optS r.o) t (.ref mk) (.ref c) d)) ∧ Dp K H t (.tuple (wsD r.ws)) ∧ MkAt K H mk dmk tm r.ts ∧ CdAt K H c dc lc r.as ∧ Dp K H d (spanD r.n r.m) ∧
    x ∉ M ∧ mk ∉ M ∧ c ∉ M ∧ lc ∉ M
theorem noL_ws : ∀ ws : List Str, noLs (wsD ws) = true
  | [] => rfl
  | _ :: r => noL_ws r
theorem noL_span (n : Int) (m : Option Int) : noL (spanD n m) = true := by cases m <;> rfl
theorem RuAt.md {M : List Addr} {H H' : Hp} {x : Addr} {r : Ru} (R : RuAt K M H x r) (m : Md M H H') : RuAt K M H' x r := by
  obtain ⟨dx, t, mk, dmk, tm, c, dc, lc, d, h1, h2, h3, h4, h5, n1, n2, n3, n4⟩ := R.ex
  exact ⟨⟨dx, t, mk, dmk, tm, c, dc, lc, d, m.out _ _ h1 n1, m.dp (noL_ws _) h2, h3.md m n2, h4.md m n3 n4, m.dp (noL_span _ _) h5, n1, n2, n3, n4⟩⟩
theorem RuAt.same {M : List Addr} {H H' : Hp} {x : Addr} {r : Ru} (R : RuAt K M H x r) (s : Same H H') : RuAt K M H' x r := R.md (.of s)
theorem RuAt.re {M M' : List Addr} {H : Hp} {x : Addr} {r : Ru} (R : RuAt K M H x r) (hm : ∀ b, b ∉ M → (∃ o, H b = some o) → b ∉ M') : RuAt K M' H x r := by
  obtain ⟨dx, t, mk, dmk, tm, c, dc, lc, d, h1, h2, h3, h4, h5, n1, n2, n3, n4⟩ := R.ex
  obtain ⟨vs, e, _⟩ := h4.hl
  exact ⟨⟨dx, t, mk, dmk, tm, c, dc, lc, d, h1, h2, h3, h4, h5, hm _ n1 ⟨_, h1⟩, hm _ n2 ⟨_, h3.hx⟩, hm _ n3 ⟨_, h4.hx⟩, hm _ n4 ⟨_, e⟩⟩⟩
theorem RuAt.nil {M : List Addr} {H : Hp} {x : Addr} {r : Ru} (R : RuAt K M H x r) : RuAt K [] H x r := R.re fun b _ _ => by simp
/-! its methods -/
def spGet (K : PySem.W.Frag) (f : Ru → PyData) : Sp := fun vs H Q _ => ∃ x r, vs = [.ref x] ∧ RuAt K [] H x r ∧ ∀ v, Dp K H v (f r) → Q v H
theorem dp_optS {H : Hp} (o : Option Str) : Dp K H (optS o) (optSD o) := by cases o <;> constructor
theorem dp_optI {H : Hp} (o : Option Int) : Dp K H (optI o) (optID o) := by cases o <;> constructor
theorem d_ru_answer (T : Txt K mg) : FnR P w K mg base CX0 1 (ma K (ga K "Rule") "answer") (spGet K fun r => .str r.a) := by
  obtain ⟨fd, F⟩ := T.f_Rule_answer
  refine fnN F (fun _ _ _ _ _ _ us hl => match us, hl with | [_], _ => rfl) sc_Rule_answer (fun vs H Q E h => ?_) (fun cdv A outer s H vs Q E hr h => ?_)
  · obtain ⟨x, r, rfl, _⟩ := h
    rfl
  · obtain ⟨x, r, rfl, R, q⟩ := h
    obtain ⟨dx, t, mk, dmk, tm, c, dc, lc, d, h1, h2, h3, h4, h5, _⟩ := R.ex
    exact ⟨_, PSs.nox (pss_one (ps_ret (pe_fld (pv 0) rfl))), _, rfl, _, _, _, _, _, rfl, h1, T.o_Rule.cl, T.n_Rule_made, ruF_made, q _ (.str _)⟩
theorem d_ru_old (T : Txt K mg) : FnR P w K mg base CX0 1 (ma K (ga K "Rule") "old") (spGet K fun r => optSD r.o) := by
  obtain ⟨fd, F⟩ := T.f_Rule_old
  refine fnN F (fun _ _ _ _ _ _ us hl => match us, hl with | [_], _ => rfl) sc_Rule_old (fun vs H Q E h => ?_) (fun cdv A outer s H vs Q E hr h => ?_)
  · obtain ⟨x, r, rfl, _⟩ := h
    rfl
  · obtain ⟨x, r, rfl, R, q⟩ := h
    obtain ⟨dx, t, mk, dmk, tm, c, dc, lc, d, h1, h2, h3, h4, h5, _⟩ := R.ex
    exact ⟨_, PSs.nox (pss_one (ps_ret (pe_fld (pv 0) rfl))), _, rfl, _, _, _, _, _, rfl, h1, T.o_Rule.cl, T.n_Rule_source, ruF_source, q _ (dp_optS _)⟩
theorem d_ru_tables (T : Txt K mg) : FnR P w K mg base CX0 1 (ma K (ga K "Rule") "tables") (spGet K fun r => .tuple (wsD r.ws)) := by
  obtain ⟨fd, F⟩ := T.f_Rule_tables
  refine fnN F (fun _ _ _ _ _ _ us hl => match us, hl with | [_], _ => rfl) sc_Rule_tables (fun vs H Q E h => ?_) (fun cdv A outer s H vs Q E hr h => ?_)
  · obtain ⟨x, r, rfl, _⟩ := h
    rfl
  · obtain ⟨x, r, rfl, R, q⟩ := h
    obtain ⟨dx, t, mk, dmk, tm, c, dc, lc, d, h1, h2, h3, h4, h5, _⟩ := R.ex
    exact ⟨_, PSs.nox (pss_one (ps_ret (pe_fld (pv 0) rfl))), _, rfl, _, _, _, _, _, rfl, h1, T.o_Rule.cl, T.n_Rule_joined, ruF_joined, q _ h2⟩
theorem d_ru_depths (T : Txt K mg) : FnR P w K mg base CX0 1 (ma K (ga K "Rule") "depths") (spGet K fun r => spanD r.n r.m) := by
  obtain ⟨fd, F⟩ := T.f_Rule_depths
  refine fnN F (fun _ _ _ _ _ _ us hl => match us, hl with | [_], _ => rfl) sc_Rule_depths (fun vs H Q E h => ?_) (fun cdv A outer s H vs Q E hr h => ?_)
  · obtain ⟨x, r, rfl, _⟩ := h
    rfl
  · obtain ⟨x, r, rfl, R, q⟩ := h
    obtain ⟨dx, t, mk, dmk, tm, c, dc, lc, d, h1, h2, h3, h4, h5, _⟩ := R.ex
    exact ⟨_, PSs.nox (pss_one (ps_ret (pe_fld (pv 0) rfl))), _, rfl, _, _, _, _, _, rfl, h1, T.o_Rule.cl, T.n_Rule_span, ruF_span, q _ h5⟩
theorem d_ru_step (T : Txt K mg) : FnR P w K mg base CX0 1 (ma K (ga K "Rule") "is_step") (spGet K fun r => .bool r.o.isSome) := by
  obtain ⟨fd, F⟩ := T.f_Rule_is_step
  refine fnN F (fun _ _ _ _ _ _ us hl => match us, hl with | [_], _ => rfl) sc_Rule_is_step (fun vs H Q E h => ?_) (fun cdv A outer s H vs Q E hr h => ?_)
  · obtain ⟨x, r, rfl, _⟩ := h
    rfl
  · obtain ⟨x, r, rfl, R, q⟩ := h
    obtain ⟨dx, t, mk, dmk, tm, c, dc, lc, d, h1, h2, h3, h4, h5, _⟩ := R.ex
    refine ⟨_, PSs.nox (pss_one (ps_ret (pe_cmpR op_notN (pe_fld (pv 0) rfl) pe_non (nomark _)))), _, rfl, _, _, _, _, _, rfl, h1, T.o_Rule.cl, T.n_Rule_source, ruF_source, ?_⟩
    have q' := q (.bl r.o.isSome) (.bl _)
    generalize r.o = o at *
    cases o with
    | none => exact ⟨rfl, q'⟩
    | some z => exact ⟨rfl, q'⟩
def spMaker (K : PySem.W.Frag) : Sp := fun vs H Q _ => ∃ x r, vs = [.ref x] ∧ RuAt K [] H x r ∧ ∀ y dy t, MkAt K H y dy t r.ts → Q (.ref y) H
theorem d_ru_maker (T : Txt K mg) : FnR P w K mg base CX0 1 (ma K (ga K "Rule") "maker") (spMaker K) := by
  obtain ⟨fd, F⟩ := T.f_Rule_maker
  refine fnN F (fun _ _ _ _ _ _ us hl => match us, hl with | [_], _ => rfl) sc_Rule_maker (fun vs H Q E h => ?_) (fun cdv A outer s H vs Q E hr h => ?_)
  · obtain ⟨x, r, rfl, _⟩ := h
    rfl
  · obtain ⟨x, r, rfl, R, q⟩ := h
    obtain ⟨dx, t, mk, dmk, tm, c, dc, lc, d, h1, h2, h3, h4, h5, _⟩ := R.ex
    exact ⟨_, PSs.nox (pss_one (ps_ret (pe_fld (pv 0) rfl))), _, rfl, _, _, _, _, _, rfl, h1, T.o_Rule.cl, T.n_Rule_making, ruF_making, q _ _ _ h3⟩
def spConds (K : PySem.W.Frag) : Sp := fun vs H Q _ => ∃ x r, vs = [.ref x] ∧ RuAt K [] H x r ∧ r.as.length ≤ 400 ∧ ∀ z dz n H', Same H H' → H z = none → H n = none → z ≠ n → CdAt K H' z dz n (dd r.as) → Q (.ref z) H'
theorem d_ru_conds (T : Txt K mg) : FnR P w K mg base CX0 7 (ma K (ga K "Rule") "conditions") (spConds K) := by
  obtain ⟨fd, F⟩ := T.f_Rule_conditions
  have D_cd := d_cd1 (P := P) (w := w) (base := base) T
  have D_atoms := d_atoms (P := P) (w := w) (base := base) T
  refine fnN F (fun _ _ _ _ _ _ us hl => match us, hl with | [_], _ => rfl) sc_Rule_conditions (fun vs H Q E h => ?_) (fun cdv A outer s H vs Q E hr h => ?_)
  · obtain ⟨x, r, rfl, _⟩ := h
    rfl
  · obtain ⟨x, r, rfl, R, hl, q⟩ := h
    obtain ⟨dx, t, mk, dmk, tm, c, dc, lc, d, h1, h2, h3, h4, h5, _⟩ := R.ex
    refine ⟨_, PSs.nox (pss_one (ps_ret (pe_makeE T.m_Conditions D_cd hr T.g_Conditions pxq (pa_cons (pe_methE0 (pe_fld (pv 0) rfl) T.o_Conditions.cl T.h_Conditions_atoms D_atoms (hr.mono (by decide)) px0) pa_nil)))), ?_⟩
    refine ⟨_, rfl, _, _, _, _, _, rfl, h1, T.o_Rule.cl, T.n_Rule_demanded, ruF_demanded, _, _, _, rfl, h4.hx, cdF_no (by decide), ?_⟩
    refine ⟨c, dc, lc, r.as, rfl, h4, fun p us H1 np s1 e1 a1 => ?_⟩
    refine mkCd (Q := fun z H' => Q (.ref z) H') (as := r.as) (.inl (SqL.of e1)) a1 h4.ok (by omega) fun z dz n H2 s2 nz nn hzn CD => ?_
    exact q z dz n H2 (s1.trans s2) (s1.free nz) (s1.free nn) hzn CD
def spRuEq (K : PySem.W.Frag) : Sp := fun vs H Q _ => ∃ x y r r', vs = [.ref x, .ref y] ∧ RuAt K [] H x r ∧ RuAt K [] H y r' ∧ (∀ z, (z = r.a ∨ z = r'.a ∨ r.o = some z ∨ r'.o = some z ∨ z ∈ r.ws ∨ z ∈ r'.ws) → PyData.strOk z = true) ∧ Q (.bl (decide (r = r'))) H
theorem eqv_optS (a b : Option Str) : PyData.eqv (optSD a) (optSD b) = decide (a = b) := by
  cases a <;> cases b <;> first | rfl | skip
  rename_i x y
  show (x == y) = _
  rw [show (x == y) = decide (x = y) from rfl]
  exact decide_eq_decide.mpr ⟨fun h => by rw [h], fun h => Option.some.inj h⟩
theorem eqv_optI (a b : Option Int) : PyData.eqv (optID a) (optID b) = decide (a = b) := by
  cases a <;> cases b <;> first | rfl | skip
  rename_i x y
  show (x == y) = _
  rw [show (x == y) = decide (x = y) from rfl]
  exact decide_eq_decide.mpr ⟨fun h => by rw [h], fun h => Option.some.inj h⟩
theorem eqv_wsT : ∀ a b : List Str, PyData.eqv (.tuple (wsD a)) (.tuple (wsD b)) = decide (a = b)
  | [], [] => rfl
  | [], _ :: _ => rfl
  | _ :: _, [] => rfl
  | t :: ts, u :: us => by
    show ((t == u) && PyData.eqv (.tuple (wsD ts)) (.tuple (wsD us))) = _
    rw [eqv_wsT ts us, show (t == u) = decide (t = u) from rfl, ← Bool.decide_and]
    exact decide_eq_decide.mpr ⟨fun h => by rw [h.1, h.2], fun h => by cases h; exact ⟨rfl, rfl⟩⟩
theorem eqv_span (n n' : Int) (m m' : Option Int) : PyData.eqv (spanD n m) (spanD n' m') = decide (n = n' ∧ m = m') := by
  show ((n == n') && (PyData.eqv (optID m) (optID m') && true)) = _
  rw [eqv_optI, Bool.and_true, show (n == n') = decide (n = n') from rfl, ← Bool.decide_and]
theorem sh_optS {o : Option Str} (h : ∀ z, o = some z → PyData.strOk z = true) : SeqAt.shaped (optSD o) = true := by
  cases o with
  | none => rfl
  | some z =>
    show (PyData.strOk z && decide _) = true
    rw [h z rfl]
    rfl
theorem sh_wsT {ws : List Str} (h : ∀ z ∈ ws, PyData.strOk z = true) : SeqAt.shaped (.tuple (wsD ws)) = true := by
  have h1 : PyData.canLayAll0 (wsD ws) = true ∧ PyData.depthAll (wsD ws) ≤ 0 := by
    induction ws with
    | nil => exact ⟨rfl, Nat.le_refl _⟩
    | cons e r ih =>
      obtain ⟨i1, i2⟩ := ih fun x hx => h x (by simp [hx])
      refine ⟨Bool.and_eq_true_iff.mpr ⟨h e (by simp), i1⟩, Nat.max_le.mpr ⟨Nat.le_refl _, i2⟩⟩
  exact Bool.and_eq_true_iff.mpr ⟨h1.1, decide_eq_true (by show PyData.depthAll (wsD ws) + 1 ≤ 64; have := h1.2; omega)⟩
theorem sh_span (n : Int) (m : Option Int) : SeqAt.shaped (spanD n m) = true := by cases m <;> rfl
theorem d_ru_eq (T : Txt K mg) : FnR P w K mg base CX0 2 (ma K (ga K "Rule") "__eq__") (spRuEq K) := by
  obtain ⟨fd, F⟩ := T.f_Rule___eq__
  have D_mkeq := d_mk_eq (P := P) (w := w) (base := base) T
  have D_cdeq := d_cd_eq (P := P) (w := w) (base := base) T
  refine fnN F (fun _ _ _ _ _ _ us hl => match us, hl with | [_, _], _ => rfl) sc_Rule___eq__ (fun vs H Q E h => ?_) (fun cdv A outer s H vs Q E hr h => ?_)
  · obtain ⟨x, y, r, r', rfl, _⟩ := h
    rfl
  · obtain ⟨x, y, r, r', rfl, R, R', hok, q⟩ := h
    obtain ⟨dx, t, mk, dmk, tm, c, dc, lc, d, h1, h2, h3, h4, h5, _⟩ := R.ex
    obtain ⟨dx', t', mk', dmk', tm', c', dc', lc', d', g1, g2, g3, g4, g5, _⟩ := R'.ex
    refine ⟨_, PSs.nox (pss_cons (ps_if (PW.pt (pw_or (pt_not (pt_val (pe_callB call_isi (by rfl) T.z_isinstance (by decide +kernel) (pa_cons (pv 1) (pa_cons (pe_glob (v := .ref (ga K "Rule")) (by rfl) T.g_Rule rfl) pa_nil))))) (pw_or (pt_cmpR (op_neD hr.units) (pe_fld (pv 0) rfl) (pe_fld (pv 1) rfl) (nomark _)) (pw_or1 (pt_cmpR (op_neD hr.units) (pe_fld (pv 0) rfl) (pe_fld (pv 1) rfl) (nomark _)))))) (pss_one (ps_ret pe_bl)) pss_nil)
      (pss_cons (ps_if (PW.pt (pw_or (pt_cmpR (op_neD hr.units) (pe_fld (pv 0) rfl) (pe_fld (pv 1) rfl) (nomark _)) (pw_or1 (pt_cmpR (op_neD hr.units) (pe_fld (pv 0) rfl) (pe_fld (pv 1) rfl) (nomark _))))) (pss_one (ps_ret pe_bl)) pss_nil)
      (pss_one (ps_ret (pe_and (pe_cmpR (op_cmpO (E := E0) (fun _ _ => rfl) T.u_Maker___eq__.1 T.u_Maker___eq__.2 D_mkeq hr (fun _ _ _ _ _ _ _ z => z.elim)) (pe_fld (pv 0) rfl) (pe_fld (pv 1) rfl) (nomark _)) (pe_one (pe_cmpR (op_cmpO (E := E0) (fun _ _ => rfl) T.u_Conditions___eq__.1 T.u_Conditions___eq__.2 D_cdeq hr (fun _ _ _ _ _ _ _ z => z.elim)) (pe_fld (pv 0) rfl) (pe_fld (pv 1) rfl) (nomark _)))))))), ?_⟩
    refine ⟨_, rfl, _, _, _, _, _, rfl, .own _, T.o_Rule.ty g1, T.o_Rule.self, _, rfl, iteF ?_⟩
    have no : ¬ r = r' → Q (.bl false) H := fun z => by rw [decide_eq_false z] at q; exact q
    have shA : SeqAt.shaped (.str r.a) = true := sh_optS (o := some r.a) fun z e => hok z (.inl (Option.some.inj e).symm)
    have shA' : SeqAt.shaped (.str r'.a) = true := sh_optS (o := some r'.a) fun z e => hok z (.inr (.inl (Option.some.inj e).symm))
    have shO := sh_optS (o := r.o) fun z e => hok z (.inr (.inr (.inl e)))
    have shO' := sh_optS (o := r'.o) fun z e => hok z (.inr (.inr (.inr (.inl e))))
    have shW := sh_wsT (ws := r.ws) fun z e => hok z (.inr (.inr (.inr (.inr (.inl e)))))
    have shW' := sh_wsT (ws := r'.ws) fun z e => hok z (.inr (.inr (.inr (.inr (.inr e)))))
    have eA : PyData.eqv (.str r.a) (.str r'.a) = decide (r.a = r'.a) := rfl
    have eO := eqv_optS r.o r'.o
    have eW := eqv_wsT r.ws r'.ws
    have eS := eqv_span r.n r'.n r.m r'.m
    refine ⟨_, rfl, _, _, _, _, _, rfl, h1, T.o_Rule.cl, T.n_Rule_made, ruF_made, _, rfl, _, _, _, _, _, rfl, g1, T.o_Rule.cl, T.n_Rule_made, ruF_made, _, _, .str _, .str _, shA, shA', _, rfl, ?_⟩
    rw [eA]
    by_cases k1 : r.a = r'.a
    case neg => exact if_pos_of (by rw [decide_eq_false k1]; rfl) (no fun z => k1 (by rw [z]))
    refine if_neg_of (by rw [decide_eq_true k1]; rfl) ?_
    refine ⟨_, rfl, _, _, _, _, _, rfl, h1, T.o_Rule.cl, T.n_Rule_source, ruF_source, _, rfl, _, _, _, _, _, rfl, g1, T.o_Rule.cl, T.n_Rule_source, ruF_source, _, _, dp_optS _, dp_optS _, shO, shO', _, rfl, ?_⟩
    rw [eO]
    by_cases k2 : r.o = r'.o
    case neg => exact if_pos_of (by rw [decide_eq_false k2]; rfl) (no fun z => k2 (by rw [z]))
    refine if_neg_of (by rw [decide_eq_true k2]; rfl) ?_
    refine ⟨_, rfl, _, _, _, _, _, rfl, h1, T.o_Rule.cl, T.n_Rule_joined, ruF_joined, _, rfl, _, _, _, _, _, rfl, g1, T.o_Rule.cl, T.n_Rule_joined, ruF_joined, _, _, h2, g2, shW, shW', _, rfl, ?_⟩
    rw [eW]
    by_cases k3 : r.ws = r'.ws
    case neg => exact if_pos_of (by rw [decide_eq_false k3]; rfl) (no fun z => k3 (by rw [z]))
    refine if_neg_of (by rw [decide_eq_true k3]; rfl) ?_
    refine ⟨_, rfl, _, _, _, _, _, rfl, h1, T.o_Rule.cl, T.n_Rule_span, ruF_span, _, rfl, _, _, _, _, _, rfl, g1, T.o_Rule.cl, T.n_Rule_span, ruF_span, _, _, h5, g5, sh_span _ _, sh_span _ _, _, rfl, ?_⟩
    rw [eS]
    by_cases k4 : r.n = r'.n ∧ r.m = r'.m
    case neg => exact if_pos_of (by rw [decide_eq_false k4]; rfl) (no fun z => k4 (by rw [z]; exact ⟨rfl, rfl⟩))
    refine if_neg_of (by rw [decide_eq_true k4]; rfl) ?_
    refine ⟨_, rfl, _, _, _, _, _, rfl, h1, T.o_Rule.cl, T.n_Rule_making, ruF_making, _, rfl, _, _, _, _, _, rfl, g1, T.o_Rule.cl, T.n_Rule_making, ruF_making, ?_⟩
    refine ⟨_, _, _, _, rfl, h3.hx, T.o_Maker.ty g3.hx, T.nf_Maker, _, _, _, _, _, _, _, _, rfl, h3, g3, _, rfl, ?_⟩
    by_cases k5 : r.ts = r'.ts
    case neg =>
      rw [decide_eq_false k5]
      exact iteF (no fun z => k5 (by rw [z]))
    rw [decide_eq_true k5]
    refine iteT ?_
    refine ⟨_, rfl, _, _, _, _, _, rfl, h1, T.o_Rule.cl, T.n_Rule_demanded, ruF_demanded, _, rfl, _, _, _, _, _, rfl, g1, T.o_Rule.cl, T.n_Rule_demanded, ruF_demanded, ?_⟩
    refine ⟨_, _, _, _, rfl, h4.hx, T.o_Conditions.ty g4.hx, T.nf_Conditions, _, _, _, _, _, _, _, _, rfl, h4, g4, ?_⟩
    have : decide (r = r') = decide (r.as = r'.as) := by
      obtain ⟨k4, k6⟩ := k4
      obtain ⟨ra, ro, rw', rt, ras, rn, rm⟩ := r
      obtain ⟨sa, so, sw, st, sas, sn, sm⟩ := r'
      dsimp only at k1 k2 k3 k4 k5 k6 ⊢
      subst k1 k2 k3 k4 k5 k6
      exact decide_eq_decide.mpr ⟨fun z => by injection z, fun z => by rw [z]⟩
    rw [this] at q
    exact q

end
end K11
namespace K11
open PySem PySem.Spec PyProof.Rows L2 He TL EL
section
variable {P : Program} {w : World} {K : PySem.W.Frag} {mg : Str → Option Value} {base : Heap}
/-! base, step -/
/-- the conditions handed: none, an object, or something else -/
def CArg (K : PySem.W.Frag) (H : Hp) (v : V) : Option (List At) → Prop
  | some as => (v = .non ∧ as = []) ∨ ∃ c dc lc, v = .ref c ∧ CdAt K H c dc lc as
  | none => ∃ d, Dp K H v d ∧ d ≠ .none
theorem CArg.same {H H' : Hp} {v : V} {o : Option (List At)} (s : Same H H') (h : CArg K H v o) : CArg K H' v o := by
  match o, h with
  | some as, .inl h => exact .inl h
  | some as, .inr ⟨c, dc, lc, e, C⟩ => exact .inr ⟨c, dc, lc, e, C.same s⟩
  | none, ⟨d, h, e⟩ => exact ⟨d, Dp.same s h, e⟩
def isNonD : PyData → Bool
  | .none => true
  | _ => false
def whyB (d0 d2 : PyData) (o : Option (List (Option Tm))) (oc : Option (List At)) : Option Str :=
  if isWordD d0 = false then some "answer" else if areW 1 d2 = false then some "tables" else if mkTs o = none then some "makes" else if oc = none then some "conditions" else none
def whyS (d0 d1 d2 : PyData) (o : Option (List (Option Tm))) (oc : Option (List At)) (d5 d6 : PyData) : Option Str :=
  if isWordD d0 = false then some "answer" else if isWordD d1 = false then some "old" else if areW 0 d2 = false then some "tables" else if mkTs o = none then some "makes" else if oc = none then some "conditions" else
  if isDepD d5 = false then some "depth_from" else if (!isNonD d6 && !isDepD d6) = true then some "depth_below" else none
theorem word_inv {d : PyData} (h : isWordD d = true) : ∃ z, d = .str z := by
  cases d <;> first | exact ⟨_, rfl⟩ | cases h
theorem words_inv : ∀ {ds : List PyData}, ds.all isWordD = true → ∃ ws, ds = wsD ws
  | [], _ => ⟨[], rfl⟩
  | d :: r, h => by
    rw [List.all_cons] at h
    obtain ⟨h1, h2⟩ := Bool.and_eq_true_iff.mp h
    obtain ⟨z, rfl⟩ := word_inv h1
    obtain ⟨ws, rfl⟩ := words_inv h2
    exact ⟨z :: ws, rfl⟩
theorem areW_inv {n : Nat} {d : PyData} (h : areW n d = true) : ∃ ws, d = .list (wsD ws) := by
  cases d <;> first | (cases h; done) | skip
  rename_i ds
  obtain ⟨ws, rfl⟩ := words_inv (Bool.and_eq_true_iff.mp (show ((decide (n ≤ ds.length) && decide (ds.length ≤ 2)) && ds.all isWordD) = true from h)).2
  exact ⟨ws, rfl⟩
theorem dep_inv {d : PyData} (h : isDepD d = true) : ∃ i, d = .int i := by
  cases d <;> first | exact ⟨_, rfl⟩ | cases h
theorem dp_lst {H : Hp} {v : V} {ds : List PyData} (h : Dp K H v (.list ds)) : ∃ a vs, v = .ref a ∧ SqL K H a vs ∧ DpAll K H vs ds := by
  cases h with
  | lst h a => exact ⟨_, _, rfl, h, a⟩
theorem dp_strs {H : Hp} : ∀ {ws : List Str} {vs : List V}, DpAll K H vs (wsD ws) → vs = ws.map V.str
  | [], _, .nil => rfl
  | z :: r, _, .cons a b => by
    cases a
    rw [dp_strs b]
    rfl
theorem dp_strs' {H : Hp} : ∀ ws : List Str, DpAll K H (ws.map V.str) (wsD ws)
  | [] => .nil
  | z :: r => .cons (.str z) (dp_strs' r)
def spBase (K : PySem.W.Frag) : Sp := fun vs H Q E => ∃ v0 v2 v3 v4 d0 d2 o oc, vs = [v0, v2, v3, v4] ∧ Dp K H v0 d0 ∧ shortD d0 ∧ Dp K H v2 d2 ∧ shortL d2 ∧ MkArg K H v3 o ∧ CArg K H v4 oc ∧ (∀ as, oc = some as → as.length ≤ 400) ∧
  (∀ z, whyB d0 d2 o oc = some z → ∀ d H', Same H H' → H' d = some (.xd [("reason", .str z)]) → E (.ref (ga K "NoRule")) (some d) H') ∧
  (whyB d0 d2 o oc = none → ∀ r x H', Same H H' → d0 = .str r.a → r.o = none → d2 = .list (wsD r.ws) → mkTs o = some r.ts → (∃ as, oc = some as ∧ r.as = dd as) → r.n = 0 → r.m = none → (∀ M, Al M H → RuAt K M H' x r) → Q (.ref x) H')
theorem ok_base (hP : PF P "/claim/cut.py") (T : Txt K mg) : ∃ fd, FunD K "base" "base" (defArgs s_base) (defBody s_base) (defScope s_base) ([.non] : List V) [] (ga K "base") fd ∧ FnOk P w K mg base (L2.CX P w) 9 (ga K "base") fd ["answer", "tables", "makes", "conditions"] (spBase K) := by
  obtain ⟨fd, F⟩ := T.f_base
  have D_is_word := d_is_word (P := P) (w := w) (base := base) T
  have D_are_words := d_are_words (P := P) (w := w) (base := base) T
  have D_maker_of := d_maker_of (P := P) (w := w) (base := base) T
  have D_atoms := d_atoms (P := P) (w := w) (base := base) T
  have D_ru := d_ru (P := P) (w := w) (base := base) T
  refine ⟨fd, F, F.ok sc_base (fun vs H Q E h => ?_) (fun cdv A outer s H vs Q E hr h => ?_)⟩
  · obtain ⟨v0, v2, v3, v4, d0, d2, o, oc, rfl, _⟩ := h
    rfl
  · obtain ⟨v0, v2, v3, v4, d0, d2, o, oc, rfl, a0, s0, a2, s2, a3, a4, al, hE, hQ⟩ := h
    refine ⟨_, (pss_cons (ps_if (pt_not (pt_val (cl D_is_word (hr.mono (by decide)) (pa_cons (pv 0) pa_nil)))) (pss_one (rsxf (by rfl) (takes_of rfl rfl rfl rfl) hP T.y_NoRule.1 hr (pa_cons pe_str pa_nil))) pss_nil)
      (pss_cons (ps_if (pt_not (pt_val (cl D_are_words (hr.mono (by decide)) (pa_cons (pv 1) (pa_cons pe_int pa_nil))))) (pss_one (rsxf (by rfl) (takes_of rfl rfl rfl rfl) hP T.y_NoRule.1 hr (pa_cons pe_str pa_nil))) pss_nil)
      (pss_cons (ps_set (i := 4) sc_base.nd rfl (.inl rfl) (cl D_maker_of (hr.mono (by decide)) (pa_cons (pv 2) pa_nil)))
      (pss_cons (ps_if (pt_cmpR op_isN (pv 4) pe_non (nomark _)) (pss_one (rsxf (by rfl) (takes_of rfl rfl rfl rfl) hP T.y_NoRule.1 hr (pa_cons pe_str pa_nil))) pss_nil)
      (pss_cons (ps_if (PW.pt (pw_and (pt_cmpR op_notN (pv 3) pe_non (nomark _)) (pw_and1 (pt_not (pt_val (pe_callB call_isi (by rfl) T.z_isinstance (by decide +kernel) (pa_cons (pv 3) (pa_cons (pe_glob (v := .ref (ga K "Conditions")) (by rfl) T.g_Conditions rfl) pa_nil)))))))) (pss_one (rsxf (by rfl) (takes_of rfl rfl rfl rfl) hP T.y_NoRule.1 hr (pa_cons pe_str pa_nil))) pss_nil)
      (pss_cons (ps_set (i := 5) sc_base.nd rfl (.inl rfl) (pe_ifExp (pt_cmpR op_isN (pv 3) pe_non (nomark _)) (pe_lst pa_nil) (pe_methE0 (pv 3) T.o_Conditions.cl T.h_Conditions_atoms D_atoms (hr.mono (by decide)) px0)))
      (pss_one (ps_ret (pe_makeE T.m_Rule D_ru hr T.g_Rule px0 (pa_cons (pv 0) (pa_cons pe_non (pa_cons (pe_callTy call_tuple_of (by rfl) T.z_tuple (by decide +kernel) (pa_cons (pv 1) pa_nil)) (pa_cons (pv 4) (pa_cons (pv 5) (pa_cons (pe_tup (pa_cons pe_int (pa_cons pe_non pa_nil))) pa_nil))))))))))))))), ?_⟩
    have bad : ∀ (z : Str) (H' : Hp), whyB d0 d2 o oc = some z → Same H H' → ∀ d, H' d = none → E (.ref (ga K "NoRule")) (some d) (upd H' d (.xd [("reason", .str z)])) := fun z H' e s d nd => hE z e d _ (s.trans (same_upd nd)) upd_same
    refine ⟨_, rfl, v0, d0, rfl, a0, (fun z e => by rw [e] at s0; exact s0), _, rfl, ?_⟩
    cases c0 : isWordD d0 with
    | false => exact iteT ⟨_, rfl, by decide, bad _ H (by unfold whyB; rw [c0]; rfl) (.refl _)⟩
    | true =>
    refine iteF ?_
    refine ⟨_, rfl, v2, d2, 1, rfl, a2, s2, _, rfl, ?_⟩
    cases c2 : areW 1 d2 with
    | false => exact iteT ⟨_, rfl, by decide, bad _ H (by unfold whyB; rw [c0, c2]; rfl) (.refl _)⟩
    | true =>
    refine iteF ?_
    refine ⟨_, rfl, v3, o, rfl, a3, fun c3 H1 s1 => ?_, fun ts c3 mk dmk tm H1 s1 nmk MK => ?_⟩
    · refine ⟨_, rfl, rfl, _, rfl, iteT ?_⟩
      exact ⟨_, rfl, by decide, bad _ H1 (by unfold whyB; rw [c0, c2, c3]; rfl) s1⟩
    · refine ⟨_, rfl, rfl, _, rfl, iteF ?_⟩
      obtain ⟨z0, rfl⟩ := word_inv c0
      have ev0 : v0 = .str z0 := by cases a0; rfl
      subst ev0
      obtain ⟨ws, rfl⟩ := areW_inv c2
      obtain ⟨la, lvs, rfl, hla, hlv⟩ := dp_lst a2
      have a4' := a4.same s1
      have aNon : oc ≠ none → v4 = .non → oc = some [] := fun h1 h2 => by
        cases oc with
        | none => exact absurd rfl h1
        | some as =>
          rcases a4 with ⟨_, rfl⟩ | ⟨c, _, _, e, _⟩
          · rfl
          · rw [e] at h2; cases h2
      cases oc with
      | none =>
        obtain ⟨d, hd, hne⟩ := a4'
        have hnon : v4 ≠ .non := fun z => by rw [z] at hd; cases hd; exact hne rfl
        refine ⟨_, rfl, rfl, _, rfl, if_pos_of (by show (!decide (v4 = .non)) = true; rw [decide_eq_false hnon]; rfl) ?_⟩
        refine ⟨_, rfl, _, _, _, _, _, rfl, .own _, Dp.ty hd, T.o_Conditions.isD d, _, rfl, iteT ?_⟩
        exact ⟨_, rfl, by decide, bad _ H1 (by unfold whyB; rw [c0, c2, c3]; rfl) s1⟩
      | some as =>
        have hw : whyB (.str z0) (.list (wsD ws)) o (some as) = none := by unfold whyB; rw [c0, c2, c3]; rfl
        have las := al as rfl
        have fin : ∀ (x dx c dc lc t d : Addr) (H3 H4 : Hp), Same H H3 → Same H3 H4 → H3 x = none → H3 c = none → H3 lc = none → MkAt K H4 mk dmk tm ts → Dp K H4 (.ref t) (.tuple (wsD ws)) → Dp K H4 (.ref d) (spanD 0 none) → H4 x = some (.ins (aRu K) dx (ruF (.str z0) .non (.ref t) (.ref mk) (.ref c) (.ref d))) → CdAt K H4 c dc lc (dd as) → Q (.ref x) H4 := by
          intro x dx c dc lc t d H3 H4 sA sB nx nc nl M4 t4 d4 x4 C4
          refine hQ hw ⟨z0, none, ws, ts, dd as, 0, none⟩ x H4 (sA.trans sB) rfl rfl rfl c3 ⟨as, rfl, rfl⟩ rfl rfl fun M al => ⟨⟨dx, _, mk, dmk, tm, c, dc, lc, _, x4, t4, M4, C4, d4, al.out (sA.free nx), al.out nmk, al.out (sA.free nc), al.out (sA.free nl)⟩⟩
        rcases a4' with ⟨rfl, rfl⟩ | ⟨c4, dc4, lc4, rfl, C4⟩
        · refine ⟨_, rfl, rfl, _, rfl, iteF ?_⟩
          refine ⟨_, rfl, rfl, _, rfl, iteT ?_⟩
          refine ⟨(by show 0 ≤ sizeLine; decide), fun p np => ?_⟩
          generalize eH2 : upd H1 p _ = H2
          have s2' : Same H1 H2 := eH2 ▸ same_upd np
          have e2 : H2 p = some _ := eH2 ▸ upd_same
          have s02 := s1.trans s2'
          refine ⟨_, rfl, _, rfl, _, _, rfl, .inl ⟨s02.seq hla, fun t nt => ?_⟩⟩
          generalize eH3 : upd H2 t _ = H3
          have s3 : Same H2 H3 := eH3 ▸ same_upd nt
          have e3 : H3 t = some _ := eH3 ▸ upd_same
          refine ⟨_, rfl, _, rfl, (by show 2 ≤ sizeLine; decide), fun d nd => ?_⟩
          generalize eH4 : upd H3 d _ = H4
          have s4 : Same H3 H4 := eH4 ▸ same_upd nd
          have e4 : H4 d = some _ := eH4 ▸ upd_same
          have s04 := (s02.trans s3).trans s4
          have tdp : Dp K H4 (.ref t) (.tuple (wsD ws)) := .tup (SqT.of (s4 _ _ e3)) (DpAll.same s04 hlv)
          refine mkRu (as := []) (vs := []) (Q := fun z H' => Q (.ref z) H') (SqL.of (s4 _ _ (s3 _ _ e2))) .nil (fun _ h => by cases h) (by decide) fun x dx c dc lc H5 s5 nx nc nl x5 C5 => ?_
          exact fin x dx c dc lc t d H4 H5 s04 s5 nx nc nl (MK.same (s2'.trans (s3.trans (s4.trans s5)))) (Dp.same s5 tdp) (.tup (SqT.of (s5 _ _ e4)) (.cons (.int _) (.cons .non .nil))) x5 C5
        · refine ⟨_, rfl, rfl, _, rfl, iteT ?_⟩
          refine ⟨_, rfl, _, _, _, _, _, rfl, .own _, T.o_Conditions.ty C4.hx, T.o_Conditions.self, _, rfl, iteF ?_⟩
          refine ⟨_, rfl, rfl, _, rfl, iteF ?_⟩
          refine ⟨_, rfl, _, _, _, rfl, C4.hx, cdF_no (by decide), ?_⟩
          refine ⟨c4, dc4, lc4, as, rfl, C4, fun p us H2 np s2' e2 a2' => ?_⟩
          have s02 := s1.trans s2'
          refine ⟨_, rfl, _, rfl, _, _, rfl, .inl ⟨s02.seq hla, fun t nt => ?_⟩⟩
          generalize eH3 : upd H2 t _ = H3
          have s3 : Same H2 H3 := eH3 ▸ same_upd nt
          have e3 : H3 t = some _ := eH3 ▸ upd_same
          refine ⟨_, rfl, _, rfl, (by show 2 ≤ sizeLine; decide), fun d nd => ?_⟩
          generalize eH4 : upd H3 d _ = H4
          have s4 : Same H3 H4 := eH4 ▸ same_upd nd
          have e4 : H4 d = some _ := eH4 ▸ upd_same
          have s04 := (s02.trans s3).trans s4
          have tdp : Dp K H4 (.ref t) (.tuple (wsD ws)) := .tup (SqT.of (s4 _ _ e3)) (DpAll.same s04 hlv)
          refine mkRu (as := as) (Q := fun z H' => Q (.ref z) H') (SqL.of (s4 _ _ (s3 _ _ e2))) (DpAll.same (s3.trans s4) a2') C4.ok (by omega) fun x dx c dc lc H5 s5 nx nc nl x5 C5 => ?_
          exact fin x dx c dc lc t d H4 H5 s04 s5 nx nc nl (MK.same (s2'.trans (s3.trans (s4.trans s5)))) (Dp.same s5 tdp) (.tup (SqT.of (s5 _ _ e4)) (.cons (.int _) (.cons .non .nil))) x5 C5
def spStep (K : PySem.W.Frag) : Sp := fun vs H Q E => ∃ v0 v1 v2 v3 v4 v5 v6 d0 d1 d2 o oc d5 d6, vs = [v0, v1, v2, v3, v4, v5, v6] ∧ Dp K H v0 d0 ∧ shortD d0 ∧ Dp K H v1 d1 ∧ shortD d1 ∧ Dp K H v2 d2 ∧ shortL d2 ∧ MkArg K H v3 o ∧ CArg K H v4 oc ∧ Dp K H v5 d5 ∧ Dp K H v6 d6 ∧ (∀ as, oc = some as → as.length ≤ 400) ∧
  (∀ z, whyS d0 d1 d2 o oc d5 d6 = some z → ∀ d H', Same H H' → H' d = some (.xd [("reason", .str z)]) → E (.ref (ga K "NoRule")) (some d) H') ∧
  (whyS d0 d1 d2 o oc d5 d6 = none → ∀ r x H', Same H H' → d0 = .str r.a → (∃ z, d1 = .str z ∧ r.o = some z) → d2 = .list (wsD r.ws) → mkTs o = some r.ts → (∃ as, oc = some as ∧ r.as = dd as) → d5 = .int r.n → d6 = optID r.m → (∀ M, Al M H → RuAt K M H' x r) → Q (.ref x) H')
theorem ok_step (hP : PF P "/claim/cut.py") (T : Txt K mg) : ∃ fd, FunD K "step" "step" (defArgs s_step) (defBody s_step) (defScope s_step) ([.non] : List V) ([("depth_from", .int 0), ("depth_below", .non)] : List (Str × V)) (ga K "step") fd ∧ FnOk P w K mg base (L2.CX P w) 9 (ga K "step") fd ["answer", "old", "tables", "makes", "conditions", "depth_from", "depth_below"] (spStep K) := by
  obtain ⟨fd, F⟩ := T.f_step
  have D_is_word := d_is_word (P := P) (w := w) (base := base) T
  have D_are_words := d_are_words (P := P) (w := w) (base := base) T
  have D_maker_of := d_maker_of (P := P) (w := w) (base := base) T
  have D_atoms := d_atoms (P := P) (w := w) (base := base) T
  have D_is_depth := d_is_depth (P := P) (w := w) (base := base) T
  have D_ru := d_ru (P := P) (w := w) (base := base) T
  refine ⟨fd, F, F.ok sc_step (fun vs H Q E h => ?_) (fun cdv A outer s H vs Q E hr h => ?_)⟩
  · obtain ⟨v0, v1, v2, v3, v4, v5, v6, d0, d1, d2, o, oc, d5, d6, rfl, _⟩ := h
    rfl
  · obtain ⟨v0, v1, v2, v3, v4, v5, v6, d0, d1, d2, o, oc, d5, d6, rfl, a0, s0, a1, s1x, a2, s2, a3, a4, a5, a6, al, hE, hQ⟩ := h
    refine ⟨_, (pss_cons (ps_if (pt_not (pt_val (cl D_is_word (hr.mono (by decide)) (pa_cons (pv 0) pa_nil)))) (pss_one (rsxf (by rfl) (takes_of rfl rfl rfl rfl) hP T.y_NoRule.1 hr (pa_cons pe_str pa_nil))) pss_nil)
      (pss_cons (ps_if (pt_not (pt_val (cl D_is_word (hr.mono (by decide)) (pa_cons (pv 1) pa_nil)))) (pss_one (rsxf (by rfl) (takes_of rfl rfl rfl rfl) hP T.y_NoRule.1 hr (pa_cons pe_str pa_nil))) pss_nil)
      (pss_cons (ps_if (pt_not (pt_val (cl D_are_words (hr.mono (by decide)) (pa_cons (pv 2) (pa_cons pe_int pa_nil))))) (pss_one (rsxf (by rfl) (takes_of rfl rfl rfl rfl) hP T.y_NoRule.1 hr (pa_cons pe_str pa_nil))) pss_nil)
      (pss_cons (ps_set (i := 7) sc_step.nd rfl (.inl rfl) (cl D_maker_of (hr.mono (by decide)) (pa_cons (pv 3) pa_nil)))
      (pss_cons (ps_if (pt_cmpR op_isN (pv 7) pe_non (nomark _)) (pss_one (rsxf (by rfl) (takes_of rfl rfl rfl rfl) hP T.y_NoRule.1 hr (pa_cons pe_str pa_nil))) pss_nil)
      (pss_mid (ps_if (PW.pt (pw_and (pt_cmpR op_notN (pv 4) pe_non (nomark _)) (pw_and1 (pt_not (pt_val (pe_callB call_isi (by rfl) T.z_isinstance (by decide +kernel) (pa_cons (pv 4) (pa_cons (pe_glob (v := .ref (ga K "Conditions")) (by rfl) T.g_Conditions rfl) pa_nil)))))))) (pss_one (rsxf (by rfl) (takes_of rfl rfl rfl rfl) hP T.y_NoRule.1 hr (pa_cons pe_str pa_nil))) pss_nil)
      (pss_cons (ps_if (pt_not (pt_val (cl D_is_depth (hr.mono (by decide)) (pa_cons (pv 5) pa_nil)))) (pss_one (rsxf (by rfl) (takes_of rfl rfl rfl rfl) hP T.y_NoRule.1 hr (pa_cons pe_str pa_nil))) pss_nil)
      (pss_mid (ps_if (PW.pt (pw_and (pt_cmpR op_notN (pv 6) pe_non (nomark _)) (pw_and1 (pt_not (pt_val (cl D_is_depth (hr.mono (by decide)) (pa_cons (pv 6) pa_nil))))))) (pss_one (rsxf (by rfl) (takes_of rfl rfl rfl rfl) hP T.y_NoRule.1 hr (pa_cons pe_str pa_nil))) pss_nil)
      (pss_cons (ps_set (i := 8) sc_step.nd rfl (.inl rfl) (pe_ifExp (pt_cmpR op_isN (pv 4) pe_non (nomark _)) (pe_lst pa_nil) (pe_methE0 (pv 4) T.o_Conditions.cl T.h_Conditions_atoms D_atoms (hr.mono (by decide)) px0)))
      (pss_one (ps_ret (pe_makeE T.m_Rule D_ru hr T.g_Rule px0 (pa_cons (pv 0) (pa_cons (pv 1) (pa_cons (pe_callTy call_tuple_of (by rfl) T.z_tuple (by decide +kernel) (pa_cons (pv 2) pa_nil)) (pa_cons (pv 7) (pa_cons (pv 8) (pa_cons (pe_tup (pa_cons (pv 5) (pa_cons (pv 6) pa_nil))) pa_nil)))))))))))))))))), ?_⟩
    have bad : ∀ (z : Str) (H' : Hp), whyS d0 d1 d2 o oc d5 d6 = some z → Same H H' → ∀ d, H' d = none → E (.ref (ga K "NoRule")) (some d) (upd H' d (.xd [("reason", .str z)])) := fun z H' e s d nd => hE z e d _ (s.trans (same_upd nd)) upd_same
    refine ⟨_, rfl, v0, d0, rfl, a0, (fun z e => by rw [e] at s0; exact s0), _, rfl, ?_⟩
    cases c0 : isWordD d0 with
    | false => exact iteT ⟨_, rfl, by decide, bad _ H (by unfold whyS; rw [c0]; rfl) (.refl _)⟩
    | true =>
    refine iteF ?_
    refine ⟨_, rfl, v1, d1, rfl, a1, (fun z e => by rw [e] at s1x; exact s1x), _, rfl, ?_⟩
    cases c1 : isWordD d1 with
    | false => exact iteT ⟨_, rfl, by decide, bad _ H (by unfold whyS; rw [c0, c1]; rfl) (.refl _)⟩
    | true =>
    refine iteF ?_
    refine ⟨_, rfl, v2, d2, 0, rfl, a2, s2, _, rfl, ?_⟩
    cases c2 : areW 0 d2 with
    | false => exact iteT ⟨_, rfl, by decide, bad _ H (by unfold whyS; rw [c0, c1, c2]; rfl) (.refl _)⟩
    | true =>
    refine iteF ?_
    refine ⟨_, rfl, v3, o, rfl, a3, fun c3 H1 s1 => ?_, fun ts c3 mk dmk tm H1 s1 nmk MK => ?_⟩
    · refine ⟨_, rfl, rfl, _, rfl, iteT ?_⟩
      exact ⟨_, rfl, by decide, bad _ H1 (by unfold whyS; rw [c0, c1, c2, c3]; rfl) s1⟩
    · refine ⟨_, rfl, rfl, _, rfl, iteF ?_⟩
      obtain ⟨z0, rfl⟩ := word_inv c0
      have ev0 : v0 = .str z0 := by cases a0; rfl
      subst ev0
      obtain ⟨z1, rfl⟩ := word_inv c1
      have ev1 : v1 = .str z1 := by cases a1; rfl
      subst ev1
      obtain ⟨ws, rfl⟩ := areW_inv c2
      obtain ⟨la, lvs, rfl, hla, hlv⟩ := dp_lst a2
      have a4' := a4.same s1
      have aNon : oc ≠ none → v4 = .non → oc = some [] := fun h1 h2 => by
        cases oc with
        | none => exact absurd rfl h1
        | some as =>
          rcases a4 with ⟨_, rfl⟩ | ⟨c, _, _, e, _⟩
          · rfl
          · rw [e] at h2; cases h2
      cases oc with
      | none =>
        obtain ⟨d, hd, hne⟩ := a4'
        have hnon : v4 ≠ .non := fun z => by rw [z] at hd; cases hd; exact hne rfl
        refine ⟨fun _ _ => False, ⟨_, rfl, rfl, _, rfl, if_pos_of (by show (!decide (v4 = .non)) = true; rw [decide_eq_false hnon]; rfl) ?_⟩, fun _ _ z => z.elim⟩
        refine ⟨_, rfl, _, _, _, _, _, rfl, .own _, Dp.ty hd, T.o_Conditions.isD d, _, rfl, iteT ?_⟩
        exact ⟨_, rfl, by decide, bad _ H1 (by unfold whyS; rw [c0, c1, c2, c3]; rfl) s1⟩
      | some as =>
        have las := al as rfl
        have a5' := Dp.same s1 a5
        have a6' := Dp.same s1 a6
        have w0 : ∀ b : Str, (if isDepD d5 = false then some ("depth_from" : Str) else if (!isNonD d6 && !isDepD d6) = true then some ("depth_below" : Str) else none) = some b → whyS (.str z0) (.str z1) (.list (wsD ws)) o (some as) d5 d6 = some b := fun b e => by unfold whyS; rw [c0, c1, c2, c3]; exact e
        have cnd : (v4 = .non ∧ as = []) ∨ ∃ c dc lc, v4 = .ref c ∧ CdAt K H1 c dc lc as := a4'
        refine ⟨fun σ' H' => H' = H1 ∧ σ' = [some (.str z0), some (.str z1), some (.ref la), some v3, some v4, some v5, some v6, some (.ref mk), none], ?_, ?_⟩
        · rcases cnd with ⟨rfl, rfl⟩ | ⟨c4, dc4, lc4, rfl, C4⟩
          · exact ⟨_, rfl, rfl, _, rfl, iteF ⟨rfl, rfl⟩⟩
          · refine ⟨_, rfl, rfl, _, rfl, iteT ?_⟩
            exact ⟨_, rfl, _, _, _, _, _, rfl, .own _, T.o_Conditions.ty C4.hx, T.o_Conditions.self, _, rfl, iteF ⟨rfl, rfl⟩⟩
        · rintro σ' H' ⟨rfl, rfl⟩
          refine ⟨_, rfl, v5, d5, rfl, a5', _, rfl, ?_⟩
          cases c5 : isDepD d5 with
          | false => exact iteT ⟨_, rfl, by decide, bad _ H' (w0 _ (by rw [c5]; rfl)) s1⟩
          | true =>
          refine iteF ?_
          obtain ⟨n5, rfl⟩ := dep_inv c5
          have ev5 : v5 = .int n5 := by cases a5; rfl
          subst ev5
          cases c6 : (!isNonD d6 && !isDepD d6) with
          | true =>
            obtain ⟨c6a, c6b⟩ := Bool.and_eq_true_iff.mp c6
            have hnon : v6 ≠ .non := fun z => by rw [z] at a6; cases a6; cases c6a
            have hdep : isDepD d6 = false := by
              cases h : isDepD d6 with
              | false => rfl
              | true => rw [h] at c6b; cases c6b
            refine ⟨fun _ _ => False, ⟨_, rfl, rfl, _, rfl, if_pos_of (by show (!decide (v6 = .non)) = true; rw [decide_eq_false hnon]; rfl) ?_⟩, fun _ _ z => z.elim⟩
            refine ⟨_, rfl, v6, d6, rfl, a6', _, rfl, ?_⟩
            rw [hdep]
            exact iteT ⟨_, rfl, by decide, bad _ H' (w0 _ (by rw [c5, c6]; rfl)) s1⟩
          | false =>
          have hw : whyS (.str z0) (.str z1) (.list (wsD ws)) o (some as) (.int n5) d6 = none := by unfold whyS; rw [c0, c1, c2, c3, c5, c6]; rfl
          have e6 : ∃ m, d6 = optID m ∧ v6 = optI m := by
            by_cases hn : d6 = .none
            · subst hn
              cases a6
              exact ⟨none, rfl, rfl⟩
            · have h1 : isNonD d6 = false := by cases d6 <;> first | rfl | exact absurd rfl hn
              have h2 : isDepD d6 = true := by
                cases h : isDepD d6 with
                | true => rfl
                | false => rw [h1, h] at c6; cases c6
              obtain ⟨i, rfl⟩ := dep_inv h2
              cases a6
              exact ⟨some i, rfl, rfl⟩
          obtain ⟨m6, rfl, rfl⟩ := e6
          refine ⟨fun σ' H2 => H2 = H' ∧ σ' = [some (.str z0), some (.str z1), some (.ref la), some v3, some v4, some (.int n5), some (optI m6), some (.ref mk), none], ?_, ?_⟩
          · cases m6 with
            | none => exact ⟨_, rfl, rfl, _, rfl, iteF ⟨rfl, rfl⟩⟩
            | some i =>
              refine ⟨_, rfl, rfl, _, rfl, iteT ?_⟩
              refine ⟨_, rfl, _, _, rfl, a6', _, rfl, ?_⟩
              have h2 : isDepD (optID (some i)) = true := by
                cases h : isDepD (optID (some i)) with
                | true => rfl
                | false => rw [h] at c6; cases c6
              rw [h2]
              exact iteF ⟨rfl, rfl⟩
          rintro σ' H1 ⟨rfl, rfl⟩
          have fin : ∀ (x dx c dc lc t d : Addr) (H3 H4 : Hp), Same H H3 → Same H3 H4 → H3 x = none → H3 c = none → H3 lc = none → MkAt K H4 mk dmk tm ts → Dp K H4 (.ref t) (.tuple (wsD ws)) → Dp K H4 (.ref d) (spanD n5 m6) → H4 x = some (.ins (aRu K) dx (ruF (.str z0) (.str z1) (.ref t) (.ref mk) (.ref c) (.ref d))) → CdAt K H4 c dc lc (dd as) → Q (.ref x) H4 := by
            intro x dx c dc lc t d H3 H4 sA sB nx nc nl M4 t4 d4 x4 C4
            refine hQ hw ⟨z0, some z1, ws, ts, dd as, n5, m6⟩ x H4 (sA.trans sB) rfl ⟨z1, rfl, rfl⟩ rfl c3 ⟨as, rfl, rfl⟩ rfl rfl fun M al => ⟨⟨dx, _, mk, dmk, tm, c, dc, lc, _, x4, t4, M4, C4, d4, al.out (sA.free nx), al.out nmk, al.out (sA.free nc), al.out (sA.free nl)⟩⟩
          rcases cnd with ⟨rfl, rfl⟩ | ⟨c4, dc4, lc4, rfl, C4⟩
          · refine ⟨_, rfl, rfl, _, rfl, iteT ?_⟩
            refine ⟨(by show 0 ≤ sizeLine; decide), fun p np => ?_⟩
            generalize eH2 : upd H1 p _ = H2
            have s2' : Same H1 H2 := eH2 ▸ same_upd np
            have e2 : H2 p = some _ := eH2 ▸ upd_same
            have s02 := s1.trans s2'
            refine ⟨_, rfl, _, rfl, _, rfl, _, _, rfl, .inl ⟨s02.seq hla, fun t nt => ?_⟩⟩
            generalize eH3 : upd H2 t _ = H3
            have s3 : Same H2 H3 := eH3 ▸ same_upd nt
            have e3 : H3 t = some _ := eH3 ▸ upd_same
            refine ⟨_, rfl, _, rfl, _, rfl, _, rfl, (by show 2 ≤ sizeLine; decide), fun d nd => ?_⟩
            generalize eH4 : upd H3 d _ = H4
            have s4 : Same H3 H4 := eH4 ▸ same_upd nd
            have e4 : H4 d = some _ := eH4 ▸ upd_same
            have s04 := (s02.trans s3).trans s4
            have tdp : Dp K H4 (.ref t) (.tuple (wsD ws)) := .tup (SqT.of (s4 _ _ e3)) (DpAll.same s04 hlv)
            refine mkRu (as := []) (vs := []) (Q := fun z H' => Q (.ref z) H') (SqL.of (s4 _ _ (s3 _ _ e2))) .nil (fun _ h => by cases h) (by decide) fun x dx c dc lc H5 s5 nx nc nl x5 C5 => ?_
            exact fin x dx c dc lc t d H4 H5 s04 s5 nx nc nl (MK.same (s2'.trans (s3.trans (s4.trans s5)))) (Dp.same s5 tdp) (.tup (SqT.of (s5 _ _ e4)) (.cons (.int _) (.cons (dp_optI _) .nil))) x5 C5
          · refine ⟨_, rfl, rfl, _, rfl, iteF ?_⟩
            refine ⟨_, rfl, _, _, _, rfl, C4.hx, cdF_no (by decide), ?_⟩
            refine ⟨c4, dc4, lc4, as, rfl, C4, fun p us H2 np s2' e2 a2' => ?_⟩
            have s02 := s1.trans s2'
            refine ⟨_, rfl, _, rfl, _, rfl, _, _, rfl, .inl ⟨s02.seq hla, fun t nt => ?_⟩⟩
            generalize eH3 : upd H2 t _ = H3
            have s3 : Same H2 H3 := eH3 ▸ same_upd nt
            have e3 : H3 t = some _ := eH3 ▸ upd_same
            refine ⟨_, rfl, _, rfl, _, rfl, _, rfl, (by show 2 ≤ sizeLine; decide), fun d nd => ?_⟩
            generalize eH4 : upd H3 d _ = H4
            have s4 : Same H3 H4 := eH4 ▸ same_upd nd
            have e4 : H4 d = some _ := eH4 ▸ upd_same
            have s04 := (s02.trans s3).trans s4
            have tdp : Dp K H4 (.ref t) (.tuple (wsD ws)) := .tup (SqT.of (s4 _ _ e3)) (DpAll.same s04 hlv)
            refine mkRu (as := as) (Q := fun z H' => Q (.ref z) H') (SqL.of (s4 _ _ (s3 _ _ e2))) (DpAll.same (s3.trans s4) a2') C4.ok (by omega) fun x dx c dc lc H5 s5 nx nc nl x5 C5 => ?_
            exact fin x dx c dc lc t d H4 H5 s04 s5 nx nc nl (MK.same (s2'.trans (s3.trans (s4.trans s5)))) (Dp.same s5 tdp) (.tup (SqT.of (s5 _ _ e4)) (.cons (.int _) (.cons (dp_optI _) .nil))) x5 C5

end
end K11
namespace K11
open PySem PySem.Spec PyProof.Rows L2 He TL EL
section
variable {P : Program} {w : World} {K : PySem.W.Frag} {mg : Str → Option Value} {base : Heap}
/-! draws -/
def spDrawM : Sp := fun vs H Q _ => ∃ (p l : Addr) (L : Int), vs = [.ref p, .int L] ∧ 0 < L ∧ L ≤ 1000000000000000000 ∧ Src H p l ∧ ∀ (n : Int) (H' : Hp), 0 ≤ n → n < L → Src H' p l → Md [p] H H' → Q (.int n) H'
theorem d_drawM (T : Txt K mg) : Dn P w K mg base CX0 1 "_law_draw" spDrawM := by
  have D := d_draw (P := P) (w := w) (base := base) T
  refine ⟨D.g, D.kp, D.r.imp fun vs H Q E h => ?_⟩
  obtain ⟨p, l, L, e, h1, h2, S, q⟩ := h
  obtain ⟨xs, hp⟩ := S.lst
  exact ⟨p, l, L, e, h1, h2, S, fun n H' n0 n1 S' b => q n H' n0 n1 S' (b.md hp rfl)⟩
theorem srcAl {H : Hp} {p l : Addr} (S : Src H p l) : Al [p] H := by
  obtain ⟨xs, hp⟩ := S.lst
  exact al1 hp
/-! _law_word -/
theorem word_ok {z : Str} (h : wordS z = true) : PyData.strOk z = true := by
  unfold wordS at h
  have h2 := (Bool.and_eq_true_iff.mp h).2
  unfold PyData.strOk
  rw [← Array.all_toList]
  refine List.all_eq_true.mpr fun c hc => ?_
  have h3 := of_decide_eq_true (List.all_eq_true.mp h2 c hc)
  unfold ltL at h3
  simp only [List.mem_map, List.mem_range] at h3
  obtain ⟨a, h4, rfl⟩ := h3
  exact decide_eq_true (by omega)
theorem word_len {z : Str} (h : wordS z = true) : z.length ≤ 8 := by
  unfold wordS at h
  rw [len_tl]
  exact of_decide_eq_true (Bool.and_eq_true_iff.mp (Bool.and_eq_true_iff.mp h).1).2
def spLw : Sp := fun vs H Q _ => ∃ p l, vs = [.ref p] ∧ Src H p l ∧ ∀ z H', wordS z = true → Src H' p l → Md [p] H H' → Q (.str z) H'
theorem d_lw (T : Txt K mg) : Dn P w K mg base CX0 2 "_law_word" spLw := by
  obtain ⟨fd, F⟩ := T.f__law_word
  have D__law_draw := d_drawM (P := P) (w := w) (base := base) T
  refine dnN T.g__law_word F (fun _ _ _ _ _ _ us hl => match us, hl with | [_], _ => rfl) sc__law_word (fun vs H Q E h => ?_) (fun cdv A outer s H vs Q E hr h => ?_)
  · obtain ⟨p, l, rfl, _⟩ := h
    rfl
  · obtain ⟨p, l, rfl, S, q⟩ := h
    refine ⟨_, PSs.nox (pss_cons (ps_set (i := 1) sc__law_word.nd rfl (.inl rfl) pe_str)
      (pss_cons (ps_set (i := 2) sc__law_word.nd rfl (.inl rfl) pe_str)
      (pss_cons (ps_for PassesOwn.never rfl (pi_range1 (by rfl) T.z_range (pa_cons (pe_op op_add pe_int (cl D__law_draw (hr.mono (by decide)) (pa_cons (pv 0) (pa_cons pe_int pa_nil)))) pa_nil)) (pg_name (i := 3) sc__law_word.nd rfl (.inl rfl))
      (pss_one (ps_set (i := 2) sc__law_word.nd rfl (.inl rfl) (pe_op op_add_str (pv 2) (pe_ix ix_str (pv 1) (cl D__law_draw (hr.mono (by decide)) (pa_cons (pv 0) (pa_cons pe_int pa_nil))) (fun _ _ => rfl))))))
      (pss_one (ps_ret (pv 2)))))), ?_⟩
    refine ⟨_, rfl, p, l, 8, rfl, by decide, by decide, S, fun k H1 k0 k1 S1 m1 => ?_⟩
    refine ⟨_, _, rfl, rfl, 1 + k, rfl, by omega, by omega, for_range (n := (1 + k).toNat) (fun i σ H' => ∃ z o, σ = [some (.ref p), some (.str "abcdefghijklmnopqrstuvwxyz"), some (.str z), o] ∧ (tl z).length = i ∧ (tl z).all (fun c => decide (c ∈ ltL)) = true ∧ Md [p] H1 H' ∧ Src H' p l) ⟨"", none, rfl, rfl, rfl, .refl _ _, S1⟩ ?_ ?_⟩
    · rintro i σ H2 hi ⟨z, o, rfl, hl, ha, m2, S2⟩
      refine ⟨_, rfl, _, rfl, _, rfl, p, l, 26, rfl, by decide, by decide, S2, fun j H3 j0 j1 S3 m3 => ?_⟩
      obtain ⟨j, rfl⟩ := Int.eq_ofNat_of_zero_le j0
      have hj : j < ltL.length := by
        have : ltL.length = 26 := by decide
        omega
      have hat : atI (tl ("abcdefghijklmnopqrstuvwxyz" : Str)) ((j : Nat) : Int) = some ltL[j] := by
        rw [tl_letters]
        exact atI_nat (List.getElem?_eq_getElem hj)
      have hz : z.length < 8 := by rw [len_tl, hl]; omega
      refine ⟨_, _, _, rfl, rfl, (by decide), hat, _, _, rfl, rfl, ?_, ?_⟩
      · have : (⟨#[ltL[j]]⟩ : Str).length = 1 := rfl
        rw [this]
        exact Nat.le_trans (show z.length + 1 ≤ 9 by omega) (by decide)
      · refine ⟨_, _, rfl, ?_, ?_, m2.trans m3, S3⟩
        · rw [tl_append, List.length_append, hl]
          rfl
        · rw [tl_append, List.all_append, ha]
          show (decide (ltL[j] ∈ ltL) && true) = true
          rw [decide_eq_true (List.getElem_mem hj)]
          rfl
    · rintro σ H2 ⟨z, o, rfl, hl, ha, m2, S2⟩
      refine ⟨_, rfl, q z H2 ?_ S2 (m1.trans m2)⟩
      unfold wordS
      rw [ha, hl, decide_eq_true (by omega), decide_eq_true (by omega)]
      rfl
/-! _law_term -/
def spLt (K : PySem.W.Frag) : Sp := fun vs H Q _ => ∃ p l, vs = [.ref p] ∧ Src H p l ∧ ∀ t x H', Tm.ok t → Src H' p l → Md [p] H H' → Dp K H' (.ref x) t.d → Q (.ref x) H'
theorem low_odd {k b : Int} (hb : b = 1 ∨ b = 2) : Low (2 * k + 1) b := by
  have h2 : ∀ n : Nat, n % 2 = 1 → Nat.gcd n 2 = 1 := fun n h => by
    rw [Nat.gcd_comm, Nat.gcd_rec, h]
    decide
  rcases hb with rfl | rfl
  · refine ⟨by decide, ?_⟩
    unfold cd
    rw [show (1 : Int).natAbs = 1 from rfl, Nat.gcd_one_right]
    rfl
  · refine ⟨by decide, ?_⟩
    unfold cd
    rw [show (2 : Int).natAbs = 2 from rfl, h2 _ (by omega)]
    rfl
theorem d_lt (T : Txt K mg) : Dn P w K mg base CX0 2 "_law_term" (spLt K) := by
  obtain ⟨fd, F⟩ := T.f__law_term
  have D__law_draw := d_drawM (P := P) (w := w) (base := base) T
  refine dnN T.g__law_term F (fun _ _ _ _ _ _ us hl => match us, hl with | [_], _ => rfl) sc__law_term (fun vs H Q E h => ?_) (fun cdv A outer s H vs Q E hr h => ?_)
  · obtain ⟨p, l, rfl, _⟩ := h
    rfl
  · obtain ⟨p, l, rfl, S, q⟩ := h
    refine ⟨_, PSs.nox (pss_cons (ps_set (i := 1) sc__law_term.nd rfl (.inl rfl) (cl D__law_draw (hr.mono (by decide)) (pa_cons (pv 0) (pa_cons pe_int pa_nil))))
      (pss_cons (ps_if (pt_cmpR op_eq (pv 1) pe_int (nomark _)) (pss_one (ps_ret (pe_tup (pa_cons pe_str (pa_cons (pe_tup (pa_cons (pe_op op_add (pe_op op_mulW pe_int (cl D__law_draw (hr.mono (by decide)) (pa_cons (pv 0) (pa_cons (pe_op op_pow pe_int pe_int) pa_nil)))) pe_int) (pa_cons (pe_op op_add pe_int (cl D__law_draw (hr.mono (by decide)) (pa_cons (pv 0) (pa_cons pe_int pa_nil)))) pa_nil))) pa_nil))))) pss_nil)
      (pss_one (ps_ret (pe_tup (pa_cons (pe_ix ix_list (pe_lst (pa_cons pe_str (pa_cons pe_str (pa_cons pe_str pa_nil)))) (pv 1) (fun _ _ => rfl)) (pa_cons (cl D__law_draw (hr.mono (by decide)) (pa_cons (pv 0) (pa_cons pe_int pa_nil))) pa_nil))))))), ?_⟩
    refine ⟨_, rfl, p, l, 4, rfl, by decide, by decide, S, fun k H1 k0 k1 S1 m1 => ?_⟩
    have hpw : CPow 10 12 := ⟨by decide, by decide, by decide⟩
    have e12 : ((10 : Int) ^ (12 : Int).toNat) = 1000000000000 := by decide +kernel
    refine ⟨_, rfl, rfl, _, rfl, ?_⟩
    by_cases hk : k = 3
    · refine if_pos_of (by rw [hk]; rfl) ?_
      refine ⟨_, rfl, _, _, rfl, rfl, hpw, p, l, _, rfl, (by rw [e12]; decide), (by rw [e12]; decide), S1, fun n H2 n0 n1 S2 m2 => ?_⟩
      rw [e12] at n1
      refine ⟨_, _, rfl, rfl, wide_mul (a := 2) (b := 41) (by decide) (by omega) (by decide) (by decide) (by decide), _, _, rfl, rfl, ?_⟩
      refine ⟨_, rfl, p, l, 2, rfl, by decide, by decide, S2, fun b H3 b0 b1 S3 m3 => ?_⟩
      refine ⟨_, _, rfl, rfl, (by show 2 ≤ sizeLine; decide), fun x nx => ?_⟩
      generalize eH4 : upd H3 x _ = H4
      have s4 : Same H3 H4 := eH4 ▸ same_upd nx
      have e4 : H4 x = some _ := eH4 ▸ upd_same
      refine ⟨(by show 2 ≤ sizeLine; decide), fun y ny => ?_⟩
      generalize eH5 : upd H4 y _ = H5
      have s5 : Same H4 H5 := eH5 ▸ same_upd ny
      have e5 : H5 y = some _ := eH5 ▸ upd_same
      refine q (.val (2 * n + 1) (1 + b)) y H5 ⟨low_odd (by omega), by show (2 * n + 1).natAbs < 2 ^ 70; omega, by show (1 + b).natAbs < 2 ^ 70; omega⟩ ((S3.same s4).same s5) (m1.trans (m2.trans (m3.trans (Md.of (s4.trans s5))))) ?_
      exact .tup (SqT.of e5) (.cons (.str _) (.cons (.tup (SqT.of (s5 _ _ e4)) (.cons (.int _) (.cons (.int _) .nil))) .nil))
    · refine if_neg_of (by show decide (V.int k = V.int 3) = false; exact decide_eq_false (fun z => hk (by injection z))) ?_
      refine ⟨(by show 3 ≤ sizeLine; decide), fun u nu => ?_⟩
      generalize eH2 : upd H1 u _ = H2
      have s2 : Same H1 H2 := eH2 ▸ same_upd nu
      have e2 : H2 u = some _ := eH2 ▸ upd_same
      obtain ⟨pl, hpl⟩ : ∃ pl : Pl, atI [V.str "old", .str "first", .str "second"] k = some (.str pl.s) := by
        have : k = 0 ∨ k = 1 ∨ k = 2 := by omega
        rcases this with rfl | rfl | rfl
        · exact ⟨.old, atI_nat (j := 0) rfl⟩
        · exact ⟨.first, atI_nat (j := 1) rfl⟩
        · exact ⟨.second, atI_nat (j := 2) rfl⟩
      refine ⟨_, rfl, u, _, _, _, rfl, rfl, SqL.of e2, hpl, ?_⟩
      refine ⟨_, rfl, p, l, 3, rfl, by decide, by decide, S1.same s2, fun c H3 c0 c1 S3 m3 => ?_⟩
      refine ⟨(by show 2 ≤ sizeLine; decide), fun y ny => ?_⟩
      generalize eH4 : upd H3 y _ = H4
      have s4 : Same H3 H4 := eH4 ▸ same_upd ny
      have e4 : H4 y = some _ := eH4 ▸ upd_same
      obtain ⟨c, rfl⟩ := Int.eq_ofNat_of_zero_le c0
      exact q (.cell pl c) y H4 (by show c < 3; omega) (S3.same s4) (m1.trans ((Md.of s2).trans (m3.trans (Md.of s4)))) (.tup (SqT.of e4) (.cons (.str _) (.cons (.int _) .nil)))
/-! _law_part -/
def spLp (K : PySem.W.Frag) : Sp := fun vs H Q _ => ∃ v t, vs = [v] ∧ Dp K H v t.d ∧ Tm.ok t ∧ ∀ u H', Same H H' → ItAt K H' u (some t) → Q u H'
theorem tm_tup {H : Hp} {v : V} {t : Tm} (h : Dp K H v t.d) : ∃ a, v = .ref a ∧ ((∃ p c, t = .cell p c ∧ SqT K H a [.str p.s, .int (c : Nat)]) ∨ ∃ x y b, t = .val x y ∧ SqT K H a [.str "value", .ref b] ∧ SqT K H b [.int x, .int y]) := by
  cases t with
  | cell p c =>
    cases h with
    | tup hS hA =>
      cases hA with
      | cons h1 hA =>
        cases hA with
        | cons h2 hA =>
          cases hA
          cases h1
          cases h2
          exact ⟨_, rfl, .inl ⟨p, c, rfl, hS⟩⟩
  | val x y =>
    cases h with
    | tup hS hA =>
      cases hA with
      | cons h1 hA =>
        cases hA with
        | cons h2 hA =>
          cases hA
          cases h1
          cases h2 with
          | tup hS2 hA2 =>
            cases hA2 with
            | cons g1 hA2 =>
              cases hA2 with
              | cons g2 hA2 =>
                cases hA2
                cases g1
                cases g2
                exact ⟨_, rfl, .inr ⟨x, y, _, rfl, hS, hS2⟩⟩
theorem d_lp (T : Txt K mg) : Dn P w K mg base CX0 6 "_law_part" (spLp K) := by
  obtain ⟨fd, F⟩ := T.f__law_part
  have D_cell := d_cell (P := P) (w := w) (base := base) T
  refine dnN T.g__law_part F (fun _ _ _ _ _ _ us hl => match us, hl with | [_], _ => rfl) sc__law_part (fun vs H Q E h => ?_) (fun cdv A outer s H vs Q E hr h => ?_)
  · obtain ⟨v, t, rfl, _⟩ := h
    rfl
  · obtain ⟨v, t, rfl, hd, hok, q⟩ := h
    refine ⟨_, PSs.nox (pss_cons (ps_if (pt_cmpR op_ne (pe_ix ix_tup (pv 0) pe_int (fun _ _ => rfl)) pe_str (nomark _)) (pss_one (ps_ret (pe_makeE T.m_Cell D_cell hr T.g_Cell px0 (pa_cons (pe_ix ix_tup (pv 0) pe_int (fun _ _ => rfl)) (pa_cons (pe_ix ix_tup (pv 0) pe_int (fun _ _ => rfl)) pa_nil))))) pss_nil)
      (pss_cons (ps_if (pt_cmpR op_eq (pe_ix ix_tup (pe_ix ix_tup (pv 0) pe_int (fun _ _ => rfl)) pe_int (fun _ _ => rfl)) pe_int (nomark _)) (pss_one (ps_ret (pe_ix ix_tup (pe_ix ix_tup (pv 0) pe_int (fun _ _ => rfl)) pe_int (fun _ _ => rfl)))) pss_nil)
      (pss_one (ps_ret (pe_ix ix_tup (pv 0) pe_int (fun _ _ => rfl)))))), ?_⟩
    obtain ⟨a, rfl, ⟨p, c, rfl, hS⟩ | ⟨x, y, b, rfl, hS, hS2⟩⟩ := tm_tup hd
    · refine ⟨_, rfl, a, _, 0, _, rfl, rfl, hS, atI_nat (j := 0) rfl, rfl, _, rfl, if_pos_of (by show (!decide (V.str p.s = V.str "value")) = true; rw [Pl.ne_value]; rfl) ?_⟩
      refine ⟨_, rfl, a, _, 0, _, rfl, rfl, hS, atI_nat (j := 0) rfl, _, rfl, a, _, 1, _, rfl, rfl, hS, atI_nat (j := 1) rfl, ?_⟩
      refine mkCell (Q := fun z H' => Q (.ref z) H') hok fun x dx H' s nx hx => ?_
      exact q _ H' s ⟨x, dx, rfl, hx, hok⟩
    · refine ⟨_, rfl, a, _, 0, _, rfl, rfl, hS, atI_nat (j := 0) rfl, rfl, _, rfl, iteF ?_⟩
      refine ⟨_, rfl, a, _, 1, _, rfl, rfl, hS, atI_nat (j := 1) rfl, b, _, 1, _, rfl, rfl, hS2, atI_nat (j := 1) rfl, rfl, _, rfl, ?_⟩
      by_cases hy : y = 1
      · refine if_pos_of (by rw [hy]; rfl) ?_
        refine ⟨_, rfl, a, _, 1, _, rfl, rfl, hS, atI_nat (j := 1) rfl, b, _, 0, _, rfl, rfl, hS2, atI_nat (j := 0) rfl, ?_⟩
        exact q _ H (.refl _) (.inl ⟨rfl, hy⟩)
      · refine if_neg_of (by show decide (V.int y = V.int 1) = false; exact decide_eq_false (fun z => hy (by injection z))) ?_
        refine ⟨_, rfl, a, _, 1, _, rfl, rfl, hS, atI_nat (j := 1) rfl, ?_⟩
        exact q _ H (.refl _) (.inr ⟨.tup hS2 (.cons (.int _) (.cons (.int _) .nil)), hok.low⟩)
end
end K11
namespace K11
open PySem PySem.Spec PyProof.Rows L2 He TL EL
section
variable {P : Program} {w : World} {K : PySem.W.Frag} {mg : Str → Option Value} {base : Heap}
/-! the law's plain rules -/
def plD (r : Ru) : PyData := .list [.str r.a, optSD r.o, .list (wsD r.ws), .list (r.ts.map Tm.d), .list (r.as.map At.d), spanD r.n r.m]
structure Rok (b : Bool) (r : Ru) : Prop where
  a : wordS r.a = true
  o : ∀ z, r.o = some z → wordS z = true
  ws : ∀ z ∈ r.ws, wordS z = true
  wl : r.ws.length ≤ 2
  t1 : 1 ≤ r.ts.length
  t3 : r.ts.length ≤ 3
  ts : ∀ t ∈ r.ts, Tm.ok t
  as : ∀ a ∈ r.as, At.ok a
  dd : dd r.as = r.as
  al : r.as.length ≤ 2
  n : 0 ≤ r.n ∧ r.n ≤ 9
  m : ∀ i, r.m = some i → 0 ≤ i ∧ i ≤ 9
  kd : r.o.isSome = b
  bs : b = false → 1 ≤ r.ws.length ∧ r.n = 0 ∧ r.m = none
def spPlain (K : PySem.W.Frag) : Sp := fun vs H Q _ => ∃ p l b, vs = [.ref p, .bl b] ∧ Src H p l ∧ ∀ r q H', Rok b r → Src H' p l → Md [p] H H' → (∀ M, Al M H → DpX K M H' (.ref q) (plD r)) → Q (.ref q) H'
theorem eqv_nil : ∀ ws : List Str, PyData.eqv (.list (wsD ws)) (.list []) = decide (ws = [])
  | [] => rfl
  | _ :: _ => rfl
theorem sh_ws {ws : List Str} (h : ∀ z ∈ ws, PyData.strOk z = true) : SeqAt.shaped (.list (wsD ws)) = true := sh_wsT h
theorem DpXs.strs {S : List Addr} {H : Hp} : ∀ ws : List Str, DpXs K S H (ws.map V.str) (wsD ws)
  | [] => .nil
  | z :: r => .cons (.str z) (DpXs.strs r)
theorem optX {S : List Addr} {H : Hp} (o : Option Str) : DpX K S H (optS o) (optSD o) := by cases o <;> constructor
theorem d_plain (T : Txt K mg) : Dn P w K mg base CX0 3 "_law_plain" (spPlain K) := by
  obtain ⟨fd, F⟩ := T.f__law_plain
  have D__law_draw := d_drawM (P := P) (w := w) (base := base) T
  have D__law_word := d_lw (P := P) (w := w) (base := base) T
  have D__law_term := d_lt (P := P) (w := w) (base := base) T
  refine dnN T.g__law_plain F (fun _ _ _ _ _ _ us hl => match us, hl with | [_, _], _ => rfl) sc__law_plain (fun vs H Q E h => ?_) (fun cdv A outer s H vs Q E hr h => ?_)
  · obtain ⟨p, l, b, rfl, _⟩ := h
    rfl
  · obtain ⟨p, l, b, rfl, S, q⟩ := h
    obtain ⟨xp, hp⟩ := S.lst
    obtain ⟨xl, hl⟩ := S.lst2
    refine ⟨_, PSs.nox (pss_cons (ps_setLc (i := 2) (own := [("_law_turn", 3)]) (tt := tYes) (by rfl) sc__law_plain.nd rfl rfl (sw_true rfl rfl rfl (by decide +kernel)) (pi_range1 (by rfl) T.z_range (pa_cons (cl D__law_draw (hr.mono (by decide)) (pa_cons (pv 0) (pa_cons pe_int pa_nil))) pa_nil)) (blkOk_by (own := [("_law_turn", 3)]) (N := ["_law_source", "_law_is_step", "_law_tables", "_law_turn", "_law_old", "_law_depths", "_law_makes", "_law_atoms", "_law_atom"]) (sc := defScope s__law_plain) (by decide +kernel)) (fun _ _ _ _ _ => (pg_name (i := 3) sc__law_plain.nd rfl (.inl rfl))) (fun _ _ _ _ _ => pts_nil) (fun _ _ _ _ _ => (cl D__law_word (hr.mono (by decide)) (pa_cons (pv 0) pa_nil))))
      (pss_cons (ps_set (i := 4) sc__law_plain.nd rfl (.inl rfl) pe_non)
      (pss_cons (ps_set (i := 5) sc__law_plain.nd rfl (.inl rfl) (pe_tup (pa_cons pe_int (pa_cons pe_non pa_nil))))
      (pss_mid (ps_if (pt_val (pv 1)) (pss_cons (ps_set (i := 4) sc__law_plain.nd rfl (.inl rfl) (cl D__law_word (hr.mono (by decide)) (pa_cons (pv 0) pa_nil)))
      (pss_one (ps_set (i := 5) sc__law_plain.nd rfl (.inl rfl) (pe_tup (pa_cons (cl D__law_draw (hr.mono (by decide)) (pa_cons (pv 0) (pa_cons pe_int pa_nil))) (pa_cons (pe_ix ix_list (pe_lst (pa_cons pe_non (pa_cons (cl D__law_draw (hr.mono (by decide)) (pa_cons (pv 0) (pa_cons pe_int pa_nil))) pa_nil))) (cl D__law_draw (hr.mono (by decide)) (pa_cons (pv 0) (pa_cons pe_int pa_nil))) (fun _ _ => rfl)) pa_nil)))))) (pss_one (ps_if (pt_cmpR (op_eqD hr.units) (pv 2) (pe_lst pa_nil) (nomark _)) (pss_one (ps_set (i := 2) sc__law_plain.nd rfl (.inl rfl) (pe_lst (pa_cons (cl D__law_word (hr.mono (by decide)) (pa_cons (pv 0) pa_nil)) pa_nil)))) pss_nil)))
      (pss_cons (ps_setLc (i := 6) (own := [("_law_turn", 3)]) (tt := tYes) (by rfl) sc__law_plain.nd rfl rfl (sw_true rfl rfl rfl (by decide +kernel)) (pi_range1 (by rfl) T.z_range (pa_cons (pe_op op_add pe_int (cl D__law_draw (hr.mono (by decide)) (pa_cons (pv 0) (pa_cons pe_int pa_nil)))) pa_nil)) (blkOk_by (own := [("_law_turn", 3)]) (N := ["_law_source", "_law_is_step", "_law_tables", "_law_turn", "_law_old", "_law_depths", "_law_makes", "_law_atoms", "_law_atom"]) (sc := defScope s__law_plain) (by decide +kernel)) (fun _ _ _ _ _ => (pg_name (i := 3) sc__law_plain.nd rfl (.inl rfl))) (fun _ _ _ _ _ => pts_nil) (fun _ _ _ _ _ => (cl D__law_term (hr.mono (by decide)) (pa_cons (pv 0) pa_nil))))
      (pss_cons (ps_set (i := 7) sc__law_plain.nd rfl (.inl rfl) (pe_lst pa_nil))
      (pss_cons (ps_for PassesOwn.never rfl (pi_range1 (by rfl) T.z_range (pa_cons (cl D__law_draw (hr.mono (by decide)) (pa_cons (pv 0) (pa_cons pe_int pa_nil))) pa_nil)) (pg_name (i := 3) sc__law_plain.nd rfl (.inl rfl))
      (pss_cons (ps_set (i := 8) sc__law_plain.nd rfl (.inl rfl) (pe_tup (pa_cons (pe_ix ix_list (pe_lst (pa_cons pe_str (pa_cons pe_str (pa_cons pe_str (pa_cons pe_str pa_nil))))) (cl D__law_draw (hr.mono (by decide)) (pa_cons (pv 0) (pa_cons pe_int pa_nil))) (fun _ _ => rfl)) (pa_cons (cl D__law_term (hr.mono (by decide)) (pa_cons (pv 0) pa_nil)) (pa_cons (cl D__law_term (hr.mono (by decide)) (pa_cons (pv 0) pa_nil)) pa_nil)))))
      (pss_one (ps_if (pt_cmpR (op_notInD (u65 hr)) (pv 8) (pv 7) (by rfl)) (pss_one (ps_expr (pe_bm PySem.F.plainAttrs_list PySem.F.slot_list_append PySem.F.type_list_append mt_append (pv 7) (pa_cons (pv 8) pa_nil)))) pss_nil))))
      (pss_one (ps_ret (pe_lst (pa_cons (cl D__law_word (hr.mono (by decide)) (pa_cons (pv 0) pa_nil)) (pa_cons (pv 4) (pa_cons (pv 2) (pa_cons (pv 6) (pa_cons (pv 7) (pa_cons (pv 5) pa_nil)))))))))))))))), ?_⟩
    -- the tables
    refine ⟨_, rfl, p, l, 3, rfl, by decide, by decide, S, fun k H1 k0 k1 S1 m1 => ?_⟩
    obtain ⟨xp1, hp1⟩ := S1.lst
    obtain ⟨xl1, hl1⟩ := S1.lst2
    refine ⟨k, rfl, by omega, by omega, fun D nD => ?_⟩
    have sD : Same H1 (upd H1 D (.lst [])) := same_upd nD
    have nD0 : H D = none := free_md m1 (al1 hp1) nD
    have hDp : D ≠ p := fun z => by rw [z, hp1] at nD; cases nD
    have Dl : D ≠ l := fun z => by rw [z, hl1] at nD; cases nD
    refine lc_it (walk_range (lo := 0) (n := k.toNat)) (fun i H' => ∃ ws : List Str, H' D = some (.lst (ws.map V.str)) ∧ ws.length = i ∧ (∀ z ∈ ws, wordS z = true) ∧ Md [p, D] (upd H1 D (.lst [])) H' ∧ Src H' p l) ⟨[], upd_same, rfl, (fun z hz => by cases hz), .refl _ _, S1.same sD⟩ (fun i H' _ h => trivial) ?_ ?_
    · rintro i xv H2 H3 hi ⟨ws, eD, lw, hws, m2, S2⟩ ⟨rfl, rfl⟩
      refine ⟨rfl, tYes_of ?_⟩
      refine ⟨_, rfl, p, l, rfl, S2, fun z H4 hz S4 m4 => ?_⟩
      refine ⟨_, m4.out _ _ eD (not1 hDp), (by rw [List.length_map, lw]; exact Nat.lt_of_lt_of_le (show i < 1000 by omega) (by decide)), ws ++ [z], ?_, by simp [lw], ?_, ?_, ?_⟩
      · rw [upd_same, List.map_append]
        rfl
      · intro y hy
        rcases List.mem_append.mp hy with hy | hy
        · exact hws y hy
        · cases List.mem_singleton.mp hy
          exact hz
      · exact m2.trans ((m4.mono (by simp)).trans (Md.upd (m4.out _ _ eD (not1 hDp)) rfl (by simp)))
      · exact Src.md S4 (Md.upd (S := [D]) (m4.out _ _ eD (not1 hDp)) rfl (by simp)) (not1 (Ne.symm hDp)) (not1 (Ne.symm Dl))
    rintro H2 ⟨ws, eD, lw, hws, m2, S2⟩
    have m02 : Md [p] H H2 := (m1).trans (Md.newM (p := D) (S := [p]) (m2.mono (by simp)) (Md.of sD) nD)
    have lw2 : ws.length ≤ 2 := by omega
    refine ⟨(by show 2 ≤ sizeLine; decide), fun d0 nd0 => ?_⟩
    generalize eH3 : upd H2 d0 _ = H3
    have s3 : Same H2 H3 := eH3 ▸ same_upd nd0
    have e3 : H3 d0 = some _ := eH3 ▸ upd_same
    obtain ⟨xp2, hp2⟩ := S2.lst
    -- the kind
    refine ⟨fun σ' H' => ∃ (ta da : Addr) (o3 : Option V) (ws : List Str) (o : Option Str) (n : Int) (m : Option Int), σ' = [some (.ref p), some (.bl b), some (.ref ta), o3, some (optS o), some (.ref da), none, none, none] ∧ H' ta = some (.lst (ws.map V.str)) ∧ H ta = none ∧ (∀ z ∈ ws, wordS z = true) ∧ ws.length ≤ 2 ∧ L2.Dp K H' (.ref da) (spanD n m) ∧
      (∀ z, o = some z → wordS z = true) ∧ (0 ≤ n ∧ n ≤ 9) ∧ (∀ i, m = some i → 0 ≤ i ∧ i ≤ 9) ∧ o.isSome = b ∧ (b = false → 1 ≤ ws.length ∧ n = 0 ∧ m = none) ∧ Md [p] H H' ∧ Src H' p l, ?_, ?_⟩
    · have m03 : Md [p] H H3 := m02.trans (Md.of s3)
      have S3 := S2.same s3
      refine ⟨_, rfl, _, rfl, ?_⟩
      cases b with
      | true =>
        refine iteT ?_
        refine ⟨_, rfl, p, l, rfl, S3, fun z H4 hz S4 m4 => ?_⟩
        refine ⟨_, rfl, p, l, 10, rfl, by decide, by decide, S4, fun n H5 n0 n1 S5 m5 => ?_⟩
        refine ⟨_, rfl, p, l, 10, rfl, by decide, by decide, S5, fun i H6 i0 i1 S6 m6 => ?_⟩
        refine ⟨(by show 2 ≤ sizeLine; decide), fun u nu => ?_⟩
        generalize eH7 : upd H6 u _ = H7
        have s7 : Same H6 H7 := eH7 ▸ same_upd nu
        have e7 : H7 u = some _ := eH7 ▸ upd_same
        refine ⟨_, rfl, p, l, 2, rfl, by decide, by decide, S6.same s7, fun j H8 j0 j1 S8 m8 => ?_⟩
        obtain ⟨xp6, hp6⟩ := S6.lst
        have up : u ≠ p := Ne.symm (ne_of_none hp6 nu)
        obtain ⟨m, hm, hm9⟩ : ∃ m : Option Int, atI [V.non, .int i] j = some (optI m) ∧ ∀ i, m = some i → 0 ≤ i ∧ i ≤ 9 := by
          have : j = 0 ∨ j = 1 := by omega
          rcases this with rfl | rfl
          · exact ⟨none, atI_nat (j := 0) rfl, fun i z => by cases z⟩
          · exact ⟨some i, atI_nat (j := 1) rfl, fun i' z => by cases z; omega⟩
        refine ⟨u, _, _, _, rfl, rfl, SqL.of (m8.out _ _ e7 (not1 up)), hm, (by show 2 ≤ sizeLine; decide), fun da nda => ?_⟩
        generalize eH9 : upd H8 da _ = H9
        have s9 : Same H8 H9 := eH9 ▸ same_upd nda
        have e9 : H9 da = some _ := eH9 ▸ upd_same
        have m38 : Md [p] H3 H9 := m4.trans (m5.trans (m6.trans ((Md.of s7).trans (m8.trans (Md.of s9)))))
        refine ⟨D, da, _, ws, some z, n, m, rfl, m38.out _ _ (s3 _ _ eD) (not1 hDp), nD0, hws, lw2, .tup (SqT.of e9) (.cons (.int _) (.cons (dp_optI _) .nil)), (fun y e => by cases e; exact hz), ⟨n0, by omega⟩, hm9, rfl, (fun z => by cases z), m03.trans m38, S8.same s9⟩
      | false =>
        refine iteF ?_
        refine ⟨_, rfl, (by show 0 ≤ sizeLine; decide), fun u nu => ?_⟩
        generalize eH4 : upd H3 u _ = H4
        have s4 : Same H3 H4 := eH4 ▸ same_upd nu
        have e4 : H4 u = some _ := eH4 ▸ upd_same
        have eD4 := s4 _ _ (s3 _ _ eD)
        refine ⟨_, _, .lst (SqL.of eD4) (dp_strs' ws), .lst (SqL.of e4) .nil, sh_ws (fun z hz => word_ok (hws z hz)), rfl, _, rfl, ?_⟩
        rw [eqv_nil]
        have d4 : L2.Dp K H4 (.ref d0) (spanD 0 none) := .tup (SqT.of (s4 _ _ e3)) (.cons (.int _) (.cons .non .nil))
        by_cases hw : ws = []
        · refine if_pos_of (decide_eq_true hw) ?_
          refine ⟨_, rfl, p, l, rfl, S3.same s4, fun z H5 hz S5 m5 => ?_⟩
          refine ⟨(by show 1 ≤ sizeLine; decide), fun ta nta => ?_⟩
          generalize eH6 : upd H5 ta _ = H6
          have s6 : Same H5 H6 := eH6 ▸ same_upd nta
          have e6 : H6 ta = some _ := eH6 ▸ upd_same
          have m06 := m03.trans ((Md.of s4).trans (m5.trans (Md.of s6)))
          have n0 : H ta = none := free_md (m03.trans ((Md.of s4).trans m5)) (srcAl S5) nta
          exact ⟨ta, d0, _, [z], none, 0, none, rfl, e6, n0, (fun y hy => by cases List.mem_singleton.mp hy; exact hz), (by show 1 ≤ 2; decide), Dp.same s6 (m5.dp (noL_span _ _) d4), (fun y e => by cases e), ⟨by decide, by decide⟩, (fun y e => by cases e), rfl, fun _ => ⟨(by show 1 ≤ 1; decide), rfl, rfl⟩, m06, S5.same s6⟩
        · refine if_neg_of (decide_eq_false hw) ?_
          refine ⟨D, d0, _, ws, none, 0, none, rfl, eD4, nD0, hws, lw2, d4, (fun y e => by cases e), ⟨by decide, by decide⟩, (fun y e => by cases e), rfl, fun _ => ⟨?_, rfl, rfl⟩, m03.trans (Md.of s4), S3.same s4⟩
          cases ws with
          | nil => exact absurd rfl hw
          | cons x r => simp
    · rintro σ' H4 ⟨ta, da, o3, ws, o, n, m, rfl, et, nt0, hws, lw2, dda, ho, hn, hm, hk, hbs, m04, S4⟩
      clear eD lw m2 m02 e3 s3 S2 hp2 nd0
      -- the terms
      refine ⟨_, rfl, p, l, 3, rfl, by decide, by decide, S4, fun k2 H5 k20 k21 S5 m5 => ?_⟩
      obtain ⟨xp5, hp5⟩ := S5.lst
      obtain ⟨xl5, hl5⟩ := S5.lst2
      refine ⟨_, _, rfl, rfl, 1 + k2, rfl, by omega, by omega, fun M nM => ?_⟩
      have sM : Same H5 (upd H5 M (.lst [])) := same_upd nM
      have m05 := m04.trans m5
      have nM0 : H M = none := free_md m05 (al1 hp5) nM
      have Mp : M ≠ p := fun z => by rw [z, hp5] at nM; cases nM
      have Ml : M ≠ l := fun z => by rw [z, hl5] at nM; cases nM
      refine lc_it (walk_range (lo := 0) (n := (1 + k2).toNat)) (fun i H' => ∃ us ts, H' M = some (.lst us) ∧ DpAll K H' us (ts.map Tm.d) ∧ ts.length = i ∧ (∀ t ∈ ts, Tm.ok t) ∧ Md [p, M] (upd H5 M (.lst [])) H' ∧ Src H' p l) ⟨[], [], upd_same, .nil, rfl, (fun z hz => by cases hz), .refl _ _, S5.same sM⟩ (fun i H' _ h => trivial) ?_ ?_
      · rintro i xv H6 H7 hi ⟨us, ts, eM, au, lt, hts, m6, S6⟩ ⟨rfl, rfl⟩
        refine ⟨rfl, tYes_of ?_⟩
        refine ⟨_, rfl, p, l, rfl, S6, fun t x H8 hz S8 m8 d8 => ?_⟩
        have eM8 := m8.out _ _ eM (not1 Mp)
        have mu : Md [M] H8 (upd H8 M (.lst (us ++ [.ref x]))) := Md.upd eM8 rfl (by simp)
        refine ⟨_, eM8, (by rw [DpAll.length au, List.length_map, lt]; exact Nat.lt_of_lt_of_le (show i < 1000 by omega) (by decide)), us ++ [.ref x], ts ++ [t], upd_same, ?_, by simp [lt], ?_, ?_, ?_⟩
        · rw [List.map_append]
          exact DpAll.snoc (mu.dp (Tm.pd t).1.nl d8) (mu.dpAll (pds_tm _).1.nl (m8.dpAll (pds_tm _).1.nl au))
        · intro y hy
          rcases List.mem_append.mp hy with hy | hy
          · exact hts y hy
          · cases List.mem_singleton.mp hy
            exact hz
        · exact m6.trans ((m8.mono (by simp)).trans (mu.mono (by simp)))
        · exact Src.md S8 mu (not1 (Ne.symm Mp)) (not1 (Ne.symm Ml))
      rintro H6 ⟨us, ts, eM, au, lt, hts, m6, S6⟩
      have m56 : Md [p] H5 H6 := Md.newM (p := M) (S := [p]) (m6.mono (by simp)) (Md.of sM) nM
      have m06 := m05.trans m56
      -- the atoms
      refine ⟨(by show 0 ≤ sizeLine; decide), fun la nla => ?_⟩
      generalize eH7 : upd H6 la _ = H7
      have s7 : Same H6 H7 := eH7 ▸ same_upd nla
      have e7 : H7 la = some _ := eH7 ▸ upd_same
      obtain ⟨xp6, hp6⟩ := S6.lst
      obtain ⟨xl6, hl6⟩ := S6.lst2
      have lap : la ≠ p := Ne.symm (ne_of_none hp6 nla)
      have lal : la ≠ l := Ne.symm (ne_of_none hl6 nla)
      have nla0 : H la = none := free_md m06 (al1 hp6) nla
      refine ⟨_, rfl, p, l, 3, rfl, by decide, by decide, S6.same s7, fun k3 H8 k30 k31 S8 m8 => ?_⟩
      have m08 := m06.trans ((Md.of s7).trans m8)
      refine ⟨k3, rfl, by omega, by omega, for_range (n := k3.toNat) (fun i σ H' => ∃ us as o3 o8, σ = [some (.ref p), some (.bl b), some (.ref ta), o3, some (optS o), some (.ref da), some (.ref M), some (.ref la), o8] ∧ H' la = some (.lst us) ∧ DpAll K H' us (as.map At.d) ∧ as.length ≤ i ∧ (∀ t ∈ as, At.ok t) ∧ K11.dd as = as ∧ Md [p, la] H8 H' ∧ Src H' p l) ⟨[], [], _, _, rfl, m8.out _ _ e7 (not1 lap), .nil, Nat.le_refl _, (fun t ht => by cases ht), rfl, .refl _ _, S8⟩ ?_ ?_⟩
      · rintro i σ H9 hi ⟨vs, as, o3', o8, rfl, ea, aa, lA, hok, hdd, m9, S9⟩
        refine ⟨(by show 4 ≤ sizeLine; decide), fun u nu => ?_⟩
        generalize eHA : upd H9 u _ = HA
        have sA : Same H9 HA := eHA ▸ same_upd nu
        have eA : HA u = some _ := eHA ▸ upd_same
        obtain ⟨xp9, hp9⟩ := S9.lst
        have up : u ≠ p := Ne.symm (ne_of_none hp9 nu)
        refine ⟨_, rfl, p, l, 4, rfl, by decide, by decide, S9.same sA, fun j HB j0 j1 SB mB => ?_⟩
        obtain ⟨sg, hsg⟩ : ∃ sg : Sg, atI [V.str "<", .str "<=", .str "=", .str "!="] j = some (.str sg.s) := by
          have : j = 0 ∨ j = 1 ∨ j = 2 ∨ j = 3 := by omega
          rcases this with rfl | rfl | rfl | rfl
          · exact ⟨.lt, atI_nat (j := 0) rfl⟩
          · exact ⟨.le, atI_nat (j := 1) rfl⟩
          · exact ⟨.eq, atI_nat (j := 2) rfl⟩
          · exact ⟨.ne, atI_nat (j := 3) rfl⟩
        refine ⟨u, _, _, _, rfl, rfl, SqL.of (mB.out _ _ eA (not1 up)), hsg, ?_⟩
        refine ⟨_, rfl, p, l, rfl, SB, fun t1 x1 HC hz1 SC mC dC => ?_⟩
        refine ⟨_, rfl, p, l, rfl, SC, fun t2 x2 HD hz2 SD mD dD => ?_⟩
        refine ⟨(by show 3 ≤ sizeLine; decide), fun y ny => ?_⟩
        generalize eHE : upd HD y _ = HE
        have sE : Same HD HE := eHE ▸ same_upd ny
        have eE : HE y = some _ := eHE ▸ upd_same
        have mAE : Md [p] H9 HE := (Md.of sA).trans (mB.trans (mC.trans (mD.trans (Md.of sE))))
        have aE : L2.Dp K HE (.ref y) (At.mk sg t1 t2).d := .tup (SqT.of eE) (.cons (.str _) (.cons (Dp.same sE (mD.dp (Tm.pd t1).1.nl dC)) (.cons (Dp.same sE dD) .nil)))
        have eaE := mAE.out _ _ ea (not1 lap)
        have aaE := mAE.dpAll (pds_at as).nl aa
        have okA : At.ok (At.mk sg t1 t2) := ⟨hz1, hz2⟩
        generalize At.mk sg t1 t2 = at_ at *
        refine ⟨_, rfl, _, rfl, at_.d, _, aE, .lst (SqL.of eaE) aaE, (At.pd at_).shaped, (pds_at _).shaped, _, rfl, ?_⟩
        rw [any_eqv]
        cases c : (as.any fun z => decide (z = at_)) with
        | true => exact iteF ⟨vs, as, _, _, rfl, eaE, aaE, by omega, hok, hdd, m9.trans (mAE.mono (by simp)), SD.same sE⟩
        | false =>
          refine iteT ?_
          have lv : vs.length < sizeLine := by rw [DpAll.length aa, List.length_map]; exact Nat.lt_of_lt_of_le (show as.length < 1000 by omega) (by decide)
          refine ⟨_, rfl, .inl ⟨rfl, _, SqL.of eaE⟩, _, rfl, la, _, _, rfl, rfl, eaE, lv, ?_⟩
          have mu : Md [la] HE (upd HE la (.lst (vs ++ [.ref y]))) := Md.upd eaE rfl (by simp)
          refine ⟨_, as ++ [at_], _, _, rfl, upd_same, ?_, by simp; omega, ?_, ?_, m9.trans ((mAE.mono (by simp)).trans (mu.mono (by simp))), Src.md (SD.same sE) mu (not1 (Ne.symm lap)) (not1 (Ne.symm lal))⟩
          · rw [List.map_append]
            exact DpAll.snoc (mu.dp (At.pd at_).nl aE) (mu.dpAll (pds_at _).nl aaE)
          · intro x hx
            rcases List.mem_append.mp hx with hx | hx
            · exact hok x hx
            · cases List.mem_singleton.mp hx
              exact okA
          · rw [dd_snoc, hdd, ddS, if_neg (by rw [c]; exact Bool.false_ne_true)]
      · rintro σ H9 ⟨vs, as, o3', o8, rfl, ea, aa, lA, hok, hdd, m9, S9⟩
        refine ⟨_, rfl, p, l, rfl, S9, fun z HA hz SA mA => ?_⟩
        refine ⟨_, rfl, _, rfl, _, rfl, _, rfl, _, rfl, (by show 6 ≤ sizeLine; decide), fun q' nq => ?_⟩
        generalize eHB : upd HA q' _ = HB
        have sB : Same HA HB := eHB ▸ same_upd nq
        have eB : HB q' = some _ := eHB ▸ upd_same
        have m79 : Md [p] H6 HA := (Md.newM (p := la) (S := [p]) ((m8.mono (by simp) : Md [la, p] H7 H8).trans ((m9.mono (by simp) : Md [la, p] H8 H9).trans (mA.mono (by simp)))) (Md.of s7) nla)
        have m7A : Md [p] H7 HA → True := fun _ => trivial
        have m4A : Md [p] H4 HA := m5.trans (m56.trans m79)
        have m0A : Md [p] H HA := m04.trans m4A
        have tap : ta ≠ p := fun z => by rw [z, hp] at nt0; cases nt0
        refine q ⟨z, o, ws, ts, as, n, m⟩ q' HB ⟨hz, ho, hws, lw2, by show 1 ≤ ts.length; omega, by show ts.length ≤ 3; omega, hts, hok, hdd, by show as.length ≤ 2; omega, hn, hm, hk, hbs⟩ (SA.same sB) (m0A.trans (Md.of sB)) fun X al => ?_
        have hta := sB _ _ (m4A.out _ _ et (not1 tap))
        have hM : HB M = some (.lst us) := sB _ _ (m79.out _ _ eM (not1 Mp))
        have hla : HB la = some (.lst vs) := sB _ _ (mA.out _ _ ea (not1 lap))
        refine .lst eB (al.out (free_md m0A (srcAl SA) nq)) (.cons (.str _) (.cons (optX o) (.cons (.lst hta (al.out nt0) (DpXs.strs ws)) (.cons (.lst hM (al.out nM0) (.of (pds_tm _).1.nl (DpAll.same sB (m79.dpAll (pds_tm _).1.nl au)))) (.cons (.lst hla (al.out nla0) (.of (pds_at _).nl (DpAll.same sB (mA.dpAll (pds_at _).nl aa)))) (.cons (.of (noL_span _ _) (Dp.same sB (m4A.dp (noL_span _ _) dda))) .nil))))))
end
end K11
namespace K11
open PySem PySem.Spec PyProof.Rows L2 He TL EL
section
variable {P : Program} {w : World} {K : PySem.W.Frag} {mg : Str → Option Value} {base : Heap}
/-! _law_made -/
structure Ag where
  d0 : PyData
  d1 : PyData
  d2 : PyData
  o : Option (List (Option Tm))
  oc : Option (List At)
  d5 : PyData
  d6 : PyData
structure GAt (K : PySem.W.Frag) (H : Hp) (vs : List V) (A : Ag) : Prop where
  ex : ∃ v0 v1 v2 v3 v4 v5 v6, vs = [v0, v1, v2, v3, v4, v5, v6] ∧ Dp K H v0 A.d0 ∧ shortD A.d0 ∧ Dp K H v1 A.d1 ∧ shortD A.d1 ∧ Dp K H v2 A.d2 ∧ shortL A.d2 ∧ MkArg K H v3 A.o ∧ CArg K H v4 A.oc ∧ Dp K H v5 A.d5 ∧ Dp K H v6 A.d6
  al : ∀ as, A.oc = some as → as.length ≤ 400
def why (b : Bool) (A : Ag) : Option Str := if b = true then whyS A.d0 A.d1 A.d2 A.o A.oc A.d5 A.d6 else whyB A.d0 A.d2 A.o A.oc
structure MadeOf (b : Bool) (A : Ag) (r : Ru) : Prop where
  a : A.d0 = .str r.a
  o : if b = true then ∃ z, A.d1 = .str z ∧ r.o = some z else r.o = none
  ws : A.d2 = .list (wsD r.ws)
  ts : mkTs A.o = some r.ts
  as : ∃ as, A.oc = some as ∧ r.as = dd as
  nm : if b = true then A.d5 = .int r.n ∧ A.d6 = optID r.m else r.n = 0 ∧ r.m = none
def spMade (K : PySem.W.Frag) : Sp := fun args H Q _ => ∃ b g vs A, args = [.bl b, .ref g] ∧ H g = some (.lst vs) ∧ GAt K H vs A ∧
  (∀ z, why b A = some z → ∀ p H', Same H H' → Dp K H' (.ref p) (.list [.str z, .bool true]) → Q (.ref p) H') ∧
  (why b A = none → ∀ r x H', Same H H' → MadeOf b A r → (∀ M, Al M H → RuAt K M H' x r) → Q (.ref x) H')
def gKw {α : Type} (vs : List α) (_ _ : List α) (zs : List α) : List α := vs ++ zs.reverse
theorem vals_rev : ∀ {vs : List V} {us : List Value}, Vals vs us → Vals vs.reverse us.reverse
  | _, _, .nil => .nil
  | _, _, .cons a b => by
    rw [List.reverse_cons, List.reverse_cons]
    exact (vals_rev b).append (.cons a .nil)
theorem d_made (hP : PF P "/claim/cut.py") (T : Txt K mg) : Dn P w K mg base CX0 10 "_law_made" (spMade K) := by
  obtain ⟨fd, F⟩ := T.f__law_made
  obtain ⟨fdB, FB, okB⟩ := ok_base (w := w) (base := base) hP T
  obtain ⟨fdS, FS, okS⟩ := ok_step (w := w) (base := base) hP T
  have D_base : Dn P w K mg base (L2.CX P w) 9 "base" (fun vs H Q E => spBase K (vs ++ ([V.non] : List V).drop 1) H Q E) := ⟨T.g_base, FB.kp, fnD FB okB 4 1 (by simp) rfl (fun _ _ _ _ _ _ _ us its h1 h2 => match us, its, h1, h2 with | [_, _, _, _], [_], _, _ => ⟨_, rfl, rfl⟩)⟩
  obtain ⟨its, mv, KB⟩ := FS.kbinds (ps := ["answer", "old", "tables", "makes", "conditions", "depth_from", "depth_below"]) 5 ["depth_below", "depth_from"] [] gKw (by simp) (by simp) (fun q h => by cases h) (fun h1 _ _ h4 => h1.append (vals_rev h4))
    (fun T D doc pm an cdv ct us its mv ws h1 h2 h3 h4 => match us, its, mv, ws, h1, h2, h3, h4 with | [_, _, _, _, _], [_], [], [_, _], _, _, _, _ => ⟨_, rfl, rfl⟩)
  refine dnN T.g__law_made F (fun _ _ _ _ _ _ us hl => match us, hl with | [_, _], _ => rfl) sc__law_made (fun vs H Q E h => ?_) (fun cdv A outer s H vs Q E hr h => ?_)
  · obtain ⟨b, g, vs, A, rfl, _⟩ := h
    rfl
  · obtain ⟨b, g, vs, A, rfl, hg, G, hE, hQ⟩ := h
    obtain ⟨v0, v1, v2, v3, v4, v5, v6, rfl, a0, s0, a1, s1, a2, s2, a3, a4, a5, a6⟩ := G.ex
    refine ⟨_, PSs.nox (pss_one (ps_try_as (i := 2) (by rfl) (by rfl) sc__law_made.nd rfl (by rfl) ⟨rfl, by decide, .inl T.g_NoRule⟩ takes0 (fun W pn xe tk po => (pss_cons (ps_if (pt_val (pv 0)) (pss_one (ps_ret (pe_callNE okS hr T.g_step FS.kp KB (pxx tk) (pa_cons (pe_ix (show IxR _ (rIxL K) from ix_list) (pv 1) pe_int (fun _ _ => rfl)) (pa_cons (pe_ix (show IxR _ (rIxL K) from ix_list) (pv 1) pe_int (fun _ _ => rfl)) (pa_cons (pe_ix (show IxR _ (rIxL K) from ix_list) (pv 1) pe_int (fun _ _ => rfl)) (pa_cons (pe_ix (show IxR _ (rIxL K) from ix_list) (pv 1) pe_int (fun _ _ => rfl)) (pa_cons (pe_ix (show IxR _ (rIxL K) from ix_list) (pv 1) pe_int (fun _ _ => rfl)) pa_nil))))) (pk_cons (pe_ix (show IxR _ (rIxL K) from ix_list) (pv 1) pe_int (fun _ _ => rfl)) (pk_cons (pe_ix (show IxR _ (rIxL K) from ix_list) (pv 1) pe_int (fun _ _ => rfl)) pk_nil))))) pss_nil)
      (pss_one (ps_ret (clx tk D_base (hr.mono (by decide)) (pa_cons (pe_ix (show IxR _ (rIxL K) from ix_list) (pv 1) pe_int (fun _ _ => rfl)) (pa_cons (pe_ix (show IxR _ (rIxL K) from ix_list) (pv 1) pe_int (fun _ _ => rfl)) (pa_cons (pe_ix (show IxR _ (rIxL K) from ix_list) (pv 1) pe_int (fun _ _ => rfl)) (pa_cons (pe_ix (show IxR _ (rIxL K) from ix_list) (pv 1) pe_int (fun _ _ => rfl)) pa_nil)))))))))
      (fun a oe cls d pn hz hf => (pss_one (ps_ret (pe_lst (pa_cons (pe_xf T.y_NoRule.2.1 T.y_NoRule.2.2 hz hf (pv 2)) (pa_cons (pe_callB (call_isY hz) (by rfl) T.z_isinstance (by decide +kernel) (pa_cons (pv 2) (pa_cons (pe_bltn (v := .ty "ValueError") (by rfl) T.z_ValueError (by decide +kernel) rfl) pa_nil))) pa_nil)))))))), ?_⟩
    refine ⟨_, rfl, _, rfl, ?_⟩
    have ix : ∀ (j : Nat) (v : V), ([v0, v1, v2, v3, v4, v5, v6] : List V)[j]? = some v → atI [v0, v1, v2, v3, v4, v5, v6] ((j : Nat) : Int) = some v := fun j v e => atI_nat e
    have S0 := SqL.of (K := K) hg
    cases b with
    | true =>
      refine iteT ?_
      refine ⟨_, rfl, g, _, 0, _, rfl, rfl, S0, ix 0 _ rfl, _, rfl, g, _, 1, _, rfl, rfl, S0, ix 1 _ rfl, _, rfl, g, _, 2, _, rfl, rfl, S0, ix 2 _ rfl, _, rfl, g, _, 3, _, rfl, rfl, S0, ix 3 _ rfl, _, rfl, g, _, 4, _, rfl, rfl, S0, ix 4 _ rfl, _, rfl, g, _, 6, _, rfl, rfl, S0, ix 6 _ rfl, _, rfl, g, _, 5, _, rfl, rfl, S0, ix 5 _ rfl, rfl, rfl, ?_⟩
      refine ⟨v0, v1, v2, v3, v4, v5, v6, A.d0, A.d1, A.d2, A.o, A.oc, A.d5, A.d6, rfl, a0, s0, a1, s1, a2, s2, a3, a4, a5, a6, G.al, fun z ez d H1 t1 e1 => ?_, fun ez r x H1 t1 r0 r1 r2 r3 r4 r5 r6 R => ?_⟩
      · refine ⟨true, T.e_NoRule_NoRule, fun _ a na => ?_, fun z => by cases z⟩
        refine ⟨_, rfl, rfl, rfl, d, _, _, rfl, e1, rfl, _, rfl, _, _, rfl, fun u r => r, T.k_NoRule_ValueError, (by show 2 ≤ sizeLine; decide), fun p np => ?_⟩
        generalize eH2 : upd H1 p _ = H2
        have t2 : Same H1 H2 := eH2 ▸ same_upd np
        have e2 : H2 p = some _ := eH2 ▸ upd_same
        exact hE z ez p H2 (t1.trans t2) (.lst (SqL.of e2) (.cons (.str _) (.cons (.bl _) .nil)))
      · exact hQ ez r x H1 t1 ⟨r0, r1, r2, r3, r4, ⟨r5, r6⟩⟩ R
    | false =>
      refine iteF ?_
      refine ⟨_, rfl, g, _, 0, _, rfl, rfl, S0, ix 0 _ rfl, _, rfl, g, _, 2, _, rfl, rfl, S0, ix 2 _ rfl, _, rfl, g, _, 3, _, rfl, rfl, S0, ix 3 _ rfl, _, rfl, g, _, 4, _, rfl, rfl, S0, ix 4 _ rfl, ?_⟩
      refine ⟨v0, v2, v3, v4, A.d0, A.d2, A.o, A.oc, rfl, a0, s0, a2, s2, a3, a4, G.al, fun z ez d H1 t1 e1 => ?_, fun ez r x H1 t1 r0 r1 r2 r3 r4 r5 r6 R => ?_⟩
      · refine ⟨true, T.e_NoRule_NoRule, fun _ a na => ?_, fun z => by cases z⟩
        refine ⟨_, rfl, rfl, rfl, d, _, _, rfl, e1, rfl, _, rfl, _, _, rfl, fun u r => r, T.k_NoRule_ValueError, (by show 2 ≤ sizeLine; decide), fun p np => ?_⟩
        generalize eH2 : upd H1 p _ = H2
        have t2 : Same H1 H2 := eH2 ▸ same_upd np
        have e2 : H2 p = some _ := eH2 ▸ upd_same
        exact hE z ez p H2 (t1.trans t2) (.lst (SqL.of e2) (.cons (.str _) (.cons (.bl _) .nil)))
      · exact hQ ez r x H1 t1 ⟨r0, r1, r2, r3, r4, ⟨r5, r6⟩⟩ R
end
end K11
namespace K11
open PySem PySem.Spec PyProof.Rows L2 He TL EL
section
variable {P : Program} {w : World} {K : PySem.W.Frag} {mg : Str → Option Value} {base : Heap}
/-! _law_odd -/
def oddA : List PyData := [.str "", .str "A", .str "a b", .str "abcdefghi", .none, .int 3, .list [.str "a"]]
def oddT : List PyData := [.none, .str "t", .tuple [.str "t"], .list [.str "t", .str "t", .str "t"], .list [.str "t", .str ""], .list [.int 3], .list [.str "t", .none], .list [.str "T"]]
def oddM : List PyData := [.none, .list [], .tuple [.int 1], .int 1, .list [.int 1, .int 2, .int 3, .int 4], .list [.bool true], .list [.none], .list [.str "a"], .list [.tuple [.int 2, .int 4]], .list [.tuple [.str "old", .int 0]], .list [.list [.int 1, .int 1]]]
def oddC : List PyData := [.list [], .tuple [], .tuple [.str "<", .tuple [.str "old", .int 0], .tuple [.str "old", .int 1]], .int 0, .str "", .bool true]
def oddD : List PyData := [.int (-1), .int 10, .bool true, .str "1", .int ((10 : Int) ^ (20 : Int).toNat), .tuple [.int 1, .int 1]]
inductive Nm where
  | answer | old | tables | makes | conditions | depth_from | depth_below
  deriving DecidableEq
def Nm.s : Nm → Str
  | .answer => "answer"
  | .old => "old"
  | .tables => "tables"
  | .makes => "makes"
  | .conditions => "conditions"
  | .depth_from => "depth_from"
  | .depth_below => "depth_below"
def Nm.odds : Nm → List PyData
  | .answer => oddA
  | .old => oddA
  | .tables => oddT
  | .makes => oddM
  | .conditions => oddC
  | .depth_from => oddD
  | .depth_below => oddD
def spOdd (K : PySem.W.Frag) : Sp := fun vs H Q _ => ∃ p l, ∃ nm : Nm, vs = [.ref p, .str nm.s] ∧ Src H p l ∧ ∀ v d H', d ∈ nm.odds → Src H' p l → Md [p] H H' → (∀ M, Al M H → DpX K M H' v d) → Q v H'
theorem d_odd (T : Txt K mg) : Dn P w K mg base CX0 2 "_law_odd" (spOdd K) := by
  obtain ⟨fd, F⟩ := T.f__law_odd
  have D__law_draw := d_drawM (P := P) (w := w) (base := base) T
  refine dnN T.g__law_odd F (fun _ _ _ _ _ _ us hl => match us, hl with | [_, _], _ => rfl) sc__law_odd (fun vs H Q E h => ?_) (fun cdv A outer s H vs Q E hr h => ?_)
  · obtain ⟨p, l, nm, rfl, _⟩ := h
    rfl
  · obtain ⟨p, l, nm, rfl, S, q⟩ := h
    have hpw : CPow 10 20 := ⟨by decide, by decide, by decide⟩
    refine ⟨_, PSs.nox (pss_cons (ps_if (pt_cmpR op_in_seq (pv 1) (pe_lst (pa_cons pe_str (pa_cons pe_str pa_nil))) (by rfl)) (pss_one (ps_ret (pe_ix ix_list (lit_l (lits_cons lit_s (lits_cons lit_s (lits_cons lit_s (lits_cons lit_s (lits_cons lit_n (lits_cons lit_i (lits_cons (lit_l (lits_cons lit_s lits_nil)) lits_nil)))))))) (cl D__law_draw (hr.mono (by decide)) (pa_cons (pv 0) (pa_cons pe_int pa_nil))) (fun _ _ => rfl)))) pss_nil)
      (pss_cons (ps_if (pt_cmpR op_eq (pv 1) pe_str (nomark _)) (pss_one (ps_ret (pe_ix ix_list (lit_l (lits_cons lit_n (lits_cons lit_s (lits_cons (lit_t (lits_cons lit_s lits_nil)) (lits_cons (lit_l (lits_cons lit_s (lits_cons lit_s (lits_cons lit_s lits_nil)))) (lits_cons (lit_l (lits_cons lit_s (lits_cons lit_s lits_nil))) (lits_cons (lit_l (lits_cons lit_i lits_nil)) (lits_cons (lit_l (lits_cons lit_s (lits_cons lit_n lits_nil))) (lits_cons (lit_l (lits_cons lit_s lits_nil)) lits_nil))))))))) (cl D__law_draw (hr.mono (by decide)) (pa_cons (pv 0) (pa_cons pe_int pa_nil))) (fun _ _ => rfl)))) pss_nil)
      (pss_cons (ps_if (pt_cmpR op_eq (pv 1) pe_str (nomark _)) (pss_cons (ps_set (i := 2) sc__law_odd.nd rfl (.inl rfl) (lit_l (lits_cons lit_n (lits_cons (lit_l lits_nil) (lits_cons (lit_t (lits_cons lit_i lits_nil)) (lits_cons lit_i (lits_cons (lit_l (lits_cons lit_i (lits_cons lit_i (lits_cons lit_i (lits_cons lit_i lits_nil))))) (lits_cons (lit_l (lits_cons lit_b lits_nil)) (lits_cons (lit_l (lits_cons lit_n lits_nil)) (lits_cons (lit_l (lits_cons lit_s lits_nil)) (lits_cons (lit_l (lits_cons (lit_t (lits_cons lit_i (lits_cons lit_i lits_nil))) lits_nil)) (lits_cons (lit_l (lits_cons (lit_t (lits_cons lit_s (lits_cons lit_i lits_nil))) lits_nil)) (lits_cons (lit_l (lits_cons (lit_l (lits_cons lit_i (lits_cons lit_i lits_nil))) lits_nil)) lits_nil)))))))))))))
      (pss_one (ps_ret (pe_ix ix_list (pv 2) (cl D__law_draw (hr.mono (by decide)) (pa_cons (pv 0) (pa_cons pe_int pa_nil))) (fun _ _ => rfl))))) pss_nil)
      (pss_cons (ps_if (pt_cmpR op_eq (pv 1) pe_str (nomark _)) (pss_one (ps_ret (pe_ix ix_list (lit_l (lits_cons (lit_l lits_nil) (lits_cons (lit_t lits_nil) (lits_cons (lit_t (lits_cons lit_s (lits_cons (lit_t (lits_cons lit_s (lits_cons lit_i lits_nil))) (lits_cons (lit_t (lits_cons lit_s (lits_cons lit_i lits_nil))) lits_nil)))) (lits_cons lit_i (lits_cons lit_s (lits_cons lit_b lits_nil))))))) (cl D__law_draw (hr.mono (by decide)) (pa_cons (pv 0) (pa_cons pe_int pa_nil))) (fun _ _ => rfl)))) pss_nil)
      (pss_one (ps_ret (pe_ix ix_list (lit_l (lits_cons (lit_e (-1) (pe_un un_neg pe_int) (fun _ _ _ q => ⟨_, rfl, q⟩)) (lits_cons lit_i (lits_cons lit_b (lits_cons lit_s (lits_cons (lit_e ((10 : Int) ^ (20 : Int).toNat) (pe_op op_pow pe_int pe_int) (fun _ _ _ q => ⟨_, _, rfl, rfl, hpw, q⟩)) (lits_cons (lit_t (lits_cons lit_i (lits_cons lit_i lits_nil))) lits_nil))))))) (cl D__law_draw (hr.mono (by decide)) (pa_cons (pv 0) (pa_cons pe_int pa_nil))) (fun _ _ => rfl)))))))), ?_⟩
    have fin : ∀ (H1 : Hp) (v : V) (ds : List PyData) (L : Int), Same H H1 → L = (ds.length : Nat) → 0 < L → L ≤ 1000 → (∀ M, Al M H → DpX K M H1 v (.list ds)) → (∀ d ∈ ds, d ∈ nm.odds) → ∃ (p_1 l : Addr) (L_1 : Int), [V.ref p, V.int L] = [.ref p_1, .int L_1] ∧ 0 < L_1 ∧ L_1 ≤ 1000000000000000000 ∧ Src H1 p_1 l ∧ ∀ (n : Int) (H' : Hp), 0 ≤ n → n < L_1 → Src H' p_1 l → Md [p_1] H1 H' → ∃ p xs i z, v = V.ref p ∧ V.int n = V.int i ∧ SqL K H' p xs ∧ atI xs i = some z ∧ Q z H' := by
      intro H1 v ds L s1 hL hL0 hL1 hx hd
      refine ⟨p, l, L, rfl, hL0, by omega, S.same s1, fun n H2 n0 n1 S2 m2 => ?_⟩
      obtain ⟨xp, hp⟩ := S.lst
      have h1 := ((hx [p] (al1 hp)).md m2)
      obtain ⟨a, xs, rfl, ha, na, hxs⟩ := h1.lst_inv
      obtain ⟨u, d, e1, e2, e3, e4⟩ := hxs.at n0 (by rw [← hL]; exact n1)
      refine ⟨a, xs, n, u, rfl, rfl, SqL.of ha, e1, q u d H2 (hd d e3) S2 ((Md.of s1).trans m2) fun M al => ?_⟩
      have h2 := (hx (p :: M) (al_cons hp al)).md (m2.mono (by simp))
      obtain ⟨a', xs', e5, ha', _, hxs'⟩ := h2.lst_inv
      cases e5
      rw [ha] at ha'
      cases ha'
      obtain ⟨u', d', f1, f2, f3, f4⟩ := hxs'.at n0 (by rw [← hL]; exact n1)
      rw [e1] at f1
      cases f1
      rw [e2] at f2
      cases f2
      exact f4.sub (by simp +contextual)
    refine ⟨_, rfl, (by show 2 ≤ sizeLine; decide), fun u nu => ?_⟩
    generalize eH1 : upd H u _ = H1
    have s1 : Same H H1 := eH1 ▸ same_upd nu
    have e1 : H1 u = some _ := eH1 ▸ upd_same
    have al1' : ∀ {M : List Addr}, Al M H → Al M H1 := fun h => h.same s1
    refine ⟨_, _, rfl, .inl (SqL.of e1), ?_⟩
    cases nm with
    | answer =>
      refine ⟨rfl, rfl, _, rfl, iteT ?_⟩
      intro v H2 s2 hx
      exact ⟨_, rfl, fin H2 v _ 7 (s1.trans s2) rfl (by decide) (by decide) (fun M al => hx M (al1' al)) (fun d h => h)⟩
    | old =>
      refine ⟨rfl, rfl, _, rfl, iteT ?_⟩
      intro v H2 s2 hx
      exact ⟨_, rfl, fin H2 v _ 7 (s1.trans s2) rfl (by decide) (by decide) (fun M al => hx M (al1' al)) (fun d h => h)⟩
    | tables =>
      refine ⟨rfl, rfl, _, rfl, iteF ?_⟩
      refine ⟨_, rfl, rfl, _, rfl, iteT ?_⟩
      intro v H2 s2 hx
      exact ⟨_, rfl, fin H2 v _ 8 (s1.trans s2) rfl (by decide) (by decide) (fun M al => hx M (al1' al)) (fun d h => h)⟩
    | makes =>
      refine ⟨rfl, rfl, _, rfl, iteF ?_⟩
      refine ⟨_, rfl, rfl, _, rfl, iteF ?_⟩
      refine ⟨_, rfl, rfl, _, rfl, iteT ?_⟩
      intro v H2 s2 hx
      exact ⟨_, rfl, _, rfl, fin H2 v _ 11 (s1.trans s2) rfl (by decide) (by decide) (fun M al => hx M (al1' al)) (fun d h => h)⟩
    | conditions =>
      refine ⟨rfl, rfl, _, rfl, iteF ?_⟩
      refine ⟨_, rfl, rfl, _, rfl, iteF ?_⟩
      refine ⟨_, rfl, rfl, _, rfl, iteF ?_⟩
      refine ⟨_, rfl, rfl, _, rfl, iteT ?_⟩
      intro v H2 s2 hx
      exact ⟨_, rfl, fin H2 v _ 6 (s1.trans s2) rfl (by decide) (by decide) (fun M al => hx M (al1' al)) (fun d h => h)⟩
    | depth_from =>
      refine ⟨rfl, rfl, _, rfl, iteF ?_⟩
      refine ⟨_, rfl, rfl, _, rfl, iteF ?_⟩
      refine ⟨_, rfl, rfl, _, rfl, iteF ?_⟩
      refine ⟨_, rfl, rfl, _, rfl, iteF ?_⟩
      intro v H2 s2 hx
      exact ⟨_, rfl, fin H2 v _ 6 (s1.trans s2) rfl (by decide) (by decide) (fun M al => hx M (al1' al)) (fun d h => h)⟩
    | depth_below =>
      refine ⟨rfl, rfl, _, rfl, iteF ?_⟩
      refine ⟨_, rfl, rfl, _, rfl, iteF ?_⟩
      refine ⟨_, rfl, rfl, _, rfl, iteF ?_⟩
      refine ⟨_, rfl, rfl, _, rfl, iteF ?_⟩
      intro v H2 s2 hx
      exact ⟨_, rfl, fin H2 v _ 6 (s1.trans s2) rfl (by decide) (by decide) (fun M al => hx M (al1' al)) (fun d h => h)⟩
/-! odd things are refused -/
theorem odd_word {d : PyData} (h : d ∈ oddA) : isWordD d = false ∧ shortD d := by
  simp only [oddA, List.mem_cons, List.not_mem_nil, or_false] at h
  rcases h with rfl | rfl | rfl | rfl | rfl | rfl | rfl <;> refine ⟨by decide +kernel, ?_⟩ <;> first | trivial | (show (_ : Nat) ≤ 100000; decide)
theorem odd_words {d : PyData} (h : d ∈ oddT) : areW 1 d = false ∧ areW 0 d = false ∧ shortL d := by
  simp only [oddT, List.mem_cons, List.not_mem_nil, or_false] at h
  rcases h with rfl | rfl | rfl | rfl | rfl | rfl | rfl | rfl <;> refine ⟨by decide +kernel, by decide +kernel, ?_⟩ <;> first | trivial | (intro e he; simp only [List.mem_cons, List.not_mem_nil, or_false] at he; rcases he with rfl | rfl | rfl <;> first | trivial | (show (_ : Nat) ≤ 100000; decide)) | (intro e he; simp only [List.mem_cons, List.not_mem_nil, or_false] at he; rcases he with rfl | rfl <;> first | trivial | (show (_ : Nat) ≤ 100000; decide)) | (intro e he; simp only [List.mem_cons, List.not_mem_nil, or_false] at he; cases he; first | trivial | (show (_ : Nat) ≤ 100000; decide))
theorem odd_cond {d : PyData} (h : d ∈ oddC) : d ≠ .none := by
  simp only [oddC, List.mem_cons, List.not_mem_nil, or_false] at h
  rcases h with rfl | rfl | rfl | rfl | rfl | rfl <;> (intro z; cases z)
theorem odd_dep {d : PyData} (h : d ∈ oddD) : isDepD d = false ∧ isNonD d = false := by
  simp only [oddD, List.mem_cons, List.not_mem_nil, or_false] at h
  rcases h with rfl | rfl | rfl | rfl | rfl | rfl <;> exact ⟨by decide +kernel, rfl⟩
/-- lists of items of data -/
def itO (d : PyData) : Option Tm := match d with
  | .int i => some (.val i 1)
  | _ => none
theorem its_of {H : Hp} : ∀ {ds : List PyData} {vs : List V}, DpAll K H vs ds → (∀ d ∈ ds, itO d = none → ofD d = none) → ItsAt K H vs (ds.map itO)
  | [], _, .nil, _ => trivial
  | d :: r, _, .cons a b, h => by
    refine ⟨?_, its_of b fun e he => h e (by simp [he])⟩
    by_cases hi : ∃ i, d = .int i
    · obtain ⟨i, rfl⟩ := hi
      cases a
      exact .inl ⟨rfl, rfl⟩
    · have e : itO d = none := by cases d <;> first | rfl | exact absurd ⟨_, rfl⟩ hi
      rw [e]
      exact ⟨d, a, h d (by simp) e⟩
theorem odd_make {d : PyData} (h : d ∈ oddM) {H : Hp} {v : V} (x : Dp K H v d) : ∃ o, MkArg K H v o ∧ mkTs o = none := by
  by_cases hl : ∃ ds, d = .list ds
  · obtain ⟨ds, rfl⟩ := hl
    obtain ⟨a, vs, rfl, hS, hA⟩ := dp_lst x
    have key : (∀ e ∈ ds, itO e = none → ofD e = none) ∧ mkTs (some (ds.map itO)) = none ∧ ds.length ≤ 4 ∧ ∀ i, PyData.int i ∈ ds → 0 ≤ i ∧ i ≤ 4 := by
      simp only [oddM, List.mem_cons, List.not_mem_nil, or_false] at h
      rcases h with h | h | h | h | h | h | h | h | h | h | h <;> cases h <;> refine ⟨?_, by decide +kernel, by decide, ?_⟩ <;> first
        | (intro i hi; simp at hi; done)
        | (intro i hi; simp at hi; omega)
        | (intro e he; simp only [List.mem_cons, List.not_mem_nil, or_false] at he; cases he <;> (intro; decide +kernel))
        | (intro e he; simp only [List.mem_cons, List.not_mem_nil, or_false] at he; rcases he with rfl | rfl | rfl | rfl <;> (intro z; cases z))
        | (intro e he; cases he)
    have vl : ∀ i : Int, 0 ≤ i → i ≤ 4 → Tm.ok (.val i 1) := fun i h0 h4 => ⟨⟨by show (0 : Int) < 1; decide, by unfold cd; rw [show ((i, (1 : Int)).2).natAbs = 1 from rfl, Nat.gcd_one_right]; rfl⟩, by show i.natAbs < 2 ^ 70; omega, by show (1 : Int).natAbs < 2 ^ 70; decide⟩
    have oks : ∀ t, some t ∈ ds.map itO → Tm.ok t := fun t ht => by
      obtain ⟨e, he, et⟩ := List.mem_map.mp ht
      cases e <;> first | (cases et; done) | skip
      rename_i i
      cases et
      obtain ⟨h0, h4⟩ := key.2.2.2 i he
      exact vl i h0 h4
    exact ⟨some (ds.map itO), ⟨a, vs, rfl, hS, its_of hA key.1, by rw [List.length_map]; have := key.2.2.1; omega, oks⟩, key.2.1⟩
  · have e : isTy .lst d = false := by cases d <;> first | rfl | exact absurd ⟨_, rfl⟩ hl
    exact ⟨none, ⟨d, x, e⟩, rfl⟩
end
end K11
namespace K11
open PySem PySem.Spec PyProof.Rows L2 He TL EL
section
variable {P : Program} {w : World} {K : PySem.W.Frag} {mg : Str → Option Value} {base : Heap}
/-! _law_is -/
theorem pl_inv {M : List Addr} {H : Hp} {v : V} {r : Ru} (h : DpX K M H v (plD r)) : ∃ q ta ma aa da ts as, v = .ref q ∧ q ∉ M ∧ H q = some (.lst [.str r.a, optS r.o, .ref ta, .ref ma, .ref aa, .ref da]) ∧ H ta = some (.lst (r.ws.map V.str)) ∧ H ma = some (.lst ts) ∧ DpAll K H ts (r.ts.map Tm.d) ∧ H aa = some (.lst as) ∧ DpAll K H as (r.as.map At.d) ∧ SqT K H da [.int r.n, optI r.m] ∧ Dp K H (.ref da) (spanD r.n r.m) ∧ ta ∉ M ∧ ma ∉ M ∧ aa ∉ M := by
  obtain ⟨q, xs, rfl, hq, nq, hx⟩ := h.lst_inv
  cases hx with
  | cons h0 hx =>
  cases hx with
  | cons h1 hx =>
  cases hx with
  | cons h2 hx =>
  cases hx with
  | cons h3 hx =>
  cases hx with
  | cons h4 hx =>
  cases hx with
  | cons h5 hx =>
  cases hx
  cases h0
  obtain ⟨ta, tx, rfl, e2, n2, x2⟩ := h2.lst_inv
  obtain ⟨ma, mx, rfl, e3, n3, x3⟩ := h3.lst_inv
  obtain ⟨aa, ax, rfl, e4, n4, x4⟩ := h4.lst_inv
  have h5d := h5.dp
  obtain ⟨da, dx, rfl, e5, x5⟩ := h5.tup_inv
  have ex := dp_strs x2.dp
  subst ex
  have eo : ∀ {v : V} {o : Option Str}, DpX K M H v (optSD o) → v = optS o := fun {v o} h => by cases o <;> (cases h; rfl)
  have ei : ∀ {v : V} {o : Option Int}, DpX K M H v (optID o) → v = optI o := fun {v o} h => by cases o <;> (cases h; rfl)
  rw [eo h1] at hq
  cases x5 with
  | cons g0 x5 =>
  cases x5 with
  | cons g1 x5 =>
  cases x5
  cases g0
  rw [ei g1] at e5
  exact ⟨q, ta, ma, aa, da, mx, ax, rfl, nq, hq, e2, e3, x3.dp, e4, x4.dp, e5, h5d, n2, n3, n4⟩
/-- what is needed of a plain rule to be compared -/
structure Rnc (r : Ru) : Prop where
  str : ∀ z, (z = r.a ∨ r.o = some z ∨ z ∈ r.ws) → PyData.strOk z = true
  dd : dd r.as = r.as
  al : r.as.length ≤ 300
  t1 : 1 ≤ r.ts.length
  t3 : r.ts.length ≤ 3
theorem Rok.rnc {b : Bool} {r : Ru} (h : Rok b r) : Rnc r := ⟨fun z hz => by
  rcases hz with rfl | hz | hz
  · exact word_ok h.a
  · exact word_ok (h.o z hz)
  · exact word_ok (h.ws z hz), h.dd, by have := h.al; omega, h.t1, h.t3⟩
def spIs (K : PySem.W.Frag) : Sp := fun vs H Q _ => ∃ x v r, vs = [.ref x, v] ∧ RuAt K [] H x r ∧ DpX K [] H v (plD r) ∧ Rnc r ∧ ∀ H', Same H H' → Q (.bl true) H'
abbrev atNe : At := ⟨.ne, .val 0 1, .val 0 1⟩
abbrev atEq : At := ⟨.eq, .val 0 1, .val 0 1⟩
theorem vl01 : Tm.ok (.val 0 1) := ⟨⟨by decide, by decide⟩, by decide, by decide⟩
theorem eqv_refl_at (as : List At) : PyData.eqv (.list (as.map At.d)) (.list (as.map At.d)) = true := by rw [eqv_ats]; exact decide_eq_true rfl
theorem d_is (T : Txt K mg) : Dn P w K mg base CX0 8 "_law_is" (spIs K) := by
  obtain ⟨fd, F⟩ := T.f__law_is
  have D_answer := d_ru_answer (P := P) (w := w) (base := base) T
  have D_old := d_ru_old (P := P) (w := w) (base := base) T
  have D_tables := d_ru_tables (P := P) (w := w) (base := base) T
  have D_depths := d_ru_depths (P := P) (w := w) (base := base) T
  have D_step := d_ru_step (P := P) (w := w) (base := base) T
  have D_maker := d_ru_maker (P := P) (w := w) (base := base) T
  have D_conds := d_ru_conds (P := P) (w := w) (base := base) T
  have D_terms := d_mk_terms (P := P) (w := w) (base := base) T
  have D_mkeq := d_mk_eq (P := P) (w := w) (base := base) T
  have D_atoms := d_atoms (P := P) (w := w) (base := base) T
  have D_iand := d_iand (P := P) (w := w) (base := base) T
  have D_cd := d_cd1 (P := P) (w := w) (base := base) T
  have D_mk := d_mk (P := P) (w := w) (base := base) T
  refine dnN T.g__law_is F (fun _ _ _ _ _ _ us hl => match us, hl with | [_, _], _ => rfl) sc__law_is (fun vs H Q E h => ?_) (fun cdv A outer s H vs Q E hr h => ?_)
  · obtain ⟨x, v, r, rfl, _⟩ := h
    rfl
  · obtain ⟨x, v, r, rfl, R, hp, ok, hQ⟩ := h
    refine ⟨_, PSs.nox (pss_cons (ps_if (PW.pt (pw_or (pt_not (pt_val (pe_callB call_isi (by rfl) T.z_isinstance (by decide +kernel) (pa_cons (pv 0) (pa_cons (pe_glob (v := .ref (ga K "Rule")) (by rfl) T.g_Rule rfl) pa_nil))))) (pw_or1 (pt_cmpR (op_neD hr.units) (pe_methE0 (pv 0) T.o_Rule.cl T.h_Rule_answer D_answer (hr.mono (by decide)) px0) (pe_ix ix_list (pv 1) pe_int (fun _ _ => rfl)) (nomark _))))) (pss_one (ps_ret pe_bl)) pss_nil)
      (pss_mid (ps_if (PW.pt (pw_and (pt_cmpR op_isnot_bl (pe_methE0 (pv 0) T.o_Rule.cl T.h_Rule_is_step D_step (hr.mono (by decide)) px0) pe_bl (nomark _)) (pw_and1 (pt_cmpR op_isnot_bl (pe_methE0 (pv 0) T.o_Rule.cl T.h_Rule_is_step D_step (hr.mono (by decide)) px0) pe_bl (nomark _))))) (pss_one (ps_ret pe_bl)) pss_nil)
      (pss_cons (ps_if (pt_cmpR op_eq (pe_methE0 (pv 0) T.o_Rule.cl T.h_Rule_is_step D_step (hr.mono (by decide)) px0) (pe_cmpR op_isN (pe_ix ix_list (pv 1) pe_int (fun _ _ => rfl)) pe_non (nomark _)) (nomark _)) (pss_one (ps_ret pe_bl)) pss_nil)
      (pss_cons (ps_if (PW.pt (pw_or (pt_cmpR (op_neD hr.units) (pe_methE0 (pv 0) T.o_Rule.cl T.h_Rule_old D_old (hr.mono (by decide)) px0) (pe_ix ix_list (pv 1) pe_int (fun _ _ => rfl)) (nomark _)) (pw_or (pt_cmpR (op_neD hr.units) (pe_methE0 (pv 0) T.o_Rule.cl T.h_Rule_tables D_tables (hr.mono (by decide)) px0) (pe_callTy call_tuple_of (by rfl) T.z_tuple (by decide +kernel) (pa_cons (pe_ix ix_list (pv 1) pe_int (fun _ _ => rfl)) pa_nil)) (nomark _)) (pw_or1 (pt_cmpR (op_neD hr.units) (pe_methE0 (pe_methE0 (pv 0) T.o_Rule.cl T.h_Rule_maker D_maker (hr.mono (by decide)) px0) T.o_Maker.cl T.h_Maker_terms D_terms (hr.mono (by decide)) px0) (pe_callTy call_tuple_of (by rfl) T.z_tuple (by decide +kernel) (pa_cons (pe_ix ix_list (pv 1) pe_int (fun _ _ => rfl)) pa_nil)) (nomark _)))))) (pss_one (ps_ret pe_bl)) pss_nil)
      (pss_cons (ps_set (i := 2) sc__law_is.nd rfl (.inl rfl) (pe_methE0 (pv 0) T.o_Rule.cl T.h_Rule_conditions D_conds (hr.mono (by decide)) px0))
      (pss_cons (ps_if (PW.pt (pw_or (pt_cmpR (op_neD hr.units) (pe_methE0 (pv 2) T.o_Conditions.cl T.h_Conditions_atoms D_atoms (hr.mono (by decide)) px0) (pe_ix ix_list (pv 1) pe_int (fun _ _ => rfl)) (nomark _)) (pw_or (pt_cmpR (op_neD hr.units) (pe_methE0 (pv 0) T.o_Rule.cl T.h_Rule_depths D_depths (hr.mono (by decide)) px0) (pe_ix ix_list (pv 1) pe_int (fun _ _ => rfl)) (nomark _)) (pw_or1 (pt_not (pt_val (pe_callB call_isi (by rfl) T.z_isinstance (by decide +kernel) (pa_cons (pe_methE0 (pv 0) T.o_Rule.cl T.h_Rule_depths D_depths (hr.mono (by decide)) px0) (pa_cons (pe_bltn (v := .ty "tuple") (by rfl) T.z_tuple (by decide +kernel) rfl) pa_nil))))))))) (pss_one (ps_ret pe_bl)) pss_nil)
      (pss_cons (ps_aug (i := 2) sc__law_is.nd rfl (.inl rfl) (pe_makeE T.m_Conditions D_cd (hr.mono (by decide)) T.g_Conditions pxq (pa_cons (lit_l (lits_cons (lit_t (lits_cons lit_s (lits_cons (lit_t (lits_cons lit_s (lits_cons (lit_t (lits_cons lit_i (lits_cons lit_i lits_nil))) lits_nil))) (lits_cons (lit_t (lits_cons lit_s (lits_cons (lit_t (lits_cons lit_i (lits_cons lit_i lits_nil))) lits_nil))) lits_nil)))) lits_nil)) pa_nil)) (ip_own T.sf_Conditions T.u_Conditions___iand__.1 T.u_Conditions___iand__.2 D_iand (hr.mono (by decide)) pass0))
      (pss_one (ps_ret (pe_and (pe_cmpR (op_eqD hr.units) (pe_methE0 (pe_methE0 (pv 0) T.o_Rule.cl T.h_Rule_conditions D_conds (hr.mono (by decide)) px0) T.o_Conditions.cl T.h_Conditions_atoms D_atoms (hr.mono (by decide)) px0) (pe_ix ix_list (pv 1) pe_int (fun _ _ => rfl)) (nomark _)) (pe_one (pe_cmpR op_is_bl (pe_cmpR (op_cmpO (E := E0) (fun _ _ => rfl) T.u_Maker___eq__.1 T.u_Maker___eq__.2 D_mkeq (hr.mono (by decide)) pass0) (pe_methE0 (pv 0) T.o_Rule.cl T.h_Rule_maker D_maker (hr.mono (by decide)) px0) (pe_makeE T.m_Maker D_mk (hr.mono (by decide)) T.g_Maker pxq (pa_cons (pe_ix ix_list (pv 1) pe_int (fun _ _ => rfl)) pa_nil)) (nomark _)) pe_bl (nomark _))))))))))))), ?_⟩
    obtain ⟨q, ta, ma, aa, da, ts, as, rfl, _, hq, hta, hma, dma, haa, daa, hda, dda, _⟩ := pl_inv hp
    obtain ⟨dx, t, mk, dmk, tm, c, dc, lc, d, h1, h2, h3, h4, h5, _⟩ := id R.ex
    have ix : ∀ (j : Nat) (v : V), ([.str r.a, optS r.o, .ref ta, .ref ma, .ref aa, .ref da] : List V)[j]? = some v → atI [.str r.a, optS r.o, .ref ta, .ref ma, .ref aa, .ref da] ((j : Nat) : Int) = some v := fun j v e => atI_nat e
    have Sq := SqL.of (K := K) hq
    have shA : SeqAt.shaped (.str r.a) = true := sh_optS (o := some r.a) fun z e => ok.str z (.inl (Option.some.inj e).symm)
    have shO := sh_optS (o := r.o) fun z e => ok.str z (.inr (.inl e))
    have shW := sh_wsT (ws := r.ws) fun z e => ok.str z (.inr (.inr e))
    have shT := (pd_tms r.ts).shaped
    -- the answer
    refine ⟨_, rfl, _, _, _, _, _, rfl, .own _, T.o_Rule.ty h1, T.o_Rule.self, _, rfl, iteF ?_⟩
    refine ⟨_, rfl, _, _, _, rfl, h1, ruF_no (by decide +kernel), x, r, rfl, R, fun v0 dv0 => ?_⟩
    refine ⟨_, rfl, q, _, 0, _, rfl, rfl, Sq, ix 0 _ rfl, _, _, dv0, .str _, shA, shA, _, rfl, if_neg_of (by rw [show PyData.eqv (.str r.a) (.str r.a) = true from eqv_optS (some r.a) (some r.a) ▸ decide_eq_true rfl]; rfl) ?_⟩
    -- its kind
    refine ⟨fun σ' H' => H' = H ∧ σ' = [some (.ref x), some (.ref q), none], ?_, ?_⟩
    · refine ⟨_, rfl, _, _, _, rfl, h1, ruF_no (by decide +kernel), x, r, rfl, R, fun v1 dv1 => ?_⟩
      have ev1 : v1 = .bl r.o.isSome := by cases dv1; rfl
      subst ev1
      refine ⟨_, _, rfl, rfl, _, rfl, ?_⟩
      cases hs : r.o.isSome with
      | true => exact iteF ⟨rfl, rfl⟩
      | false =>
        refine iteT ?_
        refine ⟨_, rfl, _, _, _, rfl, h1, ruF_no (by decide +kernel), x, r, rfl, R, fun v1 dv1 => ?_⟩
        have ev1 : v1 = .bl r.o.isSome := by cases dv1; rfl
        subst ev1
        rw [hs]
        exact ⟨_, _, rfl, rfl, _, rfl, iteF ⟨rfl, rfl⟩⟩
    rintro σ' H' ⟨rfl, rfl⟩
    refine ⟨_, rfl, _, _, _, rfl, h1, ruF_no (by decide +kernel), x, r, rfl, R, fun v1 dv1 => ?_⟩
    have ev1 : v1 = .bl r.o.isSome := by cases dv1; rfl
    subst ev1
    refine ⟨_, rfl, q, _, 1, _, rfl, rfl, Sq, ix 1 _ rfl, rfl, rfl, _, rfl, if_neg_of (by show decide (V.bl r.o.isSome = V.bl (decide (optS r.o = V.non))) = false; cases r.o <;> rfl) ?_⟩
    -- the old answer, the tables, the terms
    refine ⟨_, rfl, _, _, _, rfl, h1, ruF_no (by decide +kernel), x, r, rfl, R, fun v2 dv2 => ?_⟩
    refine ⟨_, rfl, q, _, 1, _, rfl, rfl, Sq, ix 1 _ rfl, _, _, dv2, dp_optS _, shO, shO, _, rfl, if_neg_of (by rw [eqv_optS, decide_eq_true rfl]; rfl) ?_⟩
    refine ⟨_, rfl, _, _, _, rfl, h1, ruF_no (by decide +kernel), x, r, rfl, R, fun v3 dv3 => ?_⟩
    refine ⟨_, rfl, q, _, 2, _, rfl, rfl, Sq, ix 2 _ rfl, _, _, rfl, .inl ⟨SqL.of hta, fun t1 nt1 => ?_⟩⟩
    generalize eH1 : upd H' t1 _ = H1
    have s1 : Same H' H1 := eH1 ▸ same_upd nt1
    have e1 : H1 t1 = some _ := eH1 ▸ upd_same
    refine ⟨_, _, Dp.same s1 dv3, .tup (SqT.of e1) (dp_strs' _), shW, shW, _, rfl, if_neg_of (by rw [eqv_wsT, decide_eq_true rfl]; rfl) ?_⟩
    have R1 := R.same s1
    refine ⟨_, rfl, _, _, _, rfl, s1 _ _ h1, ruF_no (by decide +kernel), x, r, rfl, R1, fun y dy ty MY => ?_⟩
    refine ⟨_, _, _, rfl, MY.hx, mkF_no (by decide), y, dy, ty, r.ts, rfl, MY, ?_⟩
    refine ⟨_, rfl, q, _, 3, _, rfl, rfl, SqL.of (s1 _ _ hq), ix 3 _ rfl, _, _, rfl, .inl ⟨SqL.of (s1 _ _ hma), fun t2 nt2 => ?_⟩⟩
    generalize eH2 : upd H1 t2 _ = H2
    have s2 : Same H1 H2 := eH2 ▸ same_upd nt2
    have e2 : H2 t2 = some _ := eH2 ▸ upd_same
    have s02 := s1.trans s2
    refine ⟨_, _, (MY.same s2).dp, .tup (SqT.of e2) (DpAll.same s02 dma), shT, shT, _, rfl, if_neg_of (by rw [eqv_tms, decide_eq_true rfl]; rfl) ?_⟩
    -- the conditions
    have R2 := R.same s02
    refine ⟨_, rfl, _, _, _, rfl, s02 _ _ h1, ruF_no (by decide +kernel), x, r, rfl, R2, (by have := ok.al; omega), fun z dz n H3 s3 nz nn hzn CD => ?_⟩
    rw [ok.dd] at CD
    have s03 := s02.trans s3
    refine ⟨_, rfl, _, _, _, rfl, CD.hx, cdF_no (by decide), z, dz, n, r.as, rfl, CD, fun p us H4 np s4 e4 a4 => ?_⟩
    have s04 := s03.trans s4
    refine ⟨_, rfl, q, _, 4, _, rfl, rfl, SqL.of (s04 _ _ hq), ix 4 _ rfl, _, _, .lst (SqL.of e4) a4, .lst (SqL.of (s04 _ _ haa)) (DpAll.same s04 daa), (pds_at _).shaped, (pds_at _).shaped, _, rfl, if_neg_of (by rw [eqv_refl_at]; rfl) ?_⟩
    have R4 := R.same s04
    refine ⟨_, rfl, _, _, _, rfl, s04 _ _ h1, ruF_no (by decide +kernel), x, r, rfl, R4, fun v5 dv5 => ?_⟩
    refine ⟨_, rfl, q, _, 5, _, rfl, rfl, SqL.of (s04 _ _ hq), ix 5 _ rfl, _, _, dv5, Dp.same s04 dda, sh_span _ _, sh_span _ _, _, rfl, if_neg_of (by rw [eqv_span, decide_eq_true ⟨rfl, rfl⟩]; rfl) ?_⟩
    refine ⟨_, rfl, _, _, _, rfl, s04 _ _ h1, ruF_no (by decide +kernel), x, r, rfl, R4, fun v6 dv6 => ?_⟩
    refine ⟨_, _, _, _, _, rfl, .ty _, Dp.ty dv6, kit_d K .tup (spanD r.n r.m), _, rfl, iteF ?_⟩
    -- the told ones are changed
    refine ⟨_, rfl, ?_⟩
    intro vl H5 s5 hx5
    obtain ⟨la, xs5, rfl, ela, _, x5⟩ := (hx5 [] al_nil).lst_inv
    refine mkCd (as := [atNe]) (.inl (SqL.of ela)) x5.dp (fun a ha => by cases List.mem_singleton.mp ha; exact ⟨vl01, vl01⟩) (by decide) fun z2 dz2 n2 H6 s6 nz2 nn2 hzn2 CD2 => ?_
    have s46 := s4.trans (s5.trans s6)
    have CD6 := CD.same s46
    refine ⟨_, _, _, rfl, CD6.hx, z, dz, n, r.as, z2, dz2, n2, _, rfl, CD6, CD2, (by have := ok.al; omega), (by decide), fun n3 H7 m7 nn3 CD7 => ?_⟩
    have s27 : Same H2 H7 := fun b o hb => m7.out _ _ (s46 _ _ (s3 _ _ hb)) (not1 (ne_of_none hb nz))
    have s07 := s02.trans s27
    have R7 := R.same s07
    refine ⟨_, rfl, _, _, _, rfl, s07 _ _ h1, ruF_no (by decide +kernel), x, r, rfl, R7, (by have := ok.al; omega), fun z8 dz8 n8 H8 s8 nz8 nn8 hzn8 CD8 => ?_⟩
    rw [ok.dd] at CD8
    have s08 := s07.trans s8
    refine ⟨_, _, _, rfl, CD8.hx, cdF_no (by decide), z8, dz8, n8, r.as, rfl, CD8, fun p9 us9 H9 np9 s9 e9 a9 => ?_⟩
    have s09 := s08.trans s9
    refine ⟨_, rfl, q, _, 4, _, rfl, rfl, SqL.of (s09 _ _ hq), ix 4 _ rfl, _, _, .lst (SqL.of e9) a9, .lst (SqL.of (s09 _ _ haa)) (DpAll.same s09 daa), (pds_at _).shaped, (pds_at _).shaped, _, rfl, if_pos_of (eqv_refl_at _) ?_⟩
    have R9 := R.same s09
    refine ⟨_, rfl, _, _, _, rfl, s09 _ _ h1, ruF_no (by decide +kernel), x, r, rfl, R9, fun y9 dy9 ty9 MY9 => ?_⟩
    refine ⟨_, rfl, q, _, 3, _, rfl, rfl, SqL.of (s09 _ _ hq), ix 3 _ rfl, ?_⟩
    have mok := (make_ok h3.ok ok.t1 ok.t3).1
    refine mkMk (d := .list (r.ts.map Tm.d)) (.lst (SqL.of (s09 _ _ hma)) (DpAll.same s09 dma)) (by show (r.ts.map Tm.d).length ≤ 1000; rw [List.length_map]; have := ok.t3; omega) (fun z => by rw [mok] at z; cases z) fun _ yA dyA tA uA HA sA nyA hyA htA huA => ?_
    have MA : MkAt K HA yA dyA tA r.ts := ⟨hyA, ⟨uA, htA, huA⟩, h3.ok⟩
    have MY' := MY9.same sA
    refine ⟨_, _, _, _, rfl, MY'.hx, T.o_Maker.ty MA.hx, T.nf_Maker, _, _, _, _, _, _, _, _, rfl, MY', MA, ?_⟩
    refine ⟨_, _, rfl, rfl, ?_⟩
    rw [decide_eq_true rfl]
    exact hQ HA (s09.trans sA)
end
end K11
namespace K11
open PySem PySem.Spec PyProof.Rows L2 He TL EL
section
variable {P : Program} {w : World} {K : PySem.W.Frag} {mg : Str → Option Value} {base : Heap}
/-! the handed arguments -/
def nmAt : Nat → Nm
  | 0 => .answer
  | 1 => .old
  | 2 => .tables
  | 3 => .makes
  | 4 => .conditions
  | 5 => .depth_from
  | _ => .depth_below
def Ls (S : List Addr) (H : Hp) : Prop := ∀ a ∈ S, ∃ xs, H a = some (.lst xs)
theorem ItAt.md {S : List Addr} {H H' : Hp} {v : V} {t : Tm} (m : Md S H H') (k : Ls S H) (h : ItAt K H v (some t)) : ItAt K H' v (some t) := by
  match t, h with
  | .cell p c, ⟨x, dx, e1, e2, e3⟩ => exact ⟨x, dx, e1, m.out _ _ e2 (fun z => by obtain ⟨xs, e⟩ := k x z; rw [e2] at e; cases e), e3⟩
  | .val a b, .inl h => exact .inl h
  | .val a b, .inr ⟨h, l⟩ => exact .inr ⟨m.dp rfl h, l⟩
theorem ItsAt.md {S : List Addr} {H H' : Hp} (m : Md S H H') (k : Ls S H) : ∀ {vs : List V} {ts : List Tm}, ItsAt K H vs (ts.map some) → ItsAt K H' vs (ts.map some)
  | [], [], _ => trivial
  | _ :: _, _ :: _, h => ⟨ItAt.md m k h.1, ItsAt.md m k h.2⟩
  | [], _ :: _, h => h.elim
  | _ :: _, [], h => h.elim
def Good (K : PySem.W.Frag) (S : List Addr) (H : Hp) (r : Ru) (v : V) : Nat → Prop
  | 0 => v = .str r.a
  | 1 => v = optS r.o
  | 2 => DpX K S H v (.list (wsD r.ws))
  | 3 => ∃ a xs, v = .ref a ∧ H a = some (.lst xs) ∧ a ∉ S ∧ ItsAt K H xs (r.ts.map some)
  | 4 => ∃ c dc lc, v = .ref c ∧ CdAt K H c dc lc [] ∧ c ∉ S ∧ lc ∉ S
  | 5 => v = .int r.n
  | _ => v = optI r.m
def Bad (K : PySem.W.Frag) (S : List Addr) (H : Hp) (b : Bool) (v : V) (i : Nat) : Prop := ∃ d, DpX K S H v d ∧ (d ∈ (nmAt i).odds ∨ (i = 2 ∧ b = false ∧ d = .list []))
theorem Good.md {S : List Addr} {H H' : Hp} {r : Ru} {v : V} (m : Md S H H') (k : Ls S H) : ∀ {i : Nat}, Good K S H r v i → Good K S H' r v i
  | 0, h => h
  | 1, h => h
  | 2, h => DpX.md m h
  | 3, ⟨a, xs, e, h1, h2, h3⟩ => ⟨a, xs, e, m.out _ _ h1 h2, h2, h3.md m k⟩
  | 4, ⟨c, dc, lc, e, C, n1, n2⟩ => ⟨c, dc, lc, e, C.md m n1 n2, n1, n2⟩
  | 5, h => h
  | _ + 6, h => h
theorem Bad.md {S : List Addr} {H H' : Hp} {b : Bool} {v : V} {i : Nat} (m : Md S H H') (h : Bad K S H b v i) : Bad K S H' b v i := by
  obtain ⟨d, x, e⟩ := h
  exact ⟨d, x.md m, e⟩
structure GS (K : PySem.W.Frag) (S : List Addr) (H : Hp) (r : Ru) (b : Bool) (vs : List V) (f : Nat → Bool) : Prop where
  len : vs.length = 7
  at_ : ∀ i v, vs[i]? = some v → if f i = true then Bad K S H b v i else Good K S H r v i
theorem GS.md {S : List Addr} {H H' : Hp} {r : Ru} {b : Bool} {vs : List V} {f : Nat → Bool} (m : Md S H H') (k : Ls S H) (h : GS K S H r b vs f) : GS K S H' r b vs f := by
  refine ⟨h.len, fun i v e => ?_⟩
  have := h.at_ i v e
  cases hf : f i with
  | true =>
    rw [hf, if_pos rfl] at this
    rw [if_pos rfl]
    exact this.md m
  | false =>
    rw [hf, if_neg Bool.false_ne_true] at this
    rw [if_neg Bool.false_ne_true]
    exact this.md m k
theorem GS.set {S : List Addr} {H : Hp} {r : Ru} {b : Bool} {vs : List V} {f : Nat → Bool} {j : Nat} {v : V} (h : GS K S H r b vs f) (hb : Bad K S H b v j) : GS K S H r b (vs.set j v) (fun i => f i || decide (i = j)) := by
  refine ⟨by rw [List.length_set]; exact h.len, fun i u e => ?_⟩
  by_cases hij : j = i
  · subst hij
    rw [List.getElem?_set] at e
    rw [if_pos rfl] at e
    split at e
    · cases e
      rw [decide_eq_true rfl, Bool.or_true, if_pos rfl]
      exact hb
    · cases e
  · rw [List.getElem?_set_ne hij] at e
    have := h.at_ i u e
    rw [decide_eq_false (Ne.symm hij), Bool.or_false]
    exact this
/-- the first odd one is told -/
theorem GS.why {S : List Addr} {H : Hp} {r : Ru} {b : Bool} {vs : List V} {f : Nat → Bool} {due : Nat} (G : GS K S H r b vs f) (ok : Rok b r) (hd : due < 7) (h1 : f due = true) (h0 : ∀ j, j < due → f j = false) (hb : b = false → f 1 = false ∧ f 5 = false ∧ f 6 = false) :
    ∃ A, GAt K H vs A ∧ why b A = some (nmAt due).s := by
  obtain ⟨l, g⟩ := G
  match vs, l, g with
  | [v0, v1, v2, v3, v4, v5, v6], _, g =>
  have g0 := g 0 v0 rfl
  have g1 := g 1 v1 rfl
  have g2 := g 2 v2 rfl
  have g3 := g 3 v3 rfl
  have g4 := g 4 v4 rfl
  have g5 := g 5 v5 rfl
  have g6 := g 6 v6 rfl
  have sw : ∀ {z : Str}, wordS z = true → shortD (.str z) := fun {z} h => by show z.length ≤ 100000; have := word_len h; omega
  obtain ⟨d0, x0, y0, z0⟩ : ∃ d, Dp K H v0 d ∧ shortD d ∧ isWordD d = !f 0 := by
    cases hf : f 0 with
    | true =>
      rw [hf, if_pos rfl] at g0
      obtain ⟨d, x, e | ⟨e, _⟩⟩ := g0
      · exact ⟨d, x.dp, (odd_word e).2, (odd_word e).1⟩
      · cases e
    | false =>
      rw [hf, if_neg Bool.false_ne_true] at g0
      have g0' : v0 = .str r.a := g0
      subst g0'
      exact ⟨_, .str _, sw ok.a, ok.a⟩
  obtain ⟨d1, x1, y1, z1⟩ : ∃ d, Dp K H v1 d ∧ shortD d ∧ (b = true → isWordD d = !f 1) := by
    cases hf : f 1 with
    | true =>
      rw [hf, if_pos rfl] at g1
      obtain ⟨d, x, e | ⟨e, _⟩⟩ := g1
      · exact ⟨d, x.dp, (odd_word e).2, fun _ => (odd_word e).1⟩
      · cases e
    | false =>
      rw [hf, if_neg Bool.false_ne_true] at g1
      have g1' : v1 = optS r.o := g1
      subst g1'
      refine ⟨_, dp_optS _, ?_, fun hb => ?_⟩
      · cases ho : r.o with
        | none => trivial
        | some z => exact sw (ok.o z ho)
      · have hk := ok.kd
        rw [hb] at hk
        cases ho : r.o with
        | none => rw [ho] at hk; cases hk
        | some z => exact ok.o z ho
  obtain ⟨d2, x2, y2, z2⟩ : ∃ d, Dp K H v2 d ∧ shortL d ∧ areW (if b = true then 0 else 1) d = !f 2 := by
    cases hf : f 2 with
    | true =>
      rw [hf, if_pos rfl] at g2
      obtain ⟨d, x, e | ⟨_, hb, rfl⟩⟩ := g2
      · obtain ⟨e1, e2, e3⟩ := odd_words e
        refine ⟨d, x.dp, e3, ?_⟩
        cases b with
        | true => exact e2
        | false => exact e1
      · subst hb
        exact ⟨_, x.dp, (fun e he => by cases he), rfl⟩
    | false =>
      rw [hf, if_neg Bool.false_ne_true] at g2
      have g2' : DpX K S H v2 (.list (wsD r.ws)) := g2
      refine ⟨_, g2'.dp, fun e he => ?_, ?_⟩
      · obtain ⟨z, hz, rfl⟩ := List.mem_map.mp he
        exact sw (ok.ws z hz)
      · show ((decide (_ ≤ (wsD r.ws).length) && decide ((wsD r.ws).length ≤ 2)) && (wsD r.ws).all isWordD) = true
        have hw : (wsD r.ws).all isWordD = true := List.all_eq_true.mpr fun e he => by
          obtain ⟨z, hz, rfl⟩ := List.mem_map.mp he
          exact ok.ws z hz
        rw [hw, show (wsD r.ws).length = r.ws.length from List.length_map _, decide_eq_true ok.wl, Bool.and_true, Bool.and_true]
        refine decide_eq_true ?_
        cases b with
        | true => exact Nat.zero_le _
        | false => exact (ok.bs rfl).1
  obtain ⟨o, x3, z3⟩ : ∃ o, MkArg K H v3 o ∧ (if f 3 = true then mkTs o = none else ∃ ts, mkTs o = some ts) := by
    cases hf : f 3 with
    | true =>
      rw [hf, if_pos rfl] at g3
      obtain ⟨d, x, e | ⟨e, _⟩⟩ := g3
      · obtain ⟨o, h1, h2⟩ := odd_make e x.dp
        exact ⟨o, h1, h2⟩
      · cases e
    | false =>
      rw [hf, if_neg Bool.false_ne_true] at g3
      obtain ⟨a, xs, rfl, e1, e2, e3⟩ := g3
      refine ⟨some (r.ts.map some), ⟨a, xs, rfl, SqL.of e1, e3, by rw [List.length_map]; have := ok.t3; omega, fun t ht => ?_⟩, r.ts, mkTs_map ok.t1 ok.t3⟩
      obtain ⟨t', h', e'⟩ := List.mem_map.mp ht
      cases e'
      exact ok.ts _ h'
  obtain ⟨oc, x4, z4, w4⟩ : ∃ oc, CArg K H v4 oc ∧ (if f 4 = true then oc = none else ∃ as, oc = some as) ∧ ∀ as, oc = some as → as.length ≤ 400 := by
    cases hf : f 4 with
    | true =>
      rw [hf, if_pos rfl] at g4
      obtain ⟨d, x, e | ⟨e, _⟩⟩ := g4
      · exact ⟨none, ⟨d, x.dp, odd_cond e⟩, rfl, fun as h => by cases h⟩
      · cases e
    | false =>
      rw [hf, if_neg Bool.false_ne_true] at g4
      obtain ⟨c, dc, lc, rfl, C, _⟩ := g4
      exact ⟨some [], .inr ⟨c, dc, lc, rfl, C⟩, ⟨[], rfl⟩, fun as h => by cases h; exact Nat.zero_le _⟩
  obtain ⟨d5, x5, z5⟩ : ∃ d, Dp K H v5 d ∧ isDepD d = !f 5 := by
    cases hf : f 5 with
    | true =>
      rw [hf, if_pos rfl] at g5
      obtain ⟨d, x, e | ⟨e, _⟩⟩ := g5
      · exact ⟨d, x.dp, (odd_dep e).1⟩
      · cases e
    | false =>
      rw [hf, if_neg Bool.false_ne_true] at g5
      have g5' : v5 = .int r.n := g5
      subst g5'
      refine ⟨_, .int _, ?_⟩
      show (decide (0 ≤ r.n) && decide (r.n ≤ 9)) = true
      rw [decide_eq_true ok.n.1, decide_eq_true ok.n.2]
      rfl
  obtain ⟨d6, x6, z6⟩ : ∃ d, Dp K H v6 d ∧ (!isNonD d && !isDepD d) = f 6 := by
    cases hf : f 6 with
    | true =>
      rw [hf, if_pos rfl] at g6
      obtain ⟨d, x, e | ⟨e, _⟩⟩ := g6
      · refine ⟨d, x.dp, ?_⟩
        rw [(odd_dep e).1, (odd_dep e).2]
        rfl
      · cases e
    | false =>
      rw [hf, if_neg Bool.false_ne_true] at g6
      have g6' : v6 = optI r.m := g6
      subst g6'
      refine ⟨_, dp_optI _, ?_⟩
      cases hm : r.m with
      | none => rfl
      | some i =>
        obtain ⟨m1, m2⟩ := ok.m i hm
        show (true && !(decide (0 ≤ i) && decide (i ≤ 9))) = false
        rw [decide_eq_true m1, decide_eq_true m2]
        rfl
  refine ⟨⟨d0, d1, d2, o, oc, d5, d6⟩, ⟨⟨v0, v1, v2, v3, v4, v5, v6, rfl, x0, y0, x1, y1, x2, y2, x3, x4, x5, x6⟩, w4⟩, ?_⟩
  have n3 : f 3 = false → mkTs o ≠ none := fun h e => by
    rw [h, if_neg Bool.false_ne_true] at z3
    obtain ⟨ts, h2⟩ := z3
    rw [e] at h2
    cases h2
  have n4 : f 4 = false → oc ≠ none := fun h e => by
    rw [h, if_neg Bool.false_ne_true] at z4
    obtain ⟨ts, h2⟩ := z4
    rw [e] at h2
    cases h2
  have y3 : f 3 = true → mkTs o = none := fun h => by rw [h, if_pos rfl] at z3; exact z3
  have y4 : f 4 = true → oc = none := fun h => by rw [h, if_pos rfl] at z4; exact z4
  cases b with
  | true =>
    have z1 := z1 rfl
    rw [if_pos rfl] at z2
    show whyS d0 d1 d2 o oc d5 d6 = _
    unfold whyS
    match due, hd, h1, h0 with
    | 0, _, h1, h0 => rw [z0, h1]; rfl
    | 1, _, h1, h0 => rw [z0, h0 0 (by decide), z1, h1]; rfl
    | 2, _, h1, h0 => rw [z0, h0 0 (by decide), z1, h0 1 (by decide), z2, h1]; rfl
    | 3, _, h1, h0 => rw [z0, h0 0 (by decide), z1, h0 1 (by decide), z2, h0 2 (by decide), y3 h1]; rfl
    | 4, _, h1, h0 => rw [z0, h0 0 (by decide), z1, h0 1 (by decide), z2, h0 2 (by decide), if_neg (by decide), if_neg (by decide), if_neg (by decide), if_neg (n3 (h0 3 (by decide))), y4 h1]; rfl
    | 5, _, h1, h0 => rw [z0, h0 0 (by decide), z1, h0 1 (by decide), z2, h0 2 (by decide), if_neg (by decide), if_neg (by decide), if_neg (by decide), if_neg (n3 (h0 3 (by decide))), if_neg (n4 (h0 4 (by decide))), z5, h1]; rfl
    | 6, _, h1, h0 => rw [z0, h0 0 (by decide), z1, h0 1 (by decide), z2, h0 2 (by decide), if_neg (by decide), if_neg (by decide), if_neg (by decide), if_neg (n3 (h0 3 (by decide))), if_neg (n4 (h0 4 (by decide))), z5, h0 5 (by decide), z6, h1]; rfl
  | false =>
    obtain ⟨b1, b5, b6⟩ := hb rfl
    rw [if_neg Bool.false_ne_true] at z2
    show whyB d0 d2 o oc = _
    unfold whyB
    match due, hd, h1, h0 with
    | 0, _, h1, h0 => rw [z0, h1]; rfl
    | 1, _, h1, h0 => rw [h1] at b1; cases b1
    | 2, _, h1, h0 => rw [z0, h0 0 (by decide), z2, h1]; rfl
    | 3, _, h1, h0 => rw [z0, h0 0 (by decide), z2, h0 2 (by decide), y3 h1]; rfl
    | 4, _, h1, h0 => rw [z0, h0 0 (by decide), z2, h0 2 (by decide), if_neg (by decide), if_neg (by decide), if_neg (n3 (h0 3 (by decide))), y4 h1]; rfl
    | 5, _, h1, h0 => rw [h1] at b5; cases b5
    | 6, _, h1, h0 => rw [h1] at b6; cases b6
end
end K11
namespace K11
open PySem PySem.Spec PyProof.Rows L2 He TL EL
section
variable {P : Program} {w : World} {K : PySem.W.Frag} {mg : Str → Option Value} {base : Heap}
/-! _law_wrong -/
def spWrong (K : PySem.W.Frag) : Sp := fun args H Q _ => ∃ p l v1 b g vs r, args = [.ref p, v1, .bl b, .ref g] ∧ Src H p l ∧ H g = some (.lst vs) ∧ g ≠ p ∧ g ≠ l ∧ Rok b r ∧ GS K [p, g] H r b vs (fun _ => false) ∧ ∀ H', Src H' p l → Md [p, g] H H' → Q (.bl true) H'
def nmsV : List V := [.str "answer", .str "old", .str "tables", .str "makes", .str "conditions", .str "depth_from", .str "depth_below"]
theorem nms (a : Nat) (h : a < 7) : atI nmsV ((a : Nat) : Int) = some (.str (nmAt a).s) := by
  match a, h with
  | 0, _ => exact atI_nat (j := 0) rfl
  | 1, _ => exact atI_nat (j := 1) rfl
  | 2, _ => exact atI_nat (j := 2) rfl
  | 3, _ => exact atI_nat (j := 3) rfl
  | 4, _ => exact atI_nat (j := 4) rfl
  | 5, _ => exact atI_nat (j := 5) rfl
  | 6, _ => exact atI_nat (j := 6) rfl
theorem ixk (a : Nat) (h : a < 7) (vs : List V) (hl : vs.length = 7) : ixN vs.length ((a : Nat) : Int) = some a := by
  unfold ixN
  rw [if_pos (by omega), if_pos (by rw [hl]; omega)]
  rfl
theorem nm_ok (a : Nm) : PyData.strOk a.s = true := by cases a <;> decide +kernel
theorem d_wrong (hP : PF P "/claim/cut.py") (T : Txt K mg) : Dn P w K mg base CX0 11 "_law_wrong" (spWrong K) := by
  obtain ⟨fd, F⟩ := T.f__law_wrong
  have D__law_draw := d_drawM (P := P) (w := w) (base := base) T
  have D__law_odd := d_odd (P := P) (w := w) (base := base) T
  have D__law_made := d_made (w := w) (base := base) hP T
  refine dnN T.g__law_wrong F (fun _ _ _ _ _ _ us hl => match us, hl with | [_, _, _, _], _ => rfl) sc__law_wrong (fun vs H Q E h => ?_) (fun cdv A outer s H vs Q E hr h => ?_)
  · obtain ⟨p, l, v1, b, g, vs, r, rfl, _⟩ := h
    rfl
  · obtain ⟨p, l, v1, b, g, vs, r, rfl, S, hg, gp, gl, ok, G, q⟩ := h
    refine ⟨_, PSs.nox (pss_cons (ps_set (i := 4) sc__law_wrong.nd rfl (.inl rfl) (pe_lst (pa_cons pe_str (pa_cons pe_str (pa_cons pe_str (pa_cons pe_str (pa_cons pe_str (pa_cons pe_str (pa_cons pe_str pa_nil)))))))))
      (pss_cons (ps_set (i := 5) sc__law_wrong.nd rfl (.inl rfl) pe_int)
      (pss_cons (ps_for PassesOwn.never rfl (pi_range1 (by rfl) T.z_range (pa_cons (pe_op op_add pe_int (cl D__law_draw (hr.mono (by decide)) (pa_cons (pv 0) (pa_cons pe_int pa_nil)))) pa_nil)) (pg_name (i := 6) sc__law_wrong.nd rfl (.inl rfl))
      (pss_cons (ps_set (i := 7) sc__law_wrong.nd rfl (.inl rfl) (cl D__law_draw (hr.mono (by decide)) (pa_cons (pv 0) (pa_cons pe_int pa_nil))))
      (pss_mid (ps_if (PW.pt (pw_and (pt_not (pt_val (pv 2))) (pw_and1 (pt_cmpR op_in_seq (pv 7) (pe_lst (pa_cons pe_int (pa_cons pe_int (pa_cons pe_int pa_nil)))) (by rfl))))) (pss_cons (ps_set (i := 7) sc__law_wrong.nd rfl (.inl rfl) pe_int)
      (pss_one (ps_asg (pe_lst pa_nil) (pg_sub (pv 3) pe_int set_list)))) (pss_one (ps_asg (cl D__law_odd (hr.mono (by decide)) (pa_cons (pv 0) (pa_cons (pe_ix ix_list (pv 4) (pv 7) (fun _ _ => rfl)) pa_nil))) (pg_sub (pv 3) (pv 7) set_list))))
      (pss_one (ps_if (pt_cmpR op_lt (pv 7) (pv 5) (nomark _)) (pss_one (ps_set (i := 5) sc__law_wrong.nd rfl (.inl rfl) (pv 7))) pss_nil)))))
      (pss_one (ps_ret (pe_cmpR (op_eqD hr.units) (cl D__law_made (hr.mono (by decide)) (pa_cons (pv 2) (pa_cons (pv 3) pa_nil))) (pe_lst (pa_cons (pe_ix ix_list (pv 4) (pv 5) (fun _ _ => rfl)) (pa_cons pe_bl pa_nil))) (nomark _))))))), ?_⟩
    refine ⟨(by show 7 ≤ sizeLine; decide), fun nl nnl => ?_⟩
    generalize eH0 : upd H nl _ = H0
    have s0 : Same H H0 := eH0 ▸ same_upd nnl
    have enl : H0 nl = some _ := eH0 ▸ upd_same
    obtain ⟨xp, hp⟩ := S.lst
    have nlo : nl ∉ [p, g] := not2 (Ne.symm (ne_of_none hp nnl)) (Ne.symm (ne_of_none hg nnl))
    refine ⟨_, rfl, p, l, 2, rfl, by decide, by decide, S.same s0, fun k H1 k0 k1 S1 m1 => ?_⟩
    have m01 : Md [p, g] H H1 := (Md.of s0).trans (m1.mono (by simp))
    have lsH : Ls [p, g] H := fun x hx => by
      rcases List.mem_cons.mp hx with rfl | hx
      · exact ⟨_, hp⟩
      · cases List.mem_singleton.mp hx
        exact ⟨_, hg⟩
    refine ⟨_, _, rfl, rfl, 1 + k, rfl, by omega, by omega, for_range (n := (1 + k).toNat) (fun i σ H' => ∃ (vs : List V) (f : Nat → Bool) (due : Nat) (o6 o7 : Option V), σ = [some (.ref p), some v1, some (.bl b), some (.ref g), some (.ref nl), some (.int ((due : Nat) : Int)), o6, o7] ∧ due ≤ 7 ∧ H' g = some (.lst vs) ∧ GS K [p, g] H' r b vs f ∧ (∀ j, j < due → f j = false) ∧ (due < 7 → f due = true) ∧ (1 ≤ i → due < 7) ∧ (b = false → f 1 = false ∧ f 5 = false ∧ f 6 = false) ∧ H' nl = some (.lst nmsV) ∧ Md [p, g] H H' ∧ Src H' p l)
      ⟨vs, fun _ => false, 7, none, none, rfl, by decide, m1.out _ _ (s0 _ _ hg) (not1 gp), G.md m01 lsH, (fun _ _ => rfl), (fun z => by omega), (fun z => by omega), (fun _ => ⟨rfl, rfl, rfl⟩), m1.out _ _ enl (fun z => nlo (by simp at z; simp [z])), m01, S1⟩ ?_ ?_⟩
    · rintro i σ H2 hi ⟨vs, f, due, o6, o7, rfl, hdue, eg2, G2, f0, f1, f2, fb, enl2, m2, S2⟩
      obtain ⟨xp2, hp2⟩ := S2.lst
      have ls2 : Ls [p, g] H2 := fun x hx => by
        rcases List.mem_cons.mp hx with rfl | hx
        · exact ⟨_, hp2⟩
        · cases List.mem_singleton.mp hx
          exact ⟨_, eg2⟩
      refine ⟨_, rfl, p, l, 7, rfl, by decide, by decide, S2, fun a H3 a0 a1 S3 m3 => ?_⟩
      obtain ⟨a, rfl⟩ := Int.eq_ofNat_of_zero_le a0
      have hA : a < 7 := by omega
      have m3' : Md [p, g] H2 H3 := m3.mono (by simp)
      have eg3 : H3 g = some (.lst vs) := m3.out _ _ eg2 (not1 gp)
      have enl3 : H3 nl = some (.lst nmsV) := m3'.out _ _ enl2 nlo
      obtain ⟨xp3, hp3⟩ := S3.lst
      have ls3 : Ls [p, g] H3 := fun x hx => by
        rcases List.mem_cons.mp hx with rfl | hx
        · exact ⟨_, hp3⟩
        · cases List.mem_singleton.mp hx
          exact ⟨_, eg3⟩
      refine ⟨fun σ' H' => ∃ (a : Nat) (vs : List V), a < 7 ∧ σ' = [some (.ref p), some v1, some (.bl b), some (.ref g), some (.ref nl), some (.int ((due : Nat) : Int)), some (.int (0 + (i : Int))), some (.int ((a : Nat) : Int))] ∧ H' g = some (.lst vs) ∧ GS K [p, g] H' r b vs (fun i => f i || decide (i = a)) ∧ (b = false → a ≠ 1 ∧ a ≠ 5 ∧ a ≠ 6) ∧ H' nl = some (.lst nmsV) ∧ Md [p, g] H3 H' ∧ Src H' p l, ?_, ?_⟩
      · refine ⟨_, rfl, _, rfl, ?_⟩
        cases b with
        | true =>
          refine iteF ?_
          refine ⟨_, rfl, _, rfl, _, rfl, nl, _, (a : Nat), _, rfl, rfl, SqL.of ((Same.refl H3) _ _ enl3), nms a hA, ?_⟩
          refine ⟨p, l, nmAt a, rfl, S3.same (Same.refl H3), fun v d H5 hd S5 m5 hx => ?_⟩
          have al4 : Al [p, g] H3 := (Al.same (al_cons hp3 (al1 eg3)) (Same.refl H3))
          have m35 : Md [p, g] H3 H5 := (Md.of (Same.refl H3)).trans (m5.mono (by simp))
          have eg5 : H5 g = some (.lst vs) := m5.out _ _ ((Same.refl H3) _ _ eg3) (not1 gp)
          refine ⟨_, rfl, _, rfl, g, vs, (a : Nat), a, rfl, rfl, eg5, ixk a hA vs G2.len, ?_⟩
          have m56 : Md [p, g] H5 (upd H5 g (.lst (vs.set a v))) := Md.upd eg5 rfl (by simp)
          have G5 : GS K [p, g] H5 r _ vs f := (G2.md m3' ls2).md m35 ls3
          have ls5 : Ls [p, g] H5 := by
            intro x hx
            obtain ⟨xp5, hp5⟩ := S5.lst
            rcases List.mem_cons.mp hx with rfl | hx
            · exact ⟨_, hp5⟩
            · cases List.mem_singleton.mp hx
              exact ⟨_, eg5⟩
          have B5 : Bad K [p, g] H5 true v a := ⟨d, hx [p, g] al4, .inl hd⟩
          refine ⟨a, vs.set a v, hA, rfl, upd_same, (G5.set B5).md m56 ls5, (fun z => by cases z), m56.out _ _ (m35.out _ _ enl3 nlo) nlo, m35.trans m56, Src.md S5 (Md.upd (S := [g]) eg5 rfl (by simp)) (not1 (Ne.symm gp)) (not1 (Ne.symm gl))⟩
        | false =>
          refine iteT ?_
          refine ⟨_, rfl, (by show 3 ≤ sizeLine; decide), fun u nu => ?_⟩
          generalize eH4 : upd H3 u _ = H4
          have s4 : Same H3 H4 := eH4 ▸ same_upd nu
          have e4 : H4 u = some _ := eH4 ▸ upd_same
          refine ⟨_, _, rfl, .inl (SqL.of e4), rfl, rfl, _, rfl, ?_⟩
          by_cases hc : a = 1 ∨ a = 5 ∨ a = 6
          · refine if_pos_of (by rcases hc with rfl | rfl | rfl <;> rfl) ?_
            refine ⟨(by show 0 ≤ sizeLine; decide), fun y ny => ?_⟩
            generalize eH5 : upd H4 y _ = H5
            have s5 : Same H4 H5 := eH5 ▸ same_upd ny
            have e5 : H5 y = some _ := eH5 ▸ upd_same
            have s35 := s4.trans s5
            have eg5 := s35 _ _ eg3
            refine ⟨_, rfl, g, vs, 2, 2, rfl, rfl, eg5, ixk 2 (by decide) vs G2.len, ?_⟩
            have m56 : Md [p, g] H5 (upd H5 g (.lst (vs.set 2 (.ref y)))) := Md.upd eg5 rfl (by simp)
            have G5 : GS K [p, g] H5 r false vs f := (G2.md m3' ls2).md (Md.of s35) ls3
            have ls5 : Ls [p, g] H5 := fun x hx => by
              rcases List.mem_cons.mp hx with rfl | hx
              · exact ⟨_, s35 _ _ hp3⟩
              · cases List.mem_singleton.mp hx
                exact ⟨_, eg5⟩
            have B5 : Bad K [p, g] H5 false (.ref y) 2 := ⟨.list [], .lst e5 (((al_cons hp3 (al1 eg3)).same s4).out ny) .nil, .inr ⟨rfl, rfl, rfl⟩⟩
            exact ⟨2, _, by decide, rfl, upd_same, (G5.set B5).md m56 ls5, (fun _ => ⟨by decide, by decide, by decide⟩), m56.out _ _ (s35 _ _ enl3) nlo, (Md.of s35).trans m56, Src.md (S3.same s35) (Md.upd (S := [g]) eg5 rfl (by simp)) (not1 (Ne.symm gp)) (not1 (Ne.symm gl))⟩
          · have hc1 : a ≠ 1 ∧ a ≠ 5 ∧ a ≠ 6 := ⟨fun z => hc (.inl z), fun z => hc (.inr (.inl z)), fun z => hc (.inr (.inr z))⟩
            refine if_neg_of ?_ ?_
            · match a, hA, hc1 with
              | 0, _, _ => rfl
              | 1, _, z => exact absurd rfl z.1
              | 2, _, _ => rfl
              | 3, _, _ => rfl
              | 4, _, _ => rfl
              | 5, _, z => exact absurd rfl z.2.1
              | 6, _, z => exact absurd rfl z.2.2
            refine ⟨_, rfl, _, rfl, _, rfl, nl, _, (a : Nat), _, rfl, rfl, SqL.of (s4 _ _ enl3), nms a hA, ?_⟩
            refine ⟨p, l, nmAt a, rfl, S3.same s4, fun v d H5 hd S5 m5 hx => ?_⟩
            have al4 : Al [p, g] H4 := (Al.same (al_cons hp3 (al1 eg3)) s4)
            have m35 : Md [p, g] H3 H5 := (Md.of s4).trans (m5.mono (by simp))
            have eg5 : H5 g = some (.lst vs) := m5.out _ _ (s4 _ _ eg3) (not1 gp)
            refine ⟨_, rfl, _, rfl, g, vs, (a : Nat), a, rfl, rfl, eg5, ixk a hA vs G2.len, ?_⟩
            have m56 : Md [p, g] H5 (upd H5 g (.lst (vs.set a v))) := Md.upd eg5 rfl (by simp)
            have G5 : GS K [p, g] H5 r _ vs f := (G2.md m3' ls2).md m35 ls3
            have ls5 : Ls [p, g] H5 := by
              intro x hx
              obtain ⟨xp5, hp5⟩ := S5.lst
              rcases List.mem_cons.mp hx with rfl | hx
              · exact ⟨_, hp5⟩
              · cases List.mem_singleton.mp hx
                exact ⟨_, eg5⟩
            have B5 : Bad K [p, g] H5 false v a := ⟨d, hx [p, g] al4, .inl hd⟩
            refine ⟨a, vs.set a v, hA, rfl, upd_same, (G5.set B5).md m56 ls5, (fun _ => hc1), m56.out _ _ (m35.out _ _ enl3 nlo) nlo, m35.trans m56, Src.md S5 (Md.upd (S := [g]) eg5 rfl (by simp)) (not1 (Ne.symm gp)) (not1 (Ne.symm gl))⟩
      · rintro σ' H4 ⟨a, vs, hA, rfl, eg4, G4, hb4, enl4, m4, S4⟩
        have mH4 : Md [p, g] H H4 := m2.trans (m3'.trans m4)
        have fb' : b = false → (f 1 || decide (1 = a)) = false ∧ (f 5 || decide (5 = a)) = false ∧ (f 6 || decide (6 = a)) = false := fun z => by
          obtain ⟨x1, x2, x3⟩ := fb z
          obtain ⟨y1, y2, y3⟩ := hb4 z
          rw [x1, x2, x3, decide_eq_false (Ne.symm y1), decide_eq_false (Ne.symm y2), decide_eq_false (Ne.symm y3)]
          exact ⟨rfl, rfl, rfl⟩
        refine ⟨_, rfl, _, rfl, _, _, rfl, rfl, _, rfl, ie (fun c => ?_) (fun c => ?_)⟩
        · have c' := of_decide_eq_true c
          refine ⟨_, rfl, vs, _, a, _, _, rfl, by omega, eg4, G4, fun j hj => ?_, fun _ => ?_, (fun _ => hA), fb', enl4, mH4, S4⟩
          · rw [f0 j (by omega), decide_eq_false (by omega)]
            rfl
          · show (f a || decide (a = a)) = true
            rw [decide_eq_true rfl, Bool.or_true]
        · have c' := of_decide_eq_false c
          have hd7 : due < 7 := by omega
          refine ⟨vs, _, due, _, _, rfl, by omega, eg4, G4, fun j hj => ?_, fun _ => ?_, (fun _ => hd7), fb', enl4, mH4, S4⟩
          · rw [f0 j hj, decide_eq_false (by omega)]
            rfl
          · show (f due || decide (due = a)) = true
            rw [f1 hd7]
            rfl
    · rintro σ H2 ⟨vs, f, due, o6, o7, rfl, hdue, eg2, G2, f0, f1, f2, fb, enl2, m2, S2⟩
      have hd := f2 (by omega)
      obtain ⟨A0, GA, hw⟩ := G2.why ok hd (f1 hd) f0 fb
      refine ⟨_, rfl, _, rfl, b, g, vs, A0, rfl, eg2, GA, fun z ez x H3 s3 d3 => ?_, fun e => by rw [hw] at e; cases e⟩
      rw [hw] at ez
      cases ez
      refine ⟨_, rfl, _, rfl, nl, _, _, _, rfl, rfl, SqL.of (s3 _ _ enl2), nms due hd, (by show 2 ≤ sizeLine; decide), fun u nu => ?_⟩
      generalize eH4 : upd H3 u _ = H4
      have s4 : Same H3 H4 := eH4 ▸ same_upd nu
      have e4 : H4 u = some _ := eH4 ▸ upd_same
      have sh : SeqAt.shaped (.list [.str (nmAt due).s, .bool true]) = true := by
        show ((PyData.strOk (nmAt due).s && _) && decide _) = true
        rw [nm_ok]
        rfl
      refine ⟨_, _, Dp.same s4 d3, .lst (SqL.of e4) (.cons (.str _) (.cons (.bl _) .nil)), sh, sh, ?_⟩
      have e : PyData.eqv (.list [.str (nmAt due).s, .bool true]) (.list [.str (nmAt due).s, .bool true]) = true := by
        show (((nmAt due).s == (nmAt due).s) && (true && true)) = true
        rw [beq_self_eq_true]
        rfl
      rw [e]
      exact q H4 ((S2.same s3).same s4) (m2.trans (Md.of (s3.trans s4)))
end
end K11
namespace K11
open PySem PySem.Spec PyProof.Rows L2 He TL EL
section
variable {P : Program} {w : World} {K : PySem.W.Frag} {mg : Str → Option Value} {base : Heap}
/-! plain rules compared -/
theorem eqv_pl (a b : Ru) : PyData.eqv (plD a) (plD b) = decide (a = b) := by
  have e : PyData.eqv (plD a) (plD b) = (PyData.eqv (.str a.a) (.str b.a) && (PyData.eqv (optSD a.o) (optSD b.o) && (PyData.eqv (.list (wsD a.ws)) (.list (wsD b.ws)) && (PyData.eqv (.list (a.ts.map Tm.d)) (.list (b.ts.map Tm.d)) && (PyData.eqv (.list (a.as.map At.d)) (.list (b.as.map At.d)) && (PyData.eqv (spanD a.n a.m) (spanD b.n b.m) && true)))))) := rfl
  have e2 : PyData.eqv (.list (wsD a.ws)) (.list (wsD b.ws)) = decide (a.ws = b.ws) := eqv_wsT a.ws b.ws
  have e3 : PyData.eqv (.list (a.ts.map Tm.d)) (.list (b.ts.map Tm.d)) = decide (a.ts = b.ts) := eqv_tms a.ts b.ts
  rw [e, show PyData.eqv (.str a.a) (.str b.a) = decide (a.a = b.a) from rfl, eqv_optS, e2, e3, eqv_ats, eqv_span, Bool.and_true, ← Bool.decide_and, ← Bool.decide_and, ← Bool.decide_and, ← Bool.decide_and, ← Bool.decide_and]
  obtain ⟨a1, a2, a3, a4, a5, a6, a7⟩ := a
  obtain ⟨b1, b2, b3, b4, b5, b6, b7⟩ := b
  refine decide_eq_decide.mpr ⟨fun h => ?_, fun h => by cases h; exact ⟨rfl, rfl, rfl, rfl, rfl, rfl, rfl⟩⟩
  obtain ⟨h1, h2, h3, h4, h5, h6, h7⟩ := h
  dsimp only at h1 h2 h3 h4 h5 h6 h7
  subst h1 h2 h3 h4 h5 h6 h7
  rfl
theorem sh_pl {r : Ru} (ok : Rnc r) : PyData.canLay0 (plD r) = true ∧ PyData.depth (plD r) ≤ 20 := by
  have w1 := sh_ws (ws := r.ws) fun z hz => ok.str z (.inr (.inr hz))
  have c0 : PyData.strOk r.a = true := ok.str _ (.inl rfl)
  have c1 : PyData.canLay0 (optSD r.o) = true := by
    cases h : r.o with
    | none => rfl
    | some z => exact ok.str z (.inr (.inl h))
  have c2 : PyData.canLayAll0 (wsD r.ws) = true := (Bool.and_eq_true_iff.mp w1).1
  have c3 := (pds_tm r.ts).1.cl
  have c4 := (pds_at r.as).cl
  have c5 : PyData.canLay0 (spanD r.n r.m) = true := by cases r.m <;> rfl
  have dw : PyData.depthAll (wsD r.ws) ≤ 0 := by
    generalize r.ws = l
    induction l with
    | nil => exact Nat.le_refl _
    | cons e r ih => exact Nat.max_le.mpr ⟨Nat.le_refl _, ih⟩
  refine ⟨?_, ?_⟩
  · show (PyData.strOk r.a && (PyData.canLay0 (optSD r.o) && (PyData.canLayAll0 (wsD r.ws) && (PyData.canLayAll0 (r.ts.map Tm.d) && (PyData.canLayAll0 (r.as.map At.d) && (PyData.canLay0 (spanD r.n r.m) && true)))))) = true
    rw [c0, c1, c2, c3, c4, c5]
    rfl
  · show max 0 (max (PyData.depth (optSD r.o)) (max (PyData.depthAll (wsD r.ws) + 1) (max (PyData.depthAll (r.ts.map Tm.d) + 1) (max (PyData.depthAll (r.as.map At.d) + 1) (max (PyData.depth (spanD r.n r.m)) 0))))) + 1 ≤ 20
    have d1 : PyData.depth (optSD r.o) ≤ 0 := by cases r.o <;> exact Nat.le_refl _
    have d5 : PyData.depth (spanD r.n r.m) ≤ 1 := by cases r.m <;> exact Nat.le_refl _
    have d3 := (pds_tm r.ts).2
    have d4 := (pds_at r.as).dp
    omega
theorem sh_pl1 {r : Ru} (ok : Rnc r) : SeqAt.shaped (plD r) = true := by
  obtain ⟨h1, h2⟩ := sh_pl ok
  exact Bool.and_eq_true_iff.mpr ⟨h1, decide_eq_true (by omega)⟩
theorem sh_pls {r : Ru} (ok : Rnc r) : SeqAt.shaped (.list [plD r]) = true := by
  obtain ⟨h1, h2⟩ := sh_pl ok
  refine Bool.and_eq_true_iff.mpr ⟨?_, decide_eq_true ?_⟩
  · show (PyData.canLay0 (plD r) && true) = true
    rw [h1]
    rfl
  · show max (PyData.depth (plD r)) 0 + 1 ≤ 64
    omega
/-! _law_beside -/
def plDs (r : Ru) : List PyData := [.str r.a, optSD r.o, .list (wsD r.ws), .list (r.ts.map Tm.d), .list (r.as.map At.d), spanD r.n r.m]
def setR (r0 r : Ru) : Nat → Ru
  | 0 => { r0 with a := r.a }
  | 1 => { r0 with o := r.o }
  | 2 => { r0 with ws := r.ws }
  | 3 => { r0 with ts := r.ts }
  | 4 => { r0 with as := r.as }
  | _ => { r0 with n := r.n, m := r.m }
theorem setR_ok {b : Bool} {r0 r : Ru} (h0 : Rok b r0) (h : Rok b r) : ∀ i, Rok b (setR r0 r i)
  | 0 => ⟨h.a, h0.o, h0.ws, h0.wl, h0.t1, h0.t3, h0.ts, h0.as, h0.dd, h0.al, h0.n, h0.m, h0.kd, h0.bs⟩
  | 1 => ⟨h0.a, h.o, h0.ws, h0.wl, h0.t1, h0.t3, h0.ts, h0.as, h0.dd, h0.al, h0.n, h0.m, h.kd, h0.bs⟩
  | 2 => ⟨h0.a, h0.o, h.ws, h.wl, h0.t1, h0.t3, h0.ts, h0.as, h0.dd, h0.al, h0.n, h0.m, h0.kd, fun z => ⟨(h.bs z).1, (h0.bs z).2⟩⟩
  | 3 => ⟨h0.a, h0.o, h0.ws, h0.wl, h.t1, h.t3, h.ts, h0.as, h0.dd, h0.al, h0.n, h0.m, h0.kd, h0.bs⟩
  | 4 => ⟨h0.a, h0.o, h0.ws, h0.wl, h0.t1, h0.t3, h0.ts, h.as, h.dd, h.al, h0.n, h0.m, h0.kd, h0.bs⟩
  | _ + 5 => ⟨h0.a, h0.o, h0.ws, h0.wl, h0.t1, h0.t3, h0.ts, h0.as, h0.dd, h0.al, h.n, h.m, h0.kd, fun z => ⟨(h0.bs z).1, (h.bs z).2⟩⟩
theorem DpXs.set {S : List Addr} {H : Hp} {v : V} {d : PyData} (h : DpX K S H v d) : ∀ {vs : List V} {ds : List PyData} (i : Nat), DpXs K S H vs ds → DpXs K S H (vs.set i v) (ds.set i d)
  | _, _, _, .nil => .nil
  | _, _, 0, .cons a b => .cons h b
  | _, _, i + 1, .cons a b => .cons a (DpXs.set h i b)
def spBeside (K : PySem.W.Frag) : Sp := fun args H Q _ => ∃ p l v v0 b r r0 M, args = [.ref p, v, v0, .bl b] ∧ Src H p l ∧ p ∈ M ∧ Al M H ∧ DpX K M H v (plD r) ∧ DpX K M H v0 (plD r0) ∧ Rok b r ∧ Rok b r0 ∧ ∀ r' q H', Rok b r' → Src H' p l → Md [p] H H' → DpX K M H' (.ref q) (plD r') → Q (.ref q) H'
theorem d_beside (T : Txt K mg) : Dn P w K mg base CX0 2 "_law_beside" (spBeside K) := by
  obtain ⟨fd, F⟩ := T.f__law_beside
  have D__law_draw := d_drawM (P := P) (w := w) (base := base) T
  refine dnN T.g__law_beside F (fun _ _ _ _ _ _ us hl => match us, hl with | [_, _, _, _], _ => rfl) sc__law_beside (fun vs H Q E h => ?_) (fun cdv A outer s H vs Q E hr h => ?_)
  · obtain ⟨p, l, v, v0, b, r, r0, M, rfl, _⟩ := h
    rfl
  · obtain ⟨p, l, v, v0, b, r, r0, M, rfl, S, pM, al, x, x0, ok, ok0, q⟩ := h
    refine ⟨_, PSs.nox (pss_cons (ps_set (i := 4) sc__law_beside.nd rfl (.inl rfl) (cl D__law_draw (hr.mono (by decide)) (pa_cons (pv 0) (pa_cons pe_int pa_nil))))
      (pss_cons (ps_set (i := 5) sc__law_beside.nd rfl (.inl rfl) (pe_callTy call_list_of (by rfl) T.z_list (by decide +kernel) (pa_cons (pv 2) pa_nil)))
      (pss_mid (ps_if (PW.pt (pw_or (pt_val (pv 3)) (pw_or1 (pt_cmpR op_ne (pv 4) pe_int (nomark _))))) (pss_one (ps_asg (pe_ix ix_list (pv 1) (pv 4) (fun _ _ => rfl)) (pg_sub (pv 5) (pv 4) set_list))) pss_nil)
      (pss_one (ps_ret (pv 5)))))), ?_⟩
    refine ⟨_, rfl, p, l, 6, rfl, by decide, by decide, S, fun n H1 n0 n1 S1 m1 => ?_⟩
    obtain ⟨n, rfl⟩ := Int.eq_ofNat_of_zero_le n0
    have hn : n < 6 := by omega
    have m1' : Md M H H1 := m1.mono (by intro b hb; cases List.mem_singleton.mp hb; exact pM)
    have x1 := x.md m1'
    have x01 := x0.md m1'
    have al1 : Al M H1 := al.md m1 (srcAl S1)
    obtain ⟨qa, xs, rfl, eq1, nq1, hxs⟩ := DpX.lst_inv (ds := plDs r) x1
    obtain ⟨qb, ys, rfl, eq2, nq2, hys⟩ := DpX.lst_inv (ds := plDs r0) x01
    refine ⟨_, rfl, _, _, rfl, .inl (SqL.of eq2), fun c nc => ?_⟩
    generalize eH2 : upd H1 c _ = H2
    have s2 : Same H1 H2 := eH2 ▸ same_upd nc
    have e2 : H2 c = some _ := eH2 ▸ upd_same
    have cM : c ∉ M := al1.out nc
    refine ⟨fun σ' H' => σ' = [some (.ref p), some (.ref qa), some (.ref qb), some (.bl b), some (.int (n : Nat)), some (.ref c)] ∧ Md [p] H H' ∧ Src H' p l ∧ ∃ r', Rok b r' ∧ DpX K M H' (.ref c) (plD r'), ?_, ?_⟩
    · have go : ∀ (vv : V), xs[n]? = some vv → ∃ r', Rok b r' ∧ DpX K M (upd H2 c (.lst (ys.set n vv))) (.ref c) (plD r') := fun vv hv => by
        obtain ⟨d, hd, hdx⟩ := hxs.get hv
        have mu : Md [c] H2 (upd H2 c (.lst (ys.set n vv))) := Md.upd e2 rfl (by simp)
        have s12 : Same H1 (upd H2 c (.lst (ys.set n vv))) := (Md.new (S := []) mu s2 nc).same
        have key := DpXs.set (hdx.same s12) n (hys.same s12)
        refine ⟨setR r0 r n, setR_ok ok0 ok n, ?_⟩
        have ed : (plDs r0).set n d = plDs (setR r0 r n) := by
          match n, hn, hd with
          | 0, _, hd => cases hd; rfl
          | 1, _, hd => cases hd; rfl
          | 2, _, hd => cases hd; rfl
          | 3, _, hd => cases hd; rfl
          | 4, _, hd => cases hd; rfl
          | 5, _, hd => cases hd; rfl
        rw [ed] at key
        exact .lst upd_same cM key
      have lx : xs.length = 6 := hxs.length
      have ly : ys.length = 6 := hys.length
      have ixn : ixN ys.length ((n : Nat) : Int) = some n := by
        unfold ixN
        rw [if_pos (by omega), if_pos (by rw [ly]; omega)]
        rfl
      have hv : xs[n]? = some (xs[n]'(by omega)) := List.getElem?_eq_getElem (by omega)
      have mu : ∀ o, Md [c] H2 (upd H2 c o) := fun o => Md.upd e2 rfl (by simp)
      obtain ⟨xp1, hp1⟩ := S1.lst
      obtain ⟨xl1, hl1⟩ := S1.lst2
      have cp : c ≠ p := Ne.symm (ne_of_none hp1 nc)
      have cl : c ≠ l := Ne.symm (ne_of_none hl1 nc)
      have mH : ∀ o, Md [p] H (upd H2 c o) := fun o => m1.trans (Md.of (Md.new (S := []) (mu o) s2 nc).same)
      have SH : ∀ o, Src (upd H2 c o) p l := fun o => Src.md (S1.same s2) (mu o) (not1 (Ne.symm cp)) (not1 (Ne.symm cl))
      refine ⟨_, rfl, _, rfl, ?_⟩
      cases b with
      | true =>
        refine iteT ?_
        refine ⟨_, rfl, _, rfl, qa, xs, _, _, rfl, rfl, SqL.of (s2 _ _ eq1), atI_nat hv, _, rfl, _, rfl, c, _, _, n, rfl, rfl, e2, ixn, ?_⟩
        exact ⟨rfl, mH _, SH _, go _ hv⟩
      | false =>
        refine iteF ?_
        refine ⟨_, rfl, rfl, _, rfl, ie (fun z => ?_) (fun z => ?_)⟩
        · refine ⟨_, rfl, _, rfl, qa, xs, _, _, rfl, rfl, SqL.of (s2 _ _ eq1), atI_nat hv, _, rfl, _, rfl, c, _, _, n, rfl, rfl, e2, ixn, ?_⟩
          exact ⟨rfl, mH _, SH _, go _ hv⟩
        · exact ⟨rfl, m1.trans (Md.of s2), S1.same s2, r0, ok0, .lst e2 cM (hys.same s2)⟩
    · rintro σ' H3 ⟨rfl, m3, S3, r', ok', x3⟩
      exact ⟨_, rfl, q r' c H3 ok' S3 m3 x3⟩
end
end K11
namespace K11
open PySem PySem.Spec PyProof.Rows L2 He TL EL
section
variable {P : Program} {w : World} {K : PySem.W.Frag} {mg : Str → Option Value} {base : Heap}
theorem d_base3 (hP : PF P "/claim/cut.py") (T : Txt K mg) : Dn P w K mg base (L2.CX P w) 9 "base" (fun vs H Q E => spBase K (vs ++ [.non]) H Q E) := by
  obtain ⟨fdB, FB, okB⟩ := ok_base (w := w) (base := base) hP T
  exact ⟨T.g_base, FB.kp, fnD FB okB 3 0 (by simp) rfl (fun _ _ _ _ _ _ _ us its h1 h2 => match us, its, h1, h2 with | [_, _, _], [_], _, _ => ⟨_, rfl, rfl⟩)⟩
theorem d_step4 (hP : PF P "/claim/cut.py") (T : Txt K mg) : Dn P w K mg base (L2.CX P w) 9 "step" (fun vs H Q E => spStep K (vs ++ [.non, .int 0, .non]) H Q E) := by
  obtain ⟨fdS, FS, okS⟩ := ok_step (w := w) (base := base) hP T
  obtain ⟨ds, h1, h2⟩ := FS.binds (ps := ["answer", "old", "tables", "makes", "conditions", "depth_from", "depth_below"]) 4 0 (by simp) rfl
    (fun T D doc pm an cdv ct us its ks h1 h2 h3 => match us, its, ks, h1, h2, h3 with | [_, _, _, _], [_], [_, _], _, _, _ => ⟨_, rfl, ⟨_, _, _, _, _, _, rfl, rfl, _, _, _, _, _, _, rfl, rfl, rfl⟩⟩) (by simp)
  exact ⟨T.g_step, FS.kp, okS.raw h2 h1⟩
/-! what the rule is that was made of a plain one -/
def agOf (r : Ru) (oc : List At) : Ag := ⟨.str r.a, optSD r.o, .list (wsD r.ws), some (r.ts.map some), some oc, .int r.n, optID r.m⟩
theorem words_all {r : Ru} (h : ∀ z ∈ r.ws, wordS z = true) : (wsD r.ws).all isWordD = true := List.all_eq_true.mpr fun e he => by
  obtain ⟨z, hz, rfl⟩ := List.mem_map.mp he
  exact h z hz
theorem why_of {b : Bool} {r : Ru} (ok : Rok b r) : why b (agOf r r.as) = none := by
  have w0 : isWordD (.str r.a) = true := ok.a
  have w3 : mkTs (some (r.ts.map some)) ≠ none := fun e => by rw [mkTs_map ok.t1 ok.t3] at e; cases e
  have wl : (wsD r.ws).length = r.ws.length := List.length_map _
  have dn : isDepD (.int r.n) = true := by
    show (decide (0 ≤ r.n) && decide (r.n ≤ 9)) = true
    rw [decide_eq_true ok.n.1, decide_eq_true ok.n.2]
    rfl
  have dm : (!isNonD (optID r.m) && !isDepD (optID r.m)) = false := by
    cases hm : r.m with
    | none => rfl
    | some i =>
      obtain ⟨m1, m2⟩ := ok.m i hm
      show (true && !(decide (0 ≤ i) && decide (i ≤ 9))) = false
      rw [decide_eq_true m1, decide_eq_true m2]
      rfl
  have wt : ∀ n, n ≤ r.ws.length → areW n (.list (wsD r.ws)) = true := fun n hn => by
    show ((decide (n ≤ (wsD r.ws).length) && decide ((wsD r.ws).length ≤ 2)) && (wsD r.ws).all isWordD) = true
    rw [words_all ok.ws, wl, decide_eq_true hn, decide_eq_true ok.wl]
    rfl
  cases b with
  | true =>
    have w1 : isWordD (optSD r.o) = true := by
      have hk := ok.kd
      cases ho : r.o with
      | none => rw [ho] at hk; cases hk
      | some z => exact ok.o z ho
    show whyS (.str r.a) (optSD r.o) (.list (wsD r.ws)) (some (r.ts.map some)) (some r.as) (.int r.n) (optID r.m) = none
    unfold whyS
    rw [w0, w1, wt 0 (Nat.zero_le _), if_neg (by decide), if_neg (by decide), if_neg (by decide), if_neg w3, if_neg (by intro z; cases z), dn, if_neg (by decide), dm]
    rfl
  | false =>
    show whyB (.str r.a) (.list (wsD r.ws)) (some (r.ts.map some)) (some r.as) = none
    unfold whyB
    rw [w0, wt 1 (ok.bs rfl).1, if_neg (by decide), if_neg (by decide), if_neg w3, if_neg (by intro z; cases z)]
theorem wsD_inj {a b : List Str} (h : wsD a = wsD b) : a = b := by
  have := congrArg (fun l => PyData.eqv (.tuple (wsD a)) (.tuple l)) h
  simp only [eqv_wsT, decide_eq_true rfl] at this
  exact of_decide_eq_true this.symm
theorem optID_inj {a b : Option Int} (h : optID a = optID b) : a = b := by
  cases a <;> cases b <;> first | rfl | cases h
  rfl
theorem made_eq {b : Bool} {r r' : Ru} (ok : Rok b r) (m : MadeOf b (agOf r r.as) r') : r' = r := by
  obtain ⟨m1, m2, m3, m4, ⟨as, m5, m6⟩, m7⟩ := m
  have e1 : r.a = r'.a := by injection m1
  have e3 : r.ws = r'.ws := wsD_inj (by injection m3)
  have e4 : r.ts = r'.ts := by
    have : mkTs (some (r.ts.map some)) = some r'.ts := m4
    rw [mkTs_map ok.t1 ok.t3] at this
    exact Option.some.inj this
  have e5 : r.as = r'.as := by
    have : r.as = as := Option.some.inj m5
    rw [m6, ← this, ok.dd]
  have e2 : r.o = r'.o := by
    cases b with
    | true =>
      obtain ⟨z, h1, h2⟩ := m2
      have h1 : optSD r.o = .str z := h1
      rw [h2]
      cases ho : r.o with
      | none => rw [ho] at h1; cases h1
      | some y =>
        rw [ho] at h1
        have : y = z := by injection h1
        rw [this]
    | false =>
      have m2 : r'.o = none := m2
      have hk := ok.kd
      rw [m2]
      cases ho : r.o with
      | none => rfl
      | some y => rw [ho] at hk; cases hk
  have e6 : r.n = r'.n ∧ r.m = r'.m := by
    cases b with
    | true =>
      obtain ⟨h1, h2⟩ := m7
      exact ⟨by injection h1, optID_inj h2⟩
    | false =>
      obtain ⟨h1, h2⟩ := m7
      obtain ⟨_, h3, h4⟩ := ok.bs rfl
      exact ⟨h3.trans h1.symm, h4.trans h2.symm⟩
  obtain ⟨e6, e7⟩ := e6
  obtain ⟨a1, a2, a3, a4, a5, a6, a7⟩ := r
  obtain ⟨b1, b2, b3, b4, b5, b6, b7⟩ := r'
  dsimp only at e1 e2 e3 e4 e5 e6 e7
  subst e1 e2 e3 e4 e5 e6 e7
  rfl
/-! cells stay -/
def NC (K : PySem.W.Frag) (S : List Addr) (H : Hp) : Prop := ∀ s ∈ S, ∀ dx p c, H s ≠ some (.ins (aCell K) dx (plF p c))
theorem ItAt.mdN {S : List Addr} {H H' : Hp} {v : V} {t : Tm} (m : Md S H H') (k : NC K S H) (h : ItAt K H v (some t)) : ItAt K H' v (some t) := by
  match t, h with
  | .cell p c, ⟨x, dx, e1, e2, e3⟩ => exact ⟨x, dx, e1, m.out _ _ e2 (fun z => k x z dx p c e2), e3⟩
  | .val a b, .inl h => exact .inl h
  | .val a b, .inr ⟨h, l⟩ => exact .inr ⟨m.dp rfl h, l⟩
theorem ItsAt.mdN {S : List Addr} {H H' : Hp} (m : Md S H H') (k : NC K S H) : ∀ {vs : List V} {ts : List Tm}, ItsAt K H vs (ts.map some) → ItsAt K H' vs (ts.map some)
  | [], [], _ => trivial
  | _ :: _, _ :: _, h => ⟨ItAt.mdN m k h.1, ItsAt.mdN m k h.2⟩
  | [], _ :: _, h => h.elim
  | _ :: _, [], h => h.elim
theorem nc_nil {H : Hp} : NC K [] H := fun s hs => by cases hs
theorem nc_l {S : List Addr} {H : Hp} {a : Addr} {xs : List V} (h : H a = some (.lst xs)) (k : NC K S H) : NC K (a :: S) H := fun s hs dx p c e => by
  rcases List.mem_cons.mp hs with rfl | hs
  · rw [h] at e; cases e
  · exact k s hs dx p c e
theorem nc_c {S : List Addr} {H : Hp} {a dx l : Addr} (h : H a = some (.ins (aCd K) dx (cdF l))) (k : NC K S H) : NC K (a :: S) H := fun s hs dx' p c e => by
  rcases List.mem_cons.mp hs with rfl | hs
  · rw [h] at e
    have e' : HO.ins (aCd K) dx (cdF l) = HO.ins (aCell K) dx' (plF p c) := Option.some.inj e
    injection e' with _ _ e3
    have z := cdF_at (l := l)
    rw [e3] at z
    unfold plF cellF at z
    rw [lookup_putF, if_neg (by decide +kernel), lookup_putF, if_neg (by decide +kernel)] at z
    cases z
  · exact k s hs dx' p c e
/-- what is new may change -/
theorem Md.fresh {S : List Addr} {a : Addr} {H0 H H' : Hp} (m : Md S H0 H) (u : Md [a] H H') (n : H0 a = none) : Md S H0 H' := Md.newM (p := a) (u.mono (by simp)) m n
end
end K11
namespace K11
open PySem PySem.Spec PyProof.Rows L2 He TL EL
section
variable {P : Program} {w : World} {K : PySem.W.Frag} {mg : Str → Option Value} {base : Heap}
theorem ItsAt.snoc {H : Hp} {v : V} {o : Option Tm} (h : ItAt K H v o) : ∀ {vs : List V} {os : List (Option Tm)}, ItsAt K H vs os → ItsAt K H (vs ++ [v]) (os ++ [o])
  | [], [], _ => ⟨h, trivial⟩
  | _ :: _, _ :: _, k => ⟨k.1, ItsAt.snoc h k.2⟩
  | [], _ :: _, k => k.elim
  | _ :: _, [], k => k.elim
theorem short_w {z : Str} (h : wordS z = true) : shortD (.str z) := by show z.length ≤ 100000; have := word_len h; omega
def spLaw (K : PySem.W.Frag) : Sp := fun vs H Q _ => ∃ (a : Addr) (ns : List Int), vs = [.ref a] ∧ SqL K H a (ns.map V.int) ∧ ns.length ≤ 63 ∧ ∀ H', Q (.bl true) H'
structure Sit (K : PySem.W.Frag) (H : Hp) (p l rl pl kl : Addr) (b0 b1 : Bool) (xs : List Addr) (qs : List V) (rs : List Ru) : Prop where
  src : Src H p l
  hk : H kl = some (.lst [.bl b0, .bl b1])
  hr : H rl = some (.lst (xs.map V.ref))
  hp : H pl = some (.lst qs)
  ru : ∀ (i : Nat) x r, xs[i]? = some x → rs[i]? = some r → RuAt K [p, rl, pl] H x r
  lx : xs.length = rs.length
  dq : DpXs K [p, rl, pl] H qs (rs.map plD)
  ok0 : ∀ r, rs[0]? = some r → Rok b0 r
  ok1 : ∀ r, rs[1]? = some r → Rok b1 r
  nk : kl ∉ [p, rl, pl]
  n1 : p ≠ rl
  n2 : p ≠ pl
  n3 : rl ≠ pl
  n4 : l ∉ [p, rl, pl]
theorem Sit.md {H H' : Hp} {p l rl pl kl : Addr} {b0 b1 : Bool} {xs : List Addr} {qs : List V} {rs : List Ru} (S : Sit K H p l rl pl kl b0 b1 xs qs rs) (m : Md [p] H H') (S' : Src H' p l) : Sit K H' p l rl pl kl b0 b1 xs qs rs := by
  have mM : Md [p, rl, pl] H H' := m.mono (by simp)
  exact ⟨S', mM.out _ _ S.hk S.nk, m.out _ _ S.hr (not1 (Ne.symm S.n1)), m.out _ _ S.hp (not1 (Ne.symm S.n2)), fun i x r h1 h2 => (S.ru i x r h1 h2).md mM, S.lx, S.dq.md mM, S.ok0, S.ok1, S.nk, S.n1, S.n2, S.n3, S.n4⟩
theorem Sit.al {H : Hp} {p l rl pl kl : Addr} {b0 b1 : Bool} {xs : List Addr} {qs : List V} {rs : List Ru} (S : Sit K H p l rl pl kl b0 b1 xs qs rs) : Al [p, rl, pl] H := by
  obtain ⟨xp, hp⟩ := S.src.lst
  exact al_cons hp (al_cons S.hr (al1 S.hp))
theorem Sit.push {H : Hp} {p l rl pl kl x : Addr} {b0 b1 : Bool} {xs : List Addr} {qs : List V} {rs : List Ru} {r : Ru} {v : V} (S : Sit K H p l rl pl kl b0 b1 xs qs rs) (R : RuAt K [p, rl, pl] H x r) (X : DpX K [p, rl, pl] H v (plD r)) (h0 : rs.length = 0 → Rok b0 r) (h1 : rs.length = 1 → Rok b1 r) :
    Sit K (upd (upd H pl (.lst (qs ++ [v]))) rl (.lst (xs.map V.ref ++ [.ref x]))) p l rl pl kl b0 b1 (xs ++ [x]) (qs ++ [v]) (rs ++ [r]) ∧ Md [p, rl, pl] H (upd (upd H pl (.lst (qs ++ [v]))) rl (.lst (xs.map V.ref ++ [.ref x]))) := by
  have m1 : Md [p, rl, pl] H (upd H pl (.lst (qs ++ [v]))) := Md.upd S.hp rfl (by simp)
  have hr1 : upd H pl (.lst (qs ++ [v])) rl = some (.lst (xs.map V.ref)) := by rw [upd_ne S.n3]; exact S.hr
  have m2 : Md [p, rl, pl] (upd H pl (.lst (qs ++ [v]))) (upd (upd H pl (.lst (qs ++ [v]))) rl (.lst (xs.map V.ref ++ [.ref x]))) := Md.upd hr1 rfl (by simp)
  have m := m1.trans m2
  have nl := S.n4
  simp only [List.mem_cons, List.not_mem_nil, or_false, not_or] at nl
  refine ⟨⟨?_, m.out _ _ S.hk S.nk, ?_, ?_, ?_, by rw [List.length_append, List.length_append, S.lx]; rfl, ?_, ?_, ?_, S.nk, S.n1, S.n2, S.n3, S.n4⟩, m⟩
  · refine Src.md (Src.md S.src (Md.upd (S := [pl]) S.hp rfl (by simp)) (not1 S.n2) (not1 nl.2.2)) (Md.upd (S := [rl]) hr1 rfl (by simp)) (not1 S.n1) (not1 nl.2.1)
  · rw [upd_same, List.map_append]
    rfl
  · rw [upd_ne (Ne.symm S.n3)]
    exact upd_same
  · intro i y r' e1 e2
    by_cases hi : i < xs.length
    · rw [List.getElem?_append_left hi] at e1
      rw [List.getElem?_append_left (by rw [← S.lx]; exact hi)] at e2
      exact (S.ru i y r' e1 e2).md m
    · rw [List.getElem?_append_right (by omega)] at e1
      rw [List.getElem?_append_right (by rw [← S.lx]; omega), ← S.lx] at e2
      cases hj : i - xs.length with
      | zero =>
        rw [hj] at e1 e2
        cases e1
        cases e2
        exact R.md m
      | succ k =>
        rw [hj] at e1
        simp at e1
  · rw [List.map_append]
    exact DpXs.snoc (X.md m) (S.dq.md m)
  · intro r' e
    cases hr : rs with
    | nil =>
      rw [hr] at e
      cases e
      exact h0 (by rw [hr]; rfl)
    | cons y t =>
      rw [hr] at e
      exact S.ok0 r' (by rw [hr]; exact e)
  · intro r' e
    cases hr : rs with
    | nil => rw [hr] at e; simp at e
    | cons y t =>
      cases ht : t with
      | nil =>
        rw [hr, ht] at e
        cases e
        exact h1 (by rw [hr, ht]; rfl)
      | cons y2 t2 =>
        rw [hr, ht] at e
        exact S.ok1 r' (by rw [hr, ht]; exact e)
theorem cut_last (us : List V) (v : V) : cutV (us ++ [v]) none (some (-1)) = us := by
  unfold cutV
  have e : HT.sIx (us ++ [v]).length (us ++ [v]).length (some (-1)) = us.length := by
    show (if (-1 : Int) < 0 then ((-1 : Int) + ((us ++ [v]).length : Nat)).toNat else min (-1 : Int).toNat (us ++ [v]).length) = _
    rw [if_pos (by decide), List.length_append]
    show ((-1 : Int) + ((us.length + 1 : Nat) : Int)).toNat = _
    omega
  rw [e, HT.sIx_none, List.drop_zero, Nat.sub_zero, List.take_left']
  rfl
theorem eqv_pls1 (r : Ru) : PyData.eqv (.list [plD r]) (.list []) = false := rfl
theorem ok_law {fd : FuncData} (hP : PF P "/claim/cut.py") (T : Txt K mg) (F : FunD K "law" "law" (defArgs s_law) (defBody s_law) (defScope s_law) ([] : List V) [] (ga K "law") fd) : FnOk P w K mg base CX0 13 (ga K "law") fd ["_law_script"] (spLaw K) := by
  have D__law_begin := d_begin (P := P) (w := w) (base := base) T
  have D__law_draw := d_drawM (P := P) (w := w) (base := base) T
  have D__law_plain := d_plain (P := P) (w := w) (base := base) T
  have D__law_beside := d_beside (P := P) (w := w) (base := base) T
  have D__law_part := d_lp (P := P) (w := w) (base := base) T
  have D__law_made := d_made (w := w) (base := base) hP T
  have D__law_is := d_is (P := P) (w := w) (base := base) T
  have D__law_wrong := d_wrong (w := w) (base := base) hP T
  have D_step := d_step4 (w := w) (base := base) hP T
  have D_base := d_base3 (w := w) (base := base) hP T
  have D_cell := d_cell (P := P) (w := w) (base := base) T
  have D_cd := d_cd1 (P := P) (w := w) (base := base) T
  have D_cd0 := d_cd0 (P := P) (w := w) (base := base) T
  have D_iand := d_iand (P := P) (w := w) (base := base) T
  have D_rueq := d_ru_eq (P := P) (w := w) (base := base) T
  refine F.ok sc_law (fun vs H Q E h => ?_) (fun cdv A outer s H vs Q E hr h => ?_)
  · obtain ⟨a, ns, rfl, _⟩ := h
    rfl
  · obtain ⟨a, ns, rfl, hS, _, q⟩ := h
    refine ⟨_, PSs.nox (pss_cons (ps_set (i := 1) sc_law.nd rfl (.inl rfl) (cl D__law_begin (hr.mono (by decide)) (pa_cons (pv 0) pa_nil)))
      (pss_cons (ps_set (i := 2) sc_law.nd rfl (.inl rfl) (pe_lst (pa_cons (pe_cmpR op_eq (cl D__law_draw (hr.mono (by decide)) (pa_cons (pv 1) (pa_cons pe_int pa_nil))) pe_int (nomark _)) (pa_cons (pe_cmpR op_eq (cl D__law_draw (hr.mono (by decide)) (pa_cons (pv 1) (pa_cons pe_int pa_nil))) pe_int (nomark _)) pa_nil))))
      (pss_cons (ps_set (i := 3) sc_law.nd rfl (.inl rfl) (pe_lst pa_nil))
      (pss_cons (ps_set (i := 4) sc_law.nd rfl (.inl rfl) (pe_lst pa_nil))
      (pss_cons (ps_for PassesOwn.never rfl (pi_list (pv 2)) (pg_name (i := 5) sc_law.nd rfl (.inl rfl))
      (pss_cons (ps_set (i := 6) sc_law.nd rfl (.inl rfl) (cl D__law_plain (hr.mono (by decide)) (pa_cons (pv 1) (pa_cons (pv 5) pa_nil))))
      (pss_mid (ps_if (PW.pt (pw_and (pt_cmpR (op_neD hr.units) (pv 4) (pe_lst pa_nil) (nomark _)) (pw_and (pt_cmpR op_eq (pe_ix ix_list (pv 2) pe_int (fun _ _ => rfl)) (pe_ix ix_list (pv 2) pe_int (fun _ _ => rfl)) (nomark _)) (pw_and1 (pt_cmpR op_eq (cl D__law_draw (hr.mono (by decide)) (pa_cons (pv 1) (pa_cons pe_int pa_nil))) pe_int (nomark _)))))) (pss_one (ps_set (i := 6) sc_law.nd rfl (.inl rfl) (cl D__law_beside (hr.mono (by decide)) (pa_cons (pv 1) (pa_cons (pv 6) (pa_cons (pe_ix ix_list (pv 4) pe_int (fun _ _ => rfl)) (pa_cons (pv 5) pa_nil))))))) pss_nil)
      (pss_cons (ps_set (i := 7) sc_law.nd rfl (.inl rfl) (pe_makeE T.m_Conditions D_cd (hr.mono (by decide)) T.g_Conditions pxq (pa_cons (pe_ix ix_list (pv 6) pe_int (fun _ _ => rfl)) pa_nil)))
      (pss_cons (ps_setLc (i := 8) (own := [("_law_term_here", 9)]) (tt := tYes) (by rfl) sc_law.nd rfl rfl (sw_true rfl rfl rfl (by decide +kernel)) (pi_list (pe_ix ix_list (pv 6) pe_int (fun _ _ => rfl))) (blkOk_by (own := [("_law_term_here", 9)]) (N := ["_law_script", "_law_source", "_law_kinds", "_law_rules", "_law_plains", "_law_is_step", "_law_plain_here", "_law_wished", "_law_makes", "_law_term_here", "_law_tables", "_law_given", "_law_rule", "_law_short", "_law_lone", "_law_equal"]) (sc := defScope s_law) (by decide +kernel)) (fun _ _ _ _ _ => (pg_name (i := 9) sc_law.nd rfl (.inl rfl))) (fun _ _ _ _ _ => pts_nil) (fun _ _ _ _ _ => (cl D__law_part (hr.mono (by decide)) (pa_cons (pv 9) pa_nil))))
      (pss_cons (ps_set (i := 10) sc_law.nd rfl (.inl rfl) (pe_callTy call_list_of (by rfl) T.z_list (by decide +kernel) (pa_cons (pe_ix ix_list (pv 6) pe_int (fun _ _ => rfl)) pa_nil)))
      (pss_cons (ps_set (i := 11) sc_law.nd rfl (.inl rfl) (pe_lst (pa_cons (pe_ix ix_list (pv 6) pe_int (fun _ _ => rfl)) (pa_cons (pe_ix ix_list (pv 6) pe_int (fun _ _ => rfl)) (pa_cons (pv 10) (pa_cons (pv 8) (pa_cons (pv 7) (pa_cons (pe_ix ix_tup (pe_ix ix_list (pv 6) pe_int (fun _ _ => rfl)) pe_int (fun _ _ => rfl)) (pa_cons (pe_ix ix_tup (pe_ix ix_list (pv 6) pe_int (fun _ _ => rfl)) pe_int (fun _ _ => rfl)) pa_nil)))))))))
      (pss_mid (ps_if (PW.pt (pw_and (pt_cmpR (op_eqD hr.units) (pe_ix ix_list (pv 6) pe_int (fun _ _ => rfl)) (pe_lst pa_nil) (nomark _)) (pw_and1 (pt_cmpR op_eq (cl D__law_draw (hr.mono (by decide)) (pa_cons (pv 1) (pa_cons pe_int pa_nil))) pe_int (nomark _))))) (pss_one (ps_asg pe_non (pg_sub (pv 11) pe_int set_list))) pss_nil)
      (pss_cons (ps_set (i := 12) sc_law.nd rfl (.inl rfl) (cl D__law_made (hr.mono (by decide)) (pa_cons (pv 5) (pa_cons (pv 11) pa_nil))))
      (pss_cons (ps_expr (pe_bm PySem.F.plainAttrs_list PySem.F.slot_list_append PySem.F.type_list_append mt_append (pv 10) (pa_cons pe_str pa_nil)))
      (pss_cons (ps_expr (pe_bm PySem.F.plainAttrs_list PySem.F.slot_list_append PySem.F.type_list_append mt_append (pv 8) (pa_cons pe_int pa_nil)))
      (pss_cons (ps_aug (i := 7) sc_law.nd rfl (.inl rfl) (pe_makeE T.m_Conditions D_cd (hr.mono (by decide)) T.g_Conditions pxq (pa_cons (lit_l (lits_cons (lit_t (lits_cons lit_s (lits_cons (lit_t (lits_cons lit_s (lits_cons (lit_t (lits_cons lit_i (lits_cons lit_i lits_nil))) lits_nil))) (lits_cons (lit_t (lits_cons lit_s (lits_cons (lit_t (lits_cons lit_i (lits_cons lit_i lits_nil))) lits_nil))) lits_nil)))) lits_nil)) pa_nil)) (ip_own T.sf_Conditions T.u_Conditions___iand__.1 T.u_Conditions___iand__.2 D_iand (hr.mono (by decide)) pass0))
      (pss_cons (ps_if (PW.pt (pw_or (pt_not (pt_val (cl D__law_is (hr.mono (by decide)) (pa_cons (pv 12) (pa_cons (pv 6) pa_nil))))) (pw_or1 (pt_not (pt_val (cl D__law_is (hr.mono (by decide)) (pa_cons (pv 12) (pa_cons (pv 6) pa_nil)))))))) (pss_one (ps_ret pe_bl)) pss_nil)
      (pss_cons (ps_expr (pe_bm PySem.F.plainAttrs_list PySem.F.slot_list_append PySem.F.type_list_append mt_append (pv 4) (pa_cons (pv 6) pa_nil)))
      (pss_cons (ps_expr (pe_bm PySem.F.plainAttrs_list PySem.F.slot_list_append PySem.F.type_list_append mt_append (pv 3) (pa_cons (pv 12) pa_nil)))
      (pss_cons (ps_set (i := 11) sc_law.nd rfl (.inl rfl) (pe_lst (pa_cons (pe_ix ix_list (pv 6) pe_int (fun _ _ => rfl)) (pa_cons (pe_ix ix_list (pv 6) pe_int (fun _ _ => rfl)) (pa_cons (pe_callTy call_list_of (by rfl) T.z_list (by decide +kernel) (pa_cons (pe_ix ix_list (pv 6) pe_int (fun _ _ => rfl)) pa_nil)) (pa_cons (pe_slice sl_list (pv 8) po_none (po_some (pe_un un_neg pe_int))) (pa_cons (pe_makeE0 T.m_Conditions D_cd0 (hr.mono (by decide)) T.g_Conditions pxq) (pa_cons (pe_ix ix_tup (pe_ix ix_list (pv 6) pe_int (fun _ _ => rfl)) pe_int (fun _ _ => rfl)) (pa_cons (pe_ix ix_tup (pe_ix ix_list (pv 6) pe_int (fun _ _ => rfl)) pe_int (fun _ _ => rfl)) pa_nil)))))))))
      (pss_one (ps_if (PW.pt (pw_and (pt_cmpR op_gt (cl D__law_draw (hr.mono (by decide)) (pa_cons (pv 1) (pa_cons pe_int pa_nil))) pe_int (nomark _)) (pw_and1 (pt_not (pt_val (cl D__law_wrong (hr.mono (by decide)) (pa_cons (pv 1) (pa_cons (pv 6) (pa_cons (pv 5) (pa_cons (pv 11) pa_nil)))))))))) (pss_one (ps_ret pe_bl)) pss_nil))))))))))))))))))
      (pss_cons (ps_set (i := 13) sc_law.nd rfl (.inl rfl) (cl0 D_step (hr.mono (by decide)) (pa_cons pe_str (pa_cons pe_str (pa_cons (pe_lst pa_nil) (pa_cons (pe_lst (pa_cons (pe_makeE T.m_Cell D_cell (hr.mono (by decide)) T.g_Cell px0 (pa_cons pe_str (pa_cons pe_int pa_nil))) pa_nil)) pa_nil))))))
      (pss_cons (ps_set (i := 14) sc_law.nd rfl (.inl rfl) (cl0 D_base (hr.mono (by decide)) (pa_cons pe_str (pa_cons (pe_lst (pa_cons pe_str pa_nil)) (pa_cons (pe_lst (pa_cons (pe_makeE T.m_Cell D_cell (hr.mono (by decide)) T.g_Cell px0 (pa_cons pe_str (pa_cons pe_int pa_nil))) pa_nil)) pa_nil)))))
      (pss_cons (ps_if (pt_not (pt_val (cl D__law_is (hr.mono (by decide)) (pa_cons (pv 13) (pa_cons (lit_l (lits_cons lit_s (lits_cons lit_s (lits_cons (lit_l lits_nil) (lits_cons (lit_l (lits_cons (lit_t (lits_cons lit_s (lits_cons lit_i lits_nil))) lits_nil)) (lits_cons (lit_l lits_nil) (lits_cons (lit_t (lits_cons lit_i (lits_cons lit_n lits_nil))) lits_nil))))))) pa_nil))))) (pss_one (ps_ret pe_bl)) pss_nil)
      (pss_cons (ps_if (PW.pt (pw_or (pt_not (pt_val (cl D__law_is (hr.mono (by decide)) (pa_cons (pv 14) (pa_cons (lit_l (lits_cons lit_s (lits_cons lit_n (lits_cons (lit_l (lits_cons lit_s lits_nil)) (lits_cons (lit_l (lits_cons (lit_t (lits_cons lit_s (lits_cons lit_i lits_nil))) lits_nil)) (lits_cons (lit_l lits_nil) (lits_cons (lit_t (lits_cons lit_i (lits_cons lit_n lits_nil))) lits_nil))))))) pa_nil))))) (pw_or1 (pt_cmpR op_isnot_bl (pe_cmpR (op_cmpO (E := E0) (fun _ _ => rfl) T.u_Rule___eq__.1 T.u_Rule___eq__.2 D_rueq (hr.mono (by decide)) pass0) (pv 13) (pv 14) (nomark _)) pe_bl (nomark _))))) (pss_one (ps_ret pe_bl)) pss_nil)
      (pss_cons (ps_set (i := 15) sc_law.nd rfl (.inl rfl) (pe_cmpR (op_cmpO (E := E0) (fun _ _ => rfl) T.u_Rule___eq__.1 T.u_Rule___eq__.2 D_rueq (hr.mono (by decide)) pass0) (pe_ix ix_list (pv 3) pe_int (fun _ _ => rfl)) (pe_ix ix_list (pv 3) pe_int (fun _ _ => rfl)) (nomark _)))
      (pss_one (ps_ret (pe_and (pe_callB call_isi (by rfl) T.z_isinstance (by decide +kernel) (pa_cons (pv 15) (pa_cons (pe_bltn (v := .ty "bool") (by rfl) T.z_bool (by decide +kernel) rfl) pa_nil))) (pe_one (pe_cmpR op_eq (pv 15) (pe_cmpR (op_eqD hr.units) (pe_ix ix_list (pv 4) pe_int (fun _ _ => rfl)) (pe_ix ix_list (pv 4) pe_int (fun _ _ => rfl)) (nomark _)) (nomark _)))))))))))))))), ?_⟩
    refine ⟨_, rfl, a, ns, rfl, hS, fun p l H1 np nl s1 S1 => ?_⟩
    -- the kinds
    refine ⟨_, rfl, p, l, 2, rfl, by decide, by decide, S1, fun k0 H2 _ _ S2 m2 => ?_⟩
    refine ⟨rfl, _, rfl, p, l, 2, rfl, by decide, by decide, S2, fun k1 H3 _ _ S3 m3 => ?_⟩
    refine ⟨rfl, (by show 2 ≤ sizeLine; decide), fun kl nkl => ?_⟩
    generalize decide (V.int k0 = V.int 1) = b0
    generalize decide (V.int k1 = V.int 1) = b1
    generalize eH4 : upd H3 kl _ = H4
    have s4 : Same H3 H4 := eH4 ▸ same_upd nkl
    have e4 : H4 kl = some _ := eH4 ▸ upd_same
    refine ⟨(by show 0 ≤ sizeLine; decide), fun rl nrl => ?_⟩
    generalize eH5 : upd H4 rl _ = H5
    have s5 : Same H4 H5 := eH5 ▸ same_upd nrl
    have e5 : H5 rl = some _ := eH5 ▸ upd_same
    refine ⟨(by show 0 ≤ sizeLine; decide), fun pl npl => ?_⟩
    generalize eH6 : upd H5 pl _ = H6
    have s6 : Same H5 H6 := eH6 ▸ same_upd npl
    have e6 : H6 pl = some _ := eH6 ▸ upd_same
    obtain ⟨xp3, hp3⟩ := S3.lst
    obtain ⟨xl3, hl3⟩ := S3.lst2
    have start : Sit K H6 p l rl pl kl b0 b1 [] [] [] := by
      have p4 := s4 _ _ hp3
      have p5 := s5 _ _ p4
      have l4 := s4 _ _ hl3
      have l5 := s5 _ _ l4
      have k5 := s5 _ _ e4
      refine ⟨((S3.same s4).same s5).same s6, s6 _ _ k5, s6 _ _ e5, e6, (fun i x r h1 => by simp at h1), rfl, .nil, (fun r h => by simp at h), (fun r h => by simp at h), ?_, ne_of_none p4 nrl, ne_of_none p5 npl, ne_of_none e5 npl, ?_⟩
      · simp [Ne.symm (ne_of_none hp3 nkl), ne_of_none e4 nrl, ne_of_none k5 npl]
      · simp [S3.ne, ne_of_none l4 nrl, ne_of_none l5 npl]
    refine ⟨_, rfl, kl, rfl, ⟨_, SqL.of start.hk⟩, for_list (K := K) (a := kl) (xs := [.bl b0, .bl b1]) (fun i σ H' => ∃ (o5 o6 o7 o8 o9 o10 o11 o12 : Option V) (xs : List Addr) (qs : List V) (rs : List Ru), σ = [some (.ref a), some (.ref p), some (.ref kl), some (.ref rl), some (.ref pl), o5, o6, o7, o8, o9, o10, o11, o12, none, none, none] ∧ Sit K H' p l rl pl kl b0 b1 xs qs rs ∧ rs.length = i) ⟨none, none, none, none, none, none, none, none, [], [], [], rfl, start, rfl⟩ (fun i σ H' _ h => ?_) ?_ ?_⟩
    · obtain ⟨_, _, _, _, _, _, _, _, _, _, _, _, S, _⟩ := h
      exact SqL.of S.hk
    · rintro i xv σ H7 hg ⟨o5, o6, o7, o8, o9, o10, o11, o12, xs, qs, rs, rfl, Z, hi⟩
      obtain ⟨b, rfl, hb0, hb1, hi2⟩ : ∃ b, xv = .bl b ∧ (i = 0 → b = b0) ∧ (i = 1 → b = b1) ∧ i < 2 := by
        match i, hg with
        | 0, hg => cases hg; exact ⟨b0, rfl, fun _ => rfl, fun z => (by cases z), by decide⟩
        | 1, hg => cases hg; exact ⟨b1, rfl, fun z => (by cases z), fun _ => rfl, by decide⟩
        | _ + 2, hg => simp at hg
      refine ⟨_, rfl, _, rfl, p, l, b, rfl, Z.src, fun r q1 H8 ok8 S8 m8 x8 => ?_⟩
      have Z8 := Z.md m8 S8
      have X8 := x8 _ Z.al
      -- beside the first one
      refine ⟨fun σ' H' => ∃ (r : Ru) (q1 : Addr), Rok b r ∧ σ' = [some (.ref a), some (.ref p), some (.ref kl), some (.ref rl), some (.ref pl), some (.bl b), some (.ref q1), o7, o8, o9, o10, o11, o12, none, none, none] ∧ Sit K H' p l rl pl kl b0 b1 xs qs rs ∧ DpX K [p, rl, pl] H' (.ref q1) (plD r), ?_, ?_⟩
      · refine ⟨_, rfl, (by show 0 ≤ sizeLine; decide), fun u nu => ?_⟩
        generalize eH9 : upd H8 u _ = H9
        have s9 : Same H8 H9 := eH9 ▸ same_upd nu
        have e9 : H9 u = some _ := eH9 ▸ upd_same
        have Z9 := Z8.md (.of s9) (S8.same s9)
        have X9 := X8.same s9
        have hr2 : rs = [] ∨ ∃ r0, rs = [r0] := by
          cases rs with
          | nil => exact .inl rfl
          | cons r0 rest =>
            cases rest with
            | nil => exact .inr ⟨r0, rfl⟩
            | cons r1 rest =>
              simp at hi
              omega
        rcases hr2 with rfl | ⟨r0, rfl⟩
        ·
          refine ⟨_, _, .lst (SqL.of Z9.hp) Z9.dq.dp, .lst (SqL.of e9) .nil, rfl, rfl, _, rfl, iteF ?_⟩
          exact ⟨r, q1, ok8, rfl, Z9, X9⟩
        · have okr := Z.ok0 r0 rfl
          refine ⟨_, _, .lst (SqL.of Z9.hp) Z9.dq.dp, .lst (SqL.of e9) .nil, sh_pls okr.rnc, rfl, _, rfl, iteT ?_⟩
          refine ⟨_, rfl, kl, _, 0, _, rfl, rfl, SqL.of Z9.hk, atI_nat (j := 0) rfl, _, rfl, kl, _, 1, _, rfl, rfl, SqL.of Z9.hk, atI_nat (j := 1) rfl, rfl, _, rfl, ie (fun c => ?_) (fun c => ?_)⟩
          · have eb : b0 = b1 := by have := of_decide_eq_true c; injection this
            have ebb : b = b0 := (hb1 hi.symm).trans eb.symm
            refine ⟨_, rfl, p, l, 2, rfl, by decide, by decide, Z9.src, fun n HA _ _ SA mA => ?_⟩
            have ZA := Z9.md mA SA
            have XA := X9.md (mA.mono (by simp))
            refine ⟨rfl, _, rfl, ie (fun c2 => ?_) (fun c2 => ?_)⟩
            · have hq := ZA.dq
              obtain ⟨v0, rfl, hq0⟩ : ∃ v0, qs = [v0] ∧ DpX K [p, rl, pl] HA v0 (plD r0) := by
                cases hq with
                | cons hq0 hr =>
                  cases hr
                  exact ⟨_, rfl, hq0⟩
              · refine ⟨_, rfl, _, rfl, _, rfl, pl, _, 0, _, rfl, rfl, SqL.of ZA.hp, atI_nat (j := 0) rfl, _, rfl, p, l, _, _, b, r, r0, [p, rl, pl], rfl, SA, by simp, ZA.al, XA, hq0, ok8, ebb ▸ okr, fun r' q' HB okB SB mB XB => ?_⟩
                exact ⟨r', q', okB, rfl, ZA.md mB SB, XB⟩
            · exact ⟨r, q1, ok8, rfl, ZA, XA⟩
          · exact ⟨r, q1, ok8, rfl, Z9, X9⟩
      · clear X8 Z8 x8 S8 m8 ok8 Z
        rintro σ' H0 ⟨r, q1, ok, rfl, Z, X⟩
        obtain ⟨q', ta, ma, aa, da, ts, as, eq', nq, hq, hta, hma, dma, haa, daa, hda, dda, nta, nma, naa⟩ := pl_inv X
        cases eq'
        have ix : ∀ (j : Nat) (v : V), ([.str r.a, optS r.o, .ref ta, .ref ma, .ref aa, .ref da] : List V)[j]? = some v → atI [.str r.a, optS r.o, .ref ta, .ref ma, .ref aa, .ref da] ((j : Nat) : Int) = some v := fun j v e => atI_nat e
        have lts : ts.length = r.ts.length := by rw [DpAll.length dma, List.length_map]
        have lt3 := ok.t3
        have la2 := ok.al
        obtain ⟨xp0, hp0⟩ := Z.src.lst
        obtain ⟨xl0, hl0⟩ := Z.src.lst2
        -- the conditions
        refine ⟨_, rfl, q1, _, 4, _, rfl, rfl, SqL.of hq, ix 4 _ rfl, ?_⟩
        refine mkCd (as := r.as) (.inl (SqL.of haa)) daa ok.as (by omega) fun z dz n H1 s1 nz nn hzn CD => ?_
        rw [ok.dd] at CD
        -- the parts
        refine ⟨_, rfl, q1, _, 3, _, rfl, rfl, SqL.of (s1 _ _ hq), ix 3 _ rfl, ma, rfl, ⟨_, SqL.of (s1 _ _ hma)⟩, fun D nD => ?_⟩
        have sD : Same H1 (upd H1 D (.lst [])) := same_upd nD
        have nD0 : H0 D = none := s1.free nD
        have Dma : ma ≠ D := ne_of_none (s1 _ _ hma) nD
        refine lc_it (walk_list (xs := ts)) (fun i H' => ∃ us, H' D = some (.lst us) ∧ ItsAt K H' us ((r.ts.take i).map some) ∧ Md [D] (upd H1 D (.lst [])) H') ⟨[], upd_same, trivial, .refl _ _⟩ (fun i H' _ h => ?_) ?_ ?_
        · obtain ⟨us, _, _, m⟩ := h
          exact SqL.of (m.out _ _ (sD _ _ (s1 _ _ hma)) (not1 Dma))
        · rintro j xv H2 H2' hj ⟨us, eu, au, m⟩ ⟨rfl, hx⟩
          obtain ⟨d, hd, hdp⟩ := DpAll.get dma hx
          obtain ⟨t, ht, rfl⟩ := getM hd
          refine ⟨rfl, tYes_of ?_⟩
          refine ⟨_, rfl, xv, t, rfl, m.dp (Tm.pd t).1.nl (Dp.same (s1.trans sD) hdp), ok.ts t (List.mem_of_getElem? ht), fun u H3 s3 it3 => ?_⟩
          have lu : us.length ≤ 3 := by
            rw [au.length, List.length_map, List.length_take]
            exact Nat.le_trans (Nat.min_le_right _ _) lt3
          have mu : Md [D] H3 (upd H3 D (.lst (us ++ [u]))) := Md.upd (s3 _ _ eu) rfl (by simp)
          have ncD : NC K [D] H3 := nc_l (s3 _ _ eu) nc_nil
          refine ⟨us, s3 _ _ eu, Nat.lt_of_le_of_lt lu (by decide), _, upd_same, ?_, m.trans ((Md.of s3).trans mu)⟩
          rw [tk1 ht, List.map_append]
          exact ItsAt.snoc (ItAt.mdN mu ncD it3) (ItsAt.mdN mu ncD (au.same s3))
        rintro H2 ⟨us, eu, au, mD⟩
        rw [lts, List.take_length] at au
        have lus : us.length = r.ts.length := by rw [au.length, List.length_map]
        have s12 : Same H1 H2 := (Md.newM (S := []) mD (Md.of sD) nD).same
        have s02 := s1.trans s12
        -- the tables
        refine ⟨_, rfl, q1, _, 2, _, rfl, rfl, SqL.of (s02 _ _ hq), ix 2 _ rfl, _, _, rfl, .inl (SqL.of (s02 _ _ hta)), fun tb ntb => ?_⟩
        generalize eH3 : upd H2 tb _ = H3
        have s3 : Same H2 H3 := eH3 ▸ same_upd ntb
        have etb : H3 tb = some _ := eH3 ▸ upd_same
        have s03 := s02.trans s3
        -- what is handed
        refine ⟨_, rfl, q1, _, 0, _, rfl, rfl, SqL.of (s03 _ _ hq), ix 0 _ rfl, _, rfl, q1, _, 1, _, rfl, rfl, SqL.of (s03 _ _ hq), ix 1 _ rfl, _, rfl, _, rfl, _, rfl, _, rfl, q1, _, 5, _, rfl, rfl, SqL.of (s03 _ _ hq), ix 5 _ rfl, da, _, 0, _, rfl, rfl, Same.seqT s03 hda, atI_nat (j := 0) rfl, _, rfl, q1, _, 5, _, rfl, rfl, SqL.of (s03 _ _ hq), ix 5 _ rfl, da, _, 1, _, rfl, rfl, Same.seqT s03 hda, atI_nat (j := 1) rfl, (by show 7 ≤ sizeLine; decide), fun g ng => ?_⟩
        generalize eH4 : upd H3 g _ = H4
        have s4 : Same H3 H4 := eH4 ▸ same_upd ng
        have eg : H4 g = some _ := eH4 ▸ upd_same
        have s04 := s03.trans s4
        have eD4 : H4 D = some (.lst us) := s4 _ _ (s3 _ _ eu)
        have it4 : ItsAt K H4 us (r.ts.map some) := au.same (s3.trans s4)
        have CD4 := CD.same (s12.trans (s3.trans s4))
        have etb4 := s4 _ _ etb
        have ng0 : H0 g = none := s03.free ng
        have ntb0 : H0 tb = none := s02.free ntb
        have gp : g ≠ p := Ne.symm (ne_of_none (s03 _ _ hp0) ng)
        have gl : g ≠ l := Ne.symm (ne_of_none (s03 _ _ hl0) ng)
        have Dp : D ≠ p := Ne.symm (ne_of_none hp0 nD0)
        have Dg : D ≠ g := ne_of_none (s3 _ _ eu) ng
        have tp : tb ≠ p := Ne.symm (ne_of_none hp0 ntb0)
        have tg : tb ≠ g := ne_of_none etb ng
        have zp : z ≠ p := Ne.symm (ne_of_none hp0 nz)
        have np' : n ≠ p := Ne.symm (ne_of_none hp0 nn)
        have zg : z ≠ g := ne_of_none ((CD.same (s12.trans s3)).hx) ng
        have ngn : n ≠ g := by
          obtain ⟨vs, e, _⟩ := (CD.same (s12.trans s3)).hl
          exact ne_of_none e ng
        have S4 := Z.src.same s04
        refine ⟨fun σ' H' => ∃ v4, σ' = [some (.ref a), some (.ref p), some (.ref kl), some (.ref rl), some (.ref pl), some (.bl b), some (.ref q1), some (.ref z), some (.ref D), o9, some (.ref tb), some (.ref g), o12, none, none, none] ∧ H' g = some (.lst [.str r.a, optS r.o, .ref tb, .ref D, v4, .int r.n, optI r.m]) ∧ ((v4 = .non ∧ r.as = []) ∨ v4 = .ref z) ∧ Md [p, g] H4 H' ∧ Src H' p l, ?_, ?_⟩
        · refine ⟨_, rfl, q1, _, 4, _, rfl, rfl, SqL.of (s04 _ _ hq), ix 4 _ rfl, (by show 0 ≤ sizeLine; decide), fun u nu => ?_⟩
          generalize eH5 : upd H4 u _ = H5
          have s5 : Same H4 H5 := eH5 ▸ same_upd nu
          have eu5 : H5 u = some _ := eH5 ▸ upd_same
          refine ⟨_, _, .lst (SqL.of (s5 _ _ (s04 _ _ haa))) (DpAll.same (s04.trans s5) daa), .lst (SqL.of eu5) .nil, (pds_at _).shaped, rfl, _, rfl, ?_⟩
          have e0 : PyData.eqv (.list (r.as.map At.d)) (.list []) = decide (r.as = []) := eqv_ats r.as []
          rw [e0]
          by_cases hn : r.as = []
          · refine if_pos_of (decide_eq_true hn) ?_
            refine ⟨_, rfl, p, l, 2, rfl, by decide, by decide, S4.same s5, fun n6 H6 _ _ S6 m6 => ?_⟩
            have m46 : Md [p, g] H4 H6 := (Md.of s5).trans (m6.mono (by simp))
            have eg6 : H6 g = some (.lst [.str r.a, optS r.o, .ref tb, .ref D, .ref z, .int r.n, optI r.m]) := m6.out _ _ (s5 _ _ eg) (not1 gp)
            refine ⟨rfl, _, rfl, ie (fun c => ?_) (fun c => ?_)⟩
            · refine ⟨_, rfl, g, _, 4, 4, rfl, rfl, eg6, rfl, ?_⟩
              have mu : Md [g] H6 (upd H6 g (.lst [.str r.a, optS r.o, .ref tb, .ref D, .non, .int r.n, optI r.m])) := Md.upd eg6 rfl (by simp)
              exact ⟨.non, rfl, upd_same, .inl ⟨rfl, hn⟩, m46.trans (mu.mono (by simp)), Src.md S6 mu (not1 (Ne.symm gp)) (not1 (Ne.symm gl))⟩
            · exact ⟨.ref z, rfl, eg6, .inr rfl, m46, S6⟩
          · refine if_neg_of (decide_eq_false hn) ?_
            exact ⟨.ref z, rfl, s5 _ _ eg, .inr rfl, .of s5, S4.same s5⟩
        rintro σ' H5 ⟨v4, rfl, eg5, h4, m45, S5⟩
        have in4 : ∀ {x : Addr} {o : HO}, H4 x = some o → x ≠ p → x ≠ g → H5 x = some o := fun h h1 h2 => m45.out _ _ h (not2 h1 h2)
        have eD5 := in4 eD4 Dp Dg
        have etb5 := in4 etb4 tp tg
        have CD5 := CD4.md m45 (not2 zp zg) (not2 np' ngn)
        have ncS : NC K [p, g] H4 := nc_l (s04 _ _ hp0) (nc_l eg nc_nil)
        have it5 : ItsAt K H5 us (r.ts.map some) := ItsAt.mdN m45 ncS it4
        have m05 : Md [p] H0 H5 := ⟨fun x o h1 h2 => m45.out _ _ (s04 _ _ h1) (not2 (fun e => h2 (by simp [e])) (ne_of_none h1 ng0)), fun x o h1 h2 => m45.rig _ _ (s04 _ _ h1) h2⟩
        have GA : GAt K H5 [.str r.a, optS r.o, .ref tb, .ref D, v4, .int r.n, optI r.m] (agOf r r.as) := by
          refine ⟨⟨_, _, _, _, _, _, _, rfl, .str _, short_w ok.a, dp_optS _, ?_, .lst (SqL.of etb5) (dp_strs' _), fun e he => ?_, ⟨D, us, rfl, SqL.of eD5, it5, by rw [List.length_map]; omega, fun t ht => ?_⟩, ?_, .int _, dp_optI _⟩, fun as' h => by cases h; omega⟩
          · show shortD (optSD r.o)
            cases ho : r.o with
            | none => trivial
            | some y => exact short_w (ok.o y ho)
          · obtain ⟨y, hy, rfl⟩ := List.mem_map.mp he
            exact short_w (ok.ws y hy)
          · obtain ⟨t', h', e'⟩ := List.mem_map.mp ht
            cases e'
            exact ok.ts _ h'
          · rcases h4 with ⟨rfl, e⟩ | rfl
            · exact .inl ⟨rfl, e⟩
            · exact .inr ⟨z, dz, n, rfl, CD5⟩
        -- the rule
        refine ⟨_, rfl, _, rfl, b, g, _, agOf r r.as, rfl, eg5, GA, (fun y ey => by rw [why_of ok] at ey; cases ey), fun _ r' x H6 s6 mo R => ?_⟩
        have er := made_eq ok mo
        have R : ∀ M, Al M H5 → RuAt K M H6 x r := er ▸ R
        obtain ⟨xp5, hp5⟩ := S5.lst
        have Z5 := Z.md m05 S5
        have al5 : Al [p, rl, pl, tb, D, z, g] H5 := al_cons hp5 (al_cons Z5.hr (al_cons Z5.hp (al_cons etb5 (al_cons eD5 (al_cons CD5.hx (al1 eg5))))))
        have R6 := R _ al5
        have Dtb : D ≠ tb := ne_of_none eu ntb
        have zD : z ≠ D := ne_of_none CD.hx nD
        have ztb : z ≠ tb := ne_of_none ((CD.same s12).hx) ntb
        obtain ⟨vsn, en, _⟩ := CD.hl
        have nD' : n ≠ D := ne_of_none en nD
        have ntb' : n ≠ tb := ne_of_none (s12 _ _ en) ntb
        have lD : l ≠ D := ne_of_none hl0 nD0
        have ltb : l ≠ tb := ne_of_none hl0 ntb0
        have lz : l ≠ z := ne_of_none hl0 nz
        -- what was handed is changed
        have etb6 := s6 _ _ etb5
        refine ⟨_, rfl, .inl ⟨rfl, _, SqL.of etb6⟩, tb, _, _, rfl, rfl, etb6, (by rw [List.length_map]; exact Nat.lt_of_le_of_lt ok.wl (by decide)), ?_⟩
        generalize eH7 : upd H6 tb _ = H7'
        have m67 : Md [tb] H6 H7' := eH7 ▸ Md.upd etb6 rfl (by simp)
        have eD7 : H7' D = some (.lst us) := m67.out _ _ (s6 _ _ eD5) (not1 Dtb)
        refine ⟨_, rfl, .inl ⟨rfl, _, SqL.of eD7⟩, D, _, _, rfl, rfl, eD7, (by rw [lus]; exact Nat.lt_of_le_of_lt lt3 (by decide)), ?_⟩
        generalize eH8 : upd H7' D _ = H8'
        have m78 : Md [D] H7' H8' := eH8 ▸ Md.upd eD7 rfl (by simp)
        have eD8 : H8' D = some (.lst (us ++ [.int 1])) := eH8 ▸ upd_same
        refine ⟨_, rfl, ?_⟩
        intro vl H9 s9 hx9
        obtain ⟨lw, xs9, rfl, elw, _, x9⟩ := (hx9 [] al_nil).lst_inv
        refine mkCd (as := [atEq]) (.inl (SqL.of elw)) x9.dp (fun a ha => by cases List.mem_singleton.mp ha; exact ⟨vl01, vl01⟩) (by decide) fun z2 dz2 n2 HA sA nz2 nn2 hzn2 CD2 => ?_
        have CDA : CdAt K HA z dz n r.as := ((((CD5.same s6).md m67 (not1 ztb) (not1 ntb')).md m78 (not1 zD) (not1 nD')).same s9).same sA
        refine ⟨_, _, _, rfl, CDA.hx, z, dz, n, r.as, z2, dz2, n2, _, rfl, CDA, CD2, (by omega), (by decide), fun n3 HB mB nn3 CDB => ?_⟩
        have m0B : Md [p] H0 HB := Md.fresh (((Md.fresh (Md.fresh (m05.trans (Md.of s6)) m67 ntb0) m78 nD0).trans (Md.of s9)).trans (Md.of sA)) mB nz
        have SB : Src HB p l := Src.md ((((Src.md (Src.md (S5.same s6) m67 (not1 (Ne.symm tp)) (not1 ltb)) m78 (not1 (Ne.symm Dp)) (not1 lD)).same s9).same sA)) mB (not1 (Ne.symm zp)) (not1 lz)
        have m6B : Md [p, rl, pl, tb, D, z, g] H6 HB := (m67.mono (by simp)).trans ((m78.mono (by simp)).trans ((Md.of s9).trans ((Md.of sA).trans (mB.mono (by simp)))))
        have RB := R6.md m6B
        have ZB := Z.md m0B SB
        have XB := X.md (m0B.mono (by simp))
        have eDB : HB D = some (.lst (us ++ [.int 1])) := mB.out _ _ (sA _ _ (s9 _ _ eD8)) (not1 (Ne.symm zD))
        have nc6 : NC K [p, rl, pl, tb, D, z, g] H6 := nc_l (s6 _ _ hp5) (nc_l (s6 _ _ Z5.hr) (nc_l (s6 _ _ Z5.hp) (nc_l etb6 (nc_l (s6 _ _ eD5) (nc_c (CD5.same s6).hx (nc_l (s6 _ _ eg5) nc_nil))))))
        have itB : ItsAt K HB us (r.ts.map some) := ItsAt.mdN m6B nc6 (it5.same s6)
        -- all is told
        refine ⟨_, rfl, _, rfl, x, .ref q1, r, rfl, RB.nil, XB.sub (by simp), ok.rnc, fun HC sC => ?_⟩
        refine ⟨_, rfl, iteF ?_⟩
        refine ⟨_, rfl, _, rfl, x, .ref q1, r, rfl, (RB.same sC).nil, (XB.same sC).sub (by simp), ok.rnc, fun HD sD2 => ?_⟩
        refine ⟨_, rfl, iteF ?_⟩
        have sBD := sC.trans sD2
        have ZD := ZB.md (.of sBD) (SB.same sBD)
        have lq : qs.length = i := by rw [ZD.dq.length, List.length_map, hi]
        refine ⟨_, rfl, .inl ⟨rfl, _, SqL.of ZD.hp⟩, _, rfl, pl, _, _, rfl, rfl, ZD.hp, (by rw [lq]; exact Nat.lt_of_lt_of_le hi2 (by decide)), ?_⟩
        have hrE : upd HD pl (.lst (qs ++ [.ref q1])) rl = some (.lst (xs.map V.ref)) := by rw [upd_ne Z.n3]; exact ZD.hr
        refine ⟨_, rfl, .inl ⟨rfl, _, SqL.of hrE⟩, _, rfl, rl, _, _, rfl, rfl, hrE, (by rw [List.length_map, Z.lx, hi]; exact Nat.lt_of_lt_of_le hi2 (by decide)), ?_⟩
        obtain ⟨ZF, mDF⟩ := Sit.push (r := r) (x := x) (v := .ref q1) ZD ((RB.same sBD).re (fun b hb _ h => hb (by simp at h ⊢; rcases h with h | h | h <;> simp [h]))) (XB.same sBD) (fun h => (hb0 (by omega)) ▸ ok) (fun h => (hb1 (by omega)) ▸ ok)
        generalize eHF : upd (upd HD pl _) rl _ = HF at ZF mDF ⊢
        have XF := (XB.same sBD).md mDF
        have DM : D ∉ [p, rl, pl] := by simp [Dp, ne_of_none Z.hr nD0 |> Ne.symm, ne_of_none Z.hp nD0 |> Ne.symm]
        have eDF : HF D = some (.lst (us ++ [.int 1])) := mDF.out _ _ (sBD _ _ eDB) DM
        have ncD : NC K [p, rl, pl] HD := by
          obtain ⟨xpD, hpD⟩ := ZD.src.lst
          exact nc_l hpD (nc_l ZD.hr (nc_l ZD.hp nc_nil))
        have itF : ItsAt K HF us (r.ts.map some) := ItsAt.mdN mDF ncD (itB.same sBD)
        clear eH7 eH8 eHF
        obtain ⟨q2, ta2, ma2, aa2, da2, ts2, as2, eq2, _, hq2, hta2, _, _, _, _, hda2, _⟩ := pl_inv XF
        cases eq2
        have ix2 : ∀ (j : Nat) (v : V), ([.str r.a, optS r.o, .ref ta2, .ref ma2, .ref aa2, .ref da2] : List V)[j]? = some v → atI [.str r.a, optS r.o, .ref ta2, .ref ma2, .ref aa2, .ref da2] ((j : Nat) : Int) = some v := fun j v e => atI_nat e
        obtain ⟨xpF, hpF⟩ := ZF.src.lst
        obtain ⟨xlF, hlF⟩ := ZF.src.lst2
        -- once more, to be wrong
        refine ⟨_, rfl, q1, _, 0, _, rfl, rfl, SqL.of hq2, ix2 0 _ rfl, _, rfl, q1, _, 1, _, rfl, rfl, SqL.of hq2, ix2 1 _ rfl, _, rfl, q1, _, 2, _, rfl, rfl, SqL.of hq2, ix2 2 _ rfl, _, _, rfl, .inl (SqL.of hta2), fun t2 nt2 => ?_⟩
        generalize eHG : upd HF t2 _ = HG
        have sG : Same HF HG := eHG ▸ same_upd nt2
        have et2 : HG t2 = some _ := eHG ▸ upd_same
        refine ⟨_, rfl, _, rfl, _, rfl, D, _, rfl, SqL.of (sG _ _ eDF), fun D2 nD2 => ?_⟩
        rw [cut_last]
        generalize eHI : upd HG D2 _ = HI
        have sI : Same HG HI := eHI ▸ same_upd nD2
        have eD2 : HI D2 = some _ := eHI ▸ upd_same
        refine mkCd (a := dflAt ("Conditions", some "__init__") 0 K) (vs := []) (as := []) (.inr (T.dc0 _)) .nil (fun t ht => by cases ht) (by decide) fun z3 dz3 n3' HJ sJ nz3 nn3' _ CJ => ?_
        have sFI := sG.trans sI
        have sFJ := sFI.trans sJ
        refine ⟨_, rfl, q1, _, 5, _, rfl, rfl, SqL.of (sFJ _ _ hq2), ix2 5 _ rfl, da2, _, 0, _, rfl, rfl, Same.seqT sFJ hda2, atI_nat (j := 0) rfl, _, rfl, q1, _, 5, _, rfl, rfl, SqL.of (sFJ _ _ hq2), ix2 5 _ rfl, da2, _, 1, _, rfl, rfl, Same.seqT sFJ hda2, atI_nat (j := 1) rfl, (by show 7 ≤ sizeLine; decide), fun g2 ng2 => ?_⟩
        generalize eHL : upd HJ g2 _ = HL
        have sL : Same HJ HL := eHL ▸ same_upd ng2
        have eg2 : HL g2 = some _ := eHL ▸ upd_same
        have sFL := sFJ.trans sL
        have ZL := ZF.md (.of sFL) (ZF.src.same sFL)
        have hpJ := sFJ _ _ hpF
        have g2p : g2 ≠ p := Ne.symm (ne_of_none hpJ ng2)
        have g2l : g2 ≠ l := Ne.symm (ne_of_none (sFJ _ _ hlF) ng2)
        have t2o : t2 ∉ [p, g2] := not2 (Ne.symm (ne_of_none hpF nt2)) (ne_of_none (sJ _ _ (sI _ _ et2)) ng2)
        have D2o : D2 ∉ [p, g2] := not2 (Ne.symm (ne_of_none (sG _ _ hpF) nD2)) (ne_of_none (sJ _ _ eD2) ng2)
        have z3o : z3 ∉ [p, g2] := not2 (Ne.symm (ne_of_none (sFI _ _ hpF) nz3)) (ne_of_none CJ.hx ng2)
        have n3o : n3' ∉ [p, g2] := by
          obtain ⟨vs3, e3, _⟩ := CJ.hl
          exact not2 (Ne.symm (ne_of_none (sFI _ _ hpF) nn3')) (ne_of_none e3 ng2)
        have GL : GS K [p, g2] HL r b [.str r.a, optS r.o, .ref t2, .ref D2, .ref z3, .int r.n, optI r.m] (fun _ => false) := by
          refine ⟨rfl, fun j v e => ?_⟩
          rw [if_neg Bool.false_ne_true]
          match j, e with
          | 0, e => cases e; exact rfl
          | 1, e => cases e; exact rfl
          | 2, e => cases e; exact .lst (sL _ _ (sJ _ _ (sI _ _ et2))) t2o (DpXs.strs _)
          | 3, e => cases e; exact ⟨D2, us, rfl, sL _ _ (sJ _ _ eD2), D2o, itF.same sFL⟩
          | 4, e => cases e; exact ⟨z3, dz3, n3', rfl, CJ.same sL, z3o, n3o⟩
          | 5, e => cases e; exact rfl
          | 6, e => cases e; exact rfl
          | _ + 7, e => simp at e
        have fin : ∀ HM, Md [p] HF HM → Src HM p l → Sit K HM p l rl pl kl b0 b1 (xs ++ [x]) (qs ++ [.ref q1]) (rs ++ [r]) ∧ (rs ++ [r]).length = i + 1 := fun HM m S => ⟨ZF.md m S, by rw [List.length_append, hi]; rfl⟩
        refine ⟨_, rfl, p, l, 3, rfl, by decide, by decide, ZL.src, fun k9 HM _ _ SM mM => ?_⟩
        refine ⟨_, _, rfl, rfl, _, rfl, ie (fun c => ?_) (fun c => ?_)⟩
        · have eg2M : HM g2 = some (.lst [.str r.a, optS r.o, .ref t2, .ref D2, .ref z3, .int r.n, optI r.m]) := mM.out _ _ eg2 (not1 g2p)
          have lsL : Ls [p, g2] HL := fun y hy => by
            rcases List.mem_cons.mp hy with rfl | hy
            · exact ⟨_, sFL _ _ hpF⟩
            · cases List.mem_singleton.mp hy
              exact ⟨_, eg2⟩
          refine ⟨_, rfl, _, rfl, _, rfl, _, rfl, p, l, _, b, g2, _, r, rfl, SM, eg2M, g2p, g2l, ok, GL.md (mM.mono (by simp)) lsL, fun HN SN mN => ?_⟩
          refine ⟨_, rfl, iteF ?_⟩
          have mFN : Md [p] HF HN := Md.newM (p := g2) (S := [p]) ((mM.mono (by simp) : Md [g2, p] HL HM).trans (mN.mono (by intro y hy; simp at hy ⊢; exact hy.symm))) (.of sFL) (sFJ.free ng2)
          exact ⟨_, _, _, _, _, _, _, _, _, _, _, rfl, fin HN mFN SN⟩
        · exact ⟨_, _, _, _, _, _, _, _, _, _, _, rfl, fin HM ((Md.of sFL).trans mM) SM⟩
    · rintro σ H7 ⟨o5, o6, o7, o8, o9, o10, o11, o12, xs, qs, rs, rfl, Z, hi⟩
      obtain ⟨r0, r1, rfl⟩ : ∃ r0 r1, rs = [r0, r1] := by
        cases rs with
        | nil => cases hi
        | cons r0 t =>
          cases t with
          | nil => cases hi
          | cons r1 t =>
            cases t with
            | nil => exact ⟨r0, r1, rfl⟩
            | cons _ _ => simp at hi
      have lx := Z.lx
      obtain ⟨x0, x1, rfl⟩ : ∃ x0 x1, xs = [x0, x1] := by
        cases xs with
        | nil => cases lx
        | cons r0 t =>
          cases t with
          | nil => cases lx
          | cons r1 t =>
            cases t with
            | nil => exact ⟨r0, r1, rfl⟩
            | cons _ _ => simp at lx
      have k0 := Z.ok0 r0 rfl
      have k1 := Z.ok1 r1 rfl
      -- a short one
      refine ⟨(by show 0 ≤ sizeLine; decide), fun e1 ne1 => ?_⟩
      generalize eH8 : upd H7 e1 _ = H8
      have s8 : Same H7 H8 := eH8 ▸ same_upd ne1
      have ee1 : H8 e1 = some _ := eH8 ▸ upd_same
      refine mkCell (p := .old) (c := 0) (by decide) fun c1 dc1 H9 s9 nc1 hc1 => ?_
      refine ⟨(by show 1 ≤ sizeLine; decide), fun l1 nl1 => ?_⟩
      generalize eHA : upd H9 l1 _ = HA
      have sA : Same H9 HA := eHA ▸ same_upd nl1
      have el1 : HA l1 = some _ := eHA ▸ upd_same
      have rS : Rnc ⟨"a", some "b", [], [.cell .old 0], [], 0, none⟩ := by
        refine ⟨fun z hz => ?_, rfl, by decide, by decide, by decide⟩
        rcases hz with rfl | hz | hz
        · decide +kernel
        · cases hz
          decide +kernel
        · cases hz
      have rL : Rnc ⟨"a", none, ["t"], [.cell .first 0], [], 0, none⟩ := by
        refine ⟨fun z hz => ?_, rfl, by decide, by decide, by decide⟩
        rcases hz with rfl | hz | hz
        · decide +kernel
        · cases hz
        · cases List.mem_singleton.mp hz
          decide +kernel
      refine ⟨.str "a", .str "b", .ref e1, .ref l1, .non, .int 0, .non, .str "a", .str "b", .list [], some [some (.cell .old 0)], some [], .int 0, .none, rfl, .str _, (by show (_ : Nat) ≤ 100000; decide), .str _, (by show (_ : Nat) ≤ 100000; decide), .lst (SqL.of (sA _ _ (s9 _ _ ee1))) .nil, (fun e he => by cases he), ⟨l1, [.ref c1], rfl, SqL.of el1, ⟨⟨c1, dc1, rfl, sA _ _ hc1, by decide⟩, trivial⟩, by decide, fun t ht => by cases List.mem_singleton.mp ht; exact (by decide : (0 : Nat) < 3)⟩, .inl ⟨rfl, rfl⟩, .int _, .non, (fun as h => by cases h; exact Nat.zero_le _), fun z ez => ?_, fun _ r x HB sB q0 q1 q2 q3 q4 q5 q6 R => ?_⟩
      · have : whyS (.str "a") (.str "b") (.list []) (some [some (.cell .old 0)]) (some []) (.int 0) .none = none := by decide +kernel
        rw [this] at ez
        cases ez
      · have er : r = ⟨"a", some "b", [], [.cell .old 0], [], 0, none⟩ := by
          obtain ⟨a1, a2, a3, a4, a5, a6, a7⟩ := r
          obtain ⟨y, y1, y2⟩ := q1
          obtain ⟨w1, w2, w3⟩ := q4
          have z0 : ("a" : Str) = a1 := by injection q0
          have z1 : ("b" : Str) = y := by injection y1
          have z2 : ([] : List Str) = a3 := wsD_inj (by injection q2)
          have z3 : [Tm.cell .old 0] = a4 := Option.some.inj q3
          have z4 : ([] : List At) = w1 := Option.some.inj w2
          have z5 : (0 : Int) = a6 := by injection q5
          have z6 : none = a7 := optID_inj q6
          have y2 : a2 = some y := y2
          have w3 : a5 = dd w1 := w3
          rw [← z0, y2, ← z1, ← z2, ← z3, w3, ← z4, ← z5, ← z6]
          rfl
        have R1 := er ▸ R
        clear R
        -- a lone one
        refine ⟨(by show 1 ≤ sizeLine; decide), fun e2 ne2 => ?_⟩
        generalize eHC : upd HB e2 _ = HC
        have sC : Same HB HC := eHC ▸ same_upd ne2
        have ee2 : HC e2 = some _ := eHC ▸ upd_same
        refine mkCell (p := .first) (c := 0) (by decide) fun c2 dc2 HD sD nc2 hc2 => ?_
        refine ⟨(by show 1 ≤ sizeLine; decide), fun l2 nl2 => ?_⟩
        generalize eHE : upd HD l2 _ = HE
        have sE : Same HD HE := eHE ▸ same_upd nl2
        have el2 : HE l2 = some _ := eHE ▸ upd_same
        refine ⟨.str "a", .ref e2, .ref l2, .non, .str "a", .list [.str "t"], some [some (.cell .first 0)], some [], rfl, .str _, (by show (_ : Nat) ≤ 100000; decide), .lst (SqL.of (sE _ _ (sD _ _ ee2))) (.cons (.str _) .nil), (fun e he => by cases List.mem_singleton.mp he; show (_ : Nat) ≤ 100000; decide), ⟨l2, [.ref c2], rfl, SqL.of el2, ⟨⟨c2, dc2, rfl, sE _ _ hc2, by decide⟩, trivial⟩, by decide, fun t ht => by cases List.mem_singleton.mp ht; exact (by decide : (0 : Nat) < 3)⟩, .inl ⟨rfl, rfl⟩, (fun as h => by cases h; exact Nat.zero_le _), fun z ez => ?_, fun _ r' x' HG sG p0 p1 p2 p3 p4 p5 p6 R' => ?_⟩
        · have : whyB (.str "a") (.list [.str "t"]) (some [some (.cell .first 0)]) (some []) = none := by decide +kernel
          rw [this] at ez
          cases ez
        · have er' : r' = ⟨"a", none, ["t"], [.cell .first 0], [], 0, none⟩ := by
            obtain ⟨a1, a2, a3, a4, a5, a6, a7⟩ := r'
            obtain ⟨w1, w2, w3⟩ := p4
            have z0 : ("a" : Str) = a1 := by injection p0
            have z1 : a2 = none := p1
            have z2 : (["t"] : List Str) = a3 := wsD_inj (by injection p2)
            have z3 : [Tm.cell .first 0] = a4 := Option.some.inj p3
            have z4 : ([] : List At) = w1 := Option.some.inj w2
            have z5 : a6 = 0 := p5
            have z6 : a7 = none := p6
            have w3 : a5 = dd w1 := w3
            rw [← z0, z1, ← z2, ← z3, w3, ← z4, z5, z6]
            rfl
          have R2 := (er' ▸ R') [] al_nil
          clear R'
          have sBG := sC.trans (sD.trans (sE.trans sG))
          have R1' := (R1 [] al_nil).same sBG
          have s7B : Same H7 HB := s8.trans (s9.trans (sA.trans sB))
          have ins : ∀ {Hx : Hp} {y : Addr} {rr : Ru} {M : List Addr}, RuAt K M Hx y rr → ∃ dx fs, Hx y = some (.ins (aRu K) dx fs) := fun R => by
            obtain ⟨dx, t, mk, dmk, tm, c, dc, lc, d, h1, _⟩ := R.ex
            exact ⟨_, _, h1⟩
          refine ⟨_, rfl, fun v1 HI sI hx1 => ?_⟩
          refine ⟨x, v1, _, rfl, R1'.same sI, hx1 [] al_nil, rS, fun HJ sJ => ?_⟩
          refine ⟨_, rfl, iteF ?_⟩
          have sGJ := sI.trans sJ
          refine ⟨_, rfl, fun v2 HK sK hx2 => ?_⟩
          refine ⟨x', v2, _, rfl, (R2.same sGJ).same sK, hx2 [] al_nil, rL, fun HL sL => ?_⟩
          refine ⟨_, rfl, iteF ?_⟩
          have sGL := sGJ.trans (sK.trans sL)
          have RA := R1'.same sGL
          have RB' := R2.same sGL
          obtain ⟨d1, f1, i1⟩ := ins RA
          obtain ⟨d2, f2, i2⟩ := ins RB'
          refine ⟨_, rfl, _, rfl, _, _, _, _, rfl, i1, T.o_Rule.ty i2, T.nf_Rule, x, x', _, _, rfl, RA, RB', ?_, ?_⟩
          · intro z hz
            rcases hz with rfl | rfl | hz | hz | hz | hz
            · decide +kernel
            · decide +kernel
            · cases hz
              decide +kernel
            · cases hz
            · cases hz
            · cases List.mem_singleton.mp hz
              decide +kernel
          refine ⟨_, _, rfl, rfl, _, rfl, iteF ?_⟩
          -- the two rules
          have s7L : Same H7 HL := s7B.trans (sBG.trans sGL)
          have ZL := Z.md (.of s7L) (Z.src.same s7L)
          have Ra := (ZL.ru 0 x0 r0 rfl rfl).nil
          have Rb := (ZL.ru 1 x1 r1 rfl rfl).nil
          obtain ⟨d3, f3, i3⟩ := ins Ra
          obtain ⟨d4, f4, i4⟩ := ins Rb
          refine ⟨_, rfl, rl, _, 0, _, rfl, rfl, SqL.of ZL.hr, atI_nat (j := 0) rfl, _, rfl, rl, _, 1, _, rfl, rfl, SqL.of ZL.hr, atI_nat (j := 1) rfl, _, _, _, _, rfl, i3, T.o_Rule.ty i4, T.nf_Rule, x0, x1, r0, r1, rfl, Ra, Rb, ?_, ?_⟩
          · intro z hz
            rcases hz with rfl | rfl | hz | hz | hz | hz
            · exact word_ok k0.a
            · exact word_ok k1.a
            · exact word_ok (k0.o z hz)
            · exact word_ok (k1.o z hz)
            · exact word_ok (k0.ws z hz)
            · exact word_ok (k1.ws z hz)
          obtain ⟨v3, v4, ev, y3, y4⟩ : ∃ v3 v4, qs = [v3, v4] ∧ DpX K [p, rl, pl] HL v3 (plD r0) ∧ DpX K [p, rl, pl] HL v4 (plD r1) := by
            have hq := ZL.dq
            cases hq with
            | cons h1 h2 =>
              cases h2 with
              | cons h2 h3 =>
                cases h3
                exact ⟨_, _, rfl, h1, h2⟩
          subst ev
          refine ⟨_, rfl, _, _, _, _, _, rfl, .ty _, Dp.ty (.bl _), kit_d K .bl (.bool _), _, rfl, iteT ?_⟩
          refine ⟨_, rfl, _, rfl, pl, _, 0, _, rfl, rfl, SqL.of ZL.hp, atI_nat (j := 0) rfl, _, rfl, pl, _, 1, _, rfl, rfl, SqL.of ZL.hp, atI_nat (j := 1) rfl, _, _, y3.dp, y4.dp, sh_pl1 k0.rnc, sh_pl1 k1.rnc, rfl, ?_⟩
          rw [eqv_pl, decide_eq_true rfl]
          exact q _
end
end K11
namespace K11
open PySem PySem.Spec PyProof.Rows L2 He TL EL
theorem facts {P : Program} {w : World} {K : PySem.W.Frag} {mg : Str → Option Value} {f : Addr} (hP : PF P "/claim/cut.py") (T : Txt K mg) (hfa : mg ("law" : Str) = some (.ref f)) :
    ∃ fd : FuncData, (∀ (s : Shared) (v : Value), BindsTo s fd ⟨[v], []⟩ [("_law_script", v)]) ∧ ∀ base : Heap, FnOk P w K mg base CX0 13 f fd ["_law_script"] (spLaw K) := by
  obtain ⟨fd, F⟩ := T.f_law
  have e := hfa.symm.trans T.g_law
  cases e
  have b := FunD.bindsA (ps := ["_law_script"]) F (fun _ _ _ _ _ _ us hl => match us, hl with | [_], _ => rfl)
  exact ⟨fd, fun s v => b s [v] rfl, fun base => ok_law hP T F⟩
end K11
open PySem PySem.W PySem.Calls PyProof.Rows
set_option maxHeartbeats 0 in
theorem PySem.Challenge.cw_endlessasks_k11_rules_holds : PySem.Challenge.rw_endlessasks_k11_rules.Holds := by
  w_on; o_law
  refine HandSHeadRun.head_any (r := OpenLaw.row PySem.Challenge.rw_endlessasks_k11_rules) (q := view (OpenLaw.row PySem.Challenge.rw_endlessasks_k11_rules).prog [44]) (H := K11.hk) (ob := K11.ob) (M := 8000) (loose := K11.loose) (d := HandSHeadRun.topDef (OpenLaw.row PySem.Challenge.rw_endlessasks_k11_rules).prog 44) (kwd := []) K11.ob_eq
    (by kernel_rfl) (fun s => by kernel_rfl) K11.run (by kernel_rfl) (by kernel_rfl) (by kernel_rfl) (by rfl) (by first | assumption | decide +kernel) (by decide +kernel) ⟨rfl, rfl, rfl, rfl, rfl, by decide +kernel⟩ ?hw ?hc
  case hw => w_witness2
  case hc =>
    refine L2.walk_ofE (l := PySem.Challenge.rw_endlessasks_k11_rules) (n := 63) (k := 13) (x := "_law_script") (CX := L2.CX0) rfl (by decide) (by kernel_rfl) ⟨rfl, by decide, by decide⟩ ?F (fun _ _ _ _ z => z)
    intro w mg fa h Y G hmg0
    obtain ⟨K, KX, c⟩ := Y
    have hmg : mg ("law" : PySem.Str) = some (.ref fa) := by
      have e : (HandSHeadRun.topDef (OpenLaw.row PySem.Challenge.rw_endlessasks_k11_rules).prog 44).name = ("law" : PySem.Str) := by kernel_rfl
      rw [← e]
      exact hmg0
    obtain ⟨fd, hb, hF⟩ := K11.facts (P := (PySem.Challenge.rw_endlessasks_k11_rules).prog) (w := w) ⟨by kernel_rfl, by kernel_rfl⟩ (K11.txt_of KX G c) hmg
    exact ⟨K, fd, K11.spLaw K, KX, hb, fun H a ns hl _ hS => ⟨a, ns, rfl, hS, hl, fun _ => rfl⟩, fun base _ _ => hF base⟩
