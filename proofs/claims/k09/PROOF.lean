import PyProof.Rows.All
import Wide.All
import OpenK.AllK
import Wide.FinOn
import KE.KStateDown
import HandS.ForMost
import HandS.ForExc
import HandS.More
import HandS.Wide
import HandS.IsInst
import HandS.ExcIs
import HandS.FStr
import HandS.Defaults
import HandS.TupAny
import HandS.TupLe
import HandS.Deep
import HandS.Flow
import HandS.Walk
import HandS.Head0
import HandS.Head1
import HandS.Head2
import HandS.HeadEnd
import HandS.HeadHook1
import HandS.HeadHook2
import HandS.HeadNt
import HandS.ExcField
import KE.KExcSuper
import HandS.SlotsOwn
import KE.KOpsOwn
import HandS.Star
import HandS.DictComp
import HandS.Conv
import HandS.HeadHook3
import HandS.WrittenGet
import HandS.Style
import KE.KExcIs
import KE.KEqDict
import PySem.Challenge.RW_endlessasks_k09_schemas
set_option Elab.async false
set_option linter.all false
set_option maxRecDepth 100000
namespace EL
/-- the greatest common divisor, as the loop leaves it -/
def cd (a b : Int) : Int := ((Nat.gcd a.natAbs b.natAbs : Nat) : Int)
def nrm (t b : Int) : Int × Int := if b < 0 then ((-t) / cd (-t) (-b), (-b) / cd (-t) (-b)) else (t / cd t b, b / cd t b)
theorem cd_pos {a b : Int} (h : b ≠ 0) : 0 < cd a b := by
  unfold cd
  have := Nat.gcd_pos_of_pos_right a.natAbs (n := b.natAbs) (by omega)
  omega
theorem cd_dvd_l (a b : Int) : cd a b ∣ a := by
  unfold cd
  exact Int.ofNat_dvd_left.mpr (Nat.gcd_dvd_left _ _)
theorem cd_dvd_r (a b : Int) : cd a b ∣ b := by
  unfold cd
  exact Int.ofNat_dvd_left.mpr (Nat.gcd_dvd_right _ _)
theorem cd_neg_l (a b : Int) : cd (-a) b = cd a b := by unfold cd; rw [Int.natAbs_neg]
theorem cd_neg_r (a b : Int) : cd a (-b) = cd a b := by unfold cd; rw [Int.natAbs_neg]
/-- a value in lowest terms -/
def Low (a b : Int) : Prop := 0 < b ∧ cd a b = 1
theorem cd_div {a b : Int} (hb : b ≠ 0) : cd (a / cd a b) (b / cd a b) = 1 := by
  have hp := cd_pos (a := a) hb
  have e : ∀ x : Int, cd a b ∣ x → (x / cd a b).natAbs = x.natAbs / Nat.gcd a.natAbs b.natAbs := fun x hx => by
    rw [Int.natAbs_ediv_of_dvd hx]
    rfl
  show ((Nat.gcd (a / cd a b).natAbs (b / cd a b).natAbs : Nat) : Int) = 1
  rw [e a (cd_dvd_l a b), e b (cd_dvd_r a b), Nat.gcd_div (Nat.gcd_dvd_left _ _) (Nat.gcd_dvd_right _ _), Nat.div_self (Nat.gcd_pos_of_pos_right _ (by omega))]
  rfl
theorem nrm_low {t b : Int} (hb : b ≠ 0) : Low (nrm t b).1 (nrm t b).2 := by
  unfold nrm
  by_cases h : b < 0
  · rw [if_pos h]
    have hp := cd_pos (a := -t) (b := -b) (by omega)
    refine ⟨?_, cd_div (by omega)⟩
    exact Int.ediv_pos_of_pos_of_dvd (by omega) (Int.le_of_lt hp) (cd_dvd_r _ _)
  · rw [if_neg h]
    have hp := cd_pos (a := t) (b := b) hb
    refine ⟨?_, cd_div hb⟩
    exact Int.ediv_pos_of_pos_of_dvd (by omega) (Int.le_of_lt hp) (cd_dvd_r _ _)
theorem nrm_eq {t b : Int} (hb : b ≠ 0) : (nrm t b).1 * b = t * (nrm t b).2 := by
  unfold nrm
  by_cases h : b < 0
  · rw [if_pos h]
    have hp := cd_pos (a := -t) (b := -b) (by omega)
    obtain ⟨u, hu⟩ := cd_dvd_l (-t) (-b)
    obtain ⟨v, hv⟩ := cd_dvd_r (-t) (-b)
    generalize cd (-t) (-b) = g at *
    have e1 : -t / g = u := by rw [hu, Int.mul_ediv_cancel_left _ (by omega)]
    have e2 : -b / g = v := by rw [hv, Int.mul_ediv_cancel_left _ (by omega)]
    show -t / g * b = t * (-b / g)
    rw [e1, e2]
    have ht : t = -(g * u) := by omega
    have hb' : b = -(g * v) := by omega
    rw [ht, hb', Int.mul_neg, Int.neg_mul, Int.mul_left_comm, Int.mul_comm g u, Int.mul_assoc, Int.mul_left_comm u g v]
  · rw [if_neg h]
    have hp := cd_pos (a := t) (b := b) hb
    obtain ⟨u, hu⟩ := cd_dvd_l t b
    obtain ⟨v, hv⟩ := cd_dvd_r t b
    generalize cd t b = g at *
    have e1 : t / g = u := by rw [hu, Int.mul_ediv_cancel_left _ (by omega)]
    have e2 : b / g = v := by rw [hv, Int.mul_ediv_cancel_left _ (by omega)]
    show t / g * b = t * (b / g)
    rw [e1, e2, hu, hv, Int.mul_left_comm, Int.mul_assoc]
/-- two values in lowest terms that stand for one fraction are one -/
theorem low_unique {a b c d : Int} (h1 : Low a b) (h2 : Low c d) (h : a * d = c * b) : a = c ∧ b = d := by
  obtain ⟨hb, g1⟩ := h1
  obtain ⟨hd, g2⟩ := h2
  have c1 : Nat.gcd a.natAbs b.natAbs = 1 := by unfold cd at g1; omega
  have c2 : Nat.gcd c.natAbs d.natAbs = 1 := by unfold cd at g2; omega
  have hn : a.natAbs * d.natAbs = c.natAbs * b.natAbs := by rw [← Int.natAbs_mul, ← Int.natAbs_mul, h]
  have d1 : b.natAbs ∣ d.natAbs := by
    have : b.natAbs ∣ a.natAbs * d.natAbs := by rw [hn]; exact Nat.dvd_mul_left _ _
    exact (Nat.Coprime.symm (show Nat.Coprime a.natAbs b.natAbs from c1)).dvd_of_dvd_mul_left this
  have d2 : d.natAbs ∣ b.natAbs := by
    have : d.natAbs ∣ c.natAbs * b.natAbs := by rw [← hn]; exact Nat.dvd_mul_left _ _
    exact (Nat.Coprime.symm (show Nat.Coprime c.natAbs d.natAbs from c2)).dvd_of_dvd_mul_left this
  have e : b = d := by
    have := Nat.dvd_antisymm d1 d2
    omega
  subst e
  exact ⟨Int.eq_of_mul_eq_mul_right (by omega) h, rfl⟩
theorem nrm_scale {t b f : Int} (hb : b ≠ 0) (hf : f ≠ 0) : nrm (t * f) (b * f) = nrm t b := by
  have hbf : b * f ≠ 0 := Int.mul_ne_zero hb hf
  have l1 := nrm_low (t := t * f) hbf
  have l2 := nrm_low (t := t) hb
  have e1 := nrm_eq (t := t * f) hbf
  have e2 := nrm_eq (t := t) hb
  have u := low_unique l1 l2 (by
    generalize (nrm (t * f) (b * f)).1 = p at *
    generalize (nrm (t * f) (b * f)).2 = q at *
    generalize (nrm t b).1 = r at *
    generalize (nrm t b).2 = s at *
    -- p * (b f) = (t f) q ; r b = t s ; want p s = r q
    have hbf2 : p * b = t * q := by
      refine Int.eq_of_mul_eq_mul_right hf ?_
      rw [Int.mul_assoc, e1, Int.mul_assoc, Int.mul_comm f q, Int.mul_assoc]
    refine Int.eq_of_mul_eq_mul_right hb ?_
    calc p * s * b = (p * b) * s := by rw [Int.mul_assoc, Int.mul_comm s b, Int.mul_assoc]
      _ = (t * q) * s := by rw [hbf2]
      _ = (t * s) * q := by rw [Int.mul_assoc, Int.mul_comm q s, Int.mul_assoc]
      _ = r * b * q := by rw [e2]
      _ = r * q * b := by rw [Int.mul_assoc, Int.mul_comm b q, Int.mul_assoc])
  exact Prod.ext u.1 u.2
theorem nrm_one (t : Int) : nrm t 1 = (t, 1) := by
  have e : cd t 1 = 1 := by unfold cd; simp
  unfold nrm
  rw [if_neg (by omega), e]
  simp
end EL
namespace EL
open PySem PySem.Spec PyProof.Rows L2 He
/-! ### a def by its name -/
structure Dn (P : Program) (w : World) (K : PySem.W.Frag) (mg : Str → Option Value) (base : Heap) (CX : CXT) (k : Nat) (x : Str) (sp : Sp) : Prop where
  g : mg x = some (.ref (ga K x))
  kp : PySem.W.keepIn K (.ref (ga K x)) = true
  r : FnR P w K mg base CX k (ga K x) sp
section
variable {X : Cx} {CX : CXT} {k : Nat} {f : Addr} {sp : Sp} {E : L2.St → XK} {x : Str} {p pos : Pos} {e : Expr} {es : List Expr} {t : TA}
theorem run_fnRS {pins : List (Addr × Obj)} {σ : L2.St} {H : Hp} {s : Shared} {Q : VK} {us : List Value} {vs : List V} (F : FnR X.prog X.w X.K X.mg X.base CX k f sp) (hr : Room k X.A) (hx : PassesAt CX X σ (E σ))
    (I : Inv X pins σ H s) (r : Vals vs us) (h : sp vs H Q (E σ)) : wpAny (model X.prog X.w) X.A (call (.ref f) us) (EP X pins σ Q) X.xe s := by
  refine wpAny_call (codeAny_mono (F X.A X.stack s H us vs Q (E σ) hr I.env0 r h) fun r s' hq => ?_)
  cases r with
  | error e => exact hx pins H s e s' I hq
  | ok fl =>
    cases fl with
    | ret u => exact I.after hq
    | next => exact False.elim hq
    | brk => exact False.elim hq
    | cont => exact False.elim hq
theorem pe_fn (F : FnR X.prog X.w X.K X.mg X.base CX k f sp) (hr : Room k X.A) (hg : Gl X x) (hm : X.mg x = some (.ref f)) (hk : PySem.W.keepIn X.K (.ref f) = true) (hx : ∀ σ, PassesAt CX X σ (E σ))
    (ha : PA X (e :: es) t) (hdb : (x == ("__debug__" : Str)) = false := by decide) (he : starEach (e :: es) X.env = (false, eval e X.env) :: starEach es X.env := by rfl) (hpl : (backTo pos (starEach es X.env)).any (·.1) = false := by rfl) :
    PE X (.Call (.Name x p) (e :: es) [] pos) (tCallS sp E t) := by
  refine ⟨fun pins s σ H Q I h => ?_⟩
  refine wpAny_Call_Name_kw (ld_glob I hg hm ?_ hdb)
  refine PySem.W.callWith_K (h₀ := X.base) I.ok.mod.kin hk (thn (ha.run pos pins s σ H _ I h) fun us s1 ⟨vs, H1, I1, r, q⟩ => ⟨I1.kIn, ?_⟩) he hpl
  exact run_fnRS F hr (hx σ) I1 r q
/-- a call of a def that lets nothing out -/
theorem cl (D : Dn X.prog X.w X.K X.mg X.base CX0 k x sp) (hr : Room k X.A) (ha : PA X (e :: es) t) (hg : Gl X x := by rfl)
    (hdb : (x == ("__debug__" : Str)) = false := by decide) (he : starEach (e :: es) X.env = (false, eval e X.env) :: starEach es X.env := by rfl) (hpl : (backTo pos (starEach es X.env)).any (·.1) = false := by rfl) :
    PE X (.Call (.Name x p) (e :: es) [] pos) (tCallS sp (fun _ => E0) t) := pe_fn D.r hr hg D.g D.kp (fun _ _ _ _ _ _ _ h => h.elim) ha hdb he hpl
/-- a call of a def that may raise, where it raises nothing -/
theorem cl0 (D : Dn X.prog X.w X.K X.mg X.base (L2.CX X.prog X.w) k x sp) (hr : Room k X.A) (ha : PA X (e :: es) t) (hg : Gl X x := by rfl)
    (hdb : (x == ("__debug__" : Str)) = false := by decide) (he : starEach (e :: es) X.env = (false, eval e X.env) :: starEach es X.env := by rfl) (hpl : (backTo pos (starEach es X.env)).any (·.1) = false := by rfl) :
    PE X (.Call (.Name x p) (e :: es) [] pos) (tCallS sp (fun _ => E0) t) := pe_fn D.r hr hg D.g D.kp (fun σ pins H s e s' I h => passL pins σ H s e s' I h) ha hdb he hpl
/-- a call of a def that may raise -/
theorem clx {W : WX} (tk : Takes X W) (D : Dn X.prog X.w X.K X.mg X.base (L2.CX X.prog X.w) k x sp) (hr : Room k X.A) (ha : PA X (e :: es) t) (hg : Gl X x := by rfl)
    (hdb : (x == ("__debug__" : Str)) = false := by decide) (he : starEach (e :: es) X.env = (false, eval e X.env) :: starEach es X.env := by rfl) (hpl : (backTo pos (starEach es X.env)).any (·.1) = false := by rfl) :
    PE X (.Call (.Name x p) (e :: es) [] pos) (tCallS sp (WE W) t) := pe_fn D.r hr hg D.g D.kp (fun σ => passAt tk σ) ha hdb he hpl
/-- a module's name that holds a plain value -/
theorem pe_gv {v : V} {pos : Pos} (h : ∃ u, X.mg x = some u ∧ RelV v u) (hg : Gl X x := by rfl) (hd : (x == ("__debug__" : Str)) = false := by decide) : PE X (.Name x pos) (tC v) := by
  obtain ⟨u, h1, h2⟩ := h
  exact pe_glob hg h1 h2 hd
end
/-! ### own errors without an __init__ -/
structure XC (K : PySem.W.Frag) (mg : Str → Option Value) (x : Str) : Prop where
  g : mg x = some (.ref (ga K x))
  q : PySem.W.excIn K (ga K x) veBase "ValueError.__new__" = true
  k : PySem.W.keepIn K (.ref (ga K x)) = true
  b : PySem.W.subIn K (.ref (ga K x)) (.type "BaseException") = some true
  t : PySem.W.typeIn K (.ref (ga K x)) = some (.type "type")
/-- raise C('..') -/
theorem rs {X : Cx} {W : WX} {c m : Str} {j : Nat} {p p2 pos pos2 : Pos} (hc : X.calm = true) (tk : Takes X W) (x : XC X.K X.mg c) (hg : Gl X c) (hdb : (c == ("__debug__" : Str)) = false := by decide) :
    PS X (.Raise (some (.Call (.Name c p) [.Constant (.str m) j p2] [] pos)) none pos2) (fun _ σ H => W (.ref (ga X.K c)) none σ H) :=
  ps_raise hc tk (pmk_own PySem.F.excBase_ValueError x.q x.g x.k (raises_own x.b x.t) hg hdb)
/-! ### heaps -/
theorem same_upd {H : Hp} {p : Addr} {o : HO} (h : H p = none) : Same H (upd H p o) := fun b x e => by
  rw [upd_ne (ne_of_none e h)]
  exact e
theorem Same.seqT {K : PySem.W.Frag} {H H' : Hp} {a : Addr} {xs : List V} (e : Same H H') (h : SqT K H a xs) : SqT K H' a xs := by
  rcases h with (h | ⟨o, h⟩) | h
  · exact .inl (.inl (e _ _ h))
  · exact .inl (.inr ⟨o, e _ _ h⟩)
  · exact .inr h
/-- a new object: the heap behind is a letter -/
theorem newO {H : Hp} {o : HO} {Q : Addr → Hp → Prop} (h : ∀ p H', H p = none → Same H H' → H' p = some o → Q p H') : ∀ p, H p = none → Q p (upd H p o) := fun p hp => h p _ hp (same_upd hp) upd_same
theorem newV {H : Hp} {o : HO} {Q : V → Hp → Prop} (h : ∀ p H', H p = none → Same H H' → H' p = some o → Q (.ref p) H') : ∀ p, H p = none → Q (.ref p) (upd H p o) := fun p hp => h p _ hp (same_upd hp) upd_same
theorem ie {b : Bool} {A B : Prop} (h1 : b = true → A) (h2 : b = false → B) : if b = true then A else B := by
  cases b with
  | true => rw [if_pos rfl]; exact h1 rfl
  | false => rw [if_neg Bool.false_ne_true]; exact h2 rfl
theorem if_pos_of {b : Bool} {A B : Prop} (h : b = true) (a : A) : if b = true then A else B := by rw [if_pos h]; exact a
theorem if_neg_of {b : Bool} {A B : Prop} (h : b = false) (a : B) : if b = true then A else B := by rw [h, if_neg Bool.false_ne_true]; exact a
theorem small40 {n : Nat} (h : n ≤ 100000) : n ≤ sizeLine := Nat.le_trans h (by decide)
end EL
namespace EL
open PySem PySem.Spec PyProof.Rows L2 He
/-! ### the head: facts, defs and one more Bool -/
theorem xc_of {K : PySem.W.Frag} {mg : Str → Option Value} {x : Str} (g : mg x = some (.ref (ga K x))) (h : PySem.W.excIn K (ga K x) veBase "ValueError.__new__" = true ∧ PySem.W.keepIn K (.ref (ga K x)) = true ∧ PySem.W.subIn K (.ref (ga K x)) (.type "BaseException") = some true ∧
    PySem.W.typeIn K (.ref (ga K x)) = some (.type "type")) : XC K mg x := ⟨g, h.1, h.2.1, h.2.2.1, h.2.2.2⟩
theorem gv_int {mg : Str → Option Value} {x : Str} {i : Int} (h : ∃ t, mg x = some (.int i t)) : ∃ u, mg x = some u ∧ RelV (.int i) u := by
  obtain ⟨t, e⟩ := h
  exact ⟨_, e, t, rfl⟩
theorem gv_str {mg : Str → Option Value} {x z : Str} (h : ∃ t, mg x = some (.str z t)) : ∃ u, mg x = some u ∧ RelV (.str z) u := by
  obtain ⟨t, e⟩ := h
  exact ⟨_, e, t, rfl⟩
abbrev AlM : Type := AlD × Bool
def obsM (fa : List Fa) (fn : List DefD) (ex : PySem.W.Frag → Bool) (K : PySem.W.Frag) : AlM := (obsD fa fn K, ex K)
def obsMG (n : Nat) (fa : List Fa) (fn : List DefD) (ex : PySem.W.Frag → Bool) (g : Addr → Option Obj) : AlM := obsM fa fn ex (frG g (asD g n))
def valM (fn : List DefD) : AlM := (valD fn, true)
def hookM (n : Nat) (fa : List Fa) (fn : List DefD) (ex : PySem.W.Frag → Bool) : PySem.W.Hook where
  α := AlM
  obs := fun s => obsMG n fa fn ex s.heap.get?
  val := fun _ => valM fn
  says := fun _ h => ∃ K : PySem.W.Frag, K.In h ∧ SaysD fa fn K ∧ ex K = true
  of := fun _ _ e => ⟨_, frG_in, congrArg (fun z : AlM => z.1) e, congrArg (fun z : AlM => z.2) e⟩
  keeps := fun _ _ _ ⟨K, hK, c⟩ k => ⟨K, PySem.W.Frag.In.keeps hK k, c⟩
theorem obsMG_eq {n : Nat} {fa : List Fa} {fn : List DefD} {ex : PySem.W.Frag → Bool} {g : Addr → Option Obj} {s : Shared} (h : ∀ a, g a = s.heap.get? a) : obsMG n fa fn ex g = (hookM n fa fn ex).obs s := by
  have e : g = s.heap.get? := funext h
  rw [e] <;> rfl
end EL
namespace EL
open PySem PySem.Spec PyProof.Rows L2 He
/-! ### from a def's body to its Dn -/
section
variable {P : Program} {w : World} {K : PySem.W.Frag} {mg : Str → Option Value} {base : Heap} {CX : CXT} {k : Nat} {x : Str} {sp : Sp} {params : Arguments} {body : List Stmt} {scope : Scope} {dvs : List V} {fd : FuncData} {ps N : List Str}
theorem dnN (g : mg x = some (.ref (ga K x))) (F : FunD K x x params body scope [] [] (ga K x) fd)
    (hb : ∀ (kV doc pm : Value) (an : Option Addr) (cdv ct : Value) (us : List Value), us.length = ps.length → bindArgs (PySem.W.fnOf x x params body scope .none kV doc pm an cdv ct) ⟨us, []⟩ = pure (ps.zip us))
    (S : FnScope N ps scope) (len : ∀ vs H Q E, sp vs H Q E → vs.length = ps.length)
    (hbody : ∀ (cdv : Value) (A : Around) (outer : List Env) (s : Shared) (H : Hp) (vs : List V) (Q : VK) (E : XK), Room k (A.deeper (envOfC x scope s.heap.objs.size (ga K x) cdv)) → sp vs H Q E →
      ∃ t, PSs (cxOf CX P w K mg base N x scope (ga K x) cdv A outer s H E) body t ∧ t { nx := fun _ H' => Q .non H', rt := Q } (start N vs) H) : Dn P w K mg base CX (k + 1) x sp :=
  ⟨g, F.kp, ((F.ok S len hbody).raw (F.bindsN hb) .nil).imp fun vs H Q E h => by rw [List.append_nil]; exact h⟩
theorem Dn.mono {j : Nat} (D : Dn P w K mg base CX j x sp) (h : j ≤ k) : Dn P w K mg base CX k x sp := ⟨D.g, D.kp, D.r.mono h⟩
end
/-! ### data -/
inductive Kd where
  | non | bl | int | str | lst | tup | dct
  deriving DecidableEq
def kdN : Kd → String
  | .non => "NoneType"
  | .bl => "bool"
  | .int => "int"
  | .str => "str"
  | .lst => "list"
  | .tup => "tuple"
  | .dct => "dict"
def kd : PyData → Kd
  | .none => .non
  | .bool _ => .bl
  | .int _ => .int
  | .str _ => .str
  | .list _ => .lst
  | .tuple _ => .tup
  | .dict _ => .dct
def tyn (d : PyData) : String := kdN (kd d)
theorem SqL.ty {K : PySem.W.Frag} {H : Hp} {a : Addr} {xs : List V} (h : SqL K H a xs) : TyX K H (.ref a) (.type "list") := by
  rcases h with (h | ⟨o, h⟩) | ⟨o, its, n, h1, h2, _⟩
  · exact .base (.lst h)
  · exact .base (.frz h)
  · exact .kList h1 h2
theorem SqT.ty {K : PySem.W.Frag} {H : Hp} {a : Addr} {xs : List V} (h : SqT K H a xs) : TyX K H (.ref a) (.type "tuple") := by
  rcases h with (h | ⟨o, h⟩) | ⟨o, its, n, h1, h2, _⟩
  · exact .base (.tup h)
  · exact .fTuple h
  · exact .kTuple h1 h2
theorem Dp.ty {K : PySem.W.Frag} {H : Hp} {v : V} {d : PyData} (h : Dp K H v d) : TyX K H v (.type (tyn d)) := by
  cases h with
  | non => exact .base .non
  | bl b => exact .base (.bl b)
  | int i => exact .base (.int i)
  | str x => exact .base (.str x)
  | lst h _ => exact SqL.ty h
  | tup h _ => exact SqT.ty h
mutual
theorem Dp.same {K : PySem.W.Frag} {H H' : Hp} (s : Same H H') : ∀ {d : PyData} {v : V}, Dp K H v d → Dp K H' v d
  | _, _, .non => .non
  | _, _, .bl b => .bl b
  | _, _, .int i => .int i
  | _, _, .str x => .str x
  | _, _, .lst h a => .lst (s.seq h) (DpAll.same s a)
  | _, _, .tup h a => .tup (Same.seqT s h) (DpAll.same s a)
theorem DpAll.same {K : PySem.W.Frag} {H H' : Hp} (s : Same H H') : ∀ {ds : List PyData} {vs : List V}, DpAll K H vs ds → DpAll K H' vs ds
  | _, _, .nil => .nil
  | _, _, .cons a b => .cons (Dp.same s a) (DpAll.same s b)
end
theorem DpAll.length {K : PySem.W.Frag} {H : Hp} : ∀ {ds : List PyData} {vs : List V}, DpAll K H vs ds → vs.length = ds.length
  | _, _, .nil => rfl
  | _, _, .cons _ b => congrArg Nat.succ (DpAll.length b)
/-- isinstance's answers of data -/
def kIs (T k : Kd) : Bool := decide (k = T) || (decide (T = .int) && decide (k = .bl))
def isTy (T : Kd) (d : PyData) : Bool := kIs T (kd d)
theorem kit_k : ∀ T k : Kd, kitB (kdN k) (kdN T) = some (kIs T k) := by
  intro T k
  cases T <;> cases k <;> decide +kernel
theorem kit_d (K : PySem.W.Frag) (T : Kd) (d : PyData) : PySem.W.kitOne K (.type (tyn d)) (.type (kdN T)) = some (isTy T d) := kit_ty (kit_k T (kd d))
/-- a thing: data, or some object that is none of the five -/
inductive Th where
  | d (d : PyData)
  | o
def ThOk (K : PySem.W.Frag) (H : Hp) (v : V) : Th → Prop
  | .d d => Dp K H v d
  | .o => ∃ t, TyX K H v t ∧ ∀ T : Kd, PySem.W.kitOne K t (.type (kdN T)) = some false
def Th.is (T : Kd) : Th → Bool
  | Th.d x => isTy T x
  | Th.o => false
/-- its type and isinstance's answers -/
theorem ThOk.ty {K : PySem.W.Frag} {H : Hp} {v : V} {th : Th} (h : ThOk K H v th) : ∃ t, TyX K H v t ∧ ∀ T : Kd, PySem.W.kitOne K t (.type (kdN T)) = some (th.is T) := by
  cases th with
  | d d => exact ⟨_, Dp.ty h, fun T => kit_d K T d⟩
  | o => exact h
def isWholeT (th : Th) : Bool := th.is .int && !th.is .bl
def isWholeD : PyData → Bool
  | .int _ => true
  | _ => false
theorem isWholeT_d (d : PyData) : isWholeT (.d d) = isWholeD d := by cases d <;> rfl
def isValD : PyData → Bool
  | .tuple [.int a, .int b] => !decide (b < 1) && decide (cd a b = 1)
  | _ => false
def isValT : Th → Bool
  | Th.d x => isValD x
  | Th.o => false
end EL
namespace EL
open PySem PySem.Spec PyProof.Rows L2 He TL
/-! ### keywords alone -/
section
variable {K : PySem.W.Frag} {x qual : Str} {params : Arguments} {body : List Stmt} {scope : Scope} {dvs : List V} {kws : List (Str × V)} {f : Addr} {fd : FuncData} {ps : List Str}
theorem kbinds1 (F : FunD K x qual params body scope dvs kws f fd) (n : Nat) (ks : List Str) (g : {α : Type} → List α → List α → List α → List α) (hd : dvs ≠ [])
    (hrel : ∀ {vs ds zs : List V} {us its ws : List Value}, Vals vs us → Vals ds its → Vals zs ws → Vals (g vs ds zs) (g us its ws))
    (h : ∀ (T : Addr) (kV doc pm : Value) (an : Option Addr) (cdv ct : Value) (us its ws : List Value), us.length = n → its.length = dvs.length → ws.length = ks.length →
      ∃ k, bindArgs (PySem.W.fnOf x qual params body scope (.ref T) kV doc pm an cdv ct) ⟨us, ks.zip ws⟩ = seqItems? (.ref T) >>= k ∧ k (some its.toArray) = pure (ps.zip (g us its ws))) :
    ∃ its : List Value, KBn K fd ps n ks (fun us ws => g us its ws) (fun vs zs => g vs dvs zs) := by
  obtain ⟨oc, od, dV, kV, doc, pm, an, cdv, ct, osl, rfl, lk, hcd, hD, hK⟩ := F.ex
  rcases hD with ⟨e, _⟩ | ⟨_, T, o, its, m, rfl, lT, oT, rT⟩
  · exact absurd e hd
  · refine ⟨its, ⟨fun s us ws X h1 h2 => ?_, fun r rz => hrel r rT rz⟩⟩
    obtain ⟨k, e1, e2⟩ := h T kV doc pm an cdv ct us its ws h1 rT.length.symm h2
    refine BindsTo.of_looks fun M => ?_
    rw [e1]
    exact looks_items X lT oT (.of_pure e2)
end
section
variable {X : Cx} {CX : CXT} {k : Nat} {f : Addr} {fd : FuncData} {ps ks : List Str} {sp : Sp} {E : XK} {x : Str} {p pos : Pos} {kws : List Keyword} {tk : TA} {g : List Value → List Value → List Value} {gV : List V → List V → List V}
/-- f(k = v, ..) -/
theorem pe_callN0 (F : FnOk X.prog X.w X.K X.mg X.base CX k f fd ps sp) (hr : Room k X.A) (hg : Gl X x) (hm : X.mg x = some (.ref f)) (hk : PySem.W.keepIn X.K (.ref f) = true) (hb : KBn X.K fd ps 0 ks g gV) (hx : Passes CX X E)
    (hkw : PK X kws tk) (hall : (backToKw pos (keywordEach kws X.env)).all (·.1.isSome) = true := by rfl) (hks : (backToKw pos (keywordEach kws X.env)).filterMap (·.1) = ks := by rfl)
    (hdb : (x == ("__debug__" : Str)) = false := by decide) (hpl : ((backTo pos (starEach [] X.env)).any (·.1) || (backToKw pos (keywordEach kws X.env)).any (·.1.isNone)) = false := by rfl) :
    PE X (.Call (.Name x p) [] kws pos) (tCallN 0 ks.length sp gV E tNil tk) := by
  refine ⟨fun pins s σ H Q I h => ?_⟩
  refine wpAny_Call_Name_kw (ld_glob I hg hm ?_ hdb)
  refine PySem.W.callWith_KW0 (h₀ := X.base) I.ok.mod.kin hk hall ?_ hpl
  refine thn (hkw.run pos pins s σ H _ I h) fun ws s2 ⟨zs, H2, I2, rz, l1, l2, q2⟩ => ⟨I2.kIn, ?_⟩
  rw [hks]
  exact run_fnN (us := []) (vs := []) F hr hb hx I2 .nil rz rfl l2 q2
end
/-! ### texts of numbers -/
theorem str_nil (x : Str) : Str.empty ++ x = x := ext_tl (by rw [tl_append]; rfl)
theorem natDigits_len {n k : Nat} (hk : 0 < k) (h : n < 10 ^ k) : (numL n).length ≤ k := numL_len hk h
/-- the signs of an int -/
def intL (a : Int) : List Nat := if a < 0 then 45 :: numL a.natAbs else numL a.natAbs
theorem tl_int (a : Int) : tl (Str.ofString (toString a)) = intL a := by
  cases a with
  | ofNat n => exact tl_num n
  | negSucc n =>
    unfold intL
    rw [if_pos (by omega), tl_ofString]
    show ("-" ++ Nat.repr (n + 1)).toList.map Char.toNat = 45 :: numL (n + 1)
    rw [String.toList_append, List.map_append, Nat.toList_repr]
    rfl
theorem numL_len1000 {n : Nat} (h : n < 2 ^ 1000) : (numL n).length ≤ 1000 := numL_len (by decide) (Nat.lt_of_lt_of_le h (Nat.pow_le_pow_left (by decide) _))
theorem len_int {a : Int} (h : a.natAbs < 2 ^ 1000) : (Str.ofString (toString a)).length ≤ 1001 := by
  rw [len_tl, tl_int]
  have := numL_len1000 h
  unfold intL
  split
  · rw [List.length_cons]
    omega
  · omega
/-- what a text of digits is worth -/
def isDig (c : Nat) : Bool := decide (48 ≤ c) && decide (c ≤ 57)
def rdD (cs : List Nat) : Option Nat := if (1 ≤ cs.length ∧ cs.length ≤ 40) ∧ cs.all isDig = true ∧ ¬ (1 < cs.length ∧ cs.head? = some 48) then some (NumText.digitsVal cs) else none
def optV : Option Nat → V
  | none => .non
  | some n => .int n
/-- a text as value reads it -/
def rdP (cs : List Nat) : List Nat × Option (List Nat) := match par [47] [] cs with
  | none => (cs, none)
  | some (a, b) => (a, some b)
def rdB : Option (List Nat) → Option Nat
  | none => some 1
  | some u => match rdD u with
    | some b => if 2 ≤ b then some b else none
    | none => none
def rdF (below : Bool) : Option Nat → Option Nat → Option (Int × Int)
  | some b, some t => if (below && decide (t = 0)) || decide (Nat.gcd t b ≠ 1) then none else some (if below then -(t : Int) else (t : Int), (b : Int))
  | _, _ => none
def rdV (cs : List Nat) : Option (Int × Int) :=
  rdF (decide (cs.take 1 = [45])) (rdB (rdP (if decide (cs.take 1 = [45]) = true then cs.drop 1 else cs)).2) (rdD (rdP (if decide (cs.take 1 = [45]) = true then cs.drop 1 else cs)).1)
theorem par_split {s : Nat} : ∀ (cs acc a b : List Nat), par [s] acc cs = some (a, b) → acc ++ cs = a ++ s :: b
  | [], acc, a, b, h => by simp [par] at h
  | c :: r, acc, a, b, h => by
    by_cases e : c = s
    · subst e
      rw [par_hit (by simp [pre])] at h
      injection h with h
      injection h with h1 h2
      rw [← h1, ← h2]
      rfl
    · rw [par_miss (pre_of_head [] r e)] at h
      have := par_split r (acc ++ [c]) a b h
      rw [← this]
      simp
end EL
namespace EL
open PySem PySem.Spec PyProof.Rows L2 He TL
theorem tl_cut_to (z : Str) (k : Nat) : tl (cutS z none (some (k : Int))) = (tl z).take k := by
  show ((tl z).drop (HT.sIx z.length 0 none)).take (HT.sIx z.length z.length (some (k : Int)) - HT.sIx z.length 0 none) = (tl z).take k
  rw [HT.sIx_none, HT.sIx_nat, List.drop_zero, Nat.sub_zero, len_tl]
  by_cases h : k ≤ (tl z).length
  · rw [Nat.min_eq_left h]
  · rw [Nat.min_eq_right (by omega), List.take_length, List.take_of_length_le (by omega)]
theorem tl_cut_from (z : Str) (k : Nat) : tl (cutS z (some (k : Int)) none) = (tl z).drop k := by
  show ((tl z).drop (HT.sIx z.length 0 (some (k : Int)))).take (HT.sIx z.length z.length none - HT.sIx z.length 0 (some (k : Int))) = (tl z).drop k
  rw [HT.sIx_none, HT.sIx_nat, len_tl]
  by_cases h : k ≤ (tl z).length
  · rw [Nat.min_eq_left h, List.take_of_length_le (by rw [List.length_drop]; omega)]
  · rw [Nat.min_eq_right (by omega), List.drop_length, List.drop_of_length_le (by omega), List.take_nil]
theorem tl_digits : tl ("0123456789" : Str) = [48, 49, 50, 51, 52, 53, 54, 55, 56, 57] := by decide +kernel
theorem mem_digits (c : Nat) : decide (c ∈ tl ("0123456789" : Str)) = isDig c := by
  rw [tl_digits]
  unfold isDig
  rw [← Bool.decide_and]
  refine decide_eq_decide.mpr ?_
  simp only [List.mem_cons, List.not_mem_nil, or_false]
  omega
theorem str_one {c : Nat} {y : Str} {d : Nat} (hy : tl y = [d]) : decide (V.str ⟨#[c]⟩ = V.str y) = decide (c = d) := by
  refine decide_eq_decide.mpr ⟨fun e => ?_, fun e => ?_⟩
  · have e1 : (⟨#[c]⟩ : Str) = y := by injection e
    rw [← e1] at hy
    have h2 : [c] = [d] := hy
    injection h2
  · have e1 : (⟨#[c]⟩ : Str) = y := ext_tl (by rw [hy, e])
    rw [e1]
theorem allDigits_of {cs : List Nat} (h : cs.all isDig = true) : NumText.AllDigits cs := fun c hc => by
  have := List.all_eq_true.mp h c hc
  unfold isDig at this
  rw [Bool.and_eq_true, decide_eq_true_eq, decide_eq_true_eq] at this
  exact this
theorem str_eq_tl {x y : Str} : decide (V.str x = V.str y) = decide (tl x = tl y) := decide_eq_decide.mpr ⟨fun e => by injection e with e; rw [e], fun e => by rw [ext_tl e]⟩
/-- a statement, then the rest, with a word between them -/
def tMid (t u : TS) : TS := fun D σ H => ∃ Mid : L2.St → Hp → Prop, t { D with nx := Mid } σ H ∧ ∀ σ' H', Mid σ' H' → u D σ' H'
theorem pss_mid {X : Cx} {st : Stmt} {rest : List Stmt} {t u : TS} (h1 : PS X st t) (h2 : PSs X rest u) : PSs X (st :: rest) (tMid t u) := by
  refine ⟨fun pins s σ H D I h => ?_⟩
  obtain ⟨Mid, hm, hu⟩ := h
  refine wpAny_execs_cons (thn (h1.run pins s σ H { D with nx := Mid } I hm) fun f s1 q => ?_)
  cases f with
  | next =>
    obtain ⟨σ', H', I', q⟩ := q
    exact h2.run pins s1 σ' H' D I' (hu σ' H' q)
  | ret v => exact q
  | brk => exact q
  | cont => exact q
end EL
namespace EL
open PySem PySem.Spec PyProof.Rows L2 He TL
/-! ### more facts of K, as Bools -/
theorem exG {l : List Bool} {b : Bool} (m : l.all id = true) (i : Nat) (h : l[i]? = some b) : b = true := List.all_eq_true.mp m b (List.mem_of_getElem? h)
def excCB (K : PySem.W.Frag) (D : Addr) : Bool := eqO (PySem.W.findIn K (.ref D) "__getattribute__") (some (some (.builtin "BaseException.__getattribute__"))) && (eqO (PySem.W.findIn K (.ref D) "__getattr__") (some none) &&
  (decide (PySem.W.subIn K (.ref D) (.type "BaseException") = some true) && (PySem.W.hasDictIn K D && (eqO (PySem.W.findIn K (.ref D) "__class__") (some (some (.builtin "object.__class__"))) &&
  (eqO (PySem.W.specialIn K (.builtin "object.__class__") "__get__") (some (some (.builtin "getset_descriptor.__get__"))) && (decide (PySem.W.takesIn K (.builtin "object.__class__") = some true) && decide (PySem.W.mroIn K D (.type "object") = some true)))))))
theorem excCB_ok {K : PySem.W.Frag} {D : Addr} (h : excCB K D = true) : ExcC K D := by
  obtain ⟨h1, h⟩ := ba h
  obtain ⟨h2, h⟩ := ba h
  obtain ⟨h3, h⟩ := ba h
  obtain ⟨h4, h⟩ := ba h
  obtain ⟨h5, h⟩ := ba h
  obtain ⟨h6, h⟩ := ba h
  obtain ⟨h7, h8⟩ := ba h
  exact ⟨eqO_ok h1, eqO_ok h2, of_decide_eq_true h3, h4, eqO_ok h5, eqO_ok h6, of_decide_eq_true h7, of_decide_eq_true h8⟩
/-- isinstance(e, c), e the exception of the class at D that the suite holds -/
theorem call_isX {X : Cx} {a : Addr} {oe : Obj} {pn : List (Addr × Obj)} {cls : Value} {d : Option Addr} (D : Addr) (C : ExcC X.K D) (hz : Zc cls d oe) (hf : ∃ vs, oe.data = .fields vs) :
    CallR (X.suite a ((a, oe) :: pn)) (.builtin "isinstance") (fun xs H Q => cls = .ref D ∧ d = none ∧ rIsE X.K D a xs H Q) := by
  intro pins s σ H xs us Q I r h
  obtain ⟨rfl, rfl, h⟩ := h
  exact call_isE C hz hf pins s σ H xs us Q I r h
/-! ### the law's source of draws -/
/-- the list [cells, place, digits, state] -/
def Src (H : Hp) (p l : Addr) : Prop := ∃ (ns : List Int) (i : Nat) (c r : Int), H p = some (.lst [.ref l, .int i, .int c, .int r]) ∧ H l = some (.lst (ns.map V.int)) ∧ 0 ≤ c ∧ 0 ≤ r ∧ r < 2147483647
/-- all but p is as it was -/
def But (p : Addr) (H H' : Hp) : Prop := ∀ b o, H b = some o → b ≠ p → H' b = some o
theorem But.refl (p : Addr) (H : Hp) : But p H H := fun _ _ h _ => h
theorem But.trans {p : Addr} {H H1 H2 : Hp} (a : But p H H1) (b : But p H1 H2) : But p H H2 := fun c o h n => b c o (a c o h n) n
theorem But.of {p : Addr} {H H' : Hp} (s : Same H H') : But p H H' := fun b o h _ => s b o h
theorem but_upd {p : Addr} {H : Hp} {o : HO} : But p H (upd H p o) := fun b x h n => by rw [upd_ne n]; exact h
theorem Src.same {H H' : Hp} {p l : Addr} (s : Same H H') (h : Src H p l) : Src H' p l := by
  obtain ⟨ns, i, c, r, h1, h2, h3⟩ := h
  exact ⟨ns, i, c, r, s _ _ h1, s _ _ h2, h3⟩
theorem Src.lst {H : Hp} {p l : Addr} (h : Src H p l) : ∃ xs, H p = some (.lst xs) := by
  obtain ⟨ns, i, c, r, h1, _⟩ := h
  exact ⟨_, h1⟩
theorem Src.lst2 {H : Hp} {p l : Addr} (h : Src H p l) : ∃ xs, H l = some (.lst xs) := by
  obtain ⟨ns, i, c, r, h1, h2, _⟩ := h
  exact ⟨_, h2⟩
theorem Src.ne {H : Hp} {p l : Addr} (h : Src H p l) : l ≠ p := fun e => by
  obtain ⟨ns, i, c, r, h1, h2, _⟩ := h
  subst e
  rw [h1] at h2
  injection h2 with h2
  injection h2 with h2
  cases ns with
  | nil => cases h2
  | cons x r => injection h2 with h2; cases h2
/-- another thing changes -/
theorem Src.but {H H' : Hp} {p l x : Addr} (s : But x H H') (h : Src H p l) (h1 : p ≠ x) (h2 : l ≠ x) : Src H' p l := by
  obtain ⟨ns, i, c, r, k1, k2, h3⟩ := h
  exact ⟨ns, i, c, r, s _ _ k1 h1, s _ _ k2 h2, h3⟩
theorem But.seqT {K : PySem.W.Frag} {p a : Addr} {H H' : Hp} {xs : List V} (s : But p H H') (hp : ∃ ys, H p = some (.lst ys)) (h : SqT K H a xs) : SqT K H' a xs := by
  obtain ⟨ys, hp⟩ := hp
  rcases h with (h | ⟨o, h⟩) | h
  · exact .inl (.inl (s _ _ h (ne_of h hp (by intro z; cases z))))
  · exact .inl (.inr ⟨o, s _ _ h (ne_of h hp (by intro z; cases z))⟩)
  · exact .inr h
end EL
namespace EL
open PySem PySem.Spec PyProof.Rows L2 He TL
/-! ### a written value is read back -/
def txtV (a b : Int) : Str := if b = 1 then (toString a : String) else ((toString a : String) : Str) ++ "/" ++ ((toString b : String) : Str)
theorem numL_head {n : Nat} (h : 1 ≤ n) : (numL n).head? ≠ some 48 := by
  induction n using Nat.strongRecOn with
  | _ n ih =>
    by_cases h10 : n < 10
    · rw [numL_lt h10]
      intro e
      have e2 : 48 + n = 48 := Option.some.inj e
      omega
    · rw [numL_step (by omega)]
      have hh := ih (n / 10) (by omega) (by omega)
      cases hc : numL (n / 10) with
      | nil => exact absurd hc (numL_ne _)
      | cons x r =>
        rw [hc] at hh
        exact hh
theorem rdD_num {n : Nat} (h : n < 10 ^ 40) : rdD (numL n) = some n := by
  unfold rdD
  have hl : (numL n).length ≤ 40 := numL_len (by decide) h
  have h1 : 1 ≤ (numL n).length := by
    cases hc : numL n with
    | nil => exact absurd hc (numL_ne _)
    | cons x r => simp
  rw [if_pos, numL_val]
  refine ⟨⟨h1, hl⟩, ?_, ?_⟩
  · refine List.all_eq_true.mpr fun c hc => ?_
    have := numL_digits n c hc
    unfold isDig
    rw [Bool.and_eq_true, decide_eq_true_eq, decide_eq_true_eq]
    exact this
  · rintro ⟨h2, h3⟩
    by_cases h0 : n < 10
    · rw [numL_lt h0] at h2
      exact absurd h2 (Nat.lt_irrefl 1)
    · exact numL_head (by omega) h3
theorem tl_txtV (a b : Int) : tl (txtV a b) = if b = 1 then intL a else intL a ++ 47 :: intL b := by
  unfold txtV
  by_cases h : b = 1
  · rw [if_pos h, if_pos h]
    exact tl_int a
  · rw [if_neg h, if_neg h, tl_append, tl_append, tl_int, tl_int, show tl ("/" : Str) = [47] by decide +kernel, List.append_assoc]
    rfl
theorem numL_first (n : Nat) : (numL n).take 1 ≠ [45] := fun e => by
  have : (45 : Nat) ∈ (numL n).take 1 := by rw [e]; simp
  exact numL_free (n := n) (s := 45) (.inl (by decide)) (List.mem_of_mem_take this)
theorem numL_app_first (n : Nat) (r : List Nat) : (numL n ++ r).take 1 ≠ [45] := fun e => by
  cases hc : numL n with
  | nil => exact absurd hc (numL_ne _)
  | cons x q =>
    rw [hc] at e
    have := numL_first n
    rw [hc] at this
    exact this e
theorem rdP_num (n : Nat) : rdP (numL n) = (numL n, none) := by
  unfold rdP
  rw [par_none1 (numL_free (.inl (by decide)))]
theorem rdP_two (n m : Nat) : rdP (numL n ++ 47 :: numL m) = (numL n, some (numL m)) := by
  unfold rdP
  rw [show numL n ++ 47 :: numL m = numL n ++ ([47] ++ numL m) from rfl, par_part1 (numL_free (.inl (by decide)))]
  rfl
theorem rdV_txt {a b : Int} (h : Low a b) (ha : a.natAbs < 10 ^ 40) (hb : b.natAbs < 10 ^ 40) : rdV (tl (txtV a b)) = some (a, b) := by
  obtain ⟨hb0, hg⟩ := h
  have hg' : Nat.gcd a.natAbs b.natAbs = 1 := by unfold cd at hg; omega
  have hbL : intL b = numL b.natAbs := by
    unfold intL
    rw [if_neg (by omega)]
  -- the body behind the sign, by its parts
  have body : ∀ cs : List Nat, cs = (if b = 1 then numL a.natAbs else numL a.natAbs ++ 47 :: numL b.natAbs) → rdB (rdP cs).2 = some b.natAbs ∧ rdD (rdP cs).1 = some a.natAbs := by
    intro cs hcs
    by_cases h1 : b = 1
    · rw [if_pos h1] at hcs
      rw [hcs, rdP_num]
      refine ⟨?_, rdD_num ha⟩
      rw [h1]
      rfl
    · rw [if_neg h1] at hcs
      rw [hcs, rdP_two]
      refine ⟨?_, rdD_num ha⟩
      simp only [rdB, rdD_num hb]
      exact if_pos (by omega)
  rw [tl_txtV]
  unfold rdV
  by_cases hn : a < 0
  · have e : (if b = 1 then intL a else intL a ++ 47 :: intL b) = 45 :: (if b = 1 then numL a.natAbs else numL a.natAbs ++ 47 :: numL b.natAbs) := by
      unfold intL
      rw [if_pos hn, if_neg (show ¬ b < 0 by omega)]
      split <;> rfl
    rw [e]
    obtain ⟨e1, e2⟩ := body _ rfl
    rw [show decide ((45 :: (if b = 1 then numL a.natAbs else numL a.natAbs ++ 47 :: numL b.natAbs)).take 1 = [45]) = true from rfl, if_pos rfl, List.drop_one, List.tail_cons, e1, e2]
    show (if (true && decide (a.natAbs = 0) || decide (Nat.gcd a.natAbs b.natAbs ≠ 1)) = true then none else some (-(a.natAbs : Int), (b.natAbs : Int))) = _
    rw [if_neg]
    · rw [show -(a.natAbs : Int) = a by omega, show (b.natAbs : Int) = b by omega]
    · rw [decide_eq_false (show ¬ a.natAbs = 0 by omega), Bool.and_false, Bool.false_or]
      exact fun z => of_decide_eq_true z hg'
  · have e : (if b = 1 then intL a else intL a ++ 47 :: intL b) = (if b = 1 then numL a.natAbs else numL a.natAbs ++ 47 :: numL b.natAbs) := by
      unfold intL
      rw [if_neg hn, if_neg (show ¬ b < 0 by omega)]
    rw [e]
    have hf : (if b = 1 then numL a.natAbs else numL a.natAbs ++ 47 :: numL b.natAbs).take 1 ≠ [45] := by
      split
      · exact numL_first _
      · exact numL_app_first _ _
    obtain ⟨e1, e2⟩ := body _ rfl
    rw [decide_eq_false hf, if_neg Bool.false_ne_true, e1, e2]
    show (if (false && decide (a.natAbs = 0) || decide (Nat.gcd a.natAbs b.natAbs ≠ 1)) = true then none else some ((a.natAbs : Int), (b.natAbs : Int))) = _
    rw [if_neg]
    · rw [show (a.natAbs : Int) = a by omega, show (b.natAbs : Int) = b by omega]
    · rw [Bool.false_and, Bool.false_or]
      exact fun z => of_decide_eq_true z hg'
theorem nrm_abs (t b : Int) : (nrm t b).1.natAbs ≤ t.natAbs ∧ (nrm t b).2.natAbs ≤ b.natAbs := by
  have k : ∀ x g : Int, g ∣ x → (x / g).natAbs ≤ x.natAbs := fun x g h => by
    rw [Int.natAbs_ediv_of_dvd h]
    exact Nat.div_le_self _ _
  unfold nrm
  split
  · have h1 := k (-t) _ (cd_dvd_l (-t) (-b))
    have h2 := k (-b) _ (cd_dvd_r (-t) (-b))
    rw [Int.natAbs_neg] at h1 h2
    exact ⟨h1, h2⟩
  · exact ⟨k t _ (cd_dvd_l t b), k b _ (cd_dvd_r t b)⟩
theorem nrm_neg {t b : Int} (h : b < 0) : nrm (-t) (-b) = nrm t b := by
  unfold nrm
  rw [if_pos h, if_neg (by omega)]
end EL
namespace EL
open PySem PySem.Spec PyProof.Rows L2 He TL
/-! ### texts of values, the other way about -/
theorem digitsVal_snoc' (cs : List Nat) (d : Nat) : NumText.digitsVal (cs ++ [d]) = NumText.digitsVal cs * 10 + (d - 48) := by
  unfold NumText.digitsVal
  rw [List.foldl_append]
  rfl
theorem snoc_of {cs : List Nat} (h : cs ≠ []) : ∃ i d, cs = i ++ [d] := ⟨cs.dropLast, cs.getLast h, (List.dropLast_concat_getLast h).symm⟩
theorem numL_back : ∀ (k : Nat) (cs : List Nat), cs.length = k → cs ≠ [] → cs.all isDig = true → ¬ (1 < cs.length ∧ cs.head? = some 48) → numL (NumText.digitsVal cs) = cs ∧ (cs.head? ≠ some 48 → 1 ≤ NumText.digitsVal cs)
  | 0, cs, hk, hne, _, _ => absurd (List.length_eq_zero_iff.mp hk) hne
  | k + 1, cs, hk, hne, ha, hz => by
    obtain ⟨i, d, rfl⟩ := snoc_of hne
    rw [List.all_append, Bool.and_eq_true] at ha
    have hd : 48 ≤ d ∧ d ≤ 57 := by
      have := ha.2
      simp only [List.all_cons, List.all_nil, Bool.and_true, isDig, Bool.and_eq_true, decide_eq_true_eq] at this
      exact this
    rw [digitsVal_snoc']
    cases hi : i with
    | nil =>
      have e : NumText.digitsVal [] = 0 := rfl
      rw [e, Nat.zero_mul, Nat.zero_add, numL_lt (by omega)]
      refine ⟨?_, fun hh => ?_⟩
      · show [48 + (d - 48)] = [d]
        rw [show 48 + (d - 48) = d by omega]
      · have : d ≠ 48 := fun z => hh (by rw [z]; rfl)
        omega
    | cons x r =>
      have hl : i.length = k := by
        rw [List.length_append, List.length_singleton] at hk
        omega
      have hh : (i ++ [d]).head? = i.head? := by rw [hi]; rfl
      have h48 : i.head? ≠ some 48 := fun z => hz ⟨by rw [List.length_append, hi]; simp, by rw [hh]; exact z⟩
      obtain ⟨e1, e2⟩ := numL_back k i hl (by rw [hi]; simp) ha.1 (fun z => h48 z.2)
      have e3 := e2 h48
      rw [← hi]
      refine ⟨?_, fun _ => by omega⟩
      rw [numL_step (by omega), show (NumText.digitsVal i * 10 + (d - 48)) / 10 = NumText.digitsVal i by omega, show (NumText.digitsVal i * 10 + (d - 48)) % 10 = d - 48 by omega, e1, show 48 + (d - 48) = d by omega]
theorem rdD_inv {cs : List Nat} {n : Nat} (h : rdD cs = some n) : cs = numL n ∧ n < 10 ^ 40 := by
  unfold rdD at h
  split at h
  · rename_i c
    injection h with h
    have hne : cs ≠ [] := fun e => by rw [e] at c; exact absurd c.1.1 (by decide)
    have e := (numL_back cs.length cs rfl hne c.2.1 c.2.2).1
    rw [h] at e
    refine ⟨e.symm, ?_⟩
    have hl : (numL n).length ≤ 40 := by rw [e]; exact c.1.2
    exact Nat.lt_of_not_le fun hge => by
      have : ∀ (k m : Nat), 10 ^ k ≤ m → k + 1 ≤ (numL m).length := by
        intro k
        induction k with
        | zero =>
          intro m _
          cases hm : numL m with
          | nil => exact absurd hm (numL_ne _)
          | cons x r => simp
        | succ k ih =>
          intro m hm
          have h10 : 10 ≤ m := Nat.le_trans (by rw [Nat.pow_succ]; have : 0 < 10 ^ k := Nat.pow_pos (by decide); omega) hm
          rw [numL_step h10, List.length_append]
          have := ih (m / 10) ((Nat.le_div_iff_mul_le (by decide)).mpr (by rw [Nat.pow_succ] at hm; exact hm))
          simp only [List.length_singleton]
          omega
      have := this 40 n hge
      omega
  · cases h
theorem spl_par {s : Nat} : ∀ (cs acc : List Nat), spl [s] 0 acc cs = (match par [s] acc cs with | none => [acc ++ cs] | some (a, b) => a :: spl [s] 0 [] b)
  | [], acc => by
    rw [spl_nil]
    simp [par]
  | c :: r, acc => by
    by_cases e : c = s
    · subst e
      rw [spl_hit (by simp [pre]), par_hit (by simp [pre])]
      rfl
    · rw [spl_miss (pre_of_head [] r e), par_miss (pre_of_head [] r e), spl_par r (acc ++ [c])]
      cases par [s] (acc ++ [c]) r with
      | none => simp
      | some ab => rfl
theorem par_some {s : Nat} : ∀ (cs acc : List Nat), s ∈ cs → ∃ a b, par [s] acc cs = some (a, b)
  | [], _, h => by cases h
  | c :: r, acc, h => by
    by_cases e : c = s
    · subst e
      exact ⟨acc, r, by rw [par_hit (by simp [pre])]; rfl⟩
    · rw [par_miss (pre_of_head [] r e)]
      exact par_some r _ (by
        rcases List.mem_cons.mp h with z | z
        · exact absurd z.symm e
        · exact z)
theorem rdD_free {cs : List Nat} (h : 47 ∈ cs) : rdD cs = none := by
  unfold rdD
  refine if_neg fun c => ?_
  have := List.all_eq_true.mp c.2.1 47 h
  exact absurd this (by decide)
/-- what read_value takes, text_of writes -/
theorem rdV_inv {cs : List Nat} {a b : Int} (h : rdV cs = some (a, b)) : tl (txtV a b) = cs ∧ Low a b ∧ a.natAbs < 10 ^ 40 ∧ b.natAbs < 10 ^ 40 := by
  unfold rdV at h
  generalize hbd : (if decide (cs.take 1 = [45]) = true then cs.drop 1 else cs) = bd at h
  cases hB : rdB (rdP bd).2 with
  | none =>
    rw [hB] at h
    cases h
  | some n =>
    cases hD : rdD (rdP bd).1 with
    | none =>
      rw [hB, hD] at h
      cases h
    | some m =>
      rw [hB, hD] at h
      generalize hbl : decide (cs.take 1 = [45]) = below at *
      have h' : (if (below && decide (m = 0) || decide (Nat.gcd m n ≠ 1)) = true then none else some (if below then -(m : Int) else (m : Int), (n : Int))) = some (a, b) := h
      split at h'
      · cases h'
      · rename_i c
        injection h' with h'
        injection h' with ea eb
        have hg : Nat.gcd m n = 1 := by
          cases hd : decide (Nat.gcd m n ≠ 1) with
          | true => rw [hd, Bool.or_true] at c; exact absurd rfl c
          | false => exact Decidable.not_not.mp (of_decide_eq_false hd)
        have hbz : below = true → m ≠ 0 := fun hb z => by
          rw [hb, z] at c
          exact c rfl
        obtain ⟨e1, m40⟩ := rdD_inv hD
        -- the body
        have body : bd = (if n = 1 then numL m else numL m ++ 47 :: numL n) ∧ 1 ≤ n ∧ n < 10 ^ 40 := by
          unfold rdP at hB e1
          cases hp : par [47] [] bd with
          | none =>
            rw [hp] at hB e1
            have en : 1 = n := Option.some.inj hB
            rw [if_pos en.symm]
            exact ⟨e1, by omega, by rw [← en]; decide⟩
          | some xy =>
            obtain ⟨x, y⟩ := xy
            rw [hp] at hB e1
            have hB' : (match rdD y with | some b => if 2 ≤ b then some b else none | none => none) = some n := hB
            cases hy : rdD y with
            | none =>
              rw [hy] at hB'
              cases hB'
            | some k =>
              rw [hy] at hB'
              have hB2 : (if 2 ≤ k then some k else none) = some n := hB'
              split at hB2
              · injection hB2 with hk
                subst hk
                obtain ⟨e2, k40⟩ := rdD_inv hy
                rw [if_neg (by omega)]
                have e3 : x = numL m := e1
                refine ⟨?_, by omega, k40⟩
                rw [← e3, ← e2]
                exact (par_split _ _ _ _ hp)
              · cases hB2
        obtain ⟨hbody, hn1, n40⟩ := body
        have hcs : cs = if below = true then 45 :: bd else bd := by
          cases below with
          | true =>
            have ht := of_decide_eq_true hbl
            rw [if_pos rfl] at hbd ⊢
            rw [← hbd, ← List.singleton_append, ← ht, List.take_append_drop]
          | false =>
            rw [if_neg Bool.false_ne_true] at hbd ⊢
            exact hbd
        have ebn : b.natAbs = n := by omega
        have eam : a.natAbs = m := by
          rw [← ea]
          split <;> omega
        refine ⟨?_, ⟨by omega, ?_⟩, by omega, by omega⟩
        · rw [tl_txtV, hcs, hbody]
          have hb1 : (b = 1) ↔ (n = 1) := by omega
          have hib : intL b = numL n := by
            unfold intL
            rw [if_neg (by omega), ebn]
          have hia : intL a = if below = true then 45 :: numL m else numL m := by
            unfold intL
            rw [eam]
            cases hbe : below with
            | true =>
              rw [hbe] at ea hbz
              have hm := hbz rfl
              rw [if_pos rfl] at ea ⊢
              rw [if_pos (by omega)]
            | false =>
              rw [hbe] at ea
              rw [if_neg Bool.false_ne_true] at ea ⊢
              rw [if_neg (by omega)]
          rw [hia, hib]
          by_cases h1 : n = 1
          · rw [if_pos h1, if_pos (hb1.mpr h1)]
          · rw [if_neg h1, if_neg (fun z => h1 (hb1.mp z))]
            cases below <;> rfl
        · unfold cd
          rw [eam, ebn, hg]
          rfl
theorem call_str_bool {X : Cx} : CallR X (.type "str") (fun xs H Q => ∃ b : Bool, xs = [.bl b] ∧ Q (.str (if b then "True" else "False")) H) := by
  intro pins s σ H xs us Q I r h
  obtain ⟨b, rfl, q⟩ := h
  obtain ⟨u, rfl, ru⟩ := vals1 r
  cases ru
  exact PySem.P.str_of_bool ⟨.str _, H, I.tok _, ⟨_, rfl⟩, q⟩
end EL
namespace EL
open PySem PySem.Spec PyProof.Rows L2 He TL ClX
/-! ### the head with defs at any address -/
def fnWA (K : PySem.W.Frag) (a : Addr) : FnW := match K.lookup a with
  | some ⟨_, _, .func fd, _⟩ => some (fd.name, fd.qualname, fd.params, fd.body, fd.scope, fd.globals, fd.closure, fd.builtins)
  | _ => none
structure DefE where
  ad : PySem.W.Frag → Addr
  name : Str
  qual : Str
  params : Arguments
  body : List Stmt
  scope : Scope
  dfl : List Dv := []
def DefE.val (d : DefE) : FnW := some (d.name, d.qual, d.params, .stmts d.body, d.scope, mainGlobals, [], builtinsNs)
def DefE.dvs (K : PySem.W.Frag) (d : DefE) : List V := d.dfl.map (Dv.v K)
def DefE.ok (K : PySem.W.Frag) (d : DefE) : Bool := PySem.W.keepIn K (.ref (d.ad K)) && (match K.lookup (d.ad K) with
  | some ⟨_, _, .func fd, _⟩ => PySem.W.codeIn K fd.code d.qual && dflB K fd.defaults (d.dvs K)
  | _ => false)
theorem DefE.funD {K : PySem.W.Frag} {d : DefE} (e : fnWA K (d.ad K) = d.val) (c : d.ok K = true) : ∃ fd, FunD K d.name d.qual d.params d.body d.scope (d.dvs K) [] (d.ad K) fd := by
  obtain ⟨kp, c2⟩ := ba c
  unfold fnWA at e
  cases q : K.lookup (d.ad K) with
  | none =>
    rw [q] at c2
    cases c2
  | some o =>
    obtain ⟨oc, od, dt, osl⟩ := o
    rw [q] at c2 e
    cases dt with
    | func fd =>
      obtain ⟨n1, n2, n3, n4, n5, n6, n7, n8, n9, n10, n11, n12, n13, n14, n15⟩ := fd
      have e2 : (some (n1, n2, n3, n4, n5, n6, n7, n15) : FnW) = some (d.name, d.qual, d.params, .stmts d.body, d.scope, mainGlobals, [], builtinsNs) := e
      simp only [Option.some.injEq, Prod.mk.injEq] at e2
      obtain ⟨h1, h2, h3, h4, h5, h6, h7, h8⟩ := e2
      subst h1 h2 h3 h4 h5 h6 h7 h8
      have c3 : (PySem.W.codeIn K n13 d.qual && dflB K n8 (d.dvs K)) = true := c2
      obtain ⟨k1, k3⟩ := ba c3
      exact ⟨_, ⟨oc, od, n8, n9, n10, n11, n12, n13, n14, osl, rfl, q, k1, dflB_ok k3, .inl rfl⟩, kp⟩
    | _ => cases c2
def obsE (fa : List Fa) (fn : List DefE) (ex : PySem.W.Frag → Bool) (K : PySem.W.Frag) : AlM := (((fa.all fun f => f.ok K) && fn.all fun d => d.ok K, fn.map fun d => fnWA K (d.ad K)), ex K)
def obsEG (n : Nat) (fa : List Fa) (fn : List DefE) (ex : PySem.W.Frag → Bool) (g : Addr → Option Obj) : AlM := obsE fa fn ex (frG g (He5.asA g n))
def valE (fn : List DefE) : AlM := ((true, fn.map DefE.val), true)
def SaysE (fa : List Fa) (fn : List DefE) (ex : PySem.W.Frag → Bool) (K : PySem.W.Frag) : Prop := obsE fa fn ex K = valE fn
def hookE (n : Nat) (fa : List Fa) (fn : List DefE) (ex : PySem.W.Frag → Bool) : PySem.W.Hook where
  α := AlM
  obs := fun s => obsEG n fa fn ex s.heap.get?
  val := fun _ => valE fn
  says := fun _ h => ∃ K : PySem.W.Frag, K.In h ∧ SaysE fa fn ex K
  of := fun _ _ e => ⟨_, frG_in, e⟩
  keeps := fun _ _ _ ⟨K, hK, c⟩ k => ⟨K, PySem.W.Frag.In.keeps hK k, c⟩
theorem obsEG_eq {n : Nat} {fa : List Fa} {fn : List DefE} {ex : PySem.W.Frag → Bool} {g : Addr → Option Obj} {s : Shared} (h : ∀ a, g a = s.heap.get? a) : obsEG n fa fn ex g = (hookE n fa fn ex).obs s := by
  have e : g = s.heap.get? := funext h
  rw [e] <;> rfl
section
variable {fa : List Fa} {fn : List DefE} {ex : PySem.W.Frag → Bool} {K : PySem.W.Frag}
theorem SaysE.fact (c : SaysE fa fn ex K) (i : Nat) {f : Fa} (h : fa[i]? = some f := by rfl) : f.ok K = true := by
  have c1 := (ba (show ((fa.all fun f => f.ok K) && fn.all fun d => d.ok K) = true from congrArg (fun z : AlM => z.1.1) c)).1
  exact List.all_eq_true.mp c1 f (List.mem_of_getElem? h)
theorem SaysE.ex_ (c : SaysE fa fn ex K) : ex K = true := congrArg (fun z : AlM => z.2) c
theorem SaysE.def_ (c : SaysE fa fn ex K) (i : Nat) {d : DefE} (h : fn[i]? = some d := by rfl) : ∃ fd, FunD K d.name d.qual d.params d.body d.scope (d.dvs K) [] (d.ad K) fd := by
  have c2 := (ba (show ((fa.all fun f => f.ok K) && fn.all fun d => d.ok K) = true from congrArg (fun z : AlM => z.1.1) c)).2
  have e : fn.map (fun d => fnWA K (d.ad K)) = fn.map DefE.val := congrArg (fun z : AlM => z.1.2) c
  have e2 : (fn.map fun d => fnWA K (d.ad K))[i]? = (fn.map DefE.val)[i]? := by rw [e]
  rw [List.getElem?_map, List.getElem?_map, h] at e2
  exact DefE.funD (Option.some.inj e2) (List.all_eq_true.mp c2 d (List.mem_of_getElem? h))
end
/-! ### own classes -/
def kdL : List Kd := [.non, .bl, .int, .str, .lst, .tup, .dct]
theorem kdL_all (T : Kd) : T ∈ kdL := by cases T <;> decide
/-- what of the text an own class has -/
structure OC (K : PySem.W.Frag) (C : Addr) : Prop where
  cl : Cls K C
  ca : PySem.W.findIn K (.ref C) "__class__" = some (some (.builtin "object.__class__"))
  hn : PySem.W.specialIn K (.builtin "object.__class__") "__get__" = some (some (.builtin "getset_descriptor.__get__"))
  tk : PySem.W.takesIn K (.builtin "object.__class__") = some true
  ob : PySem.W.mroIn K C (.type "object") = some true
  to : ∀ T : Kd, PySem.W.kitOne K (.ref C) (.type (kdN T)) = some false
  of : ∀ T : Kd, PySem.W.kitOne K (.type (kdN T)) (.ref C) = some false
  self : PySem.W.kitOne K (.ref C) (.ref C) = some true
def ocB (K : PySem.W.Frag) (C : Addr) : Bool := (PySem.W.plainGet K C Str.empty && (PySem.W.hasDictIn K C && (PySem.W.plainOver K C && eqO (PySem.W.findIn K (.ref C) "__setattr__") (some (some (.builtin "object.__setattr__")))))) &&
  (eqO (PySem.W.findIn K (.ref C) "__class__") (some (some (.builtin "object.__class__"))) && (eqO (PySem.W.specialIn K (.builtin "object.__class__") "__get__") (some (some (.builtin "getset_descriptor.__get__"))) &&
  (decide (PySem.W.takesIn K (.builtin "object.__class__") = some true) && (decide (PySem.W.mroIn K C (.type "object") = some true) && ((kdL.all fun T => decide (PySem.W.kitOne K (.ref C) (.type (kdN T)) = some false)) &&
  ((kdL.all fun T => decide (PySem.W.kitOne K (.type (kdN T)) (.ref C) = some false)) && decide (PySem.W.kitOne K (.ref C) (.ref C) = some true)))))))
theorem ocB_ok {K : PySem.W.Frag} {C : Addr} (h : ocB K C = true) : OC K C := by
  obtain ⟨h1, h⟩ := ba h
  obtain ⟨a1, h1⟩ := ba h1
  obtain ⟨a2, h1⟩ := ba h1
  obtain ⟨a3, a4⟩ := ba h1
  obtain ⟨h2, h⟩ := ba h
  obtain ⟨h3, h⟩ := ba h
  obtain ⟨h4, h⟩ := ba h
  obtain ⟨h5, h⟩ := ba h
  obtain ⟨h6, h⟩ := ba h
  obtain ⟨h7, h8⟩ := ba h
  exact ⟨⟨a1, a2, a3, eqO_ok a4⟩, eqO_ok h2, eqO_ok h3, of_decide_eq_true h4, of_decide_eq_true h5, fun T => of_decide_eq_true (List.all_eq_true.mp h6 T (kdL_all T)), fun T => of_decide_eq_true (List.all_eq_true.mp h7 T (kdL_all T)), of_decide_eq_true h8⟩
theorem OC.ty {K : PySem.W.Frag} {C : Addr} (c : OC K C) {H : Hp} {a dx : Addr} {fs : List (Str × V)} (h : H a = some (.ins C dx fs)) : TyX K H (.ref a) (.ref C) := .base (.ins h c.cl c.ca c.hn c.tk c.ob)
/-- an instance as a thing -/
theorem OC.th {K : PySem.W.Frag} {C : Addr} (c : OC K C) {H : Hp} {a dx : Addr} {fs : List (Str × V)} (h : H a = some (.ins C dx fs)) : ThOk K H (.ref a) .o := ⟨.ref C, c.ty h, c.to⟩
theorem OC.isD {K : PySem.W.Frag} {C : Addr} (c : OC K C) (d : PyData) : PySem.W.kitOne K (.type (tyn d)) (.ref C) = some false := c.of (kd d)
/-! ### calls of methods, of static methods; making -/
def tMethE (C : Addr) (m : Str) (sp : Sp) (E : L2.St → XK) (ta : TE) (t : TA) : TE := fun σ H Q => ta σ H fun x H1 => ∃ a dx fs, x = .ref a ∧ H1 a = some (.ins C dx fs) ∧ fs.lookup m = none ∧ t σ H1 fun vs H2 => sp (x :: vs) H2 Q (E σ)
def tMakeE (C : Addr) (sp : Sp) (E : L2.St → XK) (t : TA) : TE := fun σ H Q => t σ H fun vs H1 => ∀ x dx, H1 x = Option.none → H1 dx = Option.none → dx ≠ x →
  sp (V.ref x :: vs) (upd (upd H1 dx (.own x)) x (.ins C dx [])) (fun v H2 => v = .non ∧ Q (.ref x) H2) (E σ)
def tSm (C : Addr) (sp : Sp) (E : L2.St → XK) (ta : TE) (t : TA) : TE := fun σ H Q => ta σ H fun x H1 => x = .ref C ∧ t σ H1 fun vs H2 => sp vs H2 Q (E σ)
structure Sm (K : PySem.W.Frag) (C : Addr) (m : Str) (f : Addr) : Prop where
  rd : CRead K C (.type "type")
  at_ : ∃ p, PySem.W.findCls K (.ref C) (.type "type") m = some (.get (.builtin "staticmethod.__get__") (.ref p) .none (.ref C)) ∧ ∃ rest, PySem.W.recIn K p "staticmethod" = some (.ref f :: rest)
  kp : PySem.W.keepIn K (.ref f) = true
def smB (K : PySem.W.Frag) (C : Addr) (m : Str) : Bool := PySem.W.readsIn K C (.type "type") && (eqO (PySem.W.specialIn K (.ref C) "__getattribute__") (some (some (.builtin "type.__getattribute__"))) &&
  (He5.wrapB K C "staticmethod" "staticmethod.__get__" m && PySem.W.keepIn K (.ref (He5.wf K C "staticmethod" m))))
theorem smB_ok {K : PySem.W.Frag} {C : Addr} {m : Str} (h : smB K C m = true) : Sm K C m (He5.wf K C "staticmethod" m) := by
  obtain ⟨h1, h⟩ := ba h
  obtain ⟨h2, h⟩ := ba h
  obtain ⟨h3, h4⟩ := ba h
  obtain ⟨k1, k2⟩ := He5.wrapB_ok h3
  exact ⟨⟨h1, eqO_ok h2⟩, ⟨_, k1, k2⟩, h4⟩
section
variable {X : Cx} {CX : CXT} {k : Nat} {C f : Addr} {m x : Str} {sp : Sp} {E : L2.St → XK} {o e : Expr} {es : List Expr} {ta : TE} {t : TA} {p apos pos : Pos} {pl : Sem Bool}
theorem pe_methE (he : PE X o ta) (c : Cls X.K C) (hm : Meth X.K C m f) (F : FnR X.prog X.w X.K X.mg X.base CX k f sp) (hr : Room k X.A) (hx : ∀ σ, PassesAt CX X σ (E σ)) (ha : PA X (e :: es) t)
    (hst : starEach (e :: es) X.env = (false, eval e X.env) :: starEach es X.env := by rfl) (hpl : (backTo pos (starEach es X.env)).any (·.1) = false := by rfl)
    (ht : eval (.Call (.Attribute o m apos) (e :: es) [] pos) X.env = (do
      let ov ← eval o X.env
      standAt apos.atName
      let (f, first) ← holding [ov] (getMethod ov m pl)
      callWith pos f first (backTo pos (starEach (e :: es) X.env)) (backToKw pos (keywordEach [] X.env))) := by rfl) :
    PE X (.Call (.Attribute o m apos) (e :: es) [] pos) (tMethE C m sp E ta t) := by
  refine ⟨fun pins s σ H Q I h => ?_⟩
  refine PySem.W.methodCall_KW (pl := pl) (thn (he.run pins s σ H _ I h) fun u s1 ⟨x, H1, I1, rx, a, dx, fs, ex, ea, l, q⟩ => ?_) ht
  subst ex
  obtain rfl : u = Value.ref a := rx
  refine getmeth_ok I1 ea c hm l ?_
  refine PySem.W.callWith_K (first := [.ref a]) (h₀ := X.base) I.ok.mod.kin hm.kp (thn (ha.run pos pins s1 σ H1 _ I1 q) fun us s2 ⟨vs, H2, I2, r, q2⟩ => ⟨I2.kIn, ?_⟩) hst hpl
  exact run_fnRS (us := .ref a :: us) (vs := .ref a :: vs) F hr (hx σ) I2 (.cons rfl r) q2
theorem pe_methE0 (he : PE X o ta) (c : Cls X.K C) (hm : Meth X.K C m f) (F : FnR X.prog X.w X.K X.mg X.base CX k f sp) (hr : Room k X.A) (hx : ∀ σ, PassesAt CX X σ (E σ))
    (ht : eval (.Call (.Attribute o m apos) [] [] pos) X.env = (do
      let ov ← eval o X.env
      standAt apos.atName
      let (f, first) ← holding [ov] (getMethod ov m pl)
      callWith pos f first (backTo pos (starEach [] X.env)) (backToKw pos (keywordEach [] X.env))) := by rfl) :
    PE X (.Call (.Attribute o m apos) [] [] pos) (tMethE C m sp E ta tNil) := by
  refine ⟨fun pins s σ H Q I h => ?_⟩
  refine PySem.W.methodCall_KW (pl := pl) (thn (he.run pins s σ H _ I h) fun u s1 ⟨x, H1, I1, rx, a, dx, fs, ex, ea, l, q⟩ => ?_) ht
  subst ex
  obtain rfl : u = Value.ref a := rx
  refine getmeth_ok I1 ea c hm l ?_
  exact PySem.W.callWith_K0 (first := [.ref a]) I1.kIn hm.kp (run_fnRS (us := [.ref a]) (vs := [.ref a]) F hr (hx σ) I1 (.cons rfl .nil) q)
theorem pe_smE (he : PE X o ta) (c : Sm X.K C m f) (F : FnR X.prog X.w X.K X.mg X.base CX k f sp) (hr : Room k X.A) (hx : ∀ σ, PassesAt CX X σ (E σ)) (ha : PA X (e :: es) t)
    (hst : starEach (e :: es) X.env = (false, eval e X.env) :: starEach es X.env := by rfl) (hpl : (backTo pos (starEach es X.env)).any (·.1) = false := by rfl)
    (ht : eval (.Call (.Attribute o m apos) (e :: es) [] pos) X.env = (do
      let ov ← eval o X.env
      standAt apos.atName
      let (f, first) ← holding [ov] (getMethod ov m pl)
      callWith pos f first (backTo pos (starEach (e :: es) X.env)) (backToKw pos (keywordEach [] X.env))) := by rfl) :
    PE X (.Call (.Attribute o m apos) (e :: es) [] pos) (tSm C sp E ta t) := by
  refine ⟨fun pins s σ H Q I h => ?_⟩
  refine PySem.W.methodCall_KW (pl := pl) (thn (he.run pins s σ H _ I h) fun u s1 ⟨x, H1, I1, rx, ex, q⟩ => ?_) ht
  subst ex
  obtain rfl : u = Value.ref C := rx
  obtain ⟨pa, h1, rest, h2⟩ := c.at_
  refine PySem.W.method_cls I1.kIn c.rd.ga (PySem.W.cls_bind I1.kIn c.rd.rd h1 ?_)
  refine wpAny_call (PySem.W.sm_get (s := { s1 with toks := s1.toks + 1 }) I1.kIn h2 (PySem.W.handed_on rfl ?_))
  have I2 := I1.tok (s1.toks + 1)
  refine PySem.W.callWith_K (first := []) (h₀ := X.base) I.ok.mod.kin c.kp (thn (ha.run pos pins _ σ H1 _ I2 q) fun us s2 ⟨vs, H2, I3, r, q2⟩ => ⟨I3.kIn, ?_⟩) hst hpl
  exact run_fnRS (us := us) (vs := vs) F hr (hx σ) I3 r q2
theorem run_makeE {pins : List (Addr × Obj)} {σ : L2.St} {H : Hp} {s : Shared} {Q : VK} {us : List Value} {vs : List V} (M : Mk X.K C f) (F : FnR X.prog X.w X.K X.mg X.base CX k f sp) (hr : Room (k + 1) X.A) (hx : PassesAt CX X σ (E σ)) (I : Inv X pins σ H s) (r : Vals vs us)
    (h : ∀ x dx, H x = Option.none → H dx = Option.none → dx ≠ x → sp (V.ref x :: vs) (upd (upd H dx (.own x)) x (.ins C dx [])) (fun v H2 => v = .non ∧ Q (.ref x) H2) (E σ)) :
    wpAny (model X.prog X.w) X.A (call (.ref C) us) (EP X pins σ Q) X.xe s := by
  have hq := h (s.heap.objs.size + 1) s.heap.objs.size (I.hok.fresh (Nat.le_succ _)) (I.hok.fresh (Nat.le_refl _)) (Nat.ne_of_lt (Nat.lt_succ_self _))
  have I2 := Inv.made (C := C) I
  have r2 : Vals (V.ref (s.heap.objs.size + 1) :: vs) (Value.ref (s.heap.objs.size + 1) :: us) := .cons rfl r
  refine wpAny_call (make_map (f := f) I.kIn M.makes M.init (beq_iff_eq.mp M.fn) (codeAny_mono (F _ X.stack _ _ (Value.ref (s.heap.objs.size + 1) :: us) _ _ (E σ) (hr.make C us []) (I2.env0.make C us []) r2 hq) fun r s' hq' => ?_))
  cases r with
  | error e => exact hx pins _ _ e s' I2 hq'
  | ok fl =>
    cases fl with
    | ret u =>
      obtain ⟨v, H', I3, rv, ev, q3⟩ := I2.after hq'
      subst ev
      exact ⟨rv, ⟨V.ref (s.heap.objs.size + 1), H', I3, rfl, q3⟩⟩
    | next => exact False.elim hq'
    | brk => exact False.elim hq'
    | cont => exact False.elim hq'
theorem pe_makeE (M : Mk X.K C f) (F : FnR X.prog X.w X.K X.mg X.base CX k f sp) (hr : Room (k + 1) X.A) (hm : X.mg x = some (.ref C)) (hx : ∀ σ, PassesAt CX X σ (E σ)) (ha : PA X (e :: es) t) (hg : Gl X x := by rfl) (hdb : (x == ("__debug__" : Str)) = false := by decide)
    (he : starEach (e :: es) X.env = (false, eval e X.env) :: starEach es X.env := by rfl) (hpl : (backTo pos (starEach es X.env)).any (·.1) = false := by rfl) : PE X (.Call (.Name x p) (e :: es) [] pos) (tMakeE C sp E t) := by
  refine ⟨fun pins s σ H Q I h => ?_⟩
  refine wpAny_Call_Name_kw (ld_glob I hg hm ?_ hdb)
  refine PySem.W.callWith_K (h₀ := X.base) I.ok.mod.kin M.kp (thn (ha.run pos pins s σ H _ I h) fun us s1 ⟨vs, H1, I1, r, q⟩ => ⟨I1.kIn, ?_⟩) he hpl
  exact run_makeE M F hr (hx σ) I1 r q
end
/-- nothing is let out -/
theorem px0 {X : Cx} : ∀ σ, PassesAt CX0 X σ ((fun _ => E0) σ) := fun _ _ _ _ _ _ _ h => h.elim
theorem pxq {X : Cx} : ∀ σ, PassesAt (L2.CX X.prog X.w) X σ ((fun _ => E0) σ) := fun σ pins H s e s' I h => passL pins σ H s e s' I h
theorem pxx {X : Cx} {W : WX} (tk : Takes X W) : ∀ σ, PassesAt (L2.CX X.prog X.w) X σ (WE W σ) := fun σ => passAt tk σ
/-! from a def's body to its promise, wherever it stands -/
section
variable {P : Program} {w : World} {K : PySem.W.Frag} {mg : Str → Option Value} {base : Heap} {CX : CXT} {k : Nat} {x qual : Str} {sp : Sp} {params : Arguments} {body : List Stmt} {scope : Scope} {f : Addr} {fd : FuncData} {ps N : List Str}
theorem fnN (F : FunD K x qual params body scope [] [] f fd)
    (hb : ∀ (kV doc pm : Value) (an : Option Addr) (cdv ct : Value) (us : List Value), us.length = ps.length → bindArgs (PySem.W.fnOf x qual params body scope .none kV doc pm an cdv ct) ⟨us, []⟩ = pure (ps.zip us))
    (S : FnScope N ps scope) (len : ∀ vs H Q E, sp vs H Q E → vs.length = ps.length)
    (hbody : ∀ (cdv : Value) (A : Around) (outer : List Env) (s : Shared) (H : Hp) (vs : List V) (Q : VK) (E : XK), Room k (A.deeper (envOfC qual scope s.heap.objs.size f cdv)) → sp vs H Q E →
      ∃ t, PSs (cxOf CX P w K mg base N qual scope f cdv A outer s H E) body t ∧ t { nx := fun _ H' => Q .non H', rt := Q } (start N vs) H) : FnR P w K mg base CX (k + 1) f sp :=
  ((F.ok S len hbody).raw (F.bindsN hb) .nil).imp fun vs H Q E h => by rw [List.append_nil]; exact h
end
end EL
namespace EX
open PySem PySem.W PySem.Calls PyProof.Rows PySem.HandSPX
/-! ### an own error with a field: super().__init__('..'); self.f = f -/
def xiB (fl msg : Str) (j : Nat) (p0 p1 p2 p3 p4 p5 q1 q2 q3 q4 : Pos) : List Stmt :=
  [.Expr (.Call (.Attribute (.Call (.Name "super" p0) [] [] p1) "__init__" p2) [.Constant (.str msg) j p3] [] p4) p5, .Assign [.Attribute (.Name "self" q1) fl q2] (.Name fl q3) q4]
/-- its head and its scope -/
structure XSc (params : Arguments) (scope : Scope) (fl : Str) : Prop where
  bind : ∀ (name q : Str) (body : List Stmt) (doc pm : Value) (an : Option Addr) (cdv ct : Value) (cc : Addr) (u v : Value), bindArgs (ksFn name q params body scope .none .none doc pm an cdv ct cc) ⟨[u, v], []⟩ = pure [(("self" : Str), u), (fl, v)]
  head : ∃ ar : Arg, (params.posonlyargs ++ params.args).head? = some ar ∧ ar.arg = "self"
  ks : scope.names.lookup ("super" : Str) = some .globalImplicit
  kc : scope.names.lookup ("__class__" : Str) = some .free
  kself : scope.names.lookup ("self" : Str) = some .local
  kf : scope.names.lookup fl = some .local
  kind : scope.kind = .function
  ncell : ∀ x ∈ scope.names, x.2 ≠ .cell
  co : scope.isCoroutine = false
  gen : scope.isGenerator = false
  ne : fl ≠ "self"
  dbg : (fl == ("__debug__" : Str)) = false
/-- what the written part says of the class at C and of its __init__ at fI -/
structure XTxt (K : Frag) (C fI cc cda : Addr) (fl file : Str) : Prop where
  cls : ∃ nm q N bs bm sn sub ab col dd k0 k1 k2 k3 k5, K.lookup C = some (excClassObj nm q C N bs bm true sn sub ab col dd k0 k1 k2 k3 k5 "ValueError.__new__") ∧ refsVE bm = true
  sa : findIn K (.ref C) "__setattr__" = some (some (.builtin "object.__setattr__"))
  noN : findIn K (.ref C) fl = some none
  iC : findIn K (.ref C) "__init__" = some (some (.ref fI))
  tC : typeIn K (.ref fI) = some (.type "function")
  ve : subIn K (.ref C) (.type "ValueError") = some true
  self : mroIn K C (.ref C) = some true
  sup : ks_superIn K C C "__init__" = some (some (.builtin "ValueError.__init__"))
  tp : nsIn K cStatics "thirdparty.any" = some none
  cell : ∃ cl cld csl, K.lookup cc = some ⟨cl, cld, .cell (some (.ref C)), csl⟩
  code : ∃ ccl cdd vs ccs tf, K.lookup cda = some ⟨ccl, cdd, .fields vs, ccs⟩ ∧ vs[2]? = some (.str file tf)
  fn : ∃ (oc : Value) (od : Option Addr) (doc pm : Value) (an : Option Addr) (ct : Value) (osl : Array (Option Value)) (q : Str) (params : Arguments) (scope : Scope) (msg : Str) (j : Nat) (p0 p1 p2 p3 p4 p5 q1 q2 q3 q4 : Pos),
    K.lookup fI = some ⟨oc, od, .func (ksFn "__init__" q params (xiB fl msg j p0 p1 p2 p3 p4 p5 q1 q2 q3 q4) scope .none .none doc pm an (.ref cda) ct cc), osl⟩ ∧ codeIn K (.ref cda) q = true ∧ XSc params scope fl ∧ (p2.endLine == p4.line) = true
/-- what __init__ leaves of a fresh exception at x -/
structure InitEnd (h h' : Heap) (x C dx t1 : Addr) (fl : Str) (v : Value) : Prop where
  keep : ∀ b o, b ≠ x → h.get? b = some o → h'.get? b = some o
  obj : h'.get? x = some { cls := .ref C, dict := some dx, data := .fields #[.ref t1, .none, .none, .none, .bool false, .none] }
  dbig : h.objs.size ≤ dx
  dne : dx ≠ x
  ns : h'.Ns1 dx (fun y => if y = fl then some v else none)
structure OwnMade (h h' : Heap) (e C d : Addr) (fl : Str) (v : Value) : Prop where
  keep : ∀ b o, h.get? b = some o → h'.get? b = some o
  new : h.objs.size ≤ e
  obj : ∃ oe vs, h'.get? e = some oe ∧ oe.cls = .ref C ∧ oe.dict = some d ∧ oe.data = .fields vs ∧ vs[1]? = some .none
  dbig : h.objs.size ≤ d
  dne : d ≠ e
  ns : h'.Ns1 d (fun y => if y = fl then some v else none)
theorem meth_eq {o e : Expr} {name : Str} {p2 p4 : Pos} {env : Env} (hl : (p2.endLine == p4.line) = true) : eval (.Call (.Attribute o name p2) [e] [] p4) env = (do
      let ov ← attributeBase o name env (eval o env)
      standAt p2.atName
      let (f, first) ← holding [ov] (calleeOf (methodCallForm 1 (backTo p4 (starEach [e] env)) []) o env ov name)
      callWith p4 f first (backTo p4 (starEach [e] env)) []) := by
  show (attributeBase o name env (eval o env) >>= fun ov => standAt p2.atName >>= fun _ => methodCall o name p2 p4 env ov 1 (backTo p4 (starEach [e] env)) []) = _
  have x : ∀ ov, methodCall o name p2 p4 env ov 1 (backTo p4 (starEach [e] env)) [] = (holding [ov] (calleeOf (methodCallForm 1 (backTo p4 (starEach [e] env)) []) o env ov name) >>= fun z => callWith p4 z.1 z.2 (backTo p4 (starEach [e] env)) []) := fun ov => by
    unfold methodCall methodCallPos
    simp only [hl, Bool.or_true, if_true, pure_bind]
  simp only [x]
section
variable {prog : Program} {w : World} {A : Around} {E : Value → Shared → Prop} {R : Result → Shared → Prop} {s : Shared} {K : Frag} {C fI cc cda : Addr} {fl file : Str} {mg mb : Str → Option Value}
/-- the wrapper of ValueError.__init__ called -/
theorem call_mw {h : Heap} {g : Array GenState} {d : Drawn} {t : Nat} {os : OsState} {u e t0 : Addr} {rest : List Value} {Q : Value → Shared → Prop}
    (hC : ∃ nm q N bs bm sn sub ab col dd k0 k1 k2 k3 k5, h.get? C = some (excClassObj nm q C N bs bm true sn sub ab col dd k0 k1 k2 k3 k5 "ValueError.__new__")) (he : h.get? e = some (excO C t0)) (hu : h.get? u = some (kxs_mw "ValueError.__init__" e)) (hrest : rest.length ≤ sizeLine)
    (hq : ∀ h' t1, (∀ b o, b ≠ e → h.get? b = some o → h'.get? b = some o) → h'.get? e = some (excO C t1) → Q .none ⟨h', g, d, t, os⟩) :
    wpAny (model prog w) A (call (.ref u) rest) Q E ⟨h, g, d, t, os⟩ := by
  obtain ⟨nm, q, N, bs, bm, sn, sub, ab, col, dd, k0, k1, k2, k3, k5, hC⟩ := hC
  refine wpAny_call (codeAny_of_tree ?_)
  show wpAny _ A.in1 (callAny (.ref u) ⟨rest, []⟩) _ _ _
  simp only [callAny]
  refine wpAny_bind (wpAny_load hu ?_)
  simp only [kxs_mw, show (Value.type "method-wrapper" == Value.type "method" || Value.type "method-wrapper" == Value.type "builtin_function_or_method" || Value.type "method-wrapper" == Value.type "method-wrapper") = true by decide, if_true]
  refine KFB.if_so (by decide) ?_
  refine wpAny_bind (check_bound_init F.excBase_ValueError.toExcCallFacts hC he rfl ?_)
  refine wpAny_bind (wpAny_pure (wpAny_pure ?_))
  refine ⟨plainId_quiet F.excBase_ValueError.init.plain _, codeAny_builtin F.excBase_ValueError.initEntry ?_⟩
  exact exc_init_tree (cls := .ref C) (t0 := t0) (dv := none) (c2 := .none) (c3 := .none) (b4 := .bool false) he hrest fun h' k e' _ => hq h' _ k e'
theorem kept_but {h h' : Heap} {x : Addr} (X : K.In h) (hx : K.lookup x = none) (k : ∀ b o, b ≠ x → h.get? b = some o → h'.get? b = some o) : K.In h' := fun a o e =>
  k a o (fun z => by rw [z, hx] at e; cases e) (X a o e)
theorem xf_init (T : XTxt K C fI cc cda fl file) {x t0 : Addr} {v : Value} (X : K.In s.heap) (hlim : s.heap.NoLimit) (hx : s.heap.get? x = some (excO C t0)) (hnx : K.lookup x = none) (hroom : A.depth < recursionLimit)
    (G : s.heap.Ns mainGlobals mg) (hsu : mg "super" = none) (Bn : s.heap.Ns builtinsNs mb) (hb : mb "super" = some (.type "super")) (hfile : ((prog.main.file : Str) == file) = true) (htop : (prog.main.scope.names.lookup ("super" : Str)).isSome = false)
    (hq : ∀ h' tk dx t1, InitEnd s.heap h' x C dx t1 fl v → R (.ok (.ret .none)) { s with heap := h', toks := tk }) :
    codeAny (model prog w) A (.call (.ref fI) ⟨[.ref x, v], []⟩) R s := by
  obtain ⟨oc, od, doc, pm, an, ct, osl, q, params, scope, msg, j, p0, p1, p2, p3, p4, p5, q1, q2, q3, q4, ho, hcd, S, hl⟩ := T.fn
  obtain ⟨nm, cq, N, bs, bm, sn, sub, ab, col, dd, k0, k1, k2, k3, k5, hC, hbm⟩ := T.cls
  obtain ⟨cl, cld, csl, hcell⟩ := T.cell
  obtain ⟨ccl, cdd, vs, ccs, tf, hcode, hvs⟩ := T.code
  obtain ⟨ar, har, hara⟩ := S.head
  have hcl : clsIn K C = some { name := nm, bases := bs, mro := .ref C :: bm, ns := N, qualname := cq, hasDict := true, slotNames := sn, subclasses := sub, abstract := ab, collection := col, hasDel := false } := by unfold clsIn; rw [hC] <;> rfl
  refine ks_codeAny_call_defAt (fd := ksFn "__init__" q params (xiB fl msg j p0 p1 p2 p3 p4 p5 q1 q2 q3 q4) scope .none .none doc pm an (.ref cda) ct cc) (binds := [(("self" : Str), .ref x), (fl, v)]) hroom (X _ _ ho) rfl hlim (codeRec_of X hcd) rfl (BindsTo.of_eq (S.bind ..)) S.ncell ?_ (fun h₁ hn k => ?_) S.co S.gen S.kind
  · intro y hy
    rcases List.mem_cons.mp hy with rfl | hy
    · exact S.kself
    · rcases List.mem_cons.mp hy with rfl | hy
      · exact S.kf
      · cases hy
  have vself : ([(("self" : Str), Value.ref x), (fl, v)] : List (Str × Value)).reverse.lookup ("self" : Str) = some (.ref x) := by
    show List.lookup ("self" : Str) [(fl, v), (("self" : Str), Value.ref x)] = _
    have e : (("self" : Str) == fl) = false := by simpa using Ne.symm S.ne
    simp [List.lookup, e]
  have vfl : ([(("self" : Str), Value.ref x), (fl, v)] : List (Str × Value)).reverse.lookup fl = some v := by
    show List.lookup fl [(fl, v), (("self" : Str), Value.ref x)] = _
    simp [List.lookup]
  obtain ⟨hh, g, d, t, os⟩ := s
  dsimp only at hn k X hlim hx G Bn
  have X₁ : K.In h₁ := X.keeps k
  have hx₁ := k _ _ hx
  show _root_.PySem.wpAt _ _ (.func _ (ksEnv q scope hh.objs.size fI (.ref cda) cc)) (execs (xiB fl msg j p0 p1 p2 p3 p4 p5 q1 q2 q3 q4) (ksEnv q scope hh.objs.size fI (.ref cda) cc)) _ _ _
  refine ks_wpAt_execs_cons (ks_wpAt_Expr_any (ks_wpAt_MethodCall ?_ (meth_eq hl)) (by unfold interactive; simp [S.kind]))
  refine ks_wpAt_super_base (env := ksEnv q scope hh.objs.size fI (.ref cda) cc) S.ks S.kc (by decide) rfl (X₁ _ _ ho) rfl har rfl (X₁ _ _ hcode) rfl hvs hfile htop ?_
  refine ks_loadName_global S.kind S.ks (loadGlobal_builtin (env := ksEnv q scope hh.objs.size fI (.ref cda) cc) (G.keeps k) hsu (Bn.keeps k) hb ⟨rfl, ?_⟩)
  refine wpAny_loadName_free S.kind S.kc rfl ⟨_, X₁ _ _ hcell, rfl⟩ ?_
  rw [hara]
  refine wpAny_loadName_local S.kind S.kself hn vself ?_
  refine ks_wpAny_isType_cls (X₁ _ _ hC) rfl ⟨rfl, ?_⟩
  refine ks_wpAny_call_super (X₁ _ _ hC) rfl hx₁ rfl (fun c e => by cases e) (looks_mroIn X₁ T.self) (fun h₂ e₂ k₂ => ?_)
  have X₂ : K.In h₂ := X₁.keeps k₂
  have hx₂ := k₂ _ _ hx₁
  have I₂ : InstAt h₂ x (excO C t0) C none := ⟨hx₂, rfl, rfl, trivial⟩
  have hI : Looks (model prog w) h₂ (isInstance (.ref x) (.type "ValueError")) true := I₂.type.andThen (looks_subIn X₂ T.ve)
  have hsp := T.sup
  unfold ks_superIn at hsp
  rw [hcl] at hsp
  refine kxs_getMethod kxs_ValueError e₂ (looks_opaque X₂ T.tp) (l₀ := .ref C :: bm) (fun A Q E s k q => wpAny_bind ((looks_clsIn X₂ hcl) A _ E s k (wpAny_pure q))) rfl X₂ hsp hI (ks_ne X₂ I₂ hcl) (by decide) ?_
  have hu₃ : (h₂.push (kxs_mw "ValueError.__init__" x)).get? h₂.objs.size = some (kxs_mw "ValueError.__init__" x) := Heap.get?_push_at rfl rfl
  have k₃ : ∀ b o, h₂.get? b = some o → (h₂.push (kxs_mw "ValueError.__init__" x)).get? b = some o := fun b o e => Heap.get?_push_of_some _ e
  dsimp only
  refine kxs_callWith (i := "ValueError.__init__") (x := x) rfl ?_
  refine evalArgs_plain (spliced_cons (wpAny_Constant_str (k := j) (pos := p3) (spliced_nil ⟨hu₃, ?_⟩)))
  have hxL : hh.objs.size ≠ x := Nat.ne_of_gt (Heap.lt_size hx)
  refine call_mw (C := C) (e := x) (t0 := t0) ⟨nm, cq, N, bs, bm, sn, sub, ab, col, dd, k0, k1, k2, k3, k5, k₃ _ _ (X₂ _ _ hC)⟩ (k₃ _ _ hx₂) hu₃ (by show 1 ≤ sizeLine; decide) fun h₄ t1 k₄ hx₄ => ?_
  have X₄ : K.In h₄ := kept_but (X₂.keeps k₃) hnx k₄
  have k04 : ∀ b o, b ≠ x → hh.get? b = some o → h₄.get? b = some o := fun b o hbx e => k₄ b o hbx (k₃ b o (k₂ b o (k b o e)))
  obtain ⟨oL, es, ep, hL, rr⟩ := hn
  have hn₄ : h₄.Ns hh.objs.size (fun x_1 => ([(("self" : Str), Value.ref x), (fl, v)] : List (Str × Value)).reverse.lookup x_1) := ⟨oL, es, ep, k₄ _ _ hxL (k₃ _ _ (k₂ _ _ hL)), rr⟩
  have z1 : hh.objs.size < h₄.objs.size := hn₄.lt
  refine ks_wpAt_execs_cons (wpAt_of_wpAny (plainObj_wpAny_Assign_Attribute ?_))
  refine wpAny_Name (wpAny_loadName_local S.kind S.kf hn₄ vfl ?_) S.dbg
  refine wpAny_Name (wpAny_loadName_local S.kind S.kself hn₄ vself ?_) (by decide)
  refine set_plain X₄ (ox := excO C t1) (od := none) ⟨hx₄, rfl, rfl, trivial⟩ T.sa ?_
  refine exc_osa X₄ hx₄ hcl (show refsVE (.ref C :: bm) = true from hbm) rfl T.noN (fun h₅ tk₅ dx k₅ dn dne hx₅ hn₅ => ?_)
  refine wpAt_of_wpAny (wpAny_execs_nil ?_)
  exact hq h₅ tk₅ dx t1 ⟨fun b o hbx e => k₅ b o hbx (k04 b o hbx e), hx₅, Nat.le_of_lt (Nat.lt_of_lt_of_le z1 dn), dne, hn₅⟩
theorem xf_made (T : XTxt K C fI cc cda fl file) {v : Value} (X : K.In s.heap) (hlim : s.heap.NoLimit) (hroom : A.depth + 1 < recursionLimit)
    (G : s.heap.Ns mainGlobals mg) (hsu : mg "super" = none) (Bn : s.heap.Ns builtinsNs mb) (hb : mb "super" = some (.type "super")) (hfile : ((prog.main.file : Str) == file) = true) (htop : (prog.main.scope.names.lookup ("super" : Str)).isSome = false)
    (hq : ∀ h' tk e d, OwnMade s.heap h' e C d fl v → R (.ok (.ret (.ref e))) { s with heap := h', toks := tk }) :
    codeAny (model prog w) A (.call (.ref C) ⟨[v], []⟩) R s := by
  obtain ⟨nm, q, N, bs, bm, sn, sub, ab, col, dd, k0, k1, k2, k3, k5, hC, hbm⟩ := T.cls
  obtain ⟨hp, g, dr, tk, os⟩ := s
  have k : ∀ b o, hp.get? b = some o → ((hp.push (kdv_tup [v])).push (excO C hp.objs.size)).get? b = some o := fun b o e => Heap.get?_push_of_some _ (Heap.get?_push_of_some _ e)
  have hget : ((hp.push (kdv_tup [v])).push (excO C hp.objs.size)).get? (hp.objs.size + 1) = some (excO C hp.objs.size) := by heap_get
  have hnx : K.lookup (hp.objs.size + 1) = none := by
    cases e : K.lookup (hp.objs.size + 1) with
    | none => rfl
    | some o =>
      have z : hp.get? (hp.objs.size + 1) = some o := X _ _ e
      exact absurd (Nat.lt_of_succ_lt (Heap.lt_size z)) (Nat.lt_irrefl _)
  refine call_own F.excBase_ValueError (fun X => refsVE_contains X bm hbm) (X _ _ hC) (looks_findIn X T.iC) (fun self => bind_fn X self T.tC) (by show 1 ≤ sizeLine; decide) ?_
  refine xf_init (s := ⟨(hp.push (kdv_tup [v])).push (excO C hp.objs.size), g, dr, tk, os⟩) T (X.keeps k) (hlim.keeps k) hget hnx ?_ (G.keeps k) hsu (Bn.keeps k) hb hfile htop fun h' tk' dx t1 ⟨k', hx, dn, dne, hns⟩ => ?_
  · show A.depth + 1 < recursionLimit
    exact hroom
  · have old : ∀ b o, hp.get? b = some o → h'.get? b = some o := fun b o e => k' b o (Nat.ne_of_lt (Nat.lt_succ_of_lt (Heap.lt_size e))) (k b o e)
    have z : hp.objs.size + 1 + 1 ≤ dx := by
      first
        | (simpa only [Heap.size_push] using dn)
        | exact dn
        | (have q := dn; rw [Heap.size_push, Heap.size_push] at q; exact q)
    exact ⟨rfl, hq h' tk' (hp.objs.size + 1) dx ⟨old, Nat.le_succ _, ⟨_, _, hx, rfl, rfl, rfl, rfl⟩, Nat.le_trans (Nat.le_trans (Nat.le_succ _) (Nat.le_succ _)) z, dne, hns⟩⟩
end
end EX
namespace EL
open PySem PySem.Spec PyProof.Rows L2 He TL
/-- the program's file, no own super -/
structure PF (P : Program) (file : Str) : Prop where
  file : ((P.main.file : Str) == file) = true
  top : (P.main.scope.names.lookup ("super" : Str)).isSome = false
/-- an own error with the field fl -/
structure XT (K : PySem.W.Frag) (mg : Str → Option Value) (x fl file : Str) : Prop where
  t : ∃ cc cda, EX.XTxt K (ga K x) (ma K (ga K x) "__init__") cc cda fl file
  g : mg x = some (.ref (ga K x))
  su : mg "super" = none
  kp : PySem.W.keepIn K (.ref (ga K x)) = true
  ex : PySem.W.subIn K (.ref (ga K x)) (.type "BaseException") = some true
  ty : PySem.W.typeIn K (.ref (ga K x)) = some (.type "type")
theorem relO_one {fl : Str} {v : V} {v' : Value} (r : RelV v v') (f : Str) : RelO (List.lookup f [(fl, v)]) (if f = fl then some v' else none) := by
  by_cases hw : f = fl
  · subst hw
    rw [if_pos rfl]
    have q : List.lookup f [(f, v)] = some v := by simp [List.lookup]
    rw [q]
    exact r
  · rw [if_neg hw]
    have qw : (f == fl) = false := by simpa using hw
    have q2 : List.lookup f [(fl, v)] = none := by simp [List.lookup, qw]
    rw [q2]
    trivial
section
variable {X : Cx} {x fl file : Str}
def tMkX (C : Addr) (fl : Str) (ta : TA) : L2.St → Hp → XK → Prop := fun σ H Q => ta σ H fun vs H1 => ∃ v, vs = [v] ∧ ∀ d, H1 d = none → Q (.ref C) (some d) (upd H1 d (.xd [(fl, v)]))
theorem pmk_xf {a : Expr} {ta : TA} {p pos : Pos} {k : Nat} (hP : PF X.prog file) (T : XT X.K X.mg x fl file) (hr : Room k X.A) (ha : PA X [a] ta) (hg : Gl X x := by rfl) (hdb : (x == ("__debug__" : Str)) = false := by decide)
    (he : starEach (a :: []) X.env = (false, eval a X.env) :: starEach [] X.env := by rfl) (hpl : (backTo pos (starEach [] X.env)).any (·.1) = false := by rfl) :
    PMk X (.Call (.Name x p) [a] [] pos) (tMkX (ga X.K x) fl ta) := by
  intro pins s σ H Q I h
  refine wpAny_Call_Name_kw (ld_glob I hg T.g ?_ hdb)
  refine PySem.W.callWith_K (h₀ := X.base) I.ok.mod.kin T.kp (thn (ha.run pos pins s σ H _ I h) fun us s1 hh => ?_) he hpl
  obtain ⟨vs, H1, I1, r1, v, ev, q1⟩ := hh
  subst ev
  refine ⟨I1.kIn, ?_⟩
  cases r1 with
  | cons rv rn =>
    rename_i v' us'
    cases rn
    show wpAny _ _ (call (.ref (ga X.K x)) [v']) _ _ _
    have hlim := I1.nolimit
    obtain ⟨cc, cda, TT⟩ := T.t
    obtain ⟨mb, hmb, hmb2⟩ := I1.mod.blt
    have G1 : s1.heap.Ns mainGlobals X.mg := I1.mod.glob.keeps I1.bk
    have B1 : s1.heap.Ns builtinsNs mb := hmb.keeps I1.bk
    have hsu : mb "super" = some (.type "super") := (hmb2 _ (by decide +kernel)).trans (by decide +kernel)
    obtain ⟨hp, g, dr, tk, os⟩ := s1
    refine wpAny_call (EX.xf_made TT I1.kIn hlim (by have := hr.dp; omega) G1 T.su B1 hsu hP.file hP.top fun h' tk' e d M => ?_)
    show MkP X pins σ Q (.ref e) ⟨h', g, dr, tk', os⟩
    obtain ⟨oe, fv, hoe, hc, hd, hdat, h1⟩ := M.obj
    have hns := M.ns
    obtain ⟨G', g1, g2⟩ := restrict h' fun b => decide (b ≠ e)
    have gk : ∀ b, b ≠ e → G'.get? b = h'.get? b := fun b hb => g1 b (decide_eq_true hb)
    have ge : G'.get? e = none := g2 e (by simp)
    have old : ∀ b o, hp.get? b = some o → G'.get? b = some o := fun b o q => (gk b (Nat.ne_of_lt (Nat.lt_of_lt_of_le (Heap.lt_size q) M.new))).trans (M.keep b o q)
    have ob : ObjOk X.prog X.w (upd H1 d (.xd [(fl, v)])) G' d (.xd [(fl, v)]) :=
      ⟨_, hns.at (fun o q => (gk d M.dne).trans q), fun f => relO_one rv f⟩
    have J : Inv X pins σ (upd H1 d (.xd [(fl, v)])) ⟨G', g, dr, tk', os⟩ := I1.laid (t' := tk') old M.dbig ob
    refine ⟨e, oe, fv, ⟨G', g, dr, tk', os⟩, _, .ref (ga X.K x), some d, rfl, J, fun b o q => ?_, ge, hoe, ⟨hc, hd⟩, hdat, h1, ?_, rfl, I1.bare, raises_own T.ex T.ty, q1 d (I1.hok.fresh M.dbig)⟩
    · by_cases hb : b = e
      · have q' : G'.get? b = some o := q
        rw [hb, ge] at q'; cases q'
      · exact (gk b hb).symm.trans q
    · rw [upd_ne (Ne.symm M.dne)]
      exact I1.hok.fresh M.new
/-- raise C(e), C an own error with a field -/
theorem rsx {a : Expr} {ta : TA} {W : WX} {p pos pos2 : Pos} {k : Nat} (hc : X.calm = true) (tk : Takes X W) (hP : PF X.prog file) (T : XT X.K X.mg x fl file) (hr : Room k X.A) (ha : PA X [a] ta) (hg : Gl X x := by rfl) (hdb : (x == ("__debug__" : Str)) = false := by decide)
    (he : starEach (a :: []) X.env = (false, eval a X.env) :: starEach [] X.env := by rfl) (hpl : (backTo pos (starEach [] X.env)).any (·.1) = false := by rfl) :
    PS X (.Raise (some (.Call (.Name x p) [a] [] pos)) none pos2) (fun _ σ H => tMkX (ga X.K x) fl ta σ H fun cls d H' => W cls d σ H') := ps_raise hc tk (pmk_xf hP T hr ha hg hdb he hpl)
end
end EL
namespace EL
open PySem PySem.W PySem.Spec PyProof.Rows He
/-! ### the facts of such an error, from the head -/
def xclB (K : Frag) (C : Addr) : Bool := match K.lookup C with
  | some ⟨.type "type", _, .cls cd, sl⟩ => (match cd.mro, sl.toList with
    | .ref C' :: bm, [_, _, _, _, some (.builtin n), _] => C' == C && n == "ValueError.__new__" && !cd.hasDel && cd.hasDict && HandSPX.refsVE bm
    | _, _ => false)
  | _ => false
theorem xclB_ok {K : Frag} {C : Addr} (q : xclB K C = true) : ∃ nm q N bs bm sn sub ab col dd k0 k1 k2 k3 k5, K.lookup C = some (excClassObj nm q C N bs bm true sn sub ab col dd k0 k1 k2 k3 k5 "ValueError.__new__") ∧ HandSPX.refsVE bm = true := by
  unfold xclB at q
  split at q
  · rename_i dd cd sl ho
    split at q
    · rename_i C' bm k0 k1 k2 k3 n k5 hm hs
      simp only [Bool.and_eq_true, beq_iff_eq, Bool.not_eq_true'] at q
      obtain ⟨⟨⟨⟨rfl, rfl⟩, hdel⟩, hdi⟩, ht⟩ := q
      obtain ⟨nm, bs, mro, ns, qn, hd, sn, sub, ab, col, del⟩ := cd
      dsimp only at hm hdel hdi
      subst hm hdel hdi
      have hsl : sl = #[k0, k1, k2, k3, some (.builtin "ValueError.__new__"), k5] := by
        obtain ⟨l⟩ := sl
        simp only at hs
        rw [hs]
      subst hsl
      exact ⟨nm, qn, ns, bs, bm, sn, sub, ab, col, dd, k0, k1, k2, k3, k5, ho, ht⟩
    · cases q
  · cases q
/-- closure, code, defaults of its __init__ -/
def xfnB (K : Frag) (C f : Addr) (q file : Str) : Bool := match K.lookup f with
  | some ⟨_, _, .func fd, _⟩ => (match fd.closure, fd.code, fd.defaults, fd.kwdefaults with
    | [(_, cc)], .ref cda, .none, .none => (match K.lookup cc with
      | some ⟨_, _, .cell (some (.ref D)), _⟩ => decide (D = C)
      | _ => false) && ((match K.lookup cda with
      | some ⟨_, _, .fields vs, _⟩ => (match (vs[2]? : Option Value) with
        | some (Value.str fi _) => decide (fi = file)
        | _ => false)
      | _ => false) && codeIn K (.ref cda) q)
    | _, _, _, _ => false)
  | _ => false
def xtB (K : Frag) (x fl file : Str) : Bool := xclB K (ga K x) && (eqO (findIn K (.ref (ga K x)) "__setattr__") (some (some (.builtin "object.__setattr__"))) && (eqO (findIn K (.ref (ga K x)) fl) (some none) &&
  (eqO (findIn K (.ref (ga K x)) "__init__") (some (some (.ref (ma K (ga K x) "__init__")))) && (decide (typeIn K (.ref (ma K (ga K x) "__init__")) = some (.type "function")) && (decide (subIn K (.ref (ga K x)) (.type "ValueError") = some true) &&
  (decide (mroIn K (ga K x) (.ref (ga K x)) = some true) && (eqO (ks_superIn K (ga K x) (ga K x) "__init__") (some (some (.builtin "ValueError.__init__"))) && (eqO (nsIn K cStatics "thirdparty.any") (some none) &&
  (keepIn K (.ref (ga K x)) && (decide (subIn K (.ref (ga K x)) (.type "BaseException") = some true) && (decide (typeIn K (.ref (ga K x)) = some (.type "type")) && (L2.xfB K (ga K x) && xfnB K (ga K x) (ma K (ga K x) "__init__") (x ++ ".__init__") file))))))))))))
/-- what of a def with a closure is looked at (the cells' places not) -/
def fnWX (K : Frag) (a : Addr) : FnW := match K.lookup a with
  | some ⟨_, _, .func fd, _⟩ => some (fd.name, fd.qualname, fd.params, fd.body, fd.scope, fd.globals, fd.closure.map fun z => (z.1, 0), fd.builtins)
  | _ => none
structure DefX where
  cls : Str
  fl : Str
  st : Stmt
def DefX.val (d : DefX) : FnW := some ("__init__", d.cls ++ ".__init__", L2.defArgs d.st, .stmts (L2.defBody d.st), L2.defScope d.st, mainGlobals, [("__class__", 0)], builtinsNs)
def DefX.ad (K : Frag) (d : DefX) : Addr := ma K (ga K d.cls) "__init__"
/-- its text, as it was written -/
structure XW (d : DefX) : Prop where
  sc : EX.XSc (L2.defArgs d.st) (L2.defScope d.st) d.fl
  body : ∃ (msg : Str) (j : Nat) (p0 p1 p2 p3 p4 p5 q1 q2 q3 q4 : Pos), L2.defBody d.st = EX.xiB d.fl msg j p0 p1 p2 p3 p4 p5 q1 q2 q3 q4 ∧ (p2.endLine == p4.line) = true
theorem xt_of {K : Frag} {mg : Str → Option Value} {file : Str} {d : DefX} (W : XW d) (e : fnWX K (d.ad K) = d.val) (g : mg d.cls = some (.ref (ga K d.cls))) (su : mg "super" = none) (h : xtB K d.cls d.fl file = true) : XT K mg d.cls d.fl file ∧ L2.XfC K (ga K d.cls) ∧ findIn K (.ref (ga K d.cls)) d.fl = some none := by
  obtain ⟨h1, h⟩ := ba h
  obtain ⟨h2, h⟩ := ba h
  obtain ⟨h3, h⟩ := ba h
  obtain ⟨h4, h⟩ := ba h
  obtain ⟨h5, h⟩ := ba h
  obtain ⟨h6, h⟩ := ba h
  obtain ⟨h7, h⟩ := ba h
  obtain ⟨h8, h⟩ := ba h
  obtain ⟨h9, h⟩ := ba h
  obtain ⟨h10, h⟩ := ba h
  obtain ⟨h11, h⟩ := ba h
  obtain ⟨h12, h⟩ := ba h
  obtain ⟨h13, h14⟩ := ba h
  refine ⟨⟨?_, g, su, h10, of_decide_eq_true h11, of_decide_eq_true h12⟩, L2.xfB_ok h13, eqO_ok h3⟩
  unfold xfnB at h14
  unfold fnWX at e
  unfold DefX.ad at e
  split at h14
  · rename_i oc od fd osl lk
    rw [lk] at e
    obtain ⟨n1, n2, n3, n4, n5, n6, n7, n8, n9, n10, n11, n12, n13, n14, n15⟩ := fd
    have e2 : (some (n1, n2, n3, n4, n5, n6, n7.map (fun z => (z.1, (0 : Addr))), n15) : FnW) = (some (("__init__" : Str), d.cls ++ ".__init__", L2.defArgs d.st, FuncBody.stmts (L2.defBody d.st), L2.defScope d.st, mainGlobals, [(("__class__" : Str), (0 : Addr))], builtinsNs) : FnW) := e
    simp only [Option.some.injEq, Prod.mk.injEq] at e2
    obtain ⟨z1, z2, z3, z4, z5, z6, z7, z8⟩ := e2
    dsimp only at h14
    split at h14
    · rename_i nm cc cda
      obtain ⟨k1, k⟩ := ba h14
      obtain ⟨k2, k3⟩ := ba k
      subst z1 z2 z3 z4 z5 z6 z8
      have hnm : nm = "__class__" := by
        simp only [List.map_cons, List.map_nil, List.cons.injEq, Prod.mk.injEq] at z7
        exact z7.1.1
      subst hnm
      refine ⟨cc, cda, xclB_ok h1, eqO_ok h2, eqO_ok h3, eqO_ok h4, of_decide_eq_true h5, of_decide_eq_true h6, of_decide_eq_true h7, eqO_ok h8, eqO_ok h9, ?_, ?_, ?_⟩
      · split at k1
        · rename_i cl cld D csl lc
          rw [of_decide_eq_true k1] at lc
          exact ⟨_, _, _, lc⟩
        · cases k1
      · split at k2
        · rename_i ccl cdd vs ccs lc
          split at k2
          · rename_i fi tf hv
            rw [of_decide_eq_true k2] at hv
            exact ⟨_, _, _, _, _, lc, hv⟩
          · cases k2
        · cases k2
      · obtain ⟨msg, j, p0, p1, p2, p3, p4, p5, q1, q2, q3, q4, hb, hl⟩ := W.body
        rw [hb] at lk
        exact ⟨oc, od, _, _, _, _, osl, _, _, _, msg, j, p0, p1, p2, p3, p4, p5, q1, q2, q3, q4, lk, k3, W.sc, hl⟩
    · cases h14
  · cases h14
end EL
namespace EL
open PySem PySem.Spec PyProof.Rows L2 He TL
/-! ### the head with such errors -/
abbrev AlX : Type := AlM × List FnW
def obsX (fa : List Fa) (fn : List DefE) (xn : List DefX) (ex : PySem.W.Frag → Bool) (K : PySem.W.Frag) : AlX := (obsE fa fn ex K, xn.map fun d => fnWX K (d.ad K))
def obsXG (n : Nat) (fa : List Fa) (fn : List DefE) (xn : List DefX) (ex : PySem.W.Frag → Bool) (g : Addr → Option Obj) : AlX := obsX fa fn xn ex (frG g (He5.asA g n))
def valX (fn : List DefE) (xn : List DefX) : AlX := (valE fn, xn.map DefX.val)
def SaysX (fa : List Fa) (fn : List DefE) (xn : List DefX) (ex : PySem.W.Frag → Bool) (K : PySem.W.Frag) : Prop := obsX fa fn xn ex K = valX fn xn
def hookX (n : Nat) (fa : List Fa) (fn : List DefE) (xn : List DefX) (ex : PySem.W.Frag → Bool) : PySem.W.Hook where
  α := AlX
  obs := fun s => obsXG n fa fn xn ex s.heap.get?
  val := fun _ => valX fn xn
  says := fun _ h => ∃ K : PySem.W.Frag, K.In h ∧ SaysX fa fn xn ex K
  of := fun _ _ e => ⟨_, frG_in, e⟩
  keeps := fun _ _ _ ⟨K, hK, c⟩ k => ⟨K, PySem.W.Frag.In.keeps hK k, c⟩
theorem obsXG_eq {n : Nat} {fa : List Fa} {fn : List DefE} {xn : List DefX} {ex : PySem.W.Frag → Bool} {g : Addr → Option Obj} {s : Shared} (h : ∀ a, g a = s.heap.get? a) : obsXG n fa fn xn ex g = (hookX n fa fn xn ex).obs s := by
  have e : g = s.heap.get? := funext h
  rw [e] <;> rfl
section
variable {fa : List Fa} {fn : List DefE} {xn : List DefX} {ex : PySem.W.Frag → Bool} {K : PySem.W.Frag}
theorem SaysX.e (c : SaysX fa fn xn ex K) : SaysE fa fn ex K := congrArg (fun z : AlX => z.1) c
theorem SaysX.xd (c : SaysX fa fn xn ex K) (i : Nat) {d : DefX} (h : xn[i]? = some d := by rfl) : fnWX K (d.ad K) = d.val := by
  have e : xn.map (fun d => fnWX K (d.ad K)) = xn.map DefX.val := congrArg (fun z : AlX => z.2) c
  have e2 : (xn.map fun d => fnWX K (d.ad K))[i]? = (xn.map DefX.val)[i]? := by rw [e]
  rw [List.getElem?_map, List.getElem?_map, h] at e2
  exact Option.some.inj e2
end
end EL
namespace EL
open PySem PySem.Spec PyProof.Rows L2 He TL
/-! ### own dunders of instances with a dict -/
section
variable {X : Cx} {CX : CXT} {k : Nat} {C g : Addr} {sp : Sp} {E : XK}
theorem ins_at {pins : List (Addr × Obj)} {σ : L2.St} {H : Hp} {s : Shared} {a dx : Addr} {fs : List (Str × V)} (I : Inv X pins σ H s) (h : H a = some (.ins C dx fs)) : ∃ ox od, PySem.W.InstAt s.heap a ox C od ∧ ox.data = .plain := by
  obtain ⟨mA, O, _⟩ := ins_get I.hok h
  obtain ⟨od, J, _⟩ := O.look
  exact ⟨_, _, J, rfl⟩
/-- len(x) of an instance -/
def rLenO (C : Addr) (sp : Sp) (E : XK) : List V → Hp → VK → Prop := fun xs H Q => ∃ a dx fs, xs = [V.ref a] ∧ H a = some (.ins C dx fs) ∧ sp [.ref a] H (fun z H' => ∃ n : Int, z = .int n ∧ (0 ≤ n ∧ n < 2 ^ 63) ∧ Q z H') E
theorem call_lenO (hm : Meth X.K C "__len__" g) (F : FnR X.prog X.w X.K X.mg X.base CX k g sp) (hr : Room (k + 1) X.A) (hx : Passes CX X E) : CallR X (.builtin "len") (rLenO C sp E) := by
  intro pins s σ H xs us Q I r h
  obtain ⟨a, dx, fs, rfl, ha, q⟩ := h
  obtain ⟨u, rfl, ru⟩ := r.one
  cases (show u = Value.ref a from ru)
  obtain ⟨ox, od, J, _⟩ := ins_at I ha
  obtain ⟨m, hF⟩ := I.fr
  refine PySem.W.len_K hF I.ok.mod.kin J hm.at_ hm.fn (wpAny_mono (wpAny_call (SlX.run_at (us := [.ref a]) (ws := [.ref a]) F (Room.in1 hr) I.env0.in1 hx I (.cons rfl .nil) q)) (fun w s' z => ?_) fun _ _ x => x)
  obtain ⟨z', H', I', rz, n, en, hn, qz⟩ := z
  subst en
  obtain ⟨t, e⟩ := (show ∃ t, w = Value.int n t from rz)
  cases e
  exact ⟨hn, .int n, H', I'.tok _, ⟨_, rfl⟩, qz⟩
/-- x op y, x an instance of the class at C whose def for op is at g; y a thing whose type has no say first -/
def rCmpO (K : PySem.W.Frag) (C : Addr) (sp : Sp) (E : XK) : R2 := fun x y H Q => ∃ a dx fs t, x = .ref a ∧ H a = some (.ins C dx fs) ∧ TyX K H y t ∧ PySem.W.notFirst K C t = true ∧ sp [x, y] H Q E
theorem op_cmpO {op : CmpOp} (hop : ∀ a b, compareOp op a b = richCompare op a b) (hs : PySem.W.findIn X.K (.ref C) (cmpInfo op).2.1 = some (some (.ref g))) (hf : PySem.W.isFn X.K (.ref g) = true) (F : FnR X.prog X.w X.K X.mg X.base CX k g sp)
    (hr : Room k X.A) (hx : Passes CX X E) : OpR X (compareOp op) (rCmpO X.K C sp E) := by
  intro pins s σ H x y v u Q I rx ry h
  obtain ⟨a, dx, fs, t, rfl, ha, ty, hn, q⟩ := h
  cases (show v = Value.ref a from rx)
  obtain ⟨ox, od, J, _⟩ := ins_at I ha
  obtain ⟨P, Z, p, _⟩ := kit_of I ry ty
  obtain ⟨m, hF⟩ := I.fr
  rw [hop]
  refine PySem.W.cmp_K (op := op) (tb := t) hr.units0 hF I.ok.mod.kin J (Z.ty _ _ I.kIn p) hn hs hf ?_
  refine wpAny_mono (run_fnR (us := [.ref a, u]) (vs := [.ref a, y]) F hr hx I (.cons rfl (.cons ry .nil)) q |> wpAny_call) (fun w s' z => ?_) fun _ _ x => x
  obtain ⟨z', H', I', rz, qz⟩ := z
  exact SlX.cmpback rz ⟨z', H', I', rz, qz⟩
/-- y in x, x an instance with an own __contains__ that answers a bool -/
def rInO (C : Addr) (sp : Sp) (E : XK) (neg : Bool) : R2 := fun y x H Q => ∃ a dx fs, x = .ref a ∧ H a = some (.ins C dx fs) ∧ sp [x, y] H (fun z H' => ∃ b : Bool, z = .bl b ∧ Q (.bl (if neg then !b else b)) H') E
theorem op_inO (hm : Meth X.K C "__contains__" g) (F : FnR X.prog X.w X.K X.mg X.base CX k g sp) (hr : Room k X.A) (hx : Passes CX X E) : OpR X (compareOp .In) (rInO C sp E false) := by
  intro pins s σ H y x u v Q I ry rx h
  obtain ⟨a, dx, fs, rfl, ha, q⟩ := h
  cases (show v = Value.ref a from rx)
  obtain ⟨ox, od, J, _⟩ := ins_at I ha
  obtain ⟨m, hF⟩ := I.fr
  refine PySem.W.in_K hF I.ok.mod.kin J hm.at_ hm.fn (wpAny_mono (wpAny_call (run_fnR (us := [.ref a, u]) (vs := [.ref a, y]) F hr hx I (.cons rfl (.cons ry .nil)) q)) (fun w s' z => ?_) fun _ _ x => x)
  obtain ⟨z', H', I', rz, b, eb, qz⟩ := z
  subst eb
  cases (show w = Value.bool b from rz)
  exact wpAny_truthy_bool ⟨.bl b, H', I', rfl, qz⟩
theorem op_notInO (hm : Meth X.K C "__contains__" g) (F : FnR X.prog X.w X.K X.mg X.base CX k g sp) (hr : Room k X.A) (hx : Passes CX X E) : OpR X (compareOp .NotIn) (rInO C sp E true) := by
  intro pins s σ H y x u v Q I ry rx h
  obtain ⟨a, dx, fs, rfl, ha, q⟩ := h
  cases (show v = Value.ref a from rx)
  obtain ⟨ox, od, J, _⟩ := ins_at I ha
  obtain ⟨m, hF⟩ := I.fr
  refine PySem.W.notIn_K hF I.ok.mod.kin J hm.at_ hm.fn (wpAny_mono (wpAny_call (run_fnR (us := [.ref a, u]) (vs := [.ref a, y]) F hr hx I (.cons rfl (.cons ry .nil)) q)) (fun w s' z => ?_) fun _ _ x => x)
  obtain ⟨z', H', I', rz, b, eb, qz⟩ := z
  subst eb
  cases (show w = Value.bool b from rz)
  exact wpAny_truthy_bool ⟨.bl (!b), H', I', rfl, qz⟩
/-- ~x -/
theorem un_invO (hm : Meth X.K C "__invert__" g) (F : FnR X.prog X.w X.K X.mg X.base CX k g sp) (hr : Room k X.A) (hx : Passes CX X E) : UnR X (unaryOp .Invert) (fun x H Q => ∃ a dx fs, x = .ref a ∧ H a = some (.ins C dx fs) ∧ sp [x] H Q E) := by
  intro pins s σ H x v Q I rx h
  obtain ⟨a, dx, fs, rfl, ha, q⟩ := h
  cases (show v = Value.ref a from rx)
  obtain ⟨ox, od, J, _⟩ := ins_at I ha
  obtain ⟨m, hF⟩ := I.fr
  exact PySem.W.ksp_inv hF I.ok.mod.kin J hm.at_ hm.fn (wpAny_call (run_fnR (us := [.ref a]) (vs := [.ref a]) F hr hx I (.cons rfl .nil) q))
/-- x op y, two instances of the class at C -/
def rBinO (C : Addr) (sp : Sp) (E : XK) : R2 := fun x y H Q => ∃ a dx fs b dy gs, x = .ref a ∧ y = .ref b ∧ H a = some (.ins C dx fs) ∧ H b = some (.ins C dy gs) ∧ sp [x, y] H Q E
theorem op_binO {op : Operator} (hc : PySem.W.selfFirst X.K C = true) (hs : PySem.W.findIn X.K (.ref C) (PySem.dunder op.info.2) = some (some (.ref g))) (hf : PySem.W.isFn X.K (.ref g) = true) (F : FnR X.prog X.w X.K X.mg X.base CX k g sp)
    (hr : Room k X.A) (hx : Passes CX X E) : OpR X (binaryOp op) (rBinO C sp E) := by
  intro pins s σ H x y v u Q I rx ry h
  obtain ⟨a, dx, fs, b, dy, gs, rfl, rfl, ha, hb, q⟩ := h
  cases (show v = Value.ref a from rx)
  cases (show u = Value.ref b from ry)
  obtain ⟨ox, od, J, _⟩ := ins_at I ha
  obtain ⟨ox', od', J', _⟩ := ins_at I hb
  obtain ⟨m, hF⟩ := I.fr
  refine PySem.W.binop_K hF I.ok.mod.kin J J'.type hc hs hf ?_
  refine wpAny_mono (wpAny_call (run_fnR (us := [.ref a, .ref b]) (vs := [.ref a, .ref b]) F hr hx I (.cons rfl (.cons rfl .nil)) q)) (fun w s' z => ?_) fun _ _ x => x
  obtain ⟨z', H', I', rz, qz⟩ := z
  exact SlX.cmpback rz ⟨z', H', I', rz, qz⟩
end
end EL
namespace EL
open PySem PySem.Spec PyProof.Rows L2 He TL
/-! ### several except clauses, each with a name (slot i) or without -/
/-- a clause: its class, the slot of its name, its suite's reading -/
abbrev Cl1 : Type := Value × Option Nat × (Addr → Value → Option Addr → TS)
def wMix (K : PySem.W.Frag) (Wout : WX) (D : Ends) : List Cl1 → WX
  | [] => Wout
  | (c, none, ts) :: r => fun cls d σ H => ∃ b, PySem.W.exmOne K cls c = some b ∧ (b = true → ∀ a, H a = none → ts a cls d D σ H) ∧ (b = false → wMix K Wout D r cls d σ H)
  | (c, some i, ts) :: r => fun cls d σ H => ∃ b, PySem.W.exmOne K cls c = some b ∧
      (b = true → ∀ a, H a = none → ts a cls d { nx := fun σ' H' => D.nx (σ'.set i none) H', rt := D.rt, bk := fun σ' H' => D.bk (σ'.set i none) H', ct := fun σ' H' => D.ct (σ'.set i none) H' } (σ.set i (some (.ref a))) H) ∧
      (b = false → wMix K Wout D r cls d σ H)
inductive HdsMix (X : Cx) : List ExceptHandler → List Cl1 → Prop
  | nil : HdsMix X [] []
  | one {x : Str} {c : Value} {ts : Addr → Value → Option Addr → TS} {b₀ : Stmt} {suite : List Stmt} {np pos' : Pos} {hds : List ExceptHandler} {l : List Cl1} (hc : Names X x c)
      (hsu : ∀ (a : Addr) (oe : Obj) (cls : Value) (d : Option Addr) (pn : List (Addr × Obj)), Zc cls d oe → (∃ vs, oe.data = .fields vs) → PSs (X.suite a ((a, oe) :: pn)) (b₀ :: suite) (ts a cls d)) (r : HdsMix X hds l) :
      HdsMix X (.ExceptHandler (some (.Name x np)) none (b₀ :: suite) pos' :: hds) ((c, none, ts) :: l)
  | as_ {x n : Str} {i : Nat} {c : Value} {ts : Addr → Value → Option Addr → TS} {b₀ : Stmt} {suite : List Stmt} {np pos' : Pos} {hds : List ExceptHandler} {l : List Cl1} (hi : X.N[i]? = some n) (hln : X.env.kindOf n = some .local) (hc : Names X x c)
      (hsu : ∀ (a : Addr) (oe : Obj) (cls : Value) (d : Option Addr) (pn : List (Addr × Obj)), Zc cls d oe → (∃ vs, oe.data = .fields vs) → PSs (X.suite a ((a, oe) :: pn)) (b₀ :: suite) (ts a cls d)) (r : HdsMix X hds l) :
      HdsMix X (.ExceptHandler (some (.Name x np)) (some n) (b₀ :: suite) pos' :: hds) ((c, some i, ts) :: l)
section
variable {X : Cx} {body : List Stmt} {h₀ : ExceptHandler} {hds : List ExceptHandler} {l : List Cl1} {pos : Pos} {tb : WX → TS} {Wout : WX}
theorem ps_try_mix (hs : X.stack = X.env :: X.outer) (hf : X.env.frame = some X.env.locals) (hN : X.N.Nodup) (tk : Takes X Wout)
    (hb : ∀ (W : WX) (pn : List (Addr × Obj)) (xe : Value → Shared → Prop), Takes (X.tr pn xe) W → PassesOwn (model X.prog X.w) X.A X.env xe → PSs (X.tr pn xe) body (tb W))
    (hh : HdsMix X (h₀ :: hds) l) : PS X (.Try body (h₀ :: hds) [] [] pos) (fun D σ H => tb (wMix X.K Wout D l) D σ H) := by
  refine ⟨fun pins s σ H D I h => ?_⟩
  have ok := I.ok
  have hfr : X.A.frames = some (X.env :: X.outer) := by rw [ok.frames, hs]
  refine wpAny_Try_except ?_
  refine wpAny_mono ((hb (wMix X.K Wout D l) (X.pn ++ pins) (fun e s₁ => wpAny (model X.prog X.w) X.A (noteFrame e X.env) (fun _ s₂ => wpAny (model X.prog X.w) X.A (setFlight e none) (fun _ s₃ =>
    wpAny (model X.prog X.w) X.A (handleBy e X.env (h₀ :: hds)) (SP X pins D) X.xe s₃) X.xe s₂) X.xe s₁) (fun u s' xx => ?_) PassesOwn.looking).run [] s σ H D (I.toTry _) h) (fun f s1 hsp => ?_) (fun e s1 he => he)
  · -- the catch
    obtain ⟨a, B, sI, pins', σ', H', cls, d, rfl, J', nb, up, sky, na, os, ag, w⟩ := xx
    have J : Inv X pins σ' H' sI := J'.ofTry ok
    have sky' : Sky B (X.env :: X.outer) a (Zc cls d) X.env.locals s'.heap := by rw [← hs]; exact sky
    show wpAny (model X.prog X.w) X.A (noteFrame (.ref a) X.env) _ _ _
    refine Sky.land Zc.steady hfr hf sky' fun h3 fl3 up3 => ?_
    have J3 : Inv X pins σ' H' { s' with heap := h3 } := J.landed nb fl3.1 (up.trans up3) os ag
    obtain ⟨oe3, vs3, he3, hz3, hd3⟩ := fl3.there
    have notFr : ∀ {h : Heap} {o : Obj} {vs : Array Value}, h.FunFrames B (X.env :: X.outer) → h.get? a = some o → o.data = .fields vs → a ∉ frs (X.env :: X.outer) := fun {h o vs} ff e dd hm => by
      obtain ⟨_, o', e', hnf⟩ := ff.mem hm
      rw [e] at e'; cases e'
      exact hnf _ dd
    have nfr := notFr fl3.2.2.1 he3 hd3
    have nL : a ≠ X.env.locals := fun z => nfr (List.mem_filterMap.mpr ⟨X.env, List.mem_cons_self, by rw [hf, z]⟩)
    have nF : a ∉ X.fs := fun hm => by
      obtain ⟨e, he, q⟩ := List.mem_filterMap.mp hm
      exact nfr (List.mem_filterMap.mpr ⟨e, List.mem_cons_of_mem _ he, q⟩)
    have S3 := J3.suite he3 hd3 na nL nF
    have test : ∀ {x : Str} {c : Value} {np : Pos} {Q : Value → Shared → Prop} {E : Value → Shared → Prop}, Names X x c → Q c { s' with heap := h3 } → wpAny (model X.prog X.w) (X.A.mark (some (.ref a))) (eval (.Name x np) X.env) Q E { s' with heap := h3 } := fun {x c np Q E} hc q => by
      obtain ⟨hg, hdbg, hm | ⟨hm, hv, hnn⟩⟩ := hc
      · exact ld_glob (X := X.suite a ((a, oe3) :: (X.pn ++ pins))) S3 hg hm q hdbg
      · exact ld_blt (X := X.suite a ((a, oe3) :: (X.pn ++ pins))) S3 hg hm hv q hnn hdbg
    have LT : PySem.W.Looks (model X.prog X.w) h3 (typeOf (.ref a)) cls := fun A Q E s k q => wpAny_typeOf_ref (k _ _ he3) (by rw [hz3.1]; exact q)
    have go : ∀ {hds' : List ExceptHandler} {l' : List Cl1}, HdsMix X hds' l' → wMix X.K Wout D l' cls d σ' H' →
        wpAny (model X.prog X.w) X.A (handleBy (.ref a) X.env hds') (SP X pins D) X.xe { s' with heap := h3 } := by
      intro hds' l' hk
      induction hk with
      | nil =>
        intro w
        refine wpAny_handleBy_nil ?_
        obtain ⟨k1, k2, k3, oe, vs, T, oT, ts', he, hz, hd, h1, hr⟩ := id fl3
        unfold PySem.passOn
        refine wpAny_bind (wpAny_field he hd h1 ?_)
        rw [if_neg (show ¬ ((Value.ref T == Value.none) = true) from by simp)]
        have fin : wpAny (model X.prog X.w) X.A (setFlight (.ref a) X.env.frame) (fun _ s4 => wpAny (model X.prog X.w) X.A (throw (.ref a) : Sem Flow) (SP X pins D) X.xe s4) X.xe { s' with heap := h3 } := by
          rw [hf]
          refine HandSPX.setFlight_upZ fl3 fun h4 hh4 up4 => wpAny_throw (tk _ _ ?_)
          exact ⟨a, B, sI, pins, σ', H', cls, d, rfl, J, nb, (up.trans up3).trans up4, .inr (.inr (by rw [hs]; exact hh4)), na, os, ag, w⟩
        first
          | exact wpAny_bind (wpAny_pure (wpAny_bind fin))
          | exact wpAny_bind fin
      | @one x c ts b₀ suite np pos' hds2 l2 hc hsu r ih =>
        intro w
        obtain ⟨b, hb1, hyes, hno⟩ := w
        refine wpAny_handleBy_cons (codeAny_handlers_test ?_) (by intro q; cases q)
        have LM := PySem.W.exm_one (M := model X.prog X.w) (J3.kIn) LT hb1
        refine test hc (LM.here ?_)
        cases b with
        | true =>
          refine codeAny_handlers_suite ?_
          refine HandSPX.lands_againZ fl3 fun h4 fl4 up4 => ?_
          have J4 : Inv X pins σ' H' { s' with heap := h4 } := J.landed nb fl4.1 ((up.trans up3).trans up4) os ag
          obtain ⟨oe4, vs4, he4, hz4, hd4⟩ := fl4.there
          have S4 := J4.suite he4 hd4 na nL nF
          refine wpAny_mono ((hsu a oe4 cls d (X.pn ++ pins) hz4 ⟨_, hd4⟩).run [] _ _ H' _ S4 (hyes rfl a na)) (fun f s6 hsp => ?_) (fun _ _ z => False.elim z)
          cases f with
          | next =>
            obtain ⟨σ6, H6, S6, q6⟩ := hsp
            exact ⟨_, _, S6.unsuite ok, q6⟩
          | brk =>
            obtain ⟨σ6, H6, S6, q6⟩ := hsp
            exact ⟨_, _, S6.unsuite ok, q6⟩
          | cont =>
            obtain ⟨σ6, H6, S6, q6⟩ := hsp
            exact ⟨_, _, S6.unsuite ok, q6⟩
          | ret u =>
            obtain ⟨v6, σ6, H6, S6, r6, q6⟩ := hsp
            exact ⟨_, _, _, S6.unsuite ok, r6, q6⟩
        | false =>
          show wpAny _ X.A (handleBy (.ref a) X.env hds2) _ _ _
          exact ih (hno rfl)
      | @as_ x n i c ts b₀ suite np pos' hds2 l2 hi hln hc hsu r ih =>
        intro w
        obtain ⟨b, hb1, hyes, hno⟩ := w
        have hloc : Loc X.env.scope n := .inl hln
        refine wpAny_handleBy_cons (codeAny_handlers_test ?_) (by intro q; cases q)
        have LM := PySem.W.exm_one (M := model X.prog X.w) (J3.kIn) LT hb1
        refine test hc (LM.here ?_)
        cases b with
        | true =>
          refine codeAny_handlers_suite_as ?_
          refine HandSPX.lands_againZ fl3 fun h4 fl4 up4 => ?_
          have J4 : Inv X pins σ' H' { s' with heap := h4 } := J.landed nb fl4.1 ((up.trans up3).trans up4) os ag
          obtain ⟨oe4, vs4, he4, hz4, hd4⟩ := fl4.there
          have S4 := J4.suite he4 hd4 na nL nF
          refine store_ok (X := X.suite a ((a, oe4) :: (X.pn ++ pins))) (v := .ref a) S4 hN hi hloc rfl (fun s5 S5 => ?_) (.inr hln)
          refine wpAny_mono ((hsu a oe4 cls d (X.pn ++ pins) hz4 ⟨_, hd4⟩).run [] s5 _ H' _ S5 (hyes rfl a na)) (fun f s6 hsp => ?_) (fun _ _ z => False.elim z)
          have end_ : ∀ {σ6 : L2.St} {H6 : Hp} {Q : Shared → Prop}, Inv (X.suite a ((a, oe4) :: (X.pn ++ pins))) [] σ6 H6 s6 → (∀ s7, Inv X pins (σ6.set i none) H6 s7 → Q s7) →
              wpAny (model X.prog X.w) X.A (do bindName X.env n .none; unbindBehindTheSuite X.env n pos') (fun _ s7 => Q s7) X.xe s6 := fun {σ6 H6 Q} S6 hq => gone_ok (S6.unsuite ok) hN hi hln hq
          cases f with
          | next =>
            obtain ⟨σ6, H6, S6, q6⟩ := hsp
            exact end_ S6 fun s7 J7 => ⟨_, _, J7, q6⟩
          | brk =>
            obtain ⟨σ6, H6, S6, q6⟩ := hsp
            exact end_ S6 fun s7 J7 => ⟨_, _, J7, q6⟩
          | cont =>
            obtain ⟨σ6, H6, S6, q6⟩ := hsp
            exact end_ S6 fun s7 J7 => ⟨_, _, J7, q6⟩
          | ret u =>
            obtain ⟨v6, σ6, H6, S6, r6, q6⟩ := hsp
            exact end_ S6 fun s7 J7 => ⟨_, _, _, J7, r6, q6⟩
        | false =>
          show wpAny _ X.A (handleBy (.ref a) X.env hds2) _ _ _
          exact ih (hno rfl)
    exact go hh w
  · cases f with
    | next =>
      obtain ⟨σ', H', J', q⟩ := hsp
      exact wpAny_execs_nil ⟨σ', H', J'.ofTry ok, q⟩
    | brk =>
      obtain ⟨σ', H', J', q⟩ := hsp
      exact ⟨σ', H', J'.ofTry ok, q⟩
    | cont =>
      obtain ⟨σ', H', J', q⟩ := hsp
      exact ⟨σ', H', J'.ofTry ok, q⟩
    | ret u =>
      obtain ⟨v, σ', H', J', r, q⟩ := hsp
      exact ⟨v, σ', H', J'.ofTry ok, r, q⟩
end
end EL
namespace EL
open PySem PySem.Spec PyProof.Rows L2 He TL
/-! ### dict comprehensions whose keys are ints, texts or tuples of them -/
/-- the empty dict, either way -/
inductive NilD : HO → Prop where
  | k : NilD (.dK [])
  | t : NilD (.dT [])
theorem NilD.ok {P : Program} {w : World} {H : Hp} {o : HO} (n : NilD o) (h : Heap) (hb : sysModules < h.objs.size) : ObjOk P w H (h.push { cls := .type "dict", data := .dict #[] }) h.objs.size o := by
  cases n with
  | k => exact dk_empty h hb
  | t => exact dt_empty h hb
theorem put_by {X : Cx} {pins : List (Addr × Obj)} {σ : L2.St} {H H' : Hp} {s : Shared} {E : Value → Shared → Prop} {D : Addr} {y v : V} {u r : Value} {Q : Unit → Shared → Prop} (hu : X.A.units < cLine) (I : Inv X pins σ H s) (g : DPut H D y v H')
    (ry : RelV y u) (rv : RelV v r) (h : ∀ s', Inv X pins σ H' s' → Q () s') : wpAny (model X.prog X.w) X.A (dictSet D u r) Q E s := by
  rcases g with ⟨kvs, k, e, ey, l, eH⟩ | ⟨kvs, k, b, e, ey, eb, l, eH⟩
  · subst ey
    subst eH
    exact d_dictSet I e l ry rv h
  · subst ey
    subst eH
    obtain rfl : u = Value.ref b := ry
    obtain ⟨z, hd, xs, rel, dd⟩ := dt_of I.hok e
    refine wpAny_dictSet_heap (hsz := by rw [← Paired.length rel]; exact z) (show (tupleKind (mixKind X.prog X.w)).room X.A from hu) (key_of I.hok eb) dd fun h' dd' hs => h _ ?_
    obtain ⟨q, es, ep, hq, c2, c3, c4, _, c5⟩ := dd'
    have lz : (putK kvs k v).length ≤ sizeLine := by have := length_putK kvs k v; omega
    exact d_write I (by rw [e]; trivial) hs ⟨q, hq⟩ ⟨lz, hd, _, (rel.put k eb rv).keeps fun c ys ec => (upd_ne (ne_of ec e (fun z => nomatch z))).trans ec, q, es, ep, hq, c2, c3, c4, c5⟩
section
variable {X : Cx}
abbrev DcStep (g : TG) (tt : TT) (tk tv : TE) (vs : List Nat) (σ : L2.St) (D : Addr) (Nx : Hp → Prop) (x : V) (H : Hp) : Prop := g x (wipe σ vs) H fun σ2 H2 => wipe σ2 vs = wipe σ vs ∧ tt σ2 H2 fun b H3 =>
  if b = true then tk σ2 H3 fun y H4 => tv σ2 H4 fun z H5 => ∃ H6, DPut H5 D y z H6 ∧ Nx H6 else Nx H3
def tDcG (o0 : HO) (wi : TI) (g : TG) (tt : TT) (tk tv : TE) (vs : List Nat) : TE := fun σ H Q => wi σ H fun J H1 => ∀ D, H1 D = none → ∃ W : Nat → Nat → Hp → Prop, (∃ m, W 0 m (upd H1 D o0)) ∧ ∀ i m H, W i m H →
  (J.stop i H ∧ Q (.ref D) H) ∨ (J.go i H ∧ ∃ Nx : Hp → Prop, (∀ H', Nx H' → ∃ m', m' < m ∧ W (i + 1) m' H') ∧ ∀ x H', J.yld i H x H' → DcStep g tt tk tv vs σ D Nx x H')
theorem pe_dcG {o0 : HO} {kx vx tg iter : Expr} {ifs : List Expr} {scope : Scope} {own : List (Str × Nat)} {pos : Pos} {wi : TI} {g : TG} {tt : TT} {tk tv : TE} (n0 : NilD o0) (hu : X.A.units < cLine) (hc : X.calm = true) (hN : X.N.Nodup) (hi : PI X tg iter wi) (ok : BlkOk X.N X.env.scope scope own)
    (hg : ∀ (s : Shared) (H : Hp) (C : Addr) (cl : List (Str × Addr)) (fp : List Addr), PG (X.blk s H scope (compEnvC scope cl C X.env) fp) tg g) (ht : ∀ (s : Shared) (H : Hp) (C : Addr) (cl : List (Str × Addr)) (fp : List Addr), PTs (X.blk s H scope (compEnvC scope cl C X.env) fp) ifs tt)
    (hk : ∀ (s : Shared) (H : Hp) (C : Addr) (cl : List (Str × Addr)) (fp : List Addr), PE (X.blk s H scope (compEnvC scope cl C X.env) fp) kx tk)
    (hv : ∀ (s : Shared) (H : Hp) (C : Addr) (cl : List (Str × Addr)) (fp : List Addr), PE (X.blk s H scope (compEnvC scope cl C X.env) fp) vx tv) (hs : ∀ x, foldedSetIterable iter X.env x = pure x := by intro _; rfl) :
    PE X (.DictComp kx vx [⟨tg, iter, ifs, 0⟩] scope pos) (tDcG o0 wi g tt tk tv (own.map (·.2))) := by
  refine ⟨fun pins s σ H Q I h => ?_⟩
  rw [arm_eval_DictComp]
  have cl : ∀ y ∈ scope.names, y.2 = .free → ∃ c, X.env.cells.lookup y.1 = some c := fun y hy e => (ok.free y hy e).elim (fun k => I.ok.has _ (.inl k)) (fun k => I.ok.has _ (.inr k))
  refine wpAny_comprehension_free (use := none) rfl hs (closure_ok cl) ok.kind (fun y hy e => by rw [ok.uniq y hy, e]) (thn (hi.run pins s σ H _ I h) fun xv s1 hx => thn hx fun itv s2 h2 => ?_)
  obtain ⟨it, fp, tn, J, H2, e, I2, T, st2, f2, q⟩ := h2
  subst e
  refine wpAny_newObj_type (newEnv_comp ?_)
  generalize hD : s2.heap.objs.size = D
  obtain ⟨W, ⟨m0, w0⟩, turn⟩ := q D (I2.hok.fresh (Nat.le_of_eq hD))
  -- the new dict
  have h3 : ∃ s3 : Shared, ({ s2 with heap := s2.heap.push { cls := .type "dict", data := .dict #[] } } : Shared) = s3 := ⟨_, rfl⟩
  obtain ⟨s3, hs3⟩ := h3
  have hh3 : s3.heap = s2.heap.push { cls := .type "dict", data := .dict #[] } := by rw [← hs3]
  have h4 : ∃ H3, upd H2 D o0 = H3 := ⟨_, rfl⟩
  obtain ⟨H3, hH3⟩ := h4
  have I3 : Inv X pins σ H3 s3 := by
    rw [← hs3, ← hH3]
    refine I2.laid (t' := s2.toks) (fun b o e => Heap.get?_push_of_some _ e) (Nat.le_of_eq hD) ?_
    rw [← hD]
    exact n0.ok s2.heap I2.big
  rw [hH3] at w0
  have lt2 : ∀ b ∈ fp, b < s2.heap.objs.size := fun b hb => let ⟨o, e, _⟩ := T.obj _ _ st2 b hb; Heap.lt_size e
  have f3 : ∀ b ∈ fp, FpOk X pins H3 b ∧ b < s3.heap.objs.size := fun b hb => by
    refine ⟨⟨?_, (f2 b hb).2⟩, by rw [hh3, Heap.size_push]; exact Nat.lt_succ_of_lt (lt2 b hb)⟩
    rw [← hH3, upd_ne (by rw [← hD]; exact Nat.ne_of_lt (lt2 b hb))]
    exact (f2 b hb).1
  have I4 := block_start I3 ok hN f3
  rw [hs3]
  show codeAny _ _ (.compStart (.DictComp kx vx [⟨tg, iter, ifs, 0⟩] scope pos) 0 (.ref it) (.ref D) (compEnvC scope (cellsFrom (s3.heap.objs.size + 1) scope.names (cloFrom X.env.cells scope.names [])) s3.heap.objs.size X.env)) (compPost (model X.prog X.w) X.A X.xe none _ (.ref D) s3.heap.objs.size) { s3 with heap := pushCells (s3.heap.push { cls := .type "dict", data := .dict #[] }) scope.names }
  have pg := hg s3 H3 s3.heap.objs.size (cellsFrom (s3.heap.objs.size + 1) scope.names (cloFrom X.env.cells scope.names [])) fp
  have pt := ht s3 H3 s3.heap.objs.size (cellsFrom (s3.heap.objs.size + 1) scope.names (cloFrom X.env.cells scope.names [])) fp
  have pk := hk s3 H3 s3.heap.objs.size (cellsFrom (s3.heap.objs.size + 1) scope.names (cloFrom X.env.cells scope.names [])) fp
  have pv := hv s3 H3 s3.heap.objs.size (cellsFrom (s3.heap.objs.size + 1) scope.names (cloFrom X.env.cells scope.names [])) fp
  generalize hce : compEnvC scope (cellsFrom (s3.heap.objs.size + 1) scope.names (cloFrom X.env.cells scope.names [])) s3.heap.objs.size X.env = ce at I4 pg pt pk pv ⊢
  have cL : ce.locals = s3.heap.objs.size := by rw [← hce]; rfl
  have st4 : tn 0 (pushCells (s3.heap.push { cls := .type "dict", data := .dict #[] }) scope.names) := T.keep _ _ _ st2 fun b _ o e => pushCells_keeps _ _ _ _ (Heap.get?_push_of_some _ (by rw [hh3]; exact Heap.get?_push_of_some _ e))
  generalize hs4 : ({ s3 with heap := pushCells (s3.heap.push { cls := .type "dict", data := .dict #[] }) scope.names } : Shared) = s4 at I4 ⊢
  have st4' : tn 0 s4.heap := by rw [← hs4]; exact st4
  have stat : ∀ {σ' : L2.St} {H' : Hp} {s' : Shared}, Inv (X.blk s3 H3 scope ce fp) [] σ' H' s' → (∀ b ∈ fp, H' b = none) → ∀ b ∈ fp, FpOk (X.blk s3 H3 scope ce fp) [] H' b := fun I' hn b hb =>
    ⟨hn b hb, (I'.ok.exf b hb).1, I'.ok.exfs b hb, .inl hb, fun x c e => (I'.ok.exf b hb).2 x c e, fun p hp => by cases hp⟩
  have loop : codeAny (model X.prog X.w) X.A (.compLoop (.DictComp kx vx [⟨tg, iter, ifs, 0⟩] scope pos) 0 (.ref it) (.ref D) ce) (compPost (model X.prog X.w) X.A X.xe none (EP X pins σ Q) (.ref D) s3.heap.objs.size) s4 := by
    refine compLoop_anyD (fun n s' => ∃ i H', Inv (X.blk s3 H3 scope ce fp) [] (wipe σ (own.map (·.2))) H' s' ∧ tn i s'.heap ∧ (∀ b ∈ fp, H' b = none) ∧ W i n H') ?_ m0 ⟨0, H3, I4, st4', fun b hb => (f3 b hb).1.1, w0⟩
    rintro n s5 ⟨i, H5, I5, st5, n5, w5⟩
    rcases turn i n H5 w5 with ⟨stop, qq⟩ | ⟨go, Nx, hNx, step⟩
    · refine thnF (T.done (X.blk s3 H3 scope ce fp) rfl rfl rfl hc i [] s5 _ H5 (fun _ _ => False) I5 (stat I5 n5) st5 stop) fun r s6 ⟨hr, I6⟩ => ?_
      subst hr
      have I7 : Inv X pins σ H5 s6 := I3.call' (ch := fp) I6.os I6.base I6.hok I6.bare fun b hb => ⟨(f3 b hb).1.2.2.2.1, (f3 b hb).1.2.1, (f3 b hb).1.2.2.2.2.1, (f3 b hb).1.2.2.2.2.2⟩
      have nC : H5 s3.heap.objs.size = none := by rw [← cL]; exact I6.free
      obtain ⟨m, hn, _⟩ := I6.loc
      obtain ⟨a0, a1, a2, a3, a4, a5⟩ := I3.fpOk (Nat.le_refl _) nC
      refine ⟨m, by rw [← cL]; exact hn, fun h'' sb => ?_⟩
      exact ⟨.ref D, H5, I7.turned (t' := s6.toks) (fun b o hb e => (sb.2 b hb).trans e) a0 a1 a3 a4 a5, rfl, qq⟩
    · refine thnF (T.item (X.blk s3 H3 scope ce fp) rfl rfl rfl hc i [] s5 _ H5 (fun _ _ => False) I5 (stat I5 n5) st5 go) fun r s6 ⟨u, hr, h6⟩ => ?_
      subst hr
      refine thnF h6 fun _ s7 ⟨x, H7, I7, r7, y7, st7, n7⟩ => ?_
      refine thnF (pg.run _ s7 _ H7 x u _ (I7.pinned (stat I7 n7) (T.obj _ _ st7)) r7 (step x H7 y7)) fun _ s8 ⟨σ8, H8, I8, hw8, q8⟩ => ?_
      refine thnF (pt.run _ s8 σ8 H8 _ I8 q8) fun b s9 ⟨H9, I9, q9⟩ => ?_
      have fin : ∀ {s' : Shared} {H' : Hp}, Inv (X.blk s3 H3 scope ce fp) ([] ++ pinsAt fp s7.heap) σ8 H' s' → Nx H' → ∃ m, m < n ∧ ∃ i H', Inv (X.blk s3 H3 scope ce fp) [] (wipe σ (own.map (·.2))) H' s' ∧ tn i s'.heap ∧ (∀ b ∈ fp, H' b = none) ∧ W i m H' := fun {s' H'} I' nx => by
        obtain ⟨m', hm, w'⟩ := hNx H' nx
        have pin' : ∀ b ∈ fp, ∀ o, s7.heap.get? b = some o → s'.heap.get? b = some o ∧ H' b = none := fun b hb o e =>
          let z := I'.pin (b, o) (List.mem_append_right _ (List.mem_append_right _ (mem_pinsAt hb e)))
          ⟨z.1, z.2.1⟩
        refine ⟨m', hm, i + 1, H', (I'.unpinned (pins := [])).weak (by rw [← hw8, wipe_length]) (fun j v e => (wipe_some (by rw [hw8]; exact e)).1), T.keep _ _ _ st7 fun b hb o e => (pin' b hb o e).1, fun b hb => ?_, w'⟩
        obtain ⟨o, e, _⟩ := T.obj _ _ st7 b hb
        exact (pin' b hb o e).2
      cases b with
      | false => exact fin I9 q9
      | true =>
        refine thnF (pk.run _ s9 σ8 H9 _ I9 q9) fun z s10 ⟨yk, H10, I10, r10, q10⟩ => ?_
        refine thnF (pv.run _ s10 σ8 H10 _ I10 q10) fun z2 s11 ⟨yv, H11, I11, r11, H12, dp, nx⟩ => ?_
        exact put_by (X := X.blk s3 H3 scope ce fp) hu I11 dp r10 r11 fun s12 I12 => fin I12 nx
  exact codeAny_compStart_dict loop (T.self X.A 0 _ _ _ st4' loop)
/-- the turns of such a comprehension -/
theorem dcG_it {J : It} {n : Nat} {G : Hp → Prop} {Y : Nat → Hp → V → Hp → Prop} (w : L2.Walk J n G Y) {o0 : HO} {g : TG} {tt : TT} {tk tv : TE} {vs : List Nat} {σ : L2.St} {H1 : Hp} {D : Addr} {Qd : Hp → Prop} (Pv : Nat → Hp → Prop) (h0 : Pv 0 (upd H1 D o0)) (hG : ∀ i H, i ≤ n → Pv i H → G H)
    (hs : ∀ i x H H', i < n → Pv i H → Y i H x H' → DcStep g tt tk tv vs σ D (Pv (i + 1)) x H') (hd : ∀ H, Pv n H → Qd H) :
    ∃ W : Nat → Nat → Hp → Prop, (∃ m, W 0 m (upd H1 D o0)) ∧ ∀ i m H, W i m H → (J.stop i H ∧ Qd H) ∨ (J.go i H ∧ ∃ Nx : Hp → Prop, (∀ H', Nx H' → ∃ m', m' < m ∧ W (i + 1) m' H') ∧ ∀ x H', J.yld i H x H' → DcStep g tt tk tv vs σ D Nx x H') := by
  refine ⟨fun i m H => m + i = n ∧ Pv i H, ⟨n, rfl, h0⟩, fun i m H ⟨hm, p⟩ => ?_⟩
  have q := hG i H (by omega) p
  cases m with
  | zero =>
    have e : i = n := by omega
    subst e
    exact .inl ⟨w.stops H q, hd H p⟩
  | succ m => exact .inr ⟨w.goes i H (by omega) q, Pv (i + 1), fun H' p' => ⟨m, Nat.lt_succ_self m, by omega, p'⟩, fun x H' y => hs i x H H' (by omega) p (w.yields i H x H' (by omega) q y)⟩
end
end EL
namespace EL
open PySem PySem.Spec PyProof.Rows L2 He TL
/-! ### what may change: the objects in S; tuples never -/
def Rig : HO → Bool
  | .tup _ => true
  | .frz _ _ => true
  | _ => false
structure Md (S : List Addr) (H H' : Hp) : Prop where
  out : ∀ b o, H b = some o → b ∉ S → H' b = some o
  rig : ∀ b o, H b = some o → Rig o = true → H' b = some o
section
variable {S S' : List Addr} {H H1 H2 : Hp} {K : PySem.W.Frag} {a p : Addr} {o o' : HO}
theorem Md.refl (S : List Addr) (H : Hp) : Md S H H := ⟨fun _ _ h _ => h, fun _ _ h _ => h⟩
theorem Md.of (s : Same H H1) : Md S H H1 := ⟨fun b o h _ => s b o h, fun b o h _ => s b o h⟩
theorem Md.trans (x : Md S H H1) (y : Md S H1 H2) : Md S H H2 := ⟨fun b o h n => y.out b o (x.out b o h n) n, fun b o h r => y.rig b o (x.rig b o h r) r⟩
theorem Md.mono (x : Md S H H1) (h : ∀ b ∈ S, b ∈ S') : Md S' H H1 := ⟨fun b o e n => x.out b o e fun z => n (h b z), x.rig⟩
theorem Md.upd (e : H a = some o) (r : Rig o = false) (m : a ∈ S) : Md S H (upd H a o') :=
  ⟨fun b u h n => (upd_ne (fun z : b = a => n (by rw [z]; exact m))).trans h, fun b u h ru => (upd_ne (fun z : b = a => by rw [z, e] at h; cases h; rw [r] at ru; cases ru)).trans h⟩
/-- what is new is not seen from before -/
theorem Md.new (x : Md (p :: S) H1 H2) (s : Same H H1) (n : H p = none) : Md S H H2 :=
  ⟨fun b u h m => x.out b u (s b u h) (fun z => (List.mem_cons.mp z).elim (fun z => ne_of_none h n z) m), fun b u h r => x.rig b u (s b u h) r⟩
theorem Md.newM (x : Md (p :: S) H1 H2) (s : Md S H H1) (n : H p = none) : Md S H H2 :=
  ⟨fun b u h m => x.out b u (s.out b u h m) (fun z => (List.mem_cons.mp z).elim (fun z => ne_of_none h n z) m), fun b u h r => x.rig b u (s.rig b u h r) r⟩
theorem Md.same (x : Md [] H H1) : Same H H1 := fun b o h => x.out b o h (by simp)
theorem But.md (b : But p H H1) (e : H p = some o) (r : Rig o = false) : Md [p] H H1 :=
  ⟨fun c u h n => b c u h (fun z => n (by rw [z]; simp)), fun c u h ru => b c u h (fun z => by rw [z, e] at h; cases h; rw [r] at ru; cases ru)⟩
theorem Md.but (x : Md [p] H H1) : But p H H1 := fun b o h n => x.out b o h (by simp [n])
theorem Md.sqT (x : Md S H H1) {xs : List V} (h : SqT K H a xs) : SqT K H1 a xs := by
  rcases h with (h | ⟨o, h⟩) | h
  · exact .inl (.inl (x.rig _ _ h rfl))
  · exact .inl (.inr ⟨o, x.rig _ _ h rfl⟩)
  · exact .inr h
end
mutual
def noL : PyData → Bool
  | .list _ => false
  | .dict _ => false
  | .tuple xs => noLs xs
  | .none => true
  | .bool _ => true
  | .int _ => true
  | .str _ => true
def noLs : List PyData → Bool
  | [] => true
  | x :: r => noL x && noLs r
end
mutual
theorem Md.dp {S : List Addr} {K : PySem.W.Frag} {H H' : Hp} (s : Md S H H') : ∀ {d : PyData} {v : V}, noL d = true → Dp K H v d → Dp K H' v d
  | _, _, _, .non => .non
  | _, _, _, .bl b => .bl b
  | _, _, _, .int i => .int i
  | _, _, _, .str x => .str x
  | _, _, n, .lst h a => by cases n
  | _, _, n, .tup h a => .tup (s.sqT h) (Md.dpAll s n a)
theorem Md.dpAll {S : List Addr} {K : PySem.W.Frag} {H H' : Hp} (s : Md S H H') : ∀ {ds : List PyData} {vs : List V}, noLs ds = true → DpAll K H vs ds → DpAll K H' vs ds
  | _, _, _, .nil => .nil
  | _, _, n, .cons a b => .cons (Md.dp s (Bool.and_eq_true_iff.mp n).1 a) (Md.dpAll s (Bool.and_eq_true_iff.mp n).2 b)
end
/-- data without lists, laid and not deep -/
structure Pd (d : PyData) : Prop where
  nl : noL d = true
  cl : d.canLay0 = true
  dp : d.depth ≤ 16
theorem Pd.shaped {d : PyData} (h : Pd d) : SeqAt.shaped d = true := Bool.and_eq_true_iff.mpr ⟨h.cl, decide_eq_true (Nat.le_trans h.dp (by decide))⟩
def Pds (ds : List PyData) : Prop := ∀ d ∈ ds, Pd d
theorem Pds.nl : ∀ {ds : List PyData}, Pds ds → noLs ds = true
  | [], _ => rfl
  | d :: r, h => Bool.and_eq_true_iff.mpr ⟨(h d (by simp)).nl, Pds.nl fun x hx => h x (by simp [hx])⟩
theorem Pds.cl : ∀ {ds : List PyData}, Pds ds → PyData.canLayAll0 ds = true
  | [], _ => rfl
  | d :: r, h => Bool.and_eq_true_iff.mpr ⟨(h d (by simp)).cl, Pds.cl fun x hx => h x (by simp [hx])⟩
theorem Pds.dp : ∀ {ds : List PyData}, Pds ds → PyData.depthAll ds ≤ 16
  | [], _ => Nat.zero_le _
  | d :: r, h => Nat.max_le.mpr ⟨(h d (by simp)).dp, Pds.dp fun x hx => h x (by simp [hx])⟩
theorem Pds.shaped {ds : List PyData} (h : Pds ds) : SeqAt.shaped (.list ds) = true := Bool.and_eq_true_iff.mpr ⟨h.cl, decide_eq_true (by show PyData.depthAll ds + 1 ≤ 64; have := h.dp; omega)⟩
theorem Pds.snoc {ds : List PyData} {d : PyData} (h : Pds ds) (k : Pd d) : Pds (ds ++ [d]) := fun x hx => (List.mem_append.mp hx).elim (h x) fun z => by cases List.mem_singleton.mp z; exact k
theorem Pds.refl {ds : List PyData} (h : Pds ds) : PyData.eqv (.list ds) (.list ds) = true := SeqAt.eqv_refl _ h.cl
theorem DpAll.snoc {K : PySem.W.Frag} {H : Hp} {v : V} {d : PyData} (k : Dp K H v d) : ∀ {ds : List PyData} {vs : List V}, DpAll K H vs ds → DpAll K H (vs ++ [v]) (ds ++ [d])
  | _, _, .nil => .cons k .nil
  | _, _, .cons a b => .cons a (DpAll.snoc k b)
theorem DpAll.get {K : PySem.W.Frag} {H : Hp} : ∀ {ds : List PyData} {vs : List V} {i : Nat} {v : V}, DpAll K H vs ds → vs[i]? = some v → ∃ d, ds[i]? = some d ∧ Dp K H v d
  | _, _, 0, _, .cons a b, e => by cases e; exact ⟨_, rfl, a⟩
  | _, _, i + 1, _, .cons a b, e => DpAll.get (i := i) b e
/-! ### a caught error that has a dict: isinstance, where the answer is yes -/
theorem kit_yes {K : PySem.W.Frag} {x t c : Value} {Hq : Heap → Prop} (ty : ∀ (M : Model) (h : Heap), K.In h → Hq h → PySem.W.Looks M h (typeOf x) t) (e : PySem.W.kitOne K t c = some true) : Answers (fun s => K.In s.heap ∧ Hq s.heap) x c true := by
  intro dep tk prog w A R s hs
  obtain ⟨⟨X, p⟩, hq⟩ := hs
  obtain ⟨h0, g, d, tt, os⟩ := s
  have LT := ty (model prog w) h0 X p
  unfold PySem.W.kitOne at e
  unfold Builtin.«isinstance.nested»
  refine wpAny_bind (LT.at ?_)
  by_cases q : (t == c) = true
  · rw [if_pos q]
    first
      | exact wpAny_bind (wpAny_rule (hq tt))
      | exact wpAny_bind (wpAny_rule (wpAny_pure (hq tt)))
      | exact wpAny_pure (hq tt)
      | exact wpAny_bind (wpAny_pure (hq tt))
  · rw [if_neg q] at e
    rw [if_neg q]
    obtain ⟨k1, k2, k3⟩ := PySem.W.kit_cls (M := model prog w) X e
    refine wpAny_bind (k1.at ?_)
    rw [if_pos (by decide)]
    k_delta "plainIsInstance"
    refine wpAny_bind (wpAny_bind (k2.at ?_))
    simp only [Bool.not_true, Bool.false_eq_true, if_false]
    refine wpAny_bind ((LT.andThen k3).at ?_)
    first
      | exact wpAny_pure (wpAny_pure (hq tt))
      | (simp only [if_true]; first | exact wpAny_pure (wpAny_pure (hq tt)) | exact wpAny_pure (hq tt) | exact wpAny_bind (wpAny_pure (wpAny_pure (hq tt))))
def rIsY (K : PySem.W.Frag) (cls : Value) (a : Addr) : List V → Hp → VK → Prop := fun xs H Q => ∃ (c : V) (cv : Value), xs = [.ref a, c] ∧ (∀ u, RelV c u → u = cv) ∧ PySem.W.kitOne K cls cv = some true ∧ Q (.bl true) H
theorem call_isY {X : Cx} {a : Addr} {oe : Obj} {pn : List (Addr × Obj)} {cls : Value} {d : Option Addr} (hz : Zc cls d oe) : CallR (X.suite a ((a, oe) :: pn)) (.builtin "isinstance") (rIsY X.K cls a) := by
  intro pins s σ H xs us Q I r h
  obtain ⟨c, cv, rfl, hcv, e, q⟩ := h
  cases r with
  | cons rx rr =>
    cases rr with
    | cons rt rr =>
      cases rr
      cases rx
      cases hcv _ rt
      obtain ⟨hget, _⟩ := I.pin (a, oe) (List.mem_append.mpr (.inl List.mem_cons_self))
      refine call_isinstance (S := fun _ R s => (X.K.In s.heap ∧ s.heap.get? a = some oe) ∧ ∀ tk, R (.ok (.ret (.bool true))) { s with toks := tk })
        (fun prog w A R s hs => isinstance_outer (kit_yes (Hq := fun h => h.get? a = some oe) (t := cls) (fun M h _ e0 A Q E s k q => wpAny_typeOf_ref (k _ _ e0) (by rw [hz.1]; exact q)) e 0 _ prog w A R s hs) (fun z => nomatch z)) ⟨⟨I.kIn, hget⟩, fun tk => ?_⟩
      exact ⟨.bl true, H, I.kept (t' := tk) fun _ _ z => z, rfl, q⟩
/-! ### defs with defaults at any address -/
theorem fnD {P : Program} {w : World} {K : PySem.W.Frag} {mg : Str → Option Value} {base : Heap} {CX : CXT} {k : Nat} {x qual : Str} {sp : Sp} {params : Arguments} {body : List Stmt} {scope : Scope} {f : Addr} {fd : FuncData} {ps : List Str} {dvs : List V}
    (F : FunD K x qual params body scope dvs [] f fd) (ok : FnOk P w K mg base CX k f fd ps sp) (n j : Nat) (hd : dvs ≠ []) (hn : n + (dvs.length - j) = ps.length)
    (h : ∀ (T : Addr) (kV doc pm : Value) (an : Option Addr) (cdv ct : Value) (us its : List Value), us.length = n → its.length = dvs.length →
      ∃ k, bindArgs (PySem.W.fnOf x qual params body scope (.ref T) kV doc pm an cdv ct) ⟨us, []⟩ = seqItems? (.ref T) >>= k ∧ k (some its.toArray) = pure (ps.zip (us ++ its.drop j))) :
    FnR P w K mg base CX k f (fun vs H Q E => sp (vs ++ dvs.drop j) H Q E) := by
  obtain ⟨ds, h1, h2⟩ := F.binds1 n j hd hn h
  exact ok.raw h2 h1
/-- C() by an __init__ whose parameters all have defaults -/
theorem pe_makeE0 {X : Cx} {CX : CXT} {k : Nat} {C f : Addr} {x : Str} {sp : Sp} {E : L2.St → XK} {p pos : Pos} (M : Mk X.K C f) (F : FnR X.prog X.w X.K X.mg X.base CX k f sp) (hr : Room (k + 1) X.A) (hm : X.mg x = some (.ref C)) (hx : ∀ σ, PassesAt CX X σ (E σ)) (hg : Gl X x := by rfl) (hdb : (x == ("__debug__" : Str)) = false := by decide) :
    PE X (.Call (.Name x p) [] [] pos) (tMakeE C sp E tNil) := by
  refine ⟨fun pins s σ H Q I h => ?_⟩
  refine wpAny_Call_Name_kw (ld_glob I hg hm ?_ hdb)
  exact PySem.W.callWith_K0 (first := []) I.kIn M.kp (run_makeE (us := []) (vs := []) M F hr (hx σ) I .nil h)
def tupAB (K : PySem.W.Frag) (a : Addr) : Bool := match K.lookup a with
  | some ⟨.type c, _, .seq its _, _⟩ => decide (c = "tuple") && decide (its = #[])
  | _ => false
theorem tupAB_ok {K : PySem.W.Frag} {a : Addr} (h : tupAB K a = true) (H : Hp) : SqT K H a [] := by
  unfold tupAB at h
  split at h
  · rename_i c od its n osl q
    obtain ⟨h1, h2⟩ := ba h
    have e2 := of_decide_eq_true h2
    subst e2
    exact .inr ⟨_, #[], n, q, congrArg Value.type (of_decide_eq_true h1), rfl, by decide, .nil⟩
  · cases h
theorem tYes_of {σ : L2.St} {H : Hp} {F G : Hp → Prop} (h : F H) : tYes σ H fun b H3 => if b = true then F H3 else G H3 := by
  show if true = true then F H else G H
  rw [if_pos rfl]
  exact h
/-- try .. except X: with a name for its reading (a loop's body) -/
def tTryO (K : PySem.W.Frag) (c : Value) (ts : Addr → Value → Option Addr → TS) (Wout : WX) (tb : WX → TS) : TS := fun D σ H => tb (wOnly K c ts Wout D) D σ H
theorem ps_tryO {X : Cx} {x : Str} {c : Value} {body suite : List Stmt} {b₀ : Stmt} {np pos pos' : Pos} {tb : WX → TS} {ts : Addr → Value → Option Addr → TS} {Wout : WX} (hs : X.stack = X.env :: X.outer) (hf : X.env.frame = some X.env.locals) (hc : Names X x c) (tk : Takes X Wout)
    (hb : ∀ (W : WX) (pn : List (Addr × Obj)) (xe : Value → Shared → Prop), Takes (X.tr pn xe) W → PassesOwn (model X.prog X.w) X.A X.env xe → PSs (X.tr pn xe) body (tb W))
    (hsu : ∀ (a : Addr) (oe : Obj) (cls : Value) (d : Option Addr) (pn : List (Addr × Obj)), Zc cls d oe → (∃ vs, oe.data = .fields vs) → PSs (X.suite a ((a, oe) :: pn)) (b₀ :: suite) (ts a cls d)) :
    PS X (.Try body [.ExceptHandler (some (.Name x np)) none (b₀ :: suite) pos'] [] [] pos) (tTryO X.K c ts Wout tb) := ps_try_only hs hf hc tk hb hsu
end EL
namespace EL
open PySem PySem.Spec PyProof.Rows L2 He TL
/-! ### an exception that leaves a comprehension -/
theorem note_same {ce env : Env} (h : ce.frame = env.frame) (x : Value) : noteFrame x ce = noteFrame x env := by
  unfold noteFrame PySem.frameOf
  rw [h]
theorem comp_leave {X : Cx} {W : WX} (tk : Takes X W) (hs : X.stack = X.env :: X.outer) (hf : X.env.frame = some X.env.locals) {pins : List (Addr × Obj)} {σ : L2.St} {H : Hp} {s s' : Shared} (I : Inv X pins σ H s) {C : Addr} {m : Str → Option Value} (hn : s.heap.Ns C m) (hC : FpOk X pins H C)
    {E : XK} (hW : ∀ cls d H', E cls d H' → W cls d σ H') {e : Value} (c : L2.CX X.prog X.w X.stack H s E e s') {ce : Env} (hce : ce.frame = X.env.frame) {what : String} {E₁ : Value → Shared → Prop} :
    wpAny (model X.prog X.w) X.A (noteFrame e ce) (fun _ s1 => ∃ m, s1.heap.Ns C m ∧ ∀ h', Heap.SameBut C s1.heap h' → wpAny (model X.prog X.w) X.A (passOn what e ce : Sem Value) (fun _ _ => False) X.xe { s1 with heap := h' }) E₁ s' := by
  obtain ⟨a, B, H', cls, d, rfl, fl, hok, ub, na, os, ag, hE⟩ := c
  obtain ⟨oC, es, ep, gC, dC, rC⟩ := hn
  obtain ⟨f0, f1, f2, f3, f4, f5⟩ := hC
  have nfC : C ∉ frs X.stack := by
    rw [hs]
    intro z
    obtain ⟨env, he, q⟩ := List.mem_filterMap.mp z
    rcases List.mem_cons.mp he with rfl | he
    · rw [hf] at q
      exact f1 (Option.some.inj q).symm
    · exact f2 (List.mem_filterMap.mpr ⟨env, he, q⟩)
  have bC : B.get? C = some oC := ub.keep C oC gC f0 nfC
  obtain ⟨oe, vs, T, oT, ts, he, hz, hd, h1, hnT, hTe, hT, hdT, h3⟩ := fl.2.2.2
  have sC : s'.heap.get? C = some oC := fl.1 _ _ bC
  have aC : a ≠ C := fun z => by rw [z, sC] at he; cases he; rw [dC] at hd; cases hd
  have TC : T ≠ C := fun z => by rw [z, sC] at hT; cases hT; rw [dC] at hdT; cases hdT
  -- the three heaps without C
  obtain ⟨Gs, gs1, gs2⟩ := restrict s.heap fun b => decide (b ≠ C)
  obtain ⟨B', b1, b2⟩ := restrict B fun b => decide (b ≠ C)
  obtain ⟨Q', q1, q2⟩ := restrict s'.heap fun b => decide (b ≠ C)
  have gsS : ∀ b o, Gs.get? b = some o → b ≠ C ∧ s.heap.get? b = some o := fun b o h => by
    by_cases z : b = C
    · rw [gs2 b (by simp [z])] at h; cases h
    · exact ⟨z, (gs1 b (decide_eq_true z)).symm.trans h⟩
  have bS : ∀ b o, B'.get? b = some o → b ≠ C ∧ B.get? b = some o := fun b o h => by
    by_cases z : b = C
    · rw [b2 b (by simp [z])] at h; cases h
    · exact ⟨z, (b1 b (decide_eq_true z)).symm.trans h⟩
  have qS : ∀ b o, Q'.get? b = some o → b ≠ C ∧ s'.heap.get? b = some o := fun b o h => by
    by_cases z : b = C
    · rw [q2 b (by simp [z])] at h; cases h
    · exact ⟨z, (q1 b (decide_eq_true z)).symm.trans h⟩
  have IP : Inv X pins σ H { s with heap := Gs } := I.turned (t' := s.toks) (fun b o hb e => (gs1 b (decide_eq_true hb)).trans e) f0 f1 f3 f4 f5
  have hC' : H' C = none := ub.free C oC gC f0
  have stB : B'.StaysIn Q' := fun b o h => (q1 b (decide_eq_true (bS b o h).1)).trans (fl.1 b o (bS b o h).2)
  have ff : Q'.FunFrames B' X.stack := by
    have go : ∀ l : List Env, C ∉ frs l → s'.heap.FunFrames B l → Q'.FunFrames B' l := by
      intro l
      induction l with
      | nil => intro _ _; trivial
      | cons env r ih =>
        rintro hc ⟨k1, ⟨L, o, k2, k3, k4, k5⟩, k6⟩
        have LC : L ≠ C := fun z => hc (List.mem_filterMap.mpr ⟨env, List.mem_cons_self, by rw [k2, z]⟩)
        refine ⟨k1, ⟨L, o, k2, (b1 L (decide_eq_true LC)).trans k3, (q1 L (decide_eq_true LC)).trans k4, k5⟩, ih (fun z => hc ?_) k6⟩
        obtain ⟨env', h1, h2⟩ := List.mem_filterMap.mp z
        exact List.mem_filterMap.mpr ⟨env', List.mem_cons_of_mem _ h1, h2⟩
    exact go _ nfC fl.2.2.1
  have aB' : ∀ {b : Addr}, B.get? b = none → B'.get? b = none := fun {b} h => by
    cases q : B'.get? b with
    | none => rfl
    | some o => rw [(bS b o q).2] at h; cases h
  have fl' : HandSPX.FlyingZ B' X.stack a (Zc cls d) Q' := ⟨stB, aB' fl.2.1, ff, oe, vs, T, oT, ts, (q1 a (decide_eq_true aC)).trans he, hz, hd, h1, aB' hnT, hTe, (q1 T (decide_eq_true TC)).trans hT, hdT, h3⟩
  have hok' : HOk X.prog X.w H' B' := fun b o h => (hok b o h).stay (fun c u hc q => by
    have hcC : c ≠ C := fun z => by
      rcases hc with hc | hc
      · rw [hc] at z; rw [z, hC'] at h; cases h
      · rw [z, hC'] at hc; cases hc
    exact (b1 c (decide_eq_true hcC)).trans q) (fun _ q => q) (fun _ _ q => q)
  have ub' : UB (frs X.stack) H H' Gs B' Q' :=
    ⟨fun b o h1 h2 h3 => (b1 b (decide_eq_true (gsS b o h1).1)).trans (ub.keep b o (gsS b o h1).2 h2 h3), fun b o h1 h2 => by
      obtain ⟨sl, e⟩ := ub.slot b o (gsS b o h1).2 h2
      exact ⟨sl, (q1 b (decide_eq_true (gsS b o h1).1)).trans e⟩, fun b o h1 h2 => ub.free b o (gsS b o h1).2 h2, fun b o h1 h2 => by
      obtain ⟨o', e⟩ := ub.there b o (gsS b o h1).2 h2
      exact ⟨o', (b1 b (decide_eq_true (gsS b o h1).1)).trans e⟩, ub.tups, ub.frzs, ub.tbls⟩
  have xx : XE X W (.ref a) { s' with heap := Q' } := XE.of_call IP hW ⟨a, B', H', cls, d, rfl, fl', hok', ub', na, os, ag, hE⟩
  obtain ⟨a2, B0, sI, pins2, σ2, H2, cls2, d2, ea, I2, nb, up, sky, na2, os2, ag2, w2⟩ := xx
  obtain rfl : a = a2 := by injection ea
  have qa : Q'.get? a = some oe := (q1 a (decide_eq_true aC)).trans he
  have fl0 : HandSPX.FlyingZ B0 X.stack a (Zc cls2 d2) s'.heap := by
    rcases sky with ⟨_, _, _, oe', vs', he', _, hd', h1'⟩ | ⟨k1, k2, k3, oe', vs', T', oT', ts', he', hz', hd', h1', hnT', hTe', hT', hdT', h3'⟩ | ⟨_, _, _, oe', vs', T', oT', ts', he', _, hd', h1', _, _, hT', hdT', h3'⟩
    · have e1 : oe = oe' := Option.some.inj (qa.symm.trans he')
      subst e1
      rw [hd] at hd'
      cases hd'
      rw [h1] at h1'
      cases h1'
    · refine ⟨fun b o h => (qS b o (k1 b o h)).2, k2, k3.of_keeps (fun b o h _ => ⟨o, (qS b o h).2, rfl⟩), oe', vs', T', oT', ts', (qS _ _ he').2, hz', hd', h1', hnT', hTe', (qS _ _ hT').2, hdT', h3'⟩
    · have e1 : oe = oe' := Option.some.inj (qa.symm.trans he')
      subst e1
      rw [hd] at hd'
      cases hd'
      rw [h1] at h1'
      cases h1'
      have e2 : oT = oT' := Option.some.inj (((q1 T (decide_eq_true TC)).trans hT).symm.trans hT')
      subst e2
      rw [hdT] at hdT'
      cases hdT'
      rw [h3] at h3'
      cases h3'
  have B0C : B0.get? C = none := by
    cases q : B0.get? C with
    | none => rfl
    | some o =>
      have : B0.StaysIn Q' := by
        rcases sky with ⟨k, _⟩ | ⟨k, _⟩ | ⟨k, _⟩ <;> exact k
      exact absurd rfl (qS C o (this C o q)).1
  rw [note_same hce]
  have hfr : X.A.frames = some (X.env :: X.outer) := by rw [I.ok.frames, hs]
  rw [hs] at fl0
  refine HandSPX.looks_onZ Zc.steady hfr hf fl0 fun h1' held up1 => ?_
  obtain ⟨sl, eC⟩ := up1 C oC sC (fun vs z => by rw [dC] at z; cases z)
  refine ⟨m, ⟨_, es, ep, eC, dC, rC⟩, fun h2 sb => ?_⟩
  -- held, whatever became of C
  obtain ⟨j1, j2, j3, oe4, vs4, T4, oT4, ts4, he4, hz4, hd4, h14, hnT4, hTe4, hT4, hdT4, h34⟩ := held
  have a4 : a ≠ C := aC
  have T4C : T4 ≠ C := fun z => by rw [z, eC] at hT4; cases hT4; rw [dC] at hdT4; cases hdT4
  have k2 : ∀ b, b ≠ C → ∀ o, h1'.get? b = some o → h2.get? b = some o := fun b hb o h => (sb.2 b hb).trans h
  have ff2 : h2.FunFrames B0 (X.env :: X.outer) := by
    have go : ∀ l : List Env, C ∉ frs l → h1'.FunFrames B0 l → h2.FunFrames B0 l := by
      intro l
      induction l with
      | nil => intro _ _; trivial
      | cons env r ih =>
        rintro hc ⟨k1, ⟨L, o, l2, l3, l4, l5⟩, k6⟩
        have LC : L ≠ C := fun z => hc (List.mem_filterMap.mpr ⟨env, List.mem_cons_self, by rw [l2, z]⟩)
        refine ⟨k1, ⟨L, o, l2, l3, k2 _ LC _ l4, l5⟩, ih (fun z => hc ?_) k6⟩
        obtain ⟨env', h1, h2⟩ := List.mem_filterMap.mp z
        exact List.mem_filterMap.mpr ⟨env', List.mem_cons_of_mem _ h1, h2⟩
    exact go _ (by rw [← hs]; exact nfC) j3
  have held2 : HandSPX.HeldZ B0 (X.env :: X.outer) a (Zc cls2 d2) X.env.locals h2 :=
    ⟨fun b o h => k2 b (fun z => by rw [z, B0C] at h; cases h) o (j1 b o h), j2, ff2, oe4, vs4, T4, oT4, ts4, k2 _ a4 _ he4, hz4, hd4, h14, hnT4, hTe4, k2 _ T4C _ hT4, hdT4, h34⟩
  unfold PySem.passOn
  refine wpAny_bind (wpAny_field (k2 _ a4 _ he4) hd4 h14 ?_)
  rw [if_neg (show ¬ ((Value.ref T4 == Value.none) = true) from by simp)]
  have fin : wpAny (model X.prog X.w) X.A (setFlight (.ref a) ce.frame) (fun _ s4 => wpAny (model X.prog X.w) X.A (throw (.ref a) : Sem Value) (fun _ _ => False) X.xe s4) X.xe { s' with heap := h2 } := by
    rw [hce, hf]
    refine HandSPX.setFlight_onZ held2 fun h5 hh5 up5 => wpAny_throw (tk _ _ ?_)
    refine ⟨a, B0, sI, pins2, σ2, H2, cls2, d2, rfl, I2, nb, fun b o h hnf => ?_, .inr (.inr (by rw [hs]; exact hh5)), na2, os2, ag2, w2⟩
    obtain ⟨s1, u1⟩ := up b o h hnf
    obtain ⟨z, u1'⟩ := qS _ _ u1
    obtain ⟨s2, u2⟩ := up1 b _ u1' hnf
    obtain ⟨s3, u3⟩ := up5 b _ (k2 b z _ u2) hnf
    exact ⟨s3, u3⟩
  first
    | exact wpAny_bind (wpAny_pure (wpAny_bind fin))
    | exact wpAny_bind fin
/-- what is wanted behind a comprehension's block, its own environment known -/
def cpX (M : Model) (A : Around) (E : Value → Shared → Prop) (use : Option (Value → Sem Unit)) (Q : Value → Shared → Prop) (acc : Value) (ce : Env) (r : Result) (s' : Shared) : Prop :=
  match r with
  | .ok _ => compPost M A E use Q acc ce.locals r s'
  | .error x => ∃ m, s'.heap.Ns ce.locals m ∧ ∀ h', Heap.SameBut ce.locals s'.heap h' → wpAny M A (passOn "comprehension.variables-let-go" x ce : Sem Value) (fun _ _ => False) E { s' with heap := h' }
theorem comp_freeX {M : Model} {A : Around} {E : Value → Shared → Prop} {s : Shared} {env : Env} {e : Expr} {scope : Scope} {pos : Pos} {newAcc first : Sem Value} {g : Comprehension} {gs : List Comprehension} {cl : List (Str × Addr)} {use : Option (Value → Sem Unit)} {Q : Value → Shared → Prop}
    (hcl : clausesOf e = g :: gs) (hs : ∀ x, foldedSetIterable g.iter env x = pure x) (hclos : closureFor scope env = pure cl) (hkind : scope.kind = .function) (hnames : ∀ x ∈ scope.names, x.2 = .local → scope.names.lookup x.1 = some .local)
    (h : wpAny M A first (fun x s₁ => wpAny M A (pyIter x) (fun it s₂ => wpAny M A newAcc (fun acc s₃ => wpAny M A (newFunctionEnv scope env.globals cl [] env.qual none .none (some env)) (fun cenv s₄ =>
      codeAny M A (.compStart e 0 it acc { cenv with scope := relabel scope env }) (cpX M A E use Q acc { cenv with scope := relabel scope env }) s₄) E s₃) E s₂) E s₁) E s) :
    wpAny M A (comprehension e scope env pos newAcc false first use) Q E s := by
  unfold comprehension
  rw [hclos, hcl]
  have up : ∀ {α : Type} {t : Sem α} {P P' : α → Shared → Prop} {s : Shared}, wpAny M A t P E s → (∀ a s, P a s → P' a s) → wpAny M A t P' E s := fun h k => wpAny_mono h k fun _ _ z => z
  refine wpAny_bind (up h fun x s₁ h₁ => wpAny_bind (wpAny_standAt (wpAny_bind (wpAny_of_eq (hs x) (wpAny_bind (wpAny_holding (up h₁ fun it s₂ h₂ => wpAny_standIf (wpAny_bind (up h₂ fun acc s₃ h₃ => wpAny_bind (wpAny_pure (wpAny_bind (up h₃ fun cenv s₄ h₄ => ?_))))))))))))
  dsimp only
  have hv : ∀ x ∈ (scope.names.filter fun x => (x.2 == .local || x.2 == .cell) && x.1 != (".0" : Str)).reverse, x.2 = .local → Env.kindOf { cenv with scope := relabel scope env } x.1 = some .local := fun x hx hl => lookup_relabel_local (hnames x (List.mem_filter.mp (List.mem_reverse.mp hx)).1 hl)
  refine wpAny_holding (wpAny_bind (wpAny_attempt (wpAny_holding (wpAny_run (codeAny_mono h₄ fun r s' hr => ?_)))))
  cases r with
  | ok f =>
    cases use with
    | none =>
      obtain ⟨m, hn, hq⟩ := hr
      exact wpAny_bind (wpAny_holding (wpAny_comp_letGo (cenv := { cenv with scope := relabel scope env }) hkind _ s' m hv hn fun h' m' _ hs' => wpAny_pure (hq h' hs')))
    | some u =>
      refine wpAny_bind (wpAny_rule (wpAny_bind (wpAny_holding (up hr fun _ s2 hr' => ?_))))
      obtain ⟨m, hn, hq⟩ := hr'
      refine wpAny_bind (wpAny_comp_letGo (cenv := { cenv with scope := relabel scope env }) hkind _ s2 m (fun x hx hl => ?_) hn fun h' m' _ hs' => wpAny_pure (hq h' hs'))
      exact (List.mem_append.mp hx).elim (fun z => hv x (List.mem_of_mem_drop z) hl) (fun z => hv x (List.mem_of_mem_take z) hl)
  | error x =>
    obtain ⟨m, hn, hq⟩ := hr
    exact wpAny_bind (wpAny_holding (wpAny_comp_letGo (cenv := { cenv with scope := relabel scope env }) hkind _ s' m hv hn fun h' m' _ hs' => up (hq h' hs') (fun _ _ f => f.elim)))
/-- a block that lets exceptions out -/
abbrev blx (X : Cx) (s : Shared) (H : Hp) (scope : Scope) (cenv : Env) (fp : List Addr) (xe : Value → Shared → Prop) : Cx := { X.blk s H scope cenv fp with xe := xe }
theorem _root_.L2.Inv.toBlx {X : Cx} {s0 : Shared} {H0 : Hp} {scope : Scope} {ce : Env} {fp : List Addr} {xe : Value → Shared → Prop} {pins : List (Addr × Obj)} {σ : L2.St} {H : Hp} {s : Shared} (I : Inv (X.blk s0 H0 scope ce fp) pins σ H s) : Inv (EL.blx X s0 H0 scope ce fp xe) pins σ H s :=
  ⟨⟨I.ok.mod, I.ok.kind, I.ok.glob, I.ok.blt, I.ok.above, I.ok.inj, I.ok.has, I.ok.cab, I.ok.hd, I.ok.frames, I.ok.stk, I.ok.exf, I.ok.bs, I.ok.bsz, I.ok.noex, I.ok.exfs, I.ok.funs, I.ok.frf⟩, I.os, I.bare, I.base, I.loc, I.cell, I.free, I.freeC, I.pin, I.hok, I.len⟩
theorem _root_.L2.Inv.ofBlx {X : Cx} {s0 : Shared} {H0 : Hp} {scope : Scope} {ce : Env} {fp : List Addr} {xe : Value → Shared → Prop} {pins : List (Addr × Obj)} {σ : L2.St} {H : Hp} {s : Shared} (I : Inv (EL.blx X s0 H0 scope ce fp xe) pins σ H s) : Inv (X.blk s0 H0 scope ce fp) pins σ H s :=
  ⟨⟨I.ok.mod, I.ok.kind, I.ok.glob, I.ok.blt, I.ok.above, I.ok.inj, I.ok.has, I.ok.cab, I.ok.hd, I.ok.frames, I.ok.stk, I.ok.exf, I.ok.bs, I.ok.bsz, I.ok.noex, I.ok.exfs, I.ok.funs, I.ok.frf⟩, I.os, I.bare, I.base, I.loc, I.cell, I.free, I.freeC, I.pin, I.hok, I.len⟩
section
variable {X : Cx}
/-- [elt for target in iter if ..] whose elt may raise: te by what is let out -/
abbrev LcStep (g : TG) (tt : TT) (te : TE) (vs : List Nat) (σ : L2.St) (D : Addr) (Nx : Hp → Prop) (x : V) (H : Hp) : Prop := g x (wipe σ vs) H fun σ2 H2 => wipe σ2 vs = wipe σ vs ∧ tt σ2 H2 fun b H3 =>
  if b = true then te σ2 H3 fun y H4 => ∃ acc, H4 D = some (.lst acc) ∧ acc.length < sizeLine ∧ Nx (upd H4 D (.lst (acc ++ [y]))) else Nx H3
def tLcX (W : WX) (wi : TI) (g : TG) (tt : TT) (te : XK → TE) (vs : List Nat) : TE := fun σ H Q => wi σ H fun J H1 => ∀ D, H1 D = none → ∃ V : Nat → Nat → Hp → Prop, (∃ m, V 0 m (upd H1 D (.lst []))) ∧ ∀ i m H, V i m H →
  (J.stop i H ∧ Q (.ref D) H) ∨ (J.go i H ∧ ∃ Nx : Hp → Prop, (∀ H', Nx H' → ∃ m', m' < m ∧ V (i + 1) m' H') ∧ ∀ x H', J.yld i H x H' → LcStep g tt (te (WE W σ)) vs σ D Nx x H')
theorem lcX_core {pins : List (Addr × Obj)} {s : Shared} {σ : L2.St} {H : Hp} {Q : VK} {W : WX} {elt tg iter : Expr} {ifs : List Expr} {scope : Scope} {own : List (Str × Nat)} {pos pos' : Pos} {wi : TI} {g : TG} {tt : TT} {te : XK → TE} {use : Option (Value → Sem Unit)} {Qf : Value → Shared → Prop}
    (tk : Takes X W) (hst : X.stack = X.env :: X.outer) (hfm : X.env.frame = some X.env.locals) (hc : X.calm = true) (hN : X.N.Nodup) (I : Inv X pins σ H s) (hi : PI X tg iter wi) (ok : BlkOk X.N X.env.scope scope own)
    (hg : ∀ (s : Shared) (H : Hp) (C : Addr) (cl : List (Str × Addr)) (fp : List Addr), PG (X.blk s H scope (compEnvC scope cl C X.env) fp) tg g) (ht : ∀ (s : Shared) (H : Hp) (C : Addr) (cl : List (Str × Addr)) (fp : List Addr), PTs (X.blk s H scope (compEnvC scope cl C X.env) fp) ifs tt)
    (he : ∀ (s : Shared) (H : Hp) (C : Addr) (cl : List (Str × Addr)) (fp : List Addr) (xe : Value → Shared → Prop) (E : XK), (∀ σ', PassesAt (L2.CX X.prog X.w) (EL.blx X s H scope (compEnvC scope cl C X.env) fp xe) σ' E) → PE (EL.blx X s H scope (compEnvC scope cl C X.env) fp xe) elt (te E)) (hs : ∀ x, foldedSetIterable iter X.env x = pure x)
    (h : tLcX W wi g tt te (own.map (·.2)) σ H Q)
    (hRR : ∀ D C s' m H', Inv X pins σ H' s' → Q (.ref D) H' → s'.heap.Ns C m → FpOk X pins H' C → compPost (model X.prog X.w) X.A X.xe use Qf (.ref D) C (.ok .next) s') :
    wpAny (model X.prog X.w) X.A (comprehension (.ListComp elt [⟨tg, iter, ifs, 0⟩] scope pos) scope X.env pos' (newList []) false (eval iter X.env) use) Qf X.xe s := by
  have cl : ∀ y ∈ scope.names, y.2 = .free → ∃ c, X.env.cells.lookup y.1 = some c := fun y hy e => (ok.free y hy e).elim (fun k => I.ok.has _ (.inl k)) (fun k => I.ok.has _ (.inr k))
  refine comp_freeX (use := use) rfl hs (closure_ok cl) ok.kind (fun y hy e => by rw [ok.uniq y hy, e]) (thn (hi.run pins s σ H _ I h) fun xv s1 hx => thn hx fun itv s2 h2 => ?_)
  obtain ⟨it, fp, tn, J, H2, e, I2, T, st2, f2, q⟩ := h2
  subst e
  refine wpAny_newObj_type (newEnv_comp ?_)
  generalize hD : s2.heap.objs.size = D
  obtain ⟨V, ⟨m0, w0⟩, turn⟩ := q D (I2.hok.fresh (Nat.le_of_eq hD))
  obtain ⟨s3, hs3⟩ : ∃ s3 : Shared, ({ s2 with heap := s2.heap.push { cls := .type "list", data := .seq ([] : List Value).toArray } } : Shared) = s3 := ⟨_, rfl⟩
  have hh3 : s3.heap = s2.heap.push { cls := .type "list", data := .seq ([] : List Value).toArray } := by rw [← hs3]
  obtain ⟨H3, hH3⟩ : ∃ H3, upd H2 D (.lst []) = H3 := ⟨_, rfl⟩
  have I3 : Inv X pins σ H3 s3 := by
    rw [← hs3, ← hH3]
    refine I2.laid (t' := s2.toks) (fun b o e => Heap.get?_push_of_some _ e) (Nat.le_of_eq hD) ?_
    rw [← hD]
    exact ⟨Nat.zero_le _, [], 0, .nil, Heap.get?_push_size _ rfl⟩
  rw [hH3] at w0
  have lt2 : ∀ b ∈ fp, b < s2.heap.objs.size := fun b hb => let ⟨o, e, _⟩ := T.obj _ _ st2 b hb; Heap.lt_size e
  have f3 : ∀ b ∈ fp, FpOk X pins H3 b ∧ b < s3.heap.objs.size := fun b hb => by
    refine ⟨⟨?_, (f2 b hb).2⟩, by rw [hh3, Heap.size_push]; exact Nat.lt_succ_of_lt (lt2 b hb)⟩
    rw [← hH3, upd_ne (by rw [← hD]; exact Nat.ne_of_lt (lt2 b hb))]
    exact (f2 b hb).1
  have I4 := block_start I3 ok hN f3
  rw [hs3]
  show codeAny _ _ (.compStart (.ListComp elt [⟨tg, iter, ifs, 0⟩] scope pos) 0 (.ref it) (.ref D) (compEnvC scope (cellsFrom (s3.heap.objs.size + 1) scope.names (cloFrom X.env.cells scope.names [])) s3.heap.objs.size X.env)) (cpX (model X.prog X.w) X.A X.xe use Qf (.ref D) (compEnvC scope (cellsFrom (s3.heap.objs.size + 1) scope.names (cloFrom X.env.cells scope.names [])) s3.heap.objs.size X.env)) { s3 with heap := pushCells (s3.heap.push { cls := .type "dict", data := .dict #[] }) scope.names }
  have pg := hg s3 H3 s3.heap.objs.size (cellsFrom (s3.heap.objs.size + 1) scope.names (cloFrom X.env.cells scope.names [])) fp
  have pt := ht s3 H3 s3.heap.objs.size (cellsFrom (s3.heap.objs.size + 1) scope.names (cloFrom X.env.cells scope.names [])) fp
  have pe0 := he s3 H3 s3.heap.objs.size (cellsFrom (s3.heap.objs.size + 1) scope.names (cloFrom X.env.cells scope.names [])) fp
  have cF : (compEnvC scope (cellsFrom (s3.heap.objs.size + 1) scope.names (cloFrom X.env.cells scope.names [])) s3.heap.objs.size X.env).frame = X.env.frame := rfl
  generalize hce : compEnvC scope (cellsFrom (s3.heap.objs.size + 1) scope.names (cloFrom X.env.cells scope.names [])) s3.heap.objs.size X.env = ce at I4 pg pt pe0 cF ⊢
  have cL : ce.locals = s3.heap.objs.size := by rw [← hce]; rfl
  have st4 : tn 0 (pushCells (s3.heap.push { cls := .type "dict", data := .dict #[] }) scope.names) := T.keep _ _ _ st2 fun b _ o e => pushCells_keeps _ _ _ _ (Heap.get?_push_of_some _ (by rw [hh3]; exact Heap.get?_push_of_some _ e))
  generalize hs4 : ({ s3 with heap := pushCells (s3.heap.push { cls := .type "dict", data := .dict #[] }) scope.names } : Shared) = s4 at I4 ⊢
  have st4' : tn 0 s4.heap := by rw [← hs4]; exact st4
  have stat : ∀ {σ' : L2.St} {H' : Hp} {s' : Shared}, Inv (X.blk s3 H3 scope ce fp) [] σ' H' s' → (∀ b ∈ fp, H' b = none) → ∀ b ∈ fp, FpOk (X.blk s3 H3 scope ce fp) [] H' b := fun I' hn b hb =>
    ⟨hn b hb, (I'.ok.exf b hb).1, I'.ok.exfs b hb, .inl hb, fun x c e => (I'.ok.exf b hb).2 x c e, fun p hp => by cases hp⟩
  -- the def's own view of a state within the block
  have back : ∀ {pins' : List (Addr × Obj)} {σ' : L2.St} {H' : Hp} {s' : Shared}, Inv (X.blk s3 H3 scope ce fp) pins' σ' H' s' → Inv X pins σ H' s' ∧ (∃ m, s'.heap.Ns ce.locals m) ∧ FpOk X pins H' ce.locals := fun {pins' σ' H' s'} I6 => by
    have nC : H' s3.heap.objs.size = none := by rw [← cL]; exact I6.free
    obtain ⟨m, hn, _⟩ := I6.loc
    exact ⟨I3.call' (ch := fp) I6.os I6.base I6.hok I6.bare fun b hb => ⟨(f3 b hb).1.2.2.2.1, (f3 b hb).1.2.1, (f3 b hb).1.2.2.2.2.1, (f3 b hb).1.2.2.2.2.2⟩, ⟨m, hn⟩, by rw [cL]; exact I3.fpOk (Nat.le_refl _) nC⟩
  have pe := pe0 (notedBy (model X.prog X.w) X.A ce fun e s' => cpX (model X.prog X.w) X.A X.xe use Qf (.ref D) ce (.error e) s') (WE W σ) (fun σ' pins' H' s' e s2' I' c => by
    obtain ⟨J1, ⟨m, hn⟩, J2⟩ := back I'.ofBlx
    exact comp_leave tk hst hfm J1 hn J2 (fun _ _ _ z => z) c cF)
  have loop : codeAny (model X.prog X.w) X.A (.compLoop (.ListComp elt [⟨tg, iter, ifs, 0⟩] scope pos) 0 (.ref it) (.ref D) ce) (cpX (model X.prog X.w) X.A X.xe use Qf (.ref D) ce) s4 := by
    refine compLoop_any (fun n s' => ∃ i H', Inv (X.blk s3 H3 scope ce fp) [] (wipe σ (own.map (·.2))) H' s' ∧ tn i s'.heap ∧ (∀ b ∈ fp, H' b = none) ∧ V i n H') ?_ m0 ⟨0, H3, I4, st4', fun b hb => (f3 b hb).1.1, w0⟩
    rintro n s5 ⟨i, H5, I5, st5, n5, w5⟩
    rcases turn i n H5 w5 with ⟨stop, qq⟩ | ⟨go, Nx, hNx, step⟩
    · refine thnF (T.done (X.blk s3 H3 scope ce fp) rfl rfl rfl hc i [] s5 _ H5 (fun _ _ => False) I5 (stat I5 n5) st5 stop) fun r s6 ⟨hr, I6⟩ => ?_
      subst hr
      obtain ⟨J1, ⟨m, hn⟩, J2⟩ := back I6
      exact hRR D ce.locals s6 m H5 J1 qq hn J2
    · refine thnF (T.item (X.blk s3 H3 scope ce fp) rfl rfl rfl hc i [] s5 _ H5 (fun _ _ => False) I5 (stat I5 n5) st5 go) fun r s6 ⟨u, hr, h6⟩ => ?_
      subst hr
      refine thnF h6 fun _ s7 ⟨x, H7, I7, r7, y7, st7, n7⟩ => ?_
      refine thnF (pg.run _ s7 _ H7 x u _ (I7.pinned (stat I7 n7) (T.obj _ _ st7)) r7 (step x H7 y7)) fun _ s8 ⟨σ8, H8, I8, hw8, q8⟩ => ?_
      refine thnF (pt.run _ s8 σ8 H8 _ I8 q8) fun b s9 ⟨H9, I9, q9⟩ => ?_
      have fin : ∀ {s' : Shared} {H' : Hp}, Inv (X.blk s3 H3 scope ce fp) ([] ++ pinsAt fp s7.heap) σ8 H' s' → Nx H' → ∃ m, m < n ∧ ∃ i H', Inv (X.blk s3 H3 scope ce fp) [] (wipe σ (own.map (·.2))) H' s' ∧ tn i s'.heap ∧ (∀ b ∈ fp, H' b = none) ∧ V i m H' := fun {s' H'} I' nx => by
        obtain ⟨m', hm, w'⟩ := hNx H' nx
        have pin' : ∀ b ∈ fp, ∀ o, s7.heap.get? b = some o → s'.heap.get? b = some o ∧ H' b = none := fun b hb o e =>
          let z := I'.pin (b, o) (List.mem_append_right _ (List.mem_append_right _ (mem_pinsAt hb e)))
          ⟨z.1, z.2.1⟩
        refine ⟨m', hm, i + 1, H', (I'.unpinned (pins := [])).weak (by rw [← hw8, wipe_length]) (fun j v e => (wipe_some (by rw [hw8]; exact e)).1), T.keep _ _ _ st7 fun b hb o e => (pin' b hb o e).1, fun b hb => ?_, w'⟩
        obtain ⟨o, e, _⟩ := T.obj _ _ st7 b hb
        exact (pin' b hb o e).2
      cases b with
      | false => exact fin I9 q9
      | true =>
        refine thn (pe.run _ s9 σ8 H9 _ I9.toBlx q9) fun z s10 ⟨yv, H10, I10, r10, acc, hD10, hz10, nx⟩ => ?_
        exact app_ok (X := X.blk s3 H3 scope ce fp) I10.ofBlx hD10 hz10 r10 fun s11 I11 => fin I11 nx
  exact codeAny_compStart_list loop (T.self X.A 0 _ _ _ st4' loop)
theorem pe_lcX {W : WX} {elt tg iter : Expr} {ifs : List Expr} {scope : Scope} {own : List (Str × Nat)} {pos : Pos} {wi : TI} {g : TG} {tt : TT} {te : XK → TE} (tk : Takes X W) (hst : X.stack = X.env :: X.outer) (hfm : X.env.frame = some X.env.locals) (hc : X.calm = true) (hN : X.N.Nodup) (hi : PI X tg iter wi) (ok : BlkOk X.N X.env.scope scope own)
    (hg : ∀ (s : Shared) (H : Hp) (C : Addr) (cl : List (Str × Addr)) (fp : List Addr), PG (X.blk s H scope (compEnvC scope cl C X.env) fp) tg g) (ht : ∀ (s : Shared) (H : Hp) (C : Addr) (cl : List (Str × Addr)) (fp : List Addr), PTs (X.blk s H scope (compEnvC scope cl C X.env) fp) ifs tt)
    (he : ∀ (s : Shared) (H : Hp) (C : Addr) (cl : List (Str × Addr)) (fp : List Addr) (xe : Value → Shared → Prop) (E : XK), (∀ σ', PassesAt (L2.CX X.prog X.w) (EL.blx X s H scope (compEnvC scope cl C X.env) fp xe) σ' E) → PE (EL.blx X s H scope (compEnvC scope cl C X.env) fp xe) elt (te E)) (hs : ∀ x, foldedSetIterable iter X.env x = pure x := by intro _; rfl) :
    PE X (.ListComp elt [⟨tg, iter, ifs, 0⟩] scope pos) (tLcX W wi g tt te (own.map (·.2))) := by
  refine ⟨fun pins s σ H Q I h => ?_⟩
  rw [arm_eval_ListComp]
  refine lcX_core tk hst hfm hc hN I hi ok hg ht he hs h fun D C s' m H' I' q hn f => ⟨m, hn, fun h2 sb => ?_⟩
  obtain ⟨f0, f1, f2, f3, f4, f5⟩ := f
  exact ⟨.ref D, H', I'.turned (t' := s'.toks) (fun b o hb e => (sb.2 b hb).trans e) f0 f1 f3 f4 f5, rfl, q⟩
theorem ps_setLcX {W : WX} {i : Nat} {y : Str} {py : Pos} {elt tg iter : Expr} {ifs : List Expr} {scope : Scope} {own : List (Str × Nat)} {pos spos : Pos} {wi : TI} {g : TG} {tt : TT} {te : XK → TE} (tk : Takes X W) (hst : X.stack = X.env :: X.outer) (hfm : X.env.frame = some X.env.locals) (hc : X.calm = true) (hN : X.N.Nodup) (hy : X.N[i]? = some y) (hyl : X.env.scope.names.lookup y = some .local)
    (hsw : swapsWith (.ListComp elt [⟨tg, iter, ifs, 0⟩] scope pos) (some (.Name y py)) spos.line X.env = pure true) (hi : PI X tg iter wi) (ok : BlkOk X.N X.env.scope scope own)
    (hg : ∀ (s : Shared) (H : Hp) (C : Addr) (cl : List (Str × Addr)) (fp : List Addr), PG (X.blk s H scope (compEnvC scope cl C X.env) fp) tg g) (ht : ∀ (s : Shared) (H : Hp) (C : Addr) (cl : List (Str × Addr)) (fp : List Addr), PTs (X.blk s H scope (compEnvC scope cl C X.env) fp) ifs tt)
    (he : ∀ (s : Shared) (H : Hp) (C : Addr) (cl : List (Str × Addr)) (fp : List Addr) (xe : Value → Shared → Prop) (E : XK), (∀ σ', PassesAt (L2.CX X.prog X.w) (EL.blx X s H scope (compEnvC scope cl C X.env) fp xe) σ' E) → PE (EL.blx X s H scope (compEnvC scope cl C X.env) fp xe) elt (te E)) (hs : ∀ x, foldedSetIterable iter X.env x = pure x := by intro _; rfl) :
    PS X (.Assign [.Name y py] (.ListComp elt [⟨tg, iter, ifs, 0⟩] scope pos) spos) (tAsg (tLcX W wi g tt te (own.map (·.2))) (gName i)) := by
  refine ⟨fun pins s σ H D I h => ?_⟩
  rw [exec_Assign_Name_used _ _ _ _ hsw]
  refine wpAny_bind (wpAny_standAt (wpAny_bind ?_))
  show wpAny _ X.A (do let _ ← comprehension (.ListComp elt [⟨tg, iter, ifs, 0⟩] scope pos) scope X.env (firstIterPos [⟨tg, iter, ifs, 0⟩] pos) (newList []) false (eval iter X.env) (some (assign (.Name y py) X.env))) _ _ s
  have h' : tLcX W wi g tt te (own.map (·.2)) σ H (fun x H1 => gName i x σ H1 D.nx) := h
  refine wpAny_bind (thn (lcX_core (Qf := fun _ s' => SP X pins D .next s') tk hst hfm hc hN I hi ok hg ht he hs h' fun L C s' m H' I' q hn f => ?_) fun _ s' hq => wpAny_pure (wpAny_pure hq))
  obtain ⟨f0, f1, f2, f3, f4, f5⟩ := f
  refine wpAny_assign_Name (store_ok2 (v := V.ref L) I' hN hy (.inl hyl) rfl (fun s2 I2 ⟨a, sb, ha⟩ => ?_) (.inr hyl))
  have haC : C ≠ a := ha.elim (fun z => by rw [z]; exact f1) (fun z e => f4 y a z e.symm)
  exact ⟨m, hn.sameBut sb haC, fun h3 sb3 => ⟨_, H', I2.turned (t' := s2.toks) (fun b o hb e => (sb3.2 b hb).trans e) f0 f1 f3 f4 f5, q⟩⟩
theorem lcX_it {J : It} {n : Nat} {G : Hp → Prop} {Y : Nat → Hp → V → Hp → Prop} (w : L2.Walk J n G Y) {g : TG} {tt : TT} {te : TE} {vs : List Nat} {σ : L2.St} {H1 : Hp} {D : Addr} {Qd : Hp → Prop} (Pv : Nat → Hp → Prop) (h0 : Pv 0 (upd H1 D (.lst []))) (hG : ∀ i H, i ≤ n → Pv i H → G H)
    (hs : ∀ i x H H', i < n → Pv i H → Y i H x H' → LcStep g tt te vs σ D (Pv (i + 1)) x H') (hd : ∀ H, Pv n H → Qd H) :
    ∃ V : Nat → Nat → Hp → Prop, (∃ m, V 0 m (upd H1 D (.lst []))) ∧ ∀ i m H, V i m H → (J.stop i H ∧ Qd H) ∨ (J.go i H ∧ ∃ Nx : Hp → Prop, (∀ H', Nx H' → ∃ m', m' < m ∧ V (i + 1) m' H') ∧ ∀ x H', J.yld i H x H' → LcStep g tt te vs σ D Nx x H') := by
  refine ⟨fun i m H => m + i = n ∧ Pv i H, ⟨n, rfl, h0⟩, fun i m H ⟨hm, p⟩ => ?_⟩
  have q := hG i H (by omega) p
  cases m with
  | zero =>
    have e : i = n := by omega
    subst e
    exact .inl ⟨w.stops H q, hd H p⟩
  | succ m => exact .inr ⟨w.goes i H (by omega) q, Pv (i + 1), fun H' p' => ⟨m, Nat.lt_succ_self m, by omega, p'⟩, fun x H' y => hs i x H H' (by omega) p (w.yields i H x H' (by omega) q y)⟩
/-- a call of a def that may raise, what it lets out being taken as hx says -/
theorem clP {CX : CXT} {k : Nat} {x : Str} {sp : Sp} {E : XK} {e : Expr} {es : List Expr} {t : TA} {p pos : Pos} (hx : ∀ σ, PassesAt CX X σ E) (D : Dn X.prog X.w X.K X.mg X.base CX k x sp) (hr : Room k X.A) (ha : PA X (e :: es) t) (hg : Gl X x := by rfl)
    (hdb : (x == ("__debug__" : Str)) = false := by decide) (he : starEach (e :: es) X.env = (false, eval e X.env) :: starEach es X.env := by rfl) (hpl : (backTo pos (starEach es X.env)).any (·.1) = false := by rfl) :
    PE X (.Call (.Name x p) (e :: es) [] pos) (tCallS sp (fun _ => E) t) := pe_fn D.r hr hg D.g D.kp hx ha hdb he hpl
end
/-! ### an instance called, what it lets out by the caller's slots -/
def tCallOE (C : Addr) (sp : Sp) (E : L2.St → XK) (tf : TE) (t : TA) : TE := fun σ H Q => tf σ H fun y H1 => ∃ a, y = V.ref a ∧ t σ H1 fun vs H2 => (∃ dx fs, H2 a = some (.ins C dx fs)) ∧ sp (V.ref a :: vs) H2 Q (E σ)
theorem pe_callOE {X : Cx} {CX : CXT} {k : Nat} {C g : Addr} {sp : Sp} {E : L2.St → XK} {fe e : Expr} {es : List Expr} {tf : TE} {t : TA} {pos : Pos} (hf : PE X fe tf) (c : StX.CallO X.K C g) (F : FnR X.prog X.w X.K X.mg X.base CX k g sp) (hr : Room k X.A) (hx : ∀ σ, PassesAt CX X σ (E σ)) (ha : PA X (e :: es) t)
    (ht : eval (.Call fe (e :: es) [] pos) X.env = (do callWith pos (← eval fe X.env) [] (backTo pos (starEach (e :: es) X.env)) (backToKw pos (keywordEach [] X.env))) := by rfl)
    (he : starEach (e :: es) X.env = (false, eval e X.env) :: starEach es X.env := by rfl) (hpl : (backTo pos (starEach es X.env)).any (·.1) = false := by rfl) : PE X (.Call fe (e :: es) [] pos) (tCallOE C sp E tf t) := by
  refine ⟨fun pins s σ H Q I h => ?_⟩
  refine Call_ (thn (hf.run pins s σ H _ I h) fun u s1 ⟨y, H1, I1, ry, a, ey, q⟩ => ?_) ht
  subst ey
  cases (show u = Value.ref a from ry)
  refine StX.callO_with (thn (ha.run pos pins s1 σ H1 _ I1 q) fun us s2 ⟨vs, H2, I2, r, hi, q2⟩ => ?_) he hpl
  obtain ⟨ox, od, J, hd⟩ := StX.insC_at (C := C) I2 (.inr hi)
  refine ⟨⟨C, ox, od, J, hd⟩, wpAny_call (PySem.W.kco_code I2.kIn J hd c.at_ c.fn c.fi (codeAny_mono (F X.A X.stack s2 H2 (.ref a :: us) (.ref a :: vs) Q (E σ) hr I2.env0 (.cons rfl r) q2) fun r s' hq => ?_))⟩
  cases r with
  | error e => exact hx σ pins _ s2 e s' I2 hq
  | ok fl =>
    cases fl with
    | ret u => exact I2.after hq
    | next => exact False.elim hq
    | brk => exact False.elim hq
    | cont => exact False.elim hq
def callOB (K : PySem.W.Frag) (C : Addr) : Bool := eqO (PySem.W.findIn K (.ref C) "__call__") (some (some (.ref (ma K C "__call__")))) && (PySem.W.isFn K (.ref (ma K C "__call__")) && PySem.W.fnIn K (ma K C "__call__"))
theorem callOB_ok {K : PySem.W.Frag} {C : Addr} (h : callOB K C = true) : StX.CallO K C (ma K C "__call__") := by
  obtain ⟨h1, h⟩ := ba h
  obtain ⟨h2, h3⟩ := ba h
  exact ⟨eqO_ok h1, h2, h3⟩
/-! ### facts of dunders; the operators of two instances of one class -/
def dunB (K : PySem.W.Frag) (C : Addr) (m : Str) : Bool := eqO (PySem.W.findIn K (.ref C) m) (some (some (.ref (ma K C m)))) && PySem.W.isFn K (.ref (ma K C m))
theorem dunB_ok {K : PySem.W.Frag} {C : Addr} {m : Str} (h : dunB K C m = true) : PySem.W.findIn K (.ref C) m = some (some (.ref (ma K C m))) ∧ PySem.W.isFn K (.ref (ma K C m)) = true := by
  obtain ⟨h1, h2⟩ := ba h
  exact ⟨eqO_ok h1, h2⟩
/-! ### a dict of the top with text keys -/
def nsStrB (K : PySem.W.Frag) (d : Addr) (z y : Str) : Bool := match PySem.W.nsIn K d z with
  | some (some (.str x _)) => decide (x = y)
  | _ => false
theorem nsStrB_ok {K : PySem.W.Frag} {d : Addr} {z y : Str} (h : nsStrB K d z y = true) : ∃ u, PySem.W.nsIn K d z = some (some u) ∧ RelV (.str y) u := by
  unfold nsStrB at h
  split at h
  · rename_i x t q
    cases of_decide_eq_true h
    exact ⟨_, q, t, rfl⟩
  · cases h
theorem kdct {K : PySem.W.Frag} {w : World} {a : Addr} {z y : Str} (D : ∃ es n, KDict K w a es n) (h : ∃ u, PySem.W.nsIn K a z = some (some u) ∧ RelV (.str y) u) : KDct K w a z (.str y) := by
  obtain ⟨es, n, D⟩ := D
  obtain ⟨u, h1, h2⟩ := h
  exact ⟨es, n, u, D.at_, D.lit, h1, h2⟩
abbrev AlY : Type := AlX × List (Option (List (Option (Str × Int))))
def obsY (fa : List Fa) (fn : List DefE) (xn : List DefX) (ts : List Tab) (ex : PySem.W.Frag → Bool) (K : PySem.W.Frag) : AlY := (obsX fa fn xn ex K, ts.map fun t => dicW K (t.1 K))
def obsYG (n : Nat) (fa : List Fa) (fn : List DefE) (xn : List DefX) (ts : List Tab) (ex : PySem.W.Frag → Bool) (g : Addr → Option Obj) : AlY := obsY fa fn xn ts ex (frG g (He5.asA g n))
def valY (fn : List DefE) (xn : List DefX) (ts : List Tab) (w : World) : AlY := (valX fn xn, ts.map fun t => some (keysIn w.params t.2))
def SaysY (fa : List Fa) (fn : List DefE) (xn : List DefX) (ts : List Tab) (ex : PySem.W.Frag → Bool) (w : World) (K : PySem.W.Frag) : Prop := obsY fa fn xn ts ex K = valY fn xn ts w
def hookY (n : Nat) (fa : List Fa) (fn : List DefE) (xn : List DefX) (ts : List Tab) (ex : PySem.W.Frag → Bool) : PySem.W.Hook where
  α := AlY
  obs := fun s => obsYG n fa fn xn ts ex s.heap.get?
  val := fun w => valY fn xn ts w
  says := fun w h => ∃ K : PySem.W.Frag, K.In h ∧ SaysY fa fn xn ts ex w K
  of := fun _ _ e => ⟨_, frG_in, e⟩
  keeps := fun _ _ _ ⟨K, hK, c⟩ k => ⟨K, PySem.W.Frag.In.keeps hK k, c⟩
theorem obsYG_eq {n : Nat} {fa : List Fa} {fn : List DefE} {xn : List DefX} {ts : List Tab} {ex : PySem.W.Frag → Bool} {g : Addr → Option Obj} {s : Shared} (h : ∀ a, g a = s.heap.get? a) : obsYG n fa fn xn ts ex g = (hookY n fa fn xn ts ex).obs s := by
  have e : g = s.heap.get? := funext h
  rw [e] <;> rfl
section
variable {fa : List Fa} {fn : List DefE} {xn : List DefX} {ts : List Tab} {ex : PySem.W.Frag → Bool} {w : World} {K : PySem.W.Frag}
theorem SaysY.x (c : SaysY fa fn xn ts ex w K) : SaysX fa fn xn ex K := congrArg (fun z : AlY => z.1) c
theorem SaysY.tab (c : SaysY fa fn xn ts ex w K) (i : Nat) {t : Tab} (h : ts[i]? = some t := by rfl) : ∃ es n, KDict K w (t.1 K) es n := by
  have e2 : (ts.map fun t => dicW K (t.1 K))[i]? = (ts.map fun t => some (keysIn w.params t.2))[i]? := congrArg (fun z : AlY => z.2[i]?) c
  rw [List.getElem?_map, List.getElem?_map, h] at e2
  exact dicW_ok (Option.some.inj e2)
end
/-! ### lists or tuples -/
theorem PI.or_ {X : Cx} {tg e : Expr} {w1 w2 : TI} (h1 : PI X tg e w1) (h2 : PI X tg e w2) : PI X tg e (fun σ H R => w1 σ H R ∨ w2 σ H R) :=
  ⟨fun pins s σ H R I h => h.elim (fun z => h1.run pins s σ H R I z) (fun z => h2.run pins s σ H R I z)⟩
theorem PE.or_ {X : Cx} {e : Expr} {t1 t2 : TE} (h1 : PE X e t1) (h2 : PE X e t2) : PE X e (fun σ H Q => t1 σ H Q ∨ t2 σ H Q) :=
  ⟨fun pins s σ H Q I h => h.elim (fun z => h1.run pins s σ H Q I z) (fun z => h2.run pins s σ H Q I z)⟩
theorem SqL.new {K : PySem.W.Frag} {H H' : Hp} {S : List Addr} {a : Addr} {xs : List V} (h : SqL K H a xs) (m : Md S H H') (n : ∀ b ∈ S, H b = none) : SqL K H' a xs := by
  rcases h with (h | ⟨o, h⟩) | h
  · exact .inl (.inl (m.out _ _ h fun z => by rw [n a z] at h; cases h))
  · exact .inl (.inr ⟨o, m.out _ _ h fun z => by rw [n a z] at h; cases h⟩)
  · exact .inr h
theorem kit_any2 (K : PySem.W.Frag) (A B : Kd) (d : PyData) : PySem.W.kitAny K (.type (tyn d)) [.type (kdN A), .type (kdN B)] = some (isTy A d || isTy B d) := by
  unfold PySem.W.kitAny
  rw [kit_d K A d]
  cases isTy A d with
  | true => rfl
  | false =>
    show PySem.W.kitAny K (.type (tyn d)) [.type (kdN B)] = _
    unfold PySem.W.kitAny
    rw [kit_d K B d]
    cases isTy B d with
    | true => rfl
    | false => rfl
theorem u65 {k : Nat} {A : Around} (r : Room k A) : A.units + 65 < cLine := by have := r.un; omega
/-- x is True, x is False: x a truth value or None -/
def rIsBN : R2 := fun x y H Q => ∃ b : Bool, y = .bl b ∧ ((x = .non ∧ Q (.bl false) H) ∨ ∃ a : Bool, x = .bl a ∧ Q (.bl (decide (a = b))) H)
theorem op_isBN {X : Cx} : OpR X (compareOp .Is) rIsBN := by
  intro pins s σ H x y v u Q I rx ry h
  obtain ⟨b, rfl, ⟨rfl, q⟩ | ⟨a, rfl, q⟩⟩ := h
  · cases (show v = Value.none from rx)
    cases (show u = Value.bool b from ry)
    exact wpAny_is_other rfl (fun z => nomatch z) ⟨.bl false, H, I, rfl, q⟩
  · exact op_is_bl pins s σ H _ _ v u Q I rx ry ⟨a, b, rfl, rfl, q⟩
end EL
namespace EL
open PySem PySem.Spec PyProof.Rows L2 He TL
/-! ### isinstance of a caught error, with or without a dict, either answer -/
def rIsA (K : PySem.W.Frag) (D : Addr) (cls : Value) (d : Option Addr) (a : Addr) : List V → Hp → VK → Prop := fun xs H Q => cls = .ref D ∧ (d = none ∨ ∃ dd fs, d = some dd ∧ H dd = some (.xd fs)) ∧ rIsE K D a xs H Q
theorem call_isA {X : Cx} {a D : Addr} {oe : Obj} {pn : List (Addr × Obj)} {cls : Value} {d : Option Addr} (C : ExcC X.K D) (hz : Zc cls d oe) (hf : ∃ vs, oe.data = .fields vs) : CallR (X.suite a ((a, oe) :: pn)) (.builtin "isinstance") (rIsA X.K D cls d a) := by
  intro pins s σ H xs us Q I r h
  obtain ⟨rfl, hd, c, cv, b, rfl, hcv, e, q⟩ := h
  cases r with
  | cons rx rr =>
    cases rr with
    | cons rt rr =>
      cases rr
      cases rx
      cases hcv _ rt
      obtain ⟨hget, _⟩ := I.pin (a, oe) (List.mem_append.mpr (.inl List.mem_cons_self))
      obtain ⟨vs, hv⟩ := hf
      have hcl : (PySem.W.clsIn X.K D).isSome = true := by
        obtain ⟨cd, hc, _⟩ := PySem.W.any_some C.hd
        rw [hc]
        rfl
      have J : ∃ od, PySem.W.InstAt s.heap a oe D od := by
        rcases hd with rfl | ⟨dd, fs, rfl, hx⟩
        · refine ⟨none, hget, hz.1, by unfold PySem.W.notCls; rw [hv] <;> rfl, ?_⟩
          rw [hz.2]
          trivial
        · have hx' : ObjOk X.prog X.w H s.heap dd (.xd fs) := I.hok dd _ hx
          obtain ⟨mA, ⟨o, es, ep, ho, _⟩, _⟩ := hx'
          refine ⟨some o, hget, hz.1, by unfold PySem.W.notCls; rw [hv] <;> rfl, ?_⟩
          rw [hz.2]
          exact ho
      obtain ⟨od, J⟩ := J
      exact PySem.W.kia_one (PySem.W.kitx_exc hcl C.hg C.hk C.hs C.ha C.hn C.ht C.hm) I.kIn J e (fun z => nomatch z) fun tk => ⟨.bl b, H, I.kept (t' := tk) fun _ _ z => z, rfl, q⟩
/-! ### x op= y by an own def -/
theorem ip_own {X : Cx} {CX : CXT} {k : Nat} {C g : Addr} {sp : Sp} {E : XK} {op : Operator} (hc : PySem.W.selfFirst X.K C = true) (hs : PySem.W.findIn X.K (.ref C) (PySem.dunderI op.info.2) = some (some (.ref g))) (hf : PySem.W.isFn X.K (.ref g) = true) (F : FnR X.prog X.w X.K X.mg X.base CX k g sp)
    (hr : Room k X.A) (hx : Passes CX X E) : PIp X op (fun x y H Q => ∃ a dx fs, x = .ref a ∧ H a = some (.ins C dx fs) ∧ sp [x, y] H Q E) := by
  intro pins s σ H x y v u Q I rx ry h
  obtain ⟨a, dx, fs, rfl, ha, q⟩ := h
  cases (show v = Value.ref a from rx)
  obtain ⟨ox, od, J, _⟩ := ins_at I ha
  obtain ⟨m, hF⟩ := I.fr
  refine PySem.W.ksp_inplace hF I.ok.mod.kin J hc hs hf ?_
  refine wpAny_mono (wpAny_call (run_fnR (us := [.ref a, u]) (vs := [.ref a, y]) F hr hx I (.cons rfl (.cons ry .nil)) q)) (fun w s' z => ?_) fun _ _ x => x
  obtain ⟨z', H', I', rz, qz⟩ := z
  exact SlX.cmpback rz ⟨z', H', I', rz, qz⟩
/-! ### two dicts whose values are ints -/
def eqDI (ks ls : List (Key × Int)) : Bool := ks.all fun p => decide (valV (ls.map fun q => (q.1, V.int q.2)) p.1 = some (.int p.2))
abbrev dI (ks : List (Key × Int)) : List (Key × V) := ks.map fun q => (q.1, V.int q.2)
theorem hits_int {A : Around} {s : Shared} {ls : List (Key × Int)} {vb : List (Key × Value)} (rb : KV (dI ls) vb) : ∀ {ks : List (Key × Int)} {va : List (Key × Value)}, KV (dI ks) va → PySem.W.KeqHits A s vb va (eqDI ks ls)
  | [], _, r => by
    cases r
    exact .nil
  | (k, i) :: ks, _, r => by
    cases r with
    | @cons _ q _ qs h t =>
      obtain ⟨k', v'⟩ := q
      obtain ⟨h1, h2⟩ := h
      have h1 : k = k' := h1
      subst h1
      obtain ⟨ti, rfl⟩ := (show ∃ t, v' = Value.int i t from h2)
      have ih := hits_int (A := A) (s := s) rb t
      have rk := rb.val k
      have e : eqDI ((k, i) :: ks) ls = (decide (valV (dI ls) k = some (.int i)) && eqDI ks ls) := rfl
      rw [e]
      cases hv : valV (dI ls) k with
      | none =>
        rw [hv] at rk
        cases hb : valueAt vb k with
        | none => rw [decide_eq_false (by intro z; cases z), Bool.false_and]; exact .miss hb
        | some y => rw [hb] at rk; cases rk
      | some y =>
        rw [hv] at rk
        obtain ⟨j, rfl⟩ : ∃ j, y = .int j := by
          have : ∀ (l : List (Key × Int)) y, valV (dI l) k = some y → ∃ j, y = .int j := by
            intro l
            induction l with
            | nil => intro y h; cases h
            | cons p r ih =>
              intro y h
              by_cases e : p.1 = k
              · have : valV (dI (p :: r)) k = some (.int p.2) := valV_pos e
                rw [this] at h
                cases h
                exact ⟨_, rfl⟩
              · have : valV (dI (p :: r)) k = valV (dI r) k := valV_neg e
                rw [this] at h
                exact ih y h
          exact this ls y hv
        cases hb : valueAt vb k with
        | none => rw [hb] at rk; cases rk
        | some y' =>
          rw [hb] at rk
          obtain ⟨tj, rfl⟩ := (show ∃ t, y' = Value.int j t from rk)
          have e2 : decide ((some (V.int j) : Option V) = some (V.int i)) = (i == j) := by
            by_cases h : i = j
            · subst h; simp
            · rw [decide_eq_false (by intro z; injection z with z; injection z with z; exact h z.symm), beq_eq_false_iff_ne.mpr h]
          rw [e2]
          exact .hit hb (SeqAt.EqAt.int_int _ _ _ _) ih
def rEqDI : R2 := fun x y H Q => ∃ a b ks ls, x = .ref a ∧ y = .ref b ∧ H a = some (.dK (dI ks)) ∧ H b = some (.dK (dI ls)) ∧ Q (.bl (decide (ks.length = ls.length) && eqDI ks ls)) H
theorem op_eqDI {X : Cx} (hu : X.A.units < cLine) : OpR X (compareOp .Eq) rEqDI := by
  intro pins s σ H x y v u Q I rx ry h
  obtain ⟨a, b, ks, ls, rfl, rfl, ea, eb, q⟩ := h
  cases (show v = Value.ref a from rx)
  cases (show u = Value.ref b from ry)
  obtain ⟨_, ya, va, ra, da⟩ := (show ObjOk X.prog X.w H s.heap a (.dK (dI ks)) from I.hok a _ ea)
  obtain ⟨_, yb, vb, rb, db⟩ := (show ObjOk X.prog X.w H s.heap b (.dK (dI ls)) from I.hok b _ eb)
  refine PySem.W.keq_eq (knd := mixKind X.prog X.w) (r := eqDI ks ls) ya yb da db hu (fun _ => hits_int rb ra) ?_
  have e : (va.length == vb.length) = decide (ks.length = ls.length) := by
    have h1 : va.length = ks.length := by rw [← ra.length, List.length_map]
    have h2 : vb.length = ls.length := by rw [← rb.length, List.length_map]
    rw [h1, h2]
    rfl
  rw [e]
  exact ⟨.bl _, H, I, rfl, q⟩
end EL
namespace K09
open PySem PySem.Spec PyProof.Rows L2 He TL EL
def topS (i : Nat) : Stmt := PySem.Challenge.pw_endlessasks_k09_schemas.main.body.getD i (.Pass ⟨0, 0, 0, 0⟩)
abbrev s_NoTable___init__ : Stmt := (inClass (topS 5) 0)
def xw_NoTable : EL.DefX := ⟨"NoTable", "name", s_NoTable___init__⟩
theorem xwok_NoTable : EL.XW xw_NoTable := ⟨⟨fun _ _ _ _ _ _ _ _ _ _ _ => rfl, ⟨_, rfl, rfl⟩, rfl, rfl, rfl, rfl, rfl, by decide +kernel, rfl, rfl, by decide +kernel, by decide +kernel⟩, ⟨_, _, _, _, _, _, _, _, _, _, _, _, rfl, by decide⟩⟩
abbrev s__wall : Stmt := (topS 0)
abbrev s_is_whole : Stmt := (topS 10)
abbrev s_is_word : Stmt := (topS 11)
abbrev s_common_divisor : Stmt := (topS 12)
abbrev s_is_value : Stmt := (topS 13)
abbrev s_is_term : Stmt := (topS 17)
abbrev s_is_atom : Stmt := (topS 18)
abbrev s_Conditions___init__ : Stmt := (inClass (topS 19) 0)
abbrev s_Conditions_atoms : Stmt := (inClass (topS 19) 1)
abbrev s_Conditions___eq__ : Stmt := (inClass (topS 19) 3)
abbrev s_Conditions___and__ : Stmt := (inClass (topS 19) 5)
abbrev s_Conditions___iand__ : Stmt := (inClass (topS 19) 6)
abbrev s_is_column_count : Stmt := (topS 21)
abbrev s_names_cells : Stmt := (topS 22)
abbrev s_are_row_rules : Stmt := (topS 23)
abbrev s_Schema___init__ : Stmt := (inClass (topS 24) 0)
abbrev s_Schema___len__ : Stmt := (inClass (topS 24) 1)
abbrev s_Schema___contains__ : Stmt := (inClass (topS 24) 3)
abbrev s_Schema___eq__ : Stmt := (inClass (topS 24) 4)
abbrev s_Schema_names : Stmt := (inClass (topS 24) 5)
abbrev s_Schema_add : Stmt := (inClass (topS 24) 6)
abbrev s_Schema_columns : Stmt := (inClass (topS 24) 7)
abbrev s_Schema_rules : Stmt := (inClass (topS 24) 8)
abbrev s_Schema_narrow : Stmt := (inClass (topS 24) 9)
abbrev s_Schema_twin : Stmt := (inClass (topS 24) 11)
abbrev s__law_begin : Stmt := (topS 26)
abbrev s__law_draw : Stmt := (topS 27)
abbrev s__law_rules : Stmt := (topS 28)
abbrev s__law_added : Stmt := (topS 29)
abbrev s__law_narrowed : Stmt := (topS 30)
abbrev s__law_joined : Stmt := (topS 31)
abbrev s__law_place : Stmt := (topS 32)
abbrev s__law_add : Stmt := (topS 33)
abbrev s__law_narrow : Stmt := (topS 34)
abbrev s__law_asked : Stmt := (topS 35)
abbrev s__law_is : Stmt := (topS 36)
abbrev s_law : Stmt := (topS 37)
theorem sc__wall : FnScope ["k"] ["k"] (defScope s__wall) := ⟨rfl, rfl, rfl, by decide +kernel, rfl, by decide +kernel, by decide +kernel⟩
theorem sc_is_whole : FnScope ["thing"] ["thing"] (defScope s_is_whole) := ⟨rfl, rfl, rfl, by decide +kernel, rfl, by decide +kernel, by decide +kernel⟩
theorem sc_is_word : FnScope ["thing", "letter"] ["thing"] (defScope s_is_word) := ⟨rfl, rfl, rfl, by decide +kernel, rfl, by decide +kernel, by decide +kernel⟩
theorem sc_common_divisor : FnScope ["one", "other"] ["one", "other"] (defScope s_common_divisor) := ⟨rfl, rfl, rfl, by decide +kernel, rfl, by decide +kernel, by decide +kernel⟩
theorem sc_is_value : FnScope ["thing"] ["thing"] (defScope s_is_value) := ⟨rfl, rfl, rfl, by decide +kernel, rfl, by decide +kernel, by decide +kernel⟩
theorem sc_is_term : FnScope ["thing"] ["thing"] (defScope s_is_term) := ⟨rfl, rfl, rfl, by decide +kernel, rfl, by decide +kernel, by decide +kernel⟩
theorem sc_is_atom : FnScope ["thing"] ["thing"] (defScope s_is_atom) := ⟨rfl, rfl, rfl, by decide +kernel, rfl, by decide +kernel, by decide +kernel⟩
theorem sc_Conditions___init__ : FnScope ["self", "atoms", "kept", "atom"] ["self", "atoms"] (defScope s_Conditions___init__) := ⟨rfl, rfl, rfl, by decide +kernel, rfl, by decide +kernel, by decide +kernel⟩
theorem sc_Conditions_atoms : FnScope ["self"] ["self"] (defScope s_Conditions_atoms) := ⟨rfl, rfl, rfl, by decide +kernel, rfl, by decide +kernel, by decide +kernel⟩
theorem sc_Conditions___eq__ : FnScope ["self", "other"] ["self", "other"] (defScope s_Conditions___eq__) := ⟨rfl, rfl, rfl, by decide +kernel, rfl, by decide +kernel, by decide +kernel⟩
theorem sc_Conditions___and__ : FnScope ["self", "other"] ["self", "other"] (defScope s_Conditions___and__) := ⟨rfl, rfl, rfl, by decide +kernel, rfl, by decide +kernel, by decide +kernel⟩
theorem sc_Conditions___iand__ : FnScope ["self", "other"] ["self", "other"] (defScope s_Conditions___iand__) := ⟨rfl, rfl, rfl, by decide +kernel, rfl, by decide +kernel, by decide +kernel⟩
theorem sc_is_column_count : FnScope ["thing"] ["thing"] (defScope s_is_column_count) := ⟨rfl, rfl, rfl, by decide +kernel, rfl, by decide +kernel, by decide +kernel⟩
theorem sc_names_cells : FnScope ["conditions", "places", "sign", "left", "right", "term"] ["conditions", "places"] (defScope s_names_cells) := ⟨rfl, rfl, rfl, by decide +kernel, rfl, by decide +kernel, by decide +kernel⟩
theorem sc_are_row_rules : FnScope ["thing", "columns"] ["thing", "columns"] (defScope s_are_row_rules) := ⟨rfl, rfl, rfl, by decide +kernel, rfl, by decide +kernel, by decide +kernel⟩
theorem sc_Schema___init__ : FnScope ["self", "widths", "limits"] ["self", "widths", "limits"] (defScope s_Schema___init__) := ⟨rfl, rfl, rfl, by decide +kernel, rfl, by decide +kernel, by decide +kernel⟩
theorem sc_Schema___len__ : FnScope ["self"] ["self"] (defScope s_Schema___len__) := ⟨rfl, rfl, rfl, by decide +kernel, rfl, by decide +kernel, by decide +kernel⟩
theorem sc_Schema___contains__ : FnScope ["self", "thing"] ["self", "thing"] (defScope s_Schema___contains__) := ⟨rfl, rfl, rfl, by decide +kernel, rfl, by decide +kernel, by decide +kernel⟩
theorem sc_Schema___eq__ : FnScope ["self", "other", "name"] ["self", "other"] (defScope s_Schema___eq__) := ⟨rfl, rfl, rfl, by decide +kernel, rfl, by decide +kernel, by decide +kernel⟩
theorem sc_Schema_names : FnScope ["self"] ["self"] (defScope s_Schema_names) := ⟨rfl, rfl, rfl, by decide +kernel, rfl, by decide +kernel, by decide +kernel⟩
theorem sc_Schema_add : FnScope ["self", "name", "columns", "rules"] ["self", "name", "columns", "rules"] (defScope s_Schema_add) := ⟨rfl, rfl, rfl, by decide +kernel, rfl, by decide +kernel, by decide +kernel⟩
theorem sc_Schema_columns : FnScope ["self", "name"] ["self", "name"] (defScope s_Schema_columns) := ⟨rfl, rfl, rfl, by decide +kernel, rfl, by decide +kernel, by decide +kernel⟩
theorem sc_Schema_rules : FnScope ["self", "name"] ["self", "name"] (defScope s_Schema_rules) := ⟨rfl, rfl, rfl, by decide +kernel, rfl, by decide +kernel, by decide +kernel⟩
theorem sc_Schema_narrow : FnScope ["self", "name", "rules", "columns"] ["self", "name", "rules"] (defScope s_Schema_narrow) := ⟨rfl, rfl, rfl, by decide +kernel, rfl, by decide +kernel, by decide +kernel⟩
theorem sc_Schema_twin : FnScope ["self"] ["self"] (defScope s_Schema_twin) := ⟨rfl, rfl, rfl, by decide +kernel, rfl, by decide +kernel, by decide +kernel⟩
theorem sc__law_begin : FnScope ["_law_script"] ["_law_script"] (defScope s__law_begin) := ⟨rfl, rfl, rfl, by decide +kernel, rfl, by decide +kernel, by decide +kernel⟩
theorem sc__law_draw : FnScope ["_law_source", "_law_limit", "_law_cell", "_law_digit"] ["_law_source", "_law_limit"] (defScope s__law_draw) := ⟨rfl, rfl, rfl, by decide +kernel, rfl, by decide +kernel, by decide +kernel⟩
theorem sc__law_rules : FnScope ["_law_source", "_law_columns", "_law_atoms", "_law_fits", "_law_turn", "_law_at", "_law_place_here", "_law_sign", "_law_atom"] ["_law_source", "_law_columns"] (defScope s__law_rules) := ⟨rfl, rfl, rfl, by decide +kernel, rfl, by decide +kernel, by decide +kernel⟩
theorem sc__law_added : FnScope ["_law_schema", "_law_name", "_law_columns", "_law_rules_here", "e"] ["_law_schema", "_law_name", "_law_columns", "_law_rules_here"] (defScope s__law_added) := ⟨rfl, rfl, rfl, by decide +kernel, rfl, by decide +kernel, by decide +kernel⟩
theorem sc__law_narrowed : FnScope ["_law_schema", "_law_name", "_law_rules_here", "e"] ["_law_schema", "_law_name", "_law_rules_here"] (defScope s__law_narrowed) := ⟨rfl, rfl, rfl, by decide +kernel, rfl, by decide +kernel, by decide +kernel⟩
theorem sc__law_joined : FnScope ["_law_atoms", "_law_more", "_law_found", "_law_atom"] ["_law_atoms", "_law_more"] (defScope s__law_joined) := ⟨rfl, rfl, rfl, by decide +kernel, rfl, by decide +kernel, by decide +kernel⟩
theorem sc__law_place : FnScope ["_law_state", "_law_name", "_law_at"] ["_law_state", "_law_name"] (defScope s__law_place) := ⟨rfl, rfl, rfl, by decide +kernel, rfl, by decide +kernel, by decide +kernel⟩
theorem sc__law_add : FnScope ["_law_source", "_law_schema", "_law_state", "_law_names", "_law_name", "_law_columns", "_law_width", "_law_drawn", "_law_rules_here", "_law_good", "_law_actual"] ["_law_source", "_law_schema", "_law_state"] (defScope s__law_add) := ⟨rfl, rfl, rfl, by decide +kernel, rfl, by decide +kernel, by decide +kernel⟩
theorem sc__law_narrow : FnScope ["_law_source", "_law_schema", "_law_state", "_law_at", "_law_name", "_law_drawn", "_law_rules_here", "_law_actual"] ["_law_source", "_law_schema", "_law_state"] (defScope s__law_narrow) := ⟨rfl, rfl, rfl, by decide +kernel, rfl, by decide +kernel, by decide +kernel⟩
theorem sc__law_asked : FnScope ["_law_schema", "_law_name", "_law_refused", "e"] ["_law_schema", "_law_name"] (defScope s__law_asked) := ⟨rfl, rfl, rfl, by decide +kernel, rfl, by decide +kernel, by decide +kernel⟩
theorem sc__law_is : FnScope ["_law_schema", "_law_state", "_law_names", "_law_row", "_law_rules_here", "_law_one", "_law_odd"] ["_law_schema", "_law_state"] (defScope s__law_is) := ⟨rfl, rfl, rfl, by decide +kernel, rfl, by decide +kernel, by decide +kernel⟩
theorem sc_law : FnScope ["_law_script", "_law_source", "_law_schemas", "_law_states", "_law_parting", "_law_turn", "_law_at", "_law_good", "_law_equal"] ["_law_script"] (defScope s_law) := ⟨rfl, rfl, rfl, by decide +kernel, rfl, by decide +kernel, by decide +kernel⟩
structure Txt (K : PySem.W.Frag) (mg : Str → Option Value) : Prop where
  g__wall : mg "_wall" = some (.ref (ga K "_wall"))
  g_is_whole : mg "is_whole" = some (.ref (ga K "is_whole"))
  g_is_word : mg "is_word" = some (.ref (ga K "is_word"))
  g_common_divisor : mg "common_divisor" = some (.ref (ga K "common_divisor"))
  g_is_value : mg "is_value" = some (.ref (ga K "is_value"))
  g_is_term : mg "is_term" = some (.ref (ga K "is_term"))
  g_is_atom : mg "is_atom" = some (.ref (ga K "is_atom"))
  g_is_column_count : mg "is_column_count" = some (.ref (ga K "is_column_count"))
  g_names_cells : mg "names_cells" = some (.ref (ga K "names_cells"))
  g_are_row_rules : mg "are_row_rules" = some (.ref (ga K "are_row_rules"))
  g__law_begin : mg "_law_begin" = some (.ref (ga K "_law_begin"))
  g__law_draw : mg "_law_draw" = some (.ref (ga K "_law_draw"))
  g__law_rules : mg "_law_rules" = some (.ref (ga K "_law_rules"))
  g__law_added : mg "_law_added" = some (.ref (ga K "_law_added"))
  g__law_narrowed : mg "_law_narrowed" = some (.ref (ga K "_law_narrowed"))
  g__law_joined : mg "_law_joined" = some (.ref (ga K "_law_joined"))
  g__law_place : mg "_law_place" = some (.ref (ga K "_law_place"))
  g__law_add : mg "_law_add" = some (.ref (ga K "_law_add"))
  g__law_narrow : mg "_law_narrow" = some (.ref (ga K "_law_narrow"))
  g__law_asked : mg "_law_asked" = some (.ref (ga K "_law_asked"))
  g__law_is : mg "_law_is" = some (.ref (ga K "_law_is"))
  g_law : mg "law" = some (.ref (ga K "law"))
  g_NotSingle : mg "NotSingle" = some (.ref (ga K "NotSingle"))
  g_NoTable : mg "NoTable" = some (.ref (ga K "NoTable"))
  g_Conditions : mg "Conditions" = some (.ref (ga K "Conditions"))
  g_Schema : mg "Schema" = some (.ref (ga K "Schema"))
  x_AskError : XC K mg "AskError"
  x_NoCondition : XC K mg "NoCondition"
  g_LETTERS : ∃ u, mg "LETTERS" = some u ∧ RelV (.str "abcdefghijklmnopqrstuvwxyz") u
  g_SIGNS : mg "SIGNS" = some (.ref (ga K "SIGNS"))
  g_NEGATED : mg "NEGATED" = some (.ref (ga K "NEGATED"))
  g_PLACES : mg "PLACES" = some (.ref (ga K "PLACES"))
  g_MOST_COLUMNS : ∃ u, mg "MOST_COLUMNS" = some u ∧ RelV (.int 3) u
  z_ValueError : mg "ValueError" = none
  z_super : mg "super" = none
  z_isinstance : mg "isinstance" = none
  z_int : mg "int" = none
  z_bool : mg "bool" = none
  z_str : mg "str" = none
  z_len : mg "len" = none
  z_abs : mg "abs" = none
  z_tuple : mg "tuple" = none
  z_list : mg "list" = none
  z_iter : mg "iter" = none
  z_dict : mg "dict" = none
  z_all : mg "all" = none
  z_range : mg "range" = none
  e_NoTable_NoTable : PySem.W.exmOne K (.ref (ga K "NoTable")) (.ref (ga K "NoTable")) = some true
  e_NoTable_NoCondition : PySem.W.exmOne K (.ref (ga K "NoTable")) (.ref (ga K "NoCondition")) = some false
  e_NoCondition_NoTable : PySem.W.exmOne K (.ref (ga K "NoCondition")) (.ref (ga K "NoTable")) = some false
  e_NoCondition_NoCondition : PySem.W.exmOne K (.ref (ga K "NoCondition")) (.ref (ga K "NoCondition")) = some true
  m_Conditions : Mk K (ga K "Conditions") (ma K (ga K "Conditions") "__init__")
  h_Conditions_atoms : Meth K (ga K "Conditions") "atoms" (ma K (ga K "Conditions") "atoms")
  h_Conditions___eq__ : Meth K (ga K "Conditions") "__eq__" (ma K (ga K "Conditions") "__eq__")
  h_Conditions___and__ : Meth K (ga K "Conditions") "__and__" (ma K (ga K "Conditions") "__and__")
  h_Conditions___iand__ : Meth K (ga K "Conditions") "__iand__" (ma K (ga K "Conditions") "__iand__")
  m_Schema : Mk K (ga K "Schema") (ma K (ga K "Schema") "__init__")
  h_Schema___len__ : Meth K (ga K "Schema") "__len__" (ma K (ga K "Schema") "__len__")
  h_Schema___contains__ : Meth K (ga K "Schema") "__contains__" (ma K (ga K "Schema") "__contains__")
  h_Schema___eq__ : Meth K (ga K "Schema") "__eq__" (ma K (ga K "Schema") "__eq__")
  h_Schema_names : Meth K (ga K "Schema") "names" (ma K (ga K "Schema") "names")
  h_Schema_add : Meth K (ga K "Schema") "add" (ma K (ga K "Schema") "add")
  h_Schema_columns : Meth K (ga K "Schema") "columns" (ma K (ga K "Schema") "columns")
  h_Schema_rules : Meth K (ga K "Schema") "rules" (ma K (ga K "Schema") "rules")
  h_Schema_narrow : Meth K (ga K "Schema") "narrow" (ma K (ga K "Schema") "narrow")
  h_Schema_twin : Meth K (ga K "Schema") "twin" (ma K (ga K "Schema") "twin")
  n_Conditions_kept_atoms : NoAttr K (ga K "Conditions") "kept_atoms"
  n_Schema_widths : NoAttr K (ga K "Schema") "widths"
  n_Schema_limits : NoAttr K (ga K "Schema") "limits"
  f__wall : ∃ fd, FunD K "_wall" "_wall" (defArgs s__wall) (defBody s__wall) (defScope s__wall) ([] : List V) [] (ga K "_wall") fd
  f_is_whole : ∃ fd, FunD K "is_whole" "is_whole" (defArgs s_is_whole) (defBody s_is_whole) (defScope s_is_whole) ([] : List V) [] (ga K "is_whole") fd
  f_is_word : ∃ fd, FunD K "is_word" "is_word" (defArgs s_is_word) (defBody s_is_word) (defScope s_is_word) ([] : List V) [] (ga K "is_word") fd
  f_common_divisor : ∃ fd, FunD K "common_divisor" "common_divisor" (defArgs s_common_divisor) (defBody s_common_divisor) (defScope s_common_divisor) ([] : List V) [] (ga K "common_divisor") fd
  f_is_value : ∃ fd, FunD K "is_value" "is_value" (defArgs s_is_value) (defBody s_is_value) (defScope s_is_value) ([] : List V) [] (ga K "is_value") fd
  f_is_term : ∃ fd, FunD K "is_term" "is_term" (defArgs s_is_term) (defBody s_is_term) (defScope s_is_term) ([] : List V) [] (ga K "is_term") fd
  f_is_atom : ∃ fd, FunD K "is_atom" "is_atom" (defArgs s_is_atom) (defBody s_is_atom) (defScope s_is_atom) ([] : List V) [] (ga K "is_atom") fd
  f_Conditions___init__ : ∃ fd, FunD K "__init__" "Conditions.__init__" (defArgs s_Conditions___init__) (defBody s_Conditions___init__) (defScope s_Conditions___init__) ([.ref (dflAt ("Conditions", some "__init__") 0 K)] : List V) [] (ma K (ga K "Conditions") "__init__") fd
  f_Conditions_atoms : ∃ fd, FunD K "atoms" "Conditions.atoms" (defArgs s_Conditions_atoms) (defBody s_Conditions_atoms) (defScope s_Conditions_atoms) ([] : List V) [] (ma K (ga K "Conditions") "atoms") fd
  f_Conditions___eq__ : ∃ fd, FunD K "__eq__" "Conditions.__eq__" (defArgs s_Conditions___eq__) (defBody s_Conditions___eq__) (defScope s_Conditions___eq__) ([] : List V) [] (ma K (ga K "Conditions") "__eq__") fd
  f_Conditions___and__ : ∃ fd, FunD K "__and__" "Conditions.__and__" (defArgs s_Conditions___and__) (defBody s_Conditions___and__) (defScope s_Conditions___and__) ([] : List V) [] (ma K (ga K "Conditions") "__and__") fd
  f_Conditions___iand__ : ∃ fd, FunD K "__iand__" "Conditions.__iand__" (defArgs s_Conditions___iand__) (defBody s_Conditions___iand__) (defScope s_Conditions___iand__) ([] : List V) [] (ma K (ga K "Conditions") "__iand__") fd
  f_is_column_count : ∃ fd, FunD K "is_column_count" "is_column_count" (defArgs s_is_column_count) (defBody s_is_column_count) (defScope s_is_column_count) ([] : List V) [] (ga K "is_column_count") fd
  f_names_cells : ∃ fd, FunD K "names_cells" "names_cells" (defArgs s_names_cells) (defBody s_names_cells) (defScope s_names_cells) ([] : List V) [] (ga K "names_cells") fd
  f_are_row_rules : ∃ fd, FunD K "are_row_rules" "are_row_rules" (defArgs s_are_row_rules) (defBody s_are_row_rules) (defScope s_are_row_rules) ([] : List V) [] (ga K "are_row_rules") fd
  f_Schema___init__ : ∃ fd, FunD K "__init__" "Schema.__init__" (defArgs s_Schema___init__) (defBody s_Schema___init__) (defScope s_Schema___init__) ([.non, .non] : List V) [] (ma K (ga K "Schema") "__init__") fd
  f_Schema___len__ : ∃ fd, FunD K "__len__" "Schema.__len__" (defArgs s_Schema___len__) (defBody s_Schema___len__) (defScope s_Schema___len__) ([] : List V) [] (ma K (ga K "Schema") "__len__") fd
  f_Schema___contains__ : ∃ fd, FunD K "__contains__" "Schema.__contains__" (defArgs s_Schema___contains__) (defBody s_Schema___contains__) (defScope s_Schema___contains__) ([] : List V) [] (ma K (ga K "Schema") "__contains__") fd
  f_Schema___eq__ : ∃ fd, FunD K "__eq__" "Schema.__eq__" (defArgs s_Schema___eq__) (defBody s_Schema___eq__) (defScope s_Schema___eq__) ([] : List V) [] (ma K (ga K "Schema") "__eq__") fd
  f_Schema_names : ∃ fd, FunD K "names" "Schema.names" (defArgs s_Schema_names) (defBody s_Schema_names) (defScope s_Schema_names) ([] : List V) [] (ma K (ga K "Schema") "names") fd
  f_Schema_add : ∃ fd, FunD K "add" "Schema.add" (defArgs s_Schema_add) (defBody s_Schema_add) (defScope s_Schema_add) ([.non] : List V) [] (ma K (ga K "Schema") "add") fd
  f_Schema_columns : ∃ fd, FunD K "columns" "Schema.columns" (defArgs s_Schema_columns) (defBody s_Schema_columns) (defScope s_Schema_columns) ([] : List V) [] (ma K (ga K "Schema") "columns") fd
  f_Schema_rules : ∃ fd, FunD K "rules" "Schema.rules" (defArgs s_Schema_rules) (defBody s_Schema_rules) (defScope s_Schema_rules) ([] : List V) [] (ma K (ga K "Schema") "rules") fd
  f_Schema_narrow : ∃ fd, FunD K "narrow" "Schema.narrow" (defArgs s_Schema_narrow) (defBody s_Schema_narrow) (defScope s_Schema_narrow) ([] : List V) [] (ma K (ga K "Schema") "narrow") fd
  f_Schema_twin : ∃ fd, FunD K "twin" "Schema.twin" (defArgs s_Schema_twin) (defBody s_Schema_twin) (defScope s_Schema_twin) ([] : List V) [] (ma K (ga K "Schema") "twin") fd
  f__law_begin : ∃ fd, FunD K "_law_begin" "_law_begin" (defArgs s__law_begin) (defBody s__law_begin) (defScope s__law_begin) ([] : List V) [] (ga K "_law_begin") fd
  f__law_draw : ∃ fd, FunD K "_law_draw" "_law_draw" (defArgs s__law_draw) (defBody s__law_draw) (defScope s__law_draw) ([] : List V) [] (ga K "_law_draw") fd
  f__law_rules : ∃ fd, FunD K "_law_rules" "_law_rules" (defArgs s__law_rules) (defBody s__law_rules) (defScope s__law_rules) ([] : List V) [] (ga K "_law_rules") fd
  f__law_added : ∃ fd, FunD K "_law_added" "_law_added" (defArgs s__law_added) (defBody s__law_added) (defScope s__law_added) ([] : List V) [] (ga K "_law_added") fd
  f__law_narrowed : ∃ fd, FunD K "_law_narrowed" "_law_narrowed" (defArgs s__law_narrowed) (defBody s__law_narrowed) (defScope s__law_narrowed) ([] : List V) [] (ga K "_law_narrowed") fd
  f__law_joined : ∃ fd, FunD K "_law_joined" "_law_joined" (defArgs s__law_joined) (defBody s__law_joined) (defScope s__law_joined) ([] : List V) [] (ga K "_law_joined") fd
  f__law_place : ∃ fd, FunD K "_law_place" "_law_place" (defArgs s__law_place) (defBody s__law_place) (defScope s__law_place) ([] : List V) [] (ga K "_law_place") fd
  f__law_add : ∃ fd, FunD K "_law_add" "_law_add" (defArgs s__law_add) (defBody s__law_add) (defScope s__law_add) ([] : List V) [] (ga K "_law_add") fd
  f__law_narrow : ∃ fd, FunD K "_law_narrow" "_law_narrow" (defArgs s__law_narrow) (defBody s__law_narrow) (defScope s__law_narrow) ([] : List V) [] (ga K "_law_narrow") fd
  f__law_asked : ∃ fd, FunD K "_law_asked" "_law_asked" (defArgs s__law_asked) (defBody s__law_asked) (defScope s__law_asked) ([] : List V) [] (ga K "_law_asked") fd
  f__law_is : ∃ fd, FunD K "_law_is" "_law_is" (defArgs s__law_is) (defBody s__law_is) (defScope s__law_is) ([] : List V) [] (ga K "_law_is") fd
  f_law : ∃ fd, FunD K "law" "law" (defArgs s_law) (defBody s_law) (defScope s_law) ([] : List V) [] (ga K "law") fd
  dc0 : ∀ H : Hp, SqT K H (dflAt ("Conditions", some "__init__") 0 K) []
  c_NoTable : ExcC K (ga K "NoTable")
  k_NoTable_AskError : PySem.W.kitOne K (.ref (ga K "NoTable")) (.ref (ga K "AskError")) = some true
  k_NoTable_NoCondition : PySem.W.kitOne K (.ref (ga K "NoTable")) (.ref (ga K "NoCondition")) = some false
  o_Conditions : OC K (ga K "Conditions")
  o_Schema : OC K (ga K "Schema")
  u_Conditions___eq__ : PySem.W.findIn K (.ref (ga K "Conditions")) "__eq__" = some (some (.ref (ma K (ga K "Conditions") "__eq__"))) ∧ PySem.W.isFn K (.ref (ma K (ga K "Conditions") "__eq__")) = true
  u_Conditions___and__ : PySem.W.findIn K (.ref (ga K "Conditions")) "__and__" = some (some (.ref (ma K (ga K "Conditions") "__and__"))) ∧ PySem.W.isFn K (.ref (ma K (ga K "Conditions") "__and__")) = true
  u_Conditions___iand__ : PySem.W.findIn K (.ref (ga K "Conditions")) "__iand__" = some (some (.ref (ma K (ga K "Conditions") "__iand__"))) ∧ PySem.W.isFn K (.ref (ma K (ga K "Conditions") "__iand__")) = true
  u_Schema___eq__ : PySem.W.findIn K (.ref (ga K "Schema")) "__eq__" = some (some (.ref (ma K (ga K "Schema") "__eq__"))) ∧ PySem.W.isFn K (.ref (ma K (ga K "Schema") "__eq__")) = true
  sf_Conditions : PySem.W.selfFirst K (ga K "Conditions") = true
  nf_Conditions : PySem.W.notFirst K (ga K "Conditions") (.ref (ga K "Conditions")) = true
  nf_Schema : PySem.W.notFirst K (ga K "Schema") (.ref (ga K "Schema")) = true
  t_PLACES : ∀ H : Hp, SqT K H (ga K "PLACES") [.str "old", .str "first", .str "second"]
  t_SIGNS : ∀ H : Hp, SqT K H (ga K "SIGNS") [.str "<", .str "<=", .str "=", .str "!="]
  y_NoTable : XT K mg "NoTable" "name" "/claim/cut.py" ∧ XfC K (ga K "NoTable") ∧ PySem.W.findIn K (.ref (ga K "NoTable")) "name" = some none
end K09
namespace K09
open PySem PySem.Spec PyProof.Rows L2 He TL EL
section
variable {P : Program} {w : World} {K : PySem.W.Frag} {mg : Str → Option Value} {base : Heap}
/-! is_whole -/
def spIsWhole (K : PySem.W.Frag) : Sp := fun vs H Q _ => ∃ v th, vs = [v] ∧ ThOk K H v th ∧ Q (.bl (isWholeT th)) H
theorem d_is_whole (T : Txt K mg) : Dn P w K mg base CX0 1 "is_whole" (spIsWhole K) := by
  obtain ⟨fd, F⟩ := T.f_is_whole
  refine dnN T.g_is_whole F (fun _ _ _ _ _ _ us hl => match us, hl with | [_], _ => rfl) sc_is_whole (fun vs H Q E h => ?_) (fun cdv A outer s H vs Q E hr h => ?_)
  · obtain ⟨v, th, rfl, _⟩ := h
    rfl
  · obtain ⟨v, th, rfl, ht, q⟩ := h
    obtain ⟨t, ty, ki⟩ := ht.ty
    refine ⟨_, PSs.nox (pss_one (ps_ret (pe_and (pe_callB call_isi (by rfl) T.z_isinstance (by decide +kernel) (pa_cons (pv 0) (pa_cons (pe_bltn (v := .ty "int") (by rfl) T.z_int (by decide +kernel) rfl) pa_nil))) (pe_one (pe_not (pe_callB call_isi (by rfl) T.z_isinstance (by decide +kernel) (pa_cons (pv 0) (pa_cons (pe_bltn (v := .ty "bool") (by rfl) T.z_bool (by decide +kernel) rfl) pa_nil)))))))), ?_⟩
    refine ⟨_, rfl, _, _, t, _, _, rfl, .ty _, ty, ki .int, _, rfl, ie (fun h1 => ?_) (fun h1 => ?_)⟩
    · refine ⟨_, rfl, _, _, t, _, _, rfl, .ty _, ty, ki .bl, _, rfl, ?_⟩
      have e : isWholeT th = !th.is .bl := by unfold isWholeT; rw [h1]; rfl
      rw [e] at q
      exact q
    · have e : isWholeT th = false := by unfold isWholeT; rw [h1]; rfl
      rw [e] at q
      exact q
/-! common_divisor -/
def spCD : Sp := fun vs H Q _ => ∃ a b : Int, vs = [.int a, .int b] ∧ Q (.int (cd a b)) H
theorem d_common_divisor (T : Txt K mg) : Dn P w K mg base CX0 1 "common_divisor" spCD := by
  obtain ⟨fd, F⟩ := T.f_common_divisor
  refine dnN T.g_common_divisor F (fun _ _ _ _ _ _ us hl => match us, hl with | [_, _], _ => rfl) sc_common_divisor (fun vs H Q E h => ?_) (fun cdv A outer s H vs Q E hr h => ?_)
  · obtain ⟨a, b, rfl, _⟩ := h
    rfl
  · obtain ⟨a, b, rfl, q⟩ := h
    refine ⟨_, PSs.nox (pss_cons (ps_par (i := 0) (j := 1) (by rfl) sc_common_divisor.nd rfl rfl (by decide) rfl rfl (pa_cons (pe_callB call_abs (by rfl) T.z_abs (by decide +kernel) (pa_cons (pv 0) pa_nil)) (pa_cons (pe_callB call_abs (by rfl) T.z_abs (by decide +kernel) (pa_cons (pv 1) pa_nil)) pa_nil)) (by rfl))
      (pss_cons (ps_while PassesOwn.never (pt_cmpR op_gt (pv 1) pe_int (nomark _))
      (pss_one (ps_par (i := 0) (j := 1) (by rfl) sc_common_divisor.nd rfl rfl (by decide) rfl rfl (pa_cons (pv 1) (pa_cons (pe_op op_mod (pv 0) (pv 1)) pa_nil)) (by rfl))))
      (pss_one (ps_ret (pv 0))))), ?_⟩
    refine ⟨_, rfl, _, rfl, _, rfl, _, rfl, _, _, rfl, ?_⟩
    refine ⟨fun m σ H' => ∃ x y : Nat, m = y ∧ σ = [some (.int x), some (.int y)] ∧ H' = H ∧ Nat.gcd x y = Nat.gcd a.natAbs b.natAbs, ⟨b.natAbs, a.natAbs, b.natAbs, rfl, ?_, rfl, rfl⟩, ?_⟩
    · have e : ∀ z : Int, (if z < 0 then -z else z) = (z.natAbs : Int) := fun z => by split <;> omega
      show [some (V.int _), some (V.int _)] = _
      rw [e, e]
    · rintro m σ H' ⟨x, y, em, rfl, rfl, hg⟩
      subst m
      refine ⟨_, rfl, _, _, rfl, rfl, _, rfl, ie (fun h1 => ?_) (fun h1 => ?_)⟩
      · have hy : 0 < y := by
          have := of_decide_eq_true h1
          omega
        refine ⟨_, fun σ' H2 hN => hN, _, rfl, _, rfl, _, rfl, _, _, rfl, rfl, (by show (0 : Int) < (y : Int); omega), _, _, rfl, ?_⟩
        exact ⟨x % y, Nat.mod_lt _ hy, y, x % y, rfl, rfl, rfl, by rw [← hg, Nat.gcd_comm x y, Nat.gcd_rec y x, Nat.gcd_comm]⟩
      · have hy : y = 0 := by
          have := of_decide_eq_false h1
          omega
        refine ⟨_, rfl, ?_⟩
        subst hy
        rw [Nat.gcd_zero_right] at hg
        unfold cd at q
        rw [← hg] at q
        exact q
/-! is_value -/
def spIsValue (K : PySem.W.Frag) : Sp := fun vs H Q _ => ∃ v th, vs = [v] ∧ ThOk K H v th ∧ Q (.bl (isValT th)) H
theorem d_is_value (T : Txt K mg) : Dn P w K mg base CX0 2 "is_value" (spIsValue K) := by
  obtain ⟨fd, F⟩ := T.f_is_value
  have D_is_whole := d_is_whole (P := P) (w := w) (base := base) T
  have D_common_divisor := d_common_divisor (P := P) (w := w) (base := base) T
  refine dnN T.g_is_value F (fun _ _ _ _ _ _ us hl => match us, hl with | [_], _ => rfl) sc_is_value (fun vs H Q E h => ?_) (fun cdv A outer s H vs Q E hr h => ?_)
  · obtain ⟨v, th, rfl, _⟩ := h
    rfl
  · obtain ⟨v, th, rfl, ht, q⟩ := h
    obtain ⟨t, ty, ki⟩ := ht.ty
    refine ⟨_, PSs.nox (pss_cons (ps_if (PW.pt (pw_or (pt_not (pt_val (pe_callB call_isi (by rfl) T.z_isinstance (by decide +kernel) (pa_cons (pv 0) (pa_cons (pe_bltn (v := .ty "tuple") (by rfl) T.z_tuple (by decide +kernel) rfl) pa_nil))))) (pw_or1 (pt_cmpR op_ne (pe_callB call_len_seq (by rfl) T.z_len (by decide +kernel) (pa_cons (pv 0) pa_nil)) pe_int (nomark _))))) (pss_one (ps_ret pe_bl)) pss_nil)
      (pss_cons (ps_if (PW.pt (pw_or (pt_not (pt_val (cl D_is_whole (hr.mono (by decide)) (pa_cons (pe_ix ix_tup (pv 0) pe_int (fun _ _ => rfl)) pa_nil)))) (pw_or (pt_not (pt_val (cl D_is_whole (hr.mono (by decide)) (pa_cons (pe_ix ix_tup (pv 0) pe_int (fun _ _ => rfl)) pa_nil)))) (pw_or1 (pt_cmpR op_lt (pe_ix ix_tup (pv 0) pe_int (fun _ _ => rfl)) pe_int (nomark _)))))) (pss_one (ps_ret pe_bl)) pss_nil)
      (pss_one (ps_ret (pe_cmpR op_eq (cl D_common_divisor (hr.mono (by decide)) (pa_cons (pe_ix ix_tup (pv 0) pe_int (fun _ _ => rfl)) (pa_cons (pe_ix ix_tup (pv 0) pe_int (fun _ _ => rfl)) pa_nil))) pe_int (nomark _)))))), ?_⟩
    refine ⟨_, rfl, _, _, t, _, _, rfl, .ty _, ty, ki .tup, _, rfl, ?_⟩
    by_cases hn : ∃ ds, th = .d (.tuple ds)
    · obtain ⟨ds, rfl⟩ := hn
      refine iteF ?_
      cases ht with
      | @tup a xs _ hS hA =>
      refine ⟨_, rfl, _, _, rfl, .inr hS, rfl, _, rfl, ?_⟩
      by_cases hl : xs.length = 2
      · match xs, hl with
        | [v0, v1], _ =>
        match ds, hA with
        | [d0, d1], .cons h0 (.cons h1 .nil) =>
        refine iteF ?_
        -- is_whole(thing[0])
        refine ⟨_, rfl, _, _, 0, v0, rfl, rfl, hS, atI_nat (j := 0) rfl, v0, .d d0, rfl, h0, _, rfl, ?_⟩
        rw [isWholeT_d]
        by_cases w0 : ∃ a, d0 = .int a
        · obtain ⟨a0, rfl⟩ := w0
          refine iteF ?_
          refine ⟨_, rfl, _, _, 1, v1, rfl, rfl, hS, atI_nat (j := 1) rfl, v1, .d d1, rfl, h1, _, rfl, ?_⟩
          rw [isWholeT_d]
          by_cases w1 : ∃ b, d1 = .int b
          · obtain ⟨b0, rfl⟩ := w1
            refine iteF ?_
            cases h0
            cases h1
            refine ⟨_, rfl, _, _, 1, _, rfl, rfl, hS, atI_nat (j := 1) rfl, _, _, rfl, rfl, _, rfl, ie (fun c => ?_) (fun c => ?_)⟩
            · have e : isValT (.d (.tuple [.int a0, .int b0])) = false := by
                show (!decide (b0 < 1) && decide (cd a0 b0 = 1)) = false
                rw [c]
                rfl
              rw [e] at q
              exact q
            · have e : isValT (.d (.tuple [.int a0, .int b0])) = decide (V.int (cd a0 b0) = V.int 1) := by
                show (!decide (b0 < 1) && decide (cd a0 b0 = 1)) = decide (V.int (cd a0 b0) = V.int 1)
                rw [c]
                simp
              rw [e] at q
              exact ⟨_, rfl, _, _, 0, _, rfl, rfl, hS, atI_nat (j := 0) rfl, _, rfl, _, _, 1, _, rfl, rfl, hS, atI_nat (j := 1) rfl, _, _, rfl, rfl, q⟩
          · have e2 : isWholeD d1 = false := by
              cases d1 <;> first | rfl | exact absurd ⟨_, rfl⟩ w1
            rw [e2]
            have e : isValT (.d (.tuple [.int a0, d1])) = false := by
              cases d1 <;> first | rfl | exact absurd ⟨_, rfl⟩ w1
            rw [e] at q
            exact q
        · have e2 : isWholeD d0 = false := by
            cases d0 <;> first | rfl | exact absurd ⟨_, rfl⟩ w0
          rw [e2]
          have e : isValT (.d (.tuple [d0, d1])) = false := by
            cases d0 <;> first | rfl | exact absurd ⟨_, rfl⟩ w0
          rw [e] at q
          exact q
      · have e2 : decide (V.int (xs.length : Int) = V.int 2) = false := decide_eq_false fun z => hl (by injection z; omega)
        rw [e2]
        have hdl : ds.length ≠ 2 := by
          rw [← DpAll.length hA]
          exact hl
        have e : isValT (.d (.tuple ds)) = false := by
          match ds, hdl with
          | [], _ => rfl
          | [_], _ => simp [isValT, isValD]
          | [_, _], h => exact absurd rfl h
          | _ :: _ :: _ :: _, _ => simp [isValT, isValD]
        rw [e] at q
        exact q
    · have e1 : th.is .tup = false := by
        cases th with
        | o => rfl
        | d d => cases d <;> first | rfl | exact absurd ⟨_, rfl⟩ hn
      rw [e1]
      have e : isValT th = false := by
        cases th with
        | o => rfl
        | d d => cases d <;> first | rfl | exact absurd ⟨_, rfl⟩ hn
      rw [e] at q
      exact q
/-! _law_begin -/
def spBegin (K : PySem.W.Frag) : Sp := fun vs H Q _ => ∃ (a : Addr) (ns : List Int), vs = [.ref a] ∧ SqL K H a (ns.map V.int) ∧ ∀ p l H', H p = none → H l = none → Same H H' → Src H' p l → Q (.ref p) H'
theorem cut_map (ns : List Int) (lo hi : Option Int) : ∃ ms : List Int, cutV (ns.map V.int) lo hi = ms.map V.int := by
  unfold cutV
  rw [← List.map_drop, ← List.map_take]
  exact ⟨_, rfl⟩
theorem d_begin (T : Txt K mg) : Dn P w K mg base CX0 1 "_law_begin" (spBegin K) := by
  obtain ⟨fd, F⟩ := T.f__law_begin
  refine dnN T.g__law_begin F (fun _ _ _ _ _ _ us hl => match us, hl with | [_], _ => rfl) sc__law_begin (fun vs H Q E h => ?_) (fun cdv A outer s H vs Q E hr h => ?_)
  · obtain ⟨a, ns, rfl, _⟩ := h
    rfl
  · obtain ⟨a, ns, rfl, hS, q⟩ := h
    refine ⟨_, PSs.nox (pss_one (ps_ret (pe_lst (pa_cons (pe_callTy call_list_of (by rfl) T.z_list (by decide +kernel) (pa_cons (pe_slice sl_list (pv 0) po_none (po_some pe_int)) pa_nil)) (pa_cons pe_int (pa_cons pe_int (pa_cons pe_int pa_nil))))))), ?_⟩
    obtain ⟨ms, hm⟩ := cut_map ns none (some 63)
    refine ⟨_, rfl, _, rfl, _, _, rfl, hS, fun c nc => ?_⟩
    rw [hm]
    generalize eH1 : upd H c _ = H1
    have s1 : Same H H1 := eH1 ▸ same_upd nc
    have h1 : H1 c = some _ := eH1 ▸ upd_same
    refine ⟨_, _, rfl, .inl (SqL.of h1), fun l nl => ?_⟩
    generalize eH2 : upd H1 l _ = H2
    have s2 : Same H1 H2 := eH2 ▸ same_upd nl
    have h2 : H2 l = some _ := eH2 ▸ upd_same
    refine ⟨(by show 4 ≤ sizeLine; decide), fun p np => ?_⟩
    generalize eH3 : upd H2 p _ = H3
    have s3 : Same H2 H3 := eH3 ▸ same_upd np
    have h3 : H3 p = some _ := eH3 ▸ upd_same
    exact q p l H3 (s1.free (s2.free np)) (s1.free nl) (s1.trans (s2.trans s3)) ⟨ms, 0, 0, 7, h3, s3 _ _ h2, by omega, by omega, by omega⟩
/-! _law_draw -/
def spDraw : Sp := fun vs H Q _ => ∃ (p l : Addr) (L : Int), vs = [.ref p, .int L] ∧ 0 < L ∧ L ≤ 1000000000000000000 ∧ Src H p l ∧ ∀ (n : Int) (H' : Hp), 0 ≤ n → n < L → Src H' p l → But p H H' → Q (.int n) H'
theorem mulok {i j : Int} {a : Nat} (h1 : i.natAbs < 2 ^ 70) (h2 : j.natAbs < 2 ^ 70) : CMulW i j := wide_mul h1 h2 (by decide) (by decide) (by decide)
theorem pow18 : ((10 : Int) ^ (18 : Int).toNat) = 1000000000000000000 := by decide +kernel
theorem d_draw (T : Txt K mg) : Dn P w K mg base CX0 1 "_law_draw" spDraw := by
  obtain ⟨fd, F⟩ := T.f__law_draw
  refine dnN T.g__law_draw F (fun _ _ _ _ _ _ us hl => match us, hl with | [_, _], _ => rfl) sc__law_draw (fun vs H Q E h => ?_) (fun cdv A outer s H vs Q E hr h => ?_)
  · obtain ⟨p, l, L, rfl, _⟩ := h
    rfl
  · obtain ⟨p, l, L, rfl, hL0, hL1, hS, q⟩ := h
    obtain ⟨ns, i, c, r, h1, h2, hc, hr0, hr1⟩ := id hS
    have npl : l ≠ p := hS.ne
    have hpw : CPow 10 18 := ⟨by decide, by decide, by decide⟩
    refine ⟨_, PSs.nox (pss_mid (ps_if (PW.pt (pw_and (pt_cmpR op_lt (pe_ix ix_list (pv 0) pe_int (fun _ _ => rfl)) (pe_op op_pow pe_int pe_int) (nomark _)) (pw_and1 (pt_cmpR op_lt (pe_ix ix_list (pv 0) pe_int (fun _ _ => rfl)) (pe_callB call_len_seq (by rfl) T.z_len (by decide +kernel) (pa_cons (pe_ix ix_list (pv 0) pe_int (fun _ _ => rfl)) pa_nil)) (nomark _))))) (pss_cons (ps_set (i := 2) sc__law_draw.nd rfl (.inl rfl) (pe_callTy call_int1 (by rfl) T.z_int (by decide +kernel) (pa_cons (pe_ix ix_list (pe_ix ix_list (pv 0) pe_int (fun _ _ => rfl)) (pe_ix ix_list (pv 0) pe_int (fun _ _ => rfl)) (fun _ _ => rfl)) pa_nil)))
      (pss_cons (ps_asg (pe_op op_add (pe_ix ix_list (pv 0) pe_int (fun _ _ => rfl)) pe_int) (pg_sub (pv 0) pe_int set_list))
      (pss_cons (ps_asg pe_int (pg_sub (pv 0) pe_int set_list))
      (pss_mid (ps_if (pt_cmpR op_ge (pv 2) (pe_op op_pow pe_int pe_int) (nomark _)) (pss_one (ps_asg (pv 2) (pg_sub (pv 0) pe_int set_list))) pss_nil)
      (pss_one (ps_asg (pe_op op_mod (pe_op op_add (pe_op op_add (pe_op op_mulW (pe_ix ix_list (pv 0) pe_int (fun _ _ => rfl)) pe_int) (pe_op op_mod (pv 2) pe_int)) pe_int) pe_int) (pg_sub (pv 0) pe_int set_list))))))) pss_nil)
      (pss_cons (ps_if (pt_cmpR op_ge (pe_ix ix_list (pv 0) pe_int (fun _ _ => rfl)) (pe_op op_pow pe_int pe_int) (nomark _)) (pss_cons (ps_set (i := 3) sc__law_draw.nd rfl (.inl rfl) (pe_op op_mod (pe_ix ix_list (pv 0) pe_int (fun _ _ => rfl)) (pv 1)))
      (pss_cons (ps_asg (pe_op op_fdivW (pe_ix ix_list (pv 0) pe_int (fun _ _ => rfl)) (pv 1)) (pg_sub (pv 0) pe_int set_list))
      (pss_one (ps_ret (pv 3))))) pss_nil)
      (pss_cons (ps_asg (pe_op op_mod (pe_op op_add (pe_op op_mulW (pe_ix ix_list (pv 0) pe_int (fun _ _ => rfl)) pe_int) pe_int) pe_int) (pg_sub (pv 0) pe_int set_list))
      (pss_one (ps_ret (pe_op op_mod (pe_op op_fdivW (pe_ix ix_list (pv 0) pe_int (fun _ _ => rfl)) pe_int) (pv 1))))))), ?_⟩
    refine ⟨fun σ' H' => ∃ v2, σ' = [some (.ref p), some (.int L), v2, none] ∧ Src H' p l ∧ But p H H', ?_, ?_⟩
    · -- the first test
      refine ⟨_, rfl, _, _, 2, _, rfl, rfl, SqL.of h1, atI_nat (j := 2) rfl, _, _, rfl, rfl, hpw, _, _, rfl, rfl, _, rfl, ie (fun c1 => ?_) (fun c1 => ?_)⟩
      · refine ⟨_, rfl, _, _, 1, _, rfl, rfl, SqL.of h1, atI_nat (j := 1) rfl, _, rfl, _, _, 0, _, rfl, rfl, SqL.of h1, atI_nat (j := 0) rfl, _, _, rfl, .inl (SqL.of h2), _, _, rfl, rfl, _, rfl, ie (fun c2 => ?_) (fun c2 => ?_)⟩
        · have c2 := of_decide_eq_true c2
          rw [List.length_map] at c2
          have hi : i < ns.length := by omega
          have hg : (ns.map V.int)[i]? = some (.int ns[i]) := by
            rw [List.getElem?_map, List.getElem?_eq_getElem hi]
            rfl
          generalize ns[i] = z at hg
          -- _law_cell = int(_law_source[0][_law_source[1]])
          refine ⟨_, rfl, _, _, 0, _, rfl, rfl, SqL.of h1, atI_nat (j := 0) rfl, _, rfl, _, _, 1, _, rfl, rfl, SqL.of h1, atI_nat (j := 1) rfl, _, _, _, _, rfl, rfl, SqL.of h2, atI_nat hg, .inl ⟨_, rfl, ?_⟩⟩
          -- _law_source[1] = _law_source[1] + 1
          refine ⟨_, rfl, _, _, 1, _, rfl, rfl, SqL.of h1, atI_nat (j := 1) rfl, _, _, rfl, rfl, _, rfl, p, _, 1, 1, rfl, rfl, h1, rfl, ?_⟩
          generalize e3 : upd H p _ = H3
          have b3 : But p H H3 := e3 ▸ but_upd
          have h3 : H3 p = some (.lst [.ref l, .int (i + 1), .int c, .int r]) := e3 ▸ upd_same
          -- _law_source[2] = 0
          refine ⟨_, rfl, p, _, 2, 2, rfl, rfl, h3, rfl, ?_⟩
          generalize e4 : upd H3 p _ = H4
          have b4 : But p H3 H4 := e4 ▸ but_upd
          have h4 : H4 p = some (.lst [.ref l, .int (i + 1), .int 0, .int r]) := e4 ▸ upd_same
          -- if _law_cell >= 10 ** 18: _law_source[2] = _law_cell
          refine ⟨fun σ' H' => ∃ c' : Int, 0 ≤ c' ∧ σ' = [some (.ref p), some (.int L), some (.int z), none] ∧ But p H H' ∧ H' p = some (.lst [.ref l, .int (i + 1), .int c', .int r]), ?_, ?_⟩
          · refine ⟨_, rfl, _, _, rfl, rfl, hpw, _, _, rfl, rfl, _, rfl, ie (fun c3 => ?_) (fun c3 => ?_)⟩
            · have c3 := of_decide_eq_true c3
              rw [pow18] at c3
              refine ⟨_, rfl, _, rfl, p, _, 2, 2, rfl, rfl, h4, rfl, ?_⟩
              exact ⟨z, by omega, rfl, b3.trans (b4.trans but_upd), upd_same⟩
            · exact ⟨0, by omega, rfl, b3.trans b4, h4⟩
          · rintro σ' H5 ⟨c', hc', rfl, b5, h5⟩
            have hm : CMulW r 48271 := mulok (a := 0) (by omega) (by decide)
            have hmod : 0 ≤ (r * 48271 + z % 2147483629 + 11) % 2147483647 ∧ (r * 48271 + z % 2147483629 + 11) % 2147483647 < 2147483647 := ⟨Int.emod_nonneg _ (by decide), Int.emod_lt_of_pos _ (by decide)⟩
            refine ⟨_, rfl, _, _, 3, _, rfl, rfl, SqL.of h5, atI_nat (j := 3) rfl, _, _, rfl, rfl, hm, _, rfl, _, _, rfl, rfl, (by show (0 : Int) < 2147483629; decide), _, _, rfl, rfl, _, _, rfl, rfl, _, _, rfl, rfl, (by show (0 : Int) < 2147483647; decide), _, rfl, p, _, 3, 3, rfl, rfl, h5, rfl, ?_⟩
            exact ⟨_, rfl, ⟨ns, i + 1, c', _, upd_same, by rw [upd_ne npl]; exact b5 _ _ h2 npl, hc', hmod.1, hmod.2⟩, b5.trans but_upd⟩
        · exact ⟨none, rfl, hS, .refl _ _⟩
      · exact ⟨none, rfl, hS, .refl _ _⟩
    · rintro σ' H1 ⟨v2, rfl, hS1, b1⟩
      clear h1 h2 hc hr0 hr1 npl
      obtain ⟨ns, i, c, r, h1, h2, hc, hr0, hr1⟩ := id hS1
      have npl : l ≠ p := hS1.ne
      refine ⟨_, rfl, _, _, 2, _, rfl, rfl, SqL.of h1, atI_nat (j := 2) rfl, _, _, rfl, rfl, hpw, _, _, rfl, rfl, _, rfl, ie (fun c1 => ?_) (fun c1 => ?_)⟩
      · refine ⟨_, rfl, _, _, 2, _, rfl, rfl, SqL.of h1, atI_nat (j := 2) rfl, _, rfl, _, _, rfl, rfl, hL0, ?_⟩
        have hdv : CDivW c L := wide_div hL0 (b := 64) (by omega) (by decide) (by decide)
        refine ⟨_, rfl, _, _, 2, _, rfl, rfl, SqL.of h1, atI_nat (j := 2) rfl, _, rfl, _, _, rfl, rfl, hdv, _, rfl, p, _, 2, 2, rfl, rfl, h1, rfl, ?_⟩
        refine ⟨_, rfl, ?_⟩
        refine q (c % L) _ (Int.emod_nonneg _ (by omega)) (Int.emod_lt_of_pos _ hL0) ⟨ns, i, c / L, r, upd_same, by rw [upd_ne npl]; exact h2, Int.ediv_nonneg hc (by omega), hr0, hr1⟩ (b1.trans but_upd)
      · have hm : CMulW r 39373 := mulok (a := 0) (by omega) (by decide)
        have hmod : 0 ≤ (r * 39373 + 12820163) % 2147483647 ∧ (r * 39373 + 12820163) % 2147483647 < 2147483647 := ⟨Int.emod_nonneg _ (by decide), Int.emod_lt_of_pos _ (by decide)⟩
        refine ⟨_, rfl, _, _, 3, _, rfl, rfl, SqL.of h1, atI_nat (j := 3) rfl, _, _, rfl, rfl, hm, _, _, rfl, rfl, _, _, rfl, rfl, (by show (0 : Int) < 2147483647; decide), _, rfl, p, _, 3, 3, rfl, rfl, h1, rfl, ?_⟩
        generalize e3 : upd H1 p _ = H3
        have b3 : But p H1 H3 := e3 ▸ but_upd
        have h3 : H3 p = some (.lst [.ref l, .int i, .int c, .int ((r * 39373 + 12820163) % 2147483647)]) := e3 ▸ upd_same
        generalize (r * 39373 + 12820163) % 2147483647 = r2 at *
        have hdv : CDivW r2 16 := ⟨by decide, by decide⟩
        refine ⟨_, rfl, _, _, 3, _, rfl, rfl, SqL.of h3, atI_nat (j := 3) rfl, _, _, rfl, rfl, hdv, _, rfl, _, _, rfl, rfl, hL0, ?_⟩
        exact q (r2 / 16 % L) _ (Int.emod_nonneg _ (by omega)) (Int.emod_lt_of_pos _ hL0) ⟨ns, i, c, r2, h3, b3 _ _ h2 npl, hc, hmod.1, hmod.2⟩ (b1.trans b3)
/-! is_term -/
def plV : List V := [.str "old", .str "first", .str "second"]
def sgV : List V := [.str "<", .str "<=", .str "=", .str "!="]
def colD : PyData → Bool
  | .int i => decide (0 ≤ i) && decide (i < 3)
  | _ => false
def termD (z : Str) (d : PyData) : Bool := if decide (V.str z = V.str "value") = true then isValD d else inV (.str z) plV && colD d
def isTermD : PyData → Bool
  | .tuple [.str z, d] => termD z d
  | _ => false
def isTermT : Th → Bool
  | Th.d x => isTermD x
  | Th.o => false
def spIsTerm (K : PySem.W.Frag) : Sp := fun vs H Q _ => ∃ v th, vs = [v] ∧ ThOk K H v th ∧ Q (.bl (isTermT th)) H
theorem d_is_term (T : Txt K mg) : Dn P w K mg base CX0 3 "is_term" (spIsTerm K) := by
  obtain ⟨fd, F⟩ := T.f_is_term
  have D_is_whole := d_is_whole (P := P) (w := w) (base := base) T
  have D_is_value := d_is_value (P := P) (w := w) (base := base) T
  refine dnN T.g_is_term F (fun _ _ _ _ _ _ us hl => match us, hl with | [_], _ => rfl) sc_is_term (fun vs H Q E h => ?_) (fun cdv A outer s H vs Q E hr h => ?_)
  · obtain ⟨v, th, rfl, _⟩ := h
    rfl
  · obtain ⟨v, th, rfl, ht, q⟩ := h
    obtain ⟨t, ty, ki⟩ := ht.ty
    refine ⟨_, PSs.nox (pss_cons (ps_if (PW.pt (pw_or (pt_not (pt_val (pe_callB call_isi (by rfl) T.z_isinstance (by decide +kernel) (pa_cons (pv 0) (pa_cons (pe_bltn (v := .ty "tuple") (by rfl) T.z_tuple (by decide +kernel) rfl) pa_nil))))) (pw_or (pt_cmpR op_ne (pe_callB call_len_seq (by rfl) T.z_len (by decide +kernel) (pa_cons (pv 0) pa_nil)) pe_int (nomark _)) (pw_or1 (pt_not (pt_val (pe_callB call_isi (by rfl) T.z_isinstance (by decide +kernel) (pa_cons (pe_ix ix_tup (pv 0) pe_int (fun _ _ => rfl)) (pa_cons (pe_bltn (v := .ty "str") (by rfl) T.z_str (by decide +kernel) rfl) pa_nil))))))))) (pss_one (ps_ret pe_bl)) pss_nil)
      (pss_cons (ps_if (pt_cmpR op_eq (pe_ix ix_tup (pv 0) pe_int (fun _ _ => rfl)) pe_str (nomark _)) (pss_one (ps_ret (cl D_is_value (hr.mono (by decide)) (pa_cons (pe_ix ix_tup (pv 0) pe_int (fun _ _ => rfl)) pa_nil)))) pss_nil)
      (pss_one (ps_ret (pe_and (pe_cmpR op_in_seq (pe_ix ix_tup (pv 0) pe_int (fun _ _ => rfl)) (pe_glob (v := .ref (ga K "PLACES")) (by rfl) T.g_PLACES rfl) (by rfl)) (pe_and (cl D_is_whole (hr.mono (by decide)) (pa_cons (pe_ix ix_tup (pv 0) pe_int (fun _ _ => rfl)) pa_nil)) (pe_one (pe_chain op_le op_lt pe_int (pe_ix ix_tup (pv 0) pe_int (fun _ _ => rfl)) (pe_gv T.g_MOST_COLUMNS))))))))), ?_⟩
    refine ⟨_, rfl, _, _, t, _, _, rfl, .ty _, ty, ki .tup, _, rfl, ?_⟩
    by_cases hn : ∃ ds, th = .d (.tuple ds)
    · obtain ⟨ds, rfl⟩ := hn
      refine iteF ?_
      cases ht with
      | @tup a xs _ hS hA =>
      refine ⟨_, rfl, _, _, rfl, .inr hS, rfl, _, rfl, ?_⟩
      by_cases hl : xs.length = 2
      · match xs, hl with
        | [v0, v1], _ =>
        match ds, hA with
        | [d0, d1], .cons h0 (.cons h1 .nil) =>
        refine iteF ?_
        refine ⟨_, rfl, _, _, 0, v0, rfl, rfl, hS, atI_nat (j := 0) rfl, _, _, _, _, _, rfl, .ty _, Dp.ty h0, kit_d K .str d0, _, rfl, ?_⟩
        by_cases w0 : ∃ z, d0 = .str z
        · obtain ⟨z, rfl⟩ := w0
          cases h0
          refine iteF ?_
          have e : isTermT (.d (.tuple [.str z, d1])) = termD z d1 := rfl
          rw [e] at q
          unfold termD at q
          refine ⟨_, rfl, _, _, 0, _, rfl, rfl, hS, atI_nat (j := 0) rfl, rfl, _, rfl, ie (fun c => ?_) (fun c => ?_)⟩
          · rw [if_pos c] at q
            exact ⟨_, rfl, _, _, 1, _, rfl, rfl, hS, atI_nat (j := 1) rfl, v1, .d d1, rfl, h1, q⟩
          · rw [c, if_neg Bool.false_ne_true] at q
            refine ⟨_, rfl, _, _, 0, _, rfl, rfl, hS, atI_nat (j := 0) rfl, _, _, rfl, .inr (T.t_PLACES _), rfl, rfl, _, rfl, ie (fun c1 => ?_) (fun c1 => ?_)⟩
            · have c1' : inV (.str z) plV = true := c1
              rw [c1', Bool.true_and] at q
              refine ⟨_, rfl, _, _, 1, _, rfl, rfl, hS, atI_nat (j := 1) rfl, v1, .d d1, rfl, h1, _, rfl, ?_⟩
              rw [isWholeT_d]
              by_cases w1 : ∃ b, d1 = .int b
              · obtain ⟨b, rfl⟩ := w1
                cases h1
                refine iteT ?_
                have q : Q (.bl (decide (0 ≤ b) && decide (b < 3))) H := q
                refine ⟨_, rfl, _, _, 1, _, rfl, rfl, hS, atI_nat (j := 1) rfl, _, _, rfl, rfl, _, rfl, ie (fun c2 => ?_) (fun c2 => ?_)⟩
                · rw [c2, Bool.true_and] at q
                  exact ⟨_, _, rfl, rfl, q⟩
                · rw [c2] at q
                  exact q
              · have e2 : isWholeD d1 = false := by
                  cases d1 <;> first | rfl | exact absurd ⟨_, rfl⟩ w1
                rw [e2]
                have e3 : colD d1 = false := by
                  cases d1 <;> first | rfl | exact absurd ⟨_, rfl⟩ w1
                rw [e3] at q
                exact q
            · have c1' : inV (.str z) plV = false := c1
              rw [c1', Bool.false_and] at q
              exact q
        · have e2 : isTy .str d0 = false := by
            cases d0 <;> first | rfl | exact absurd ⟨_, rfl⟩ w0
          rw [e2]
          have e : isTermT (.d (.tuple [d0, d1])) = false := by
            cases d0 <;> first | rfl | exact absurd ⟨_, rfl⟩ w0
          rw [e] at q
          exact q
      · have e2 : decide (V.int (xs.length : Int) = V.int 2) = false := decide_eq_false fun z => hl (by injection z; omega)
        rw [e2]
        have hdl : ds.length ≠ 2 := by
          rw [← DpAll.length hA]
          exact hl
        have e : isTermT (.d (.tuple ds)) = false := by
          match ds, hdl with
          | [], _ => rfl
          | [_], _ => simp [isTermT, isTermD]
          | [_, _], h => exact absurd rfl h
          | _ :: _ :: _ :: _, _ => simp [isTermT, isTermD]
        rw [e] at q
        exact q
    · have e1 : th.is .tup = false := by
        cases th with
        | o => rfl
        | d d => cases d <;> first | rfl | exact absurd ⟨_, rfl⟩ hn
      rw [e1]
      have e : isTermT th = false := by
        cases th with
        | o => rfl
        | d d => cases d <;> first | rfl | exact absurd ⟨_, rfl⟩ hn
      rw [e] at q
      exact q
/-! is_atom -/
def isAtomD : PyData → Bool
  | .tuple [.str z, d1, d2] => inV (.str z) sgV && (isTermD d1 && isTermD d2)
  | _ => false
def isAtomT : Th → Bool
  | Th.d x => isAtomD x
  | Th.o => false
def spIsAtom (K : PySem.W.Frag) : Sp := fun vs H Q _ => ∃ v th, vs = [v] ∧ ThOk K H v th ∧ Q (.bl (isAtomT th)) H
theorem d_is_atom (T : Txt K mg) : Dn P w K mg base CX0 4 "is_atom" (spIsAtom K) := by
  obtain ⟨fd, F⟩ := T.f_is_atom
  have D_is_term := d_is_term (P := P) (w := w) (base := base) T
  refine dnN T.g_is_atom F (fun _ _ _ _ _ _ us hl => match us, hl with | [_], _ => rfl) sc_is_atom (fun vs H Q E h => ?_) (fun cdv A outer s H vs Q E hr h => ?_)
  · obtain ⟨v, th, rfl, _⟩ := h
    rfl
  · obtain ⟨v, th, rfl, ht, q⟩ := h
    obtain ⟨t, ty, ki⟩ := ht.ty
    refine ⟨_, PSs.nox (pss_cons (ps_if (PW.pt (pw_or (pt_not (pt_val (pe_callB call_isi (by rfl) T.z_isinstance (by decide +kernel) (pa_cons (pv 0) (pa_cons (pe_bltn (v := .ty "tuple") (by rfl) T.z_tuple (by decide +kernel) rfl) pa_nil))))) (pw_or (pt_cmpR op_ne (pe_callB call_len_seq (by rfl) T.z_len (by decide +kernel) (pa_cons (pv 0) pa_nil)) pe_int (nomark _)) (pw_or1 (pt_not (pt_val (pe_callB call_isi (by rfl) T.z_isinstance (by decide +kernel) (pa_cons (pe_ix ix_tup (pv 0) pe_int (fun _ _ => rfl)) (pa_cons (pe_bltn (v := .ty "str") (by rfl) T.z_str (by decide +kernel) rfl) pa_nil))))))))) (pss_one (ps_ret pe_bl)) pss_nil)
      (pss_one (ps_ret (pe_and (pe_cmpR op_in_seq (pe_ix ix_tup (pv 0) pe_int (fun _ _ => rfl)) (pe_glob (v := .ref (ga K "SIGNS")) (by rfl) T.g_SIGNS rfl) (by rfl)) (pe_and (cl D_is_term (hr.mono (by decide)) (pa_cons (pe_ix ix_tup (pv 0) pe_int (fun _ _ => rfl)) pa_nil)) (pe_one (cl D_is_term (hr.mono (by decide)) (pa_cons (pe_ix ix_tup (pv 0) pe_int (fun _ _ => rfl)) pa_nil)))))))), ?_⟩
    refine ⟨_, rfl, _, _, t, _, _, rfl, .ty _, ty, ki .tup, _, rfl, ?_⟩
    by_cases hn : ∃ ds, th = .d (.tuple ds)
    · obtain ⟨ds, rfl⟩ := hn
      refine iteF ?_
      cases ht with
      | @tup a xs _ hS hA =>
      refine ⟨_, rfl, _, _, rfl, .inr hS, rfl, _, rfl, ?_⟩
      by_cases hl : xs.length = 3
      · match xs, hl with
        | [v0, v1, v2], _ =>
        match ds, hA with
        | [d0, d1, d2], .cons h0 (.cons h1 (.cons h2 .nil)) =>
        refine iteF ?_
        refine ⟨_, rfl, _, _, 0, v0, rfl, rfl, hS, atI_nat (j := 0) rfl, _, _, _, _, _, rfl, .ty _, Dp.ty h0, kit_d K .str d0, _, rfl, ?_⟩
        by_cases w0 : ∃ z, d0 = .str z
        · obtain ⟨z, rfl⟩ := w0
          cases h0
          refine iteF ?_
          have e : isAtomT (.d (.tuple [.str z, d1, d2])) = (inV (.str z) sgV && (isTermD d1 && isTermD d2)) := rfl
          rw [e] at q
          refine ⟨_, rfl, _, _, 0, _, rfl, rfl, hS, atI_nat (j := 0) rfl, _, _, rfl, .inr (T.t_SIGNS _), rfl, rfl, _, rfl, ie (fun c1 => ?_) (fun c1 => ?_)⟩
          · have c1' : inV (.str z) sgV = true := c1
            rw [c1', Bool.true_and] at q
            refine ⟨_, rfl, _, _, 1, _, rfl, rfl, hS, atI_nat (j := 1) rfl, v1, .d d1, rfl, h1, _, rfl, ie (fun c2 => ?_) (fun c2 => ?_)⟩
            · have c2' : isTermD d1 = true := c2
              rw [c2', Bool.true_and] at q
              exact ⟨_, rfl, _, _, 2, _, rfl, rfl, hS, atI_nat (j := 2) rfl, v2, .d d2, rfl, h2, q⟩
            · have c2' : isTermD d1 = false := c2
              rw [c2', Bool.false_and] at q
              exact q
          · have c1' : inV (.str z) sgV = false := c1
            rw [c1', Bool.false_and] at q
            exact q
        · have e2 : isTy .str d0 = false := by
            cases d0 <;> first | rfl | exact absurd ⟨_, rfl⟩ w0
          rw [e2]
          have e : isAtomT (.d (.tuple [d0, d1, d2])) = false := by
            cases d0 <;> first | rfl | exact absurd ⟨_, rfl⟩ w0
          rw [e] at q
          exact q
      · have e2 : decide (V.int (xs.length : Int) = V.int 3) = false := decide_eq_false fun z => hl (by injection z; omega)
        rw [e2]
        have hdl : ds.length ≠ 3 := by
          rw [← DpAll.length hA]
          exact hl
        have e : isAtomT (.d (.tuple ds)) = false := by
          match ds, hdl with
          | [], _ => rfl
          | [_], _ => simp [isAtomT, isAtomD]
          | [_, _], _ => simp [isAtomT, isAtomD]
          | [_, _, _], h => exact absurd rfl h
          | _ :: _ :: _ :: _ :: _, _ => simp [isAtomT, isAtomD]
        rw [e] at q
        exact q
    · have e1 : th.is .tup = false := by
        cases th with
        | o => rfl
        | d d => cases d <;> first | rfl | exact absurd ⟨_, rfl⟩ hn
      rw [e1]
      have e : isAtomT th = false := by
        cases th with
        | o => rfl
        | d d => cases d <;> first | rfl | exact absurd ⟨_, rfl⟩ hn
      rw [e] at q
      exact q
/-! is_word -/
def ltL : List Nat := (List.range 26).map (· + 97)
def wordS (z : Str) : Bool := (decide (1 ≤ (tl z).length) && decide ((tl z).length ≤ 8)) && (tl z).all fun c => decide (c ∈ ltL)
def isWordD : PyData → Bool
  | .str z => wordS z
  | _ => false
theorem tl_letters : tl ("abcdefghijklmnopqrstuvwxyz" : Str) = ltL := by decide +kernel
theorem mem_letters (c : Nat) : decide (c ∈ tl ("abcdefghijklmnopqrstuvwxyz" : Str)) = decide (c ∈ ltL) := by rw [tl_letters]
def spWord (K : PySem.W.Frag) : Sp := fun vs H Q _ => ∃ v d, vs = [v] ∧ Dp K H v d ∧ (∀ z, d = .str z → z.length ≤ 100000) ∧ Q (.bl (isWordD d)) H
theorem d_is_word (T : Txt K mg) : Dn P w K mg base CX0 1 "is_word" (spWord K) := by
  obtain ⟨fd, F⟩ := T.f_is_word
  refine dnN T.g_is_word F (fun _ _ _ _ _ _ us hl => match us, hl with | [_], _ => rfl) sc_is_word (fun vs H Q E h => ?_) (fun cdv A outer s H vs Q E hr h => ?_)
  · obtain ⟨v, d, rfl, _⟩ := h
    rfl
  · obtain ⟨v, d, rfl, hd, hlz, q⟩ := h
    refine ⟨_, PSs.nox (pss_cons (ps_if (PW.pt (pw_or (pt_not (pt_val (pe_callB call_isi (by rfl) T.z_isinstance (by decide +kernel) (pa_cons (pv 0) (pa_cons (pe_bltn (v := .ty "str") (by rfl) T.z_str (by decide +kernel) rfl) pa_nil))))) (pw_or1 (pt_not (pt_chain op_le op_le pe_int (pe_callB call_len_str (by rfl) T.z_len (by decide +kernel) (pa_cons (pv 0) pa_nil)) pe_int))))) (pss_one (ps_ret pe_bl)) pss_nil)
      (pss_cons (ps_for PassesOwn.never rfl (pi_str (pv 0)) (pg_name (i := 1) sc_is_word.nd rfl (.inl rfl))
      (pss_one (ps_if (pt_cmpR op_notIn_sign (pv 1) (pe_gv T.g_LETTERS) (by rfl)) (pss_one (ps_ret pe_bl)) pss_nil)))
      (pss_one (ps_ret pe_bl)))), ?_⟩
    refine ⟨_, rfl, _, _, _, _, _, rfl, .ty _, Dp.ty hd, kit_d K .str d, _, rfl, ?_⟩
    by_cases w0 : ∃ z, d = .str z
    · obtain ⟨z, rfl⟩ := w0
      cases hd
      refine iteF ?_
      have hz' : z.length ≤ sizeLine := small40 (hlz z rfl)
      have hlt := len_tl z
      have qf : isWordD (.str z) = false → Q (.bl false) H := fun e => by rw [e] at q; exact q
      refine ⟨_, rfl, _, rfl, hz', _, _, rfl, rfl, _, rfl, ?_⟩
      cases c1 : decide ((1 : Int) ≤ (z.length : Nat)) with
      | false =>
        have := of_decide_eq_false c1
        refine iteF ⟨_, rfl, iteT ?_⟩
        refine qf ?_
        show ((decide (1 ≤ (tl z).length) && decide ((tl z).length ≤ 8)) && _) = false
        rw [decide_eq_false (by omega)]
        rfl
      | true =>
        have := of_decide_eq_true c1
        refine iteT ⟨_, _, rfl, rfl, _, rfl, ?_⟩
        cases c2 : decide (((z.length : Nat) : Int) ≤ 8) with
        | false =>
          have := of_decide_eq_false c2
          refine iteT ?_
          refine qf ?_
          show ((decide (1 ≤ (tl z).length) && decide ((tl z).length ≤ 8)) && _) = false
          rw [decide_eq_false (show ¬ (tl z).length ≤ 8 by omega), Bool.and_false]
          rfl
        | true =>
          have := of_decide_eq_true c2
          refine iteF ?_
          have eW : isWordD (.str z) = (tl z).all fun c => decide (c ∈ ltL) := by
            show ((decide (1 ≤ (tl z).length) && decide ((tl z).length ≤ 8)) && _) = _
            rw [decide_eq_true (by omega), decide_eq_true (by omega)]
            rfl
          refine ⟨_, rfl, _, rfl, for_it walk_str (fun i σ H' => ∃ v, σ = [some (.str z), v] ∧ H' = H ∧ ((tl z).take i).all (fun c => decide (c ∈ ltL)) = true) ⟨none, rfl, rfl, rfl⟩ (fun _ _ _ _ _ => trivial) ?_ ?_⟩
          · rintro i x σ H1 H2 hi ⟨v, rfl, rfl, ha⟩ ⟨rfl, c, hc, rfl⟩
            have hc' : (tl z)[i]? = some c := by rw [← hc]; simp
            obtain ⟨u, hu1, hu2⟩ := T.g_LETTERS
            refine ⟨_, rfl, _, _, rfl, rfl, _, rfl, ?_⟩
            rw [mem_letters]
            cases hd : decide (c ∈ ltL) with
            | true =>
              refine iteF ⟨_, rfl, rfl, ?_⟩
              rw [List.take_add_one, hc', List.all_append, ha]
              simp [of_decide_eq_true hd]
            | false =>
              refine iteT ?_
              refine qf ?_
              rw [eW, Bool.eq_false_iff]
              intro h
              have := List.all_eq_true.mp h c (List.mem_of_getElem? hc')
              rw [hd] at this
              cases this
          · rintro σ H1 ⟨v, rfl, rfl, ha⟩
            have ha' : (tl z).all (fun c => decide (c ∈ ltL)) = true := by
              have e : z.cps.size = (tl z).length := by simp
              rw [e, List.take_length] at ha
              exact ha
            rw [eW, ha'] at q
            exact q
    · have e2 : isTy .str d = false := by
        cases d <;> first | rfl | exact absurd ⟨_, rfl⟩ w0
      rw [e2]
      refine iteT ?_
      have e : isWordD d = false := by
        cases d <;> first | rfl | exact absurd ⟨_, rfl⟩ w0
      rw [e] at q
      exact q

end
/-! terms, atoms and rows, as the law and the program have them -/
inductive Pl where
  | old | first | second
  deriving DecidableEq
def Pl.s : Pl → Str
  | .old => "old"
  | .first => "first"
  | .second => "second"
inductive Tm where
  | cell (p : Pl) (c : Nat)
  | val (a b : Int)
  deriving DecidableEq
inductive Sg where
  | lt | le | eq | ne
  deriving DecidableEq
def Sg.s : Sg → Str
  | .lt => "<"
  | .le => "<="
  | .eq => "="
  | .ne => "!="
structure At where
  s : Sg
  l : Tm
  r : Tm
  deriving DecidableEq
def valD (x : Int × Int) : PyData := .tuple [.int x.1, .int x.2]
def Tm.d : Tm → PyData
  | .cell p c => .tuple [.str p.s, .int (c : Nat)]
  | .val a b => .tuple [.str "value", valD (a, b)]
def At.d (a : At) : PyData := .tuple [.str a.s.s, a.l.d, a.r.d]
abbrev Row := Option (List (Int × Int))
def rowD : Row → PyData
  | none => .none
  | some l => .tuple (l.map valD)
/-- a value: lowest terms, not too great -/
structure Vl (x : Int × Int) : Prop where
  low : Low x.1 x.2
  top : x.1.natAbs < 2 ^ 70
  bot : x.2.natAbs < 2 ^ 70
def Tm.ok : Tm → Prop
  | .cell _ c => c < 3
  | .val a b => Vl (a, b)
def At.ok (a : At) : Prop := a.l.ok ∧ a.r.ok
def rowOk (r : Row) : Prop := ∀ l, r = some l → (l.length ≤ 3 ∧ ∀ x ∈ l, Vl x)
def Tm.at (r : Pl → Row) : Tm → Option (Int × Int)
  | .val a b => some (a, b)
  | .cell p c => (r p).bind fun l => l[c]?
def Sg.holds : Sg → Int × Int → Int × Int → Bool
  | .lt, x, y => decide (x.1 * y.2 < y.1 * x.2)
  | .le, x, y => !decide (y.1 * x.2 < x.1 * y.2)
  | .eq, x, y => decide (x = y)
  | .ne, x, y => !decide (x = y)
def At.at (r : Pl → Row) (a : At) : Option Bool := match a.l.at r, a.r.at r with
  | some x, some y => some (a.s.holds x y)
  | _, _ => none
def holdO (r : Pl → Row) (as : List At) : Option Bool := if (as.any fun a => (a.at r).isNone) = true then none else some (as.all fun a => decide (a.at r = some true))
theorem Pl.ne_value (p : Pl) : decide (V.str p.s = V.str "value") = false := by cases p <;> decide +kernel
theorem Pl.inj {p q : Pl} : (p.s == q.s) = decide (p = q) := by cases p <;> cases q <;> decide +kernel
theorem Sg.inj {p q : Sg} : (p.s == q.s) = decide (p = q) := by cases p <;> cases q <;> decide +kernel
theorem isVal_of {x : Int × Int} (h : Low x.1 x.2) : isValD (valD x) = true := by
  show (!decide (x.2 < 1) && decide (cd x.1 x.2 = 1)) = true
  rw [decide_eq_false (by have := h.1; omega), decide_eq_true h.2]
  rfl
theorem Tm.isTerm {t : Tm} (h : t.ok) : isTermD t.d = true := by
  cases t with
  | cell p c =>
    show termD p.s (.int (c : Nat)) = true
    unfold termD
    rw [Pl.ne_value, if_neg Bool.false_ne_true]
    have h' : c < 3 := h
    have e1 : inV (.str p.s) plV = true := by cases p <;> decide +kernel
    rw [e1]
    show (decide ((0 : Int) ≤ (c : Nat)) && decide (((c : Nat) : Int) < 3)) = true
    rw [decide_eq_true (by omega), decide_eq_true (by omega)]
    rfl
  | val a b =>
    show termD "value" (valD (a, b)) = true
    unfold termD
    rw [if_pos (by decide +kernel)]
    exact isVal_of (x := (a, b)) h.low
theorem At.isAtom {a : At} (h : a.ok) : isAtomD a.d = true := by
  show (inV (.str a.s.s) sgV && (isTermD a.l.d && isTermD a.r.d)) = true
  have e1 : inV (.str a.s.s) sgV = true := by cases a.s <;> decide +kernel
  rw [e1, Tm.isTerm h.1, Tm.isTerm h.2]
  rfl
theorem eqv_int (i j : Int) : PyData.eqv (.int i) (.int j) = decide (i = j) := by
  show (i == j) = _
  by_cases h : i = j
  · subst h; simp
  · rw [decide_eq_false h, beq_eq_false_iff_ne.mpr h]
theorem eqv_valD (x y : Int × Int) : PyData.eqv (valD x) (valD y) = decide (x = y) := by
  show (PyData.eqv (.int x.1) (.int y.1) && (PyData.eqv (.int x.2) (.int y.2) && true)) = _
  rw [eqv_int, eqv_int, Bool.and_true, ← Bool.decide_and]
  exact decide_eq_decide.mpr ⟨fun h => Prod.ext h.1 h.2, fun h => by subst h; exact ⟨rfl, rfl⟩⟩
theorem eqv_tm (x y : Tm) : PyData.eqv x.d y.d = decide (x = y) := by
  cases x with
  | cell p c =>
    cases y with
    | cell q e =>
      show ((p.s == q.s) && (PyData.eqv (.int (c : Nat)) (.int (e : Nat)) && true)) = _
      rw [Pl.inj, eqv_int, Bool.and_true, ← Bool.decide_and]
      refine decide_eq_decide.mpr ⟨fun h => ?_, fun h => by cases h; exact ⟨rfl, rfl⟩⟩
      obtain ⟨rfl, h2⟩ := h
      have : c = e := by omega
      subst this
      rfl
    | val a b =>
      show ((p.s == "value") && (PyData.eqv (.int (c : Nat)) (valD (a, b)) && true)) = _
      rw [show (p.s == ("value" : Str)) = false by cases p <;> decide +kernel, decide_eq_false (by intro h; cases h)]
      rfl
  | val a b =>
    cases y with
    | cell q e =>
      show ((("value" : Str) == q.s) && (PyData.eqv (valD (a, b)) (.int (e : Nat)) && true)) = _
      rw [show (("value" : Str) == q.s) = false by cases q <;> decide +kernel, decide_eq_false (by intro h; cases h)]
      rfl
    | val c d =>
      show ((("value" : Str) == "value") && (PyData.eqv (valD (a, b)) (valD (c, d)) && true)) = _
      rw [eqv_valD, show (("value" : Str) == "value") = true by decide +kernel, Bool.true_and, Bool.and_true]
      exact decide_eq_decide.mpr ⟨fun h => by cases h; rfl, fun h => by cases h; rfl⟩
theorem eqv_at (x y : At) : PyData.eqv x.d y.d = decide (x = y) := by
  show ((x.s.s == y.s.s) && (PyData.eqv x.l.d y.l.d && (PyData.eqv x.r.d y.r.d && true))) = _
  rw [Sg.inj, eqv_tm, eqv_tm, Bool.and_true, ← Bool.decide_and, ← Bool.decide_and]
  refine decide_eq_decide.mpr ⟨fun h => ?_, fun h => by subst h; exact ⟨rfl, rfl, rfl⟩⟩
  obtain ⟨xs, xl, xr⟩ := x
  obtain ⟨ys, yl, yr⟩ := y
  obtain ⟨h1, h2, h3⟩ := h
  dsimp only at h1 h2 h3
  subst h1 h2 h3
  rfl
theorem Pd.valD (x : Int × Int) : Pd (valD x) := ⟨rfl, rfl, by show 1 ≤ 16; decide⟩
theorem Tm.pd (t : Tm) : Pd t.d ∧ t.d.depth ≤ 2 := by
  cases t with
  | cell p c => exact ⟨⟨rfl, (show (PyData.strOk p.s && (true && true)) = true from by cases p <;> decide +kernel), by show 1 ≤ 16; decide⟩, by show 1 ≤ 2; decide⟩
  | val a b => exact ⟨⟨rfl, (show (PyData.strOk "value" && ((true && (true && true)) && true)) = true from by decide +kernel), by show 2 ≤ 16; decide⟩, by show 2 ≤ 2; decide⟩
theorem At.pd (a : At) : Pd a.d := by
  obtain ⟨h1, e1⟩ := Tm.pd a.l
  obtain ⟨h2, e2⟩ := Tm.pd a.r
  refine ⟨?_, ?_, ?_⟩
  · show (true && (noL a.l.d && (noL a.r.d && true))) = true
    rw [h1.nl, h2.nl]; rfl
  · show (PyData.strOk a.s.s && (a.l.d.canLay0 && (a.r.d.canLay0 && true))) = true
    rw [h1.cl, h2.cl, show PyData.strOk a.s.s = true by cases a.s <;> decide +kernel]; rfl
  · show max 0 (max a.l.d.depth (max a.r.d.depth 0)) + 1 ≤ 16
    omega
theorem rowD_pd (r : Row) : Pd (rowD r) := by
  cases r with
  | none => exact ⟨rfl, rfl, by decide⟩
  | some l =>
    have h : Pds (l.map valD) ∧ PyData.depthAll (l.map valD) ≤ 1 := by
      refine ⟨fun d hd => ?_, ?_⟩
      · obtain ⟨x, _, rfl⟩ := List.mem_map.mp hd
        exact Pd.valD x
      · induction l with
        | nil => exact Nat.zero_le _
        | cons x r ih => exact Nat.max_le.mpr ⟨Nat.le_refl 1, ih⟩
    exact ⟨h.1.nl, h.1.cl, by show PyData.depthAll (l.map valD) + 1 ≤ 16; have := h.2; omega⟩

section
variable {P : Program} {w : World} {K : PySem.W.Frag} {mg : Str → Option Value} {base : Heap}
/-! Conditions.__init__ -/
abbrev aCd (K : PySem.W.Frag) : Addr := ga K "Conditions"
def cdF (l : Addr) : List (Str × V) := putF "kept_atoms" (.ref l) []
theorem cdF_at {l : Addr} : (cdF l).lookup ("kept_atoms" : Str) = some (.ref l) := by
  unfold cdF
  rw [lookup_putF, if_pos rfl]
theorem cdF_no {l : Addr} {m : Str} (h : m ≠ "kept_atoms") : (cdF l).lookup m = none := by
  unfold cdF
  rw [lookup_putF, if_neg h]
  rfl
/-- each atom once -/
def ddS (acc : List At) (a : At) : List At := if (acc.any fun z => decide (z = a)) = true then acc else acc ++ [a]
def dd (as : List At) : List At := as.foldl ddS []
theorem dd_snoc (as : List At) (a : At) : dd (as ++ [a]) = ddS (dd as) a := by
  unfold dd
  rw [List.foldl_append]
  rfl
theorem dd_len (as : List At) : (dd as).length ≤ as.length := by
  have h : ∀ (l acc : List At), (l.foldl ddS acc).length ≤ acc.length + l.length := by
    intro l
    induction l with
    | nil => intro acc; exact Nat.le_refl _
    | cons a r ih =>
      intro acc
      have h1 := ih (ddS acc a)
      have h2 : (ddS acc a).length ≤ acc.length + 1 := by
        unfold ddS
        split
        · omega
        · rw [List.length_append]; exact Nat.le_refl _
      show (r.foldl ddS (ddS acc a)).length ≤ acc.length + (r.length + 1)
      omega
  have := h as []
  simpa [dd] using this
theorem dd_mem (as : List At) (a : At) : a ∈ dd as ↔ a ∈ as := by
  have h : ∀ (l acc : List At), a ∈ l.foldl ddS acc ↔ a ∈ acc ∨ a ∈ l := by
    intro l
    induction l with
    | nil => intro acc; simp
    | cons b r ih =>
      intro acc
      show a ∈ r.foldl ddS (ddS acc b) ↔ _
      rw [ih]
      have h2 : a ∈ ddS acc b ↔ a ∈ acc ∨ a = b := by
        unfold ddS
        split
        · rename_i hc
          obtain ⟨z, hz, e⟩ := List.any_eq_true.mp hc
          have e' := of_decide_eq_true e
          subst e'
          exact ⟨.inl, fun h => h.elim id (fun e => by rw [e]; exact hz)⟩
        · simp
      rw [h2, List.mem_cons]
      constructor
      · rintro ((h | h) | h)
        · exact .inl h
        · exact .inr (.inl h)
        · exact .inr (.inr h)
      · rintro (h | h | h)
        · exact .inl (.inl h)
        · exact .inl (.inr h)
        · exact .inr h
  have := h as []
  simpa [dd] using this
theorem any_eqv (as : List At) (a : At) : ((as.map At.d).any fun z => PyData.eqv z a.d) = as.any fun z => decide (z = a) := by
  rw [List.any_map]
  congr 1
  funext z
  exact eqv_at z a
theorem pds_at (as : List At) : Pds (as.map At.d) := fun d hd => by
  obtain ⟨a, _, rfl⟩ := List.mem_map.mp hd
  exact At.pd a
def spCd (K : PySem.W.Frag) : Sp := fun args H Q _ => ∃ x dx a vs as, args = [.ref x, .ref a] ∧ H x = some (.ins (aCd K) dx []) ∧ (SqL K H a vs ∨ SqT K H a vs) ∧ DpAll K H vs (as.map At.d) ∧ (∀ a ∈ as, At.ok a) ∧ as.length ≤ 1000 ∧
  ∀ l us H', Md [x] H H' → H l = none → H' x = some (.ins (aCd K) dx (cdF l)) → H' l = some (.lst us) → DpAll K H' us ((dd as).map At.d) → Q .non H'
theorem ok_cd (T : Txt K mg) : ∃ fd, FunD K "__init__" "Conditions.__init__" (defArgs s_Conditions___init__) (defBody s_Conditions___init__) (defScope s_Conditions___init__) ([.ref (dflAt ("Conditions", some "__init__") 0 K)] : List V) [] (ma K (ga K "Conditions") "__init__") fd ∧
    FnOk P w K mg base (L2.CX P w) 5 (ma K (ga K "Conditions") "__init__") fd ["self", "atoms"] (spCd K) := by
  obtain ⟨fd, F⟩ := T.f_Conditions___init__
  have D_is_atom := d_is_atom (P := P) (w := w) (base := base) T
  refine ⟨fd, F, F.ok sc_Conditions___init__ (fun vs H Q E h => ?_) (fun cdv A outer s H vs Q E hr h => ?_)⟩
  · obtain ⟨x, dx, a, vs, as, rfl, _⟩ := h
    rfl
  · obtain ⟨x, dx, a, vs, as, rfl, hx, ha, hA, hok, hl, hQ⟩ := h
    refine ⟨_, (pss_cons (ps_if (pt_not (pt_val (pe_callB call_isiT (by rfl) T.z_isinstance (by decide +kernel) (pa_cons (pv 1) (pa_cons (pe_tup (pa_cons (pe_bltn (v := .ty "list") (by rfl) T.z_list (by decide +kernel) rfl) (pa_cons (pe_bltn (v := .ty "tuple") (by rfl) T.z_tuple (by decide +kernel) rfl) pa_nil))) pa_nil))))) (pss_one (rs (by rfl) (takes_of rfl rfl rfl rfl) T.x_NoCondition (by rfl))) pss_nil)
      (pss_cons (ps_set (i := 2) sc_Conditions___init__.nd rfl (.inl rfl) (pe_lst pa_nil))
      (pss_cons (ps_for (passes_of rfl) rfl (PI.or_ (pi_list (pv 1)) (pi_tup (pv 1))) (pg_name (i := 3) sc_Conditions___init__.nd rfl (.inl rfl))
      (pss_cons (ps_if (pt_not (pt_val (cl D_is_atom (hr.mono (by decide)) (pa_cons (pv 3) pa_nil)))) (pss_one (rs (by rfl) (takes_of rfl rfl rfl rfl) T.x_NoCondition (by rfl))) pss_nil)
      (pss_one (ps_if (pt_cmpR (op_notInD (u65 hr)) (pv 3) (pv 2) (by rfl)) (pss_one (ps_expr (pe_bm PySem.F.plainAttrs_list PySem.F.slot_list_append PySem.F.type_list_append mt_append (pv 2) (pa_cons (pv 3) pa_nil)))) pss_nil))))
      (pss_one (ps_fld (pv 0) (pv 2) rfl))))), ?_⟩
    refine ⟨_, rfl, (by show 2 ≤ sizeLine; decide), fun tp ntp => ?_⟩
    generalize eH1 : upd H tp _ = H1
    have s1 : Same H H1 := eH1 ▸ same_upd ntp
    have e1 : H1 tp = some _ := eH1 ▸ upd_same
    have lv : vs.length = as.length := by rw [DpAll.length hA, List.length_map]
    have tyA : ∃ t, TyX K H1 (.ref a) t ∧ PySem.W.kitAny K t [.type "list", .type "tuple"] = some true := by
      rcases ha with ha | ha
      · exact ⟨_, SqL.ty (s1.seq ha), kit_any2 K .lst .tup (.list [])⟩
      · exact ⟨_, SqT.ty (Same.seqT s1 ha), kit_any2 K .lst .tup (.tuple [])⟩
    obtain ⟨t, ty, ki⟩ := tyA
    refine ⟨_, tp, _, t, _, true, rfl, e1, .cons (.ty _) (.cons (.ty _) .nil), ty, ki, _, rfl, iteF ?_⟩
    refine ⟨(by show 0 ≤ sizeLine; decide), fun kl nkl => ?_⟩
    generalize eH2 : upd H1 kl _ = H2
    have s2 : Same H1 H2 := eH2 ▸ same_upd nkl
    have e2 : H2 kl = some _ := eH2 ▸ upd_same
    have s12 := s1.trans s2
    have nk0 : H kl = none := s1.free nkl
    have hx2 := s12 _ _ hx
    have nkx : kl ≠ x := fun z => by rw [z, hx] at nk0; cases nk0
    have step : ∀ (i : Nat) (xv : V) (σ : L2.St) (H' : Hp), vs[i]? = some xv → (∃ o, σ = [some (.ref x), some (.ref a), some (.ref kl), o]) → (∃ us, H' kl = some (.lst us) ∧ DpAll K H' us ((dd (as.take i)).map At.d) ∧ Md [kl] H2 H') → ∃ at_, as[i]? = some at_ ∧ Dp K H' xv at_.d := by
      rintro i xv σ H' hg _ ⟨us, _, _, m⟩
      obtain ⟨d, hd, hdp⟩ := DpAll.get hA hg
      rw [List.getElem?_map] at hd
      cases he : as[i]? with
      | none => rw [he] at hd; cases hd
      | some at_ =>
        rw [he] at hd
        have e : at_.d = d := Option.some.inj hd
        subst e
        exact ⟨at_, rfl, m.dp (At.pd at_).nl (Dp.same s12 hdp)⟩
    have fin : ∀ H', (∃ us, H' kl = some (.lst us) ∧ DpAll K H' us ((dd (as.take as.length)).map At.d) ∧ Md [kl] H2 H') → Q .non (upd H' x (.ins (aCd K) dx (putF "kept_atoms" (.ref kl) []))) := by
      rintro H' ⟨us, eu, au, m⟩
      rw [List.take_length] at au
      have hx' := m.out _ _ hx2 (by simp; exact Ne.symm nkx)
      have mx : Md [x] H' (upd H' x (.ins (aCd K) dx (putF "kept_atoms" (.ref kl) []))) := Md.upd hx' rfl (by simp)
      have m0 : Md [x] H H' := Md.mono (S := []) (Md.newM (S := []) (m) (Md.of s12) nk0) (by simp)
      exact hQ kl us _ (m0.trans mx) nk0 upd_same (by rw [upd_ne nkx]; exact eu) (mx.dpAll (pds_at _).nl au)
    have body : ∀ (i : Nat) (xv : V) (σ : L2.St) (H' : Hp) (NX : L2.St → Hp → Prop), vs[i]? = some xv → (∃ o, σ = [some (.ref x), some (.ref a), some (.ref kl), o]) ∧ (∃ us, H' kl = some (.lst us) ∧ DpAll K H' us ((dd (as.take i)).map At.d) ∧ Md [kl] H2 H') →
        (∀ σ' H'', (∃ o, σ' = [some (.ref x), some (.ref a), some (.ref kl), o]) ∧ (∃ us, H'' kl = some (.lst us) ∧ DpAll K H'' us ((dd (as.take (i + 1))).map At.d) ∧ Md [kl] H2 H'') → NX σ' H'') →
        (∃ at_ us, Dp K H' xv (At.d at_) ∧ At.ok at_ ∧ H' kl = some (.lst us) ∧ us.length < sizeLine ∧ DpAll K H' us ((dd (as.take i)).map At.d) ∧ ((((dd (as.take i)).map At.d).any fun z => PyData.eqv z at_.d) = true → NX [some (.ref x), some (.ref a), some (.ref kl), some xv] H') ∧
          ((((dd (as.take i)).map At.d).any fun z => PyData.eqv z at_.d) = false → NX [some (.ref x), some (.ref a), some (.ref kl), some xv] (upd H' kl (.lst (us ++ [xv]))))) := by
      rintro i xv σ H' NX hg ⟨ho, us, eu, au, m⟩ hN
      obtain ⟨at_, hat, hdp⟩ := step i xv σ H' hg ho ⟨us, eu, au, m⟩
      have tk1 : as.take (i + 1) = as.take i ++ [at_] := by rw [List.take_add_one, hat]; rfl
      have hlu : us.length < sizeLine := by
        rw [DpAll.length au, List.length_map]
        have h1 := dd_len (as.take i)
        rw [List.length_take] at h1
        exact Nat.lt_of_le_of_lt (Nat.le_trans h1 (Nat.le_trans (Nat.min_le_right _ _) hl)) (by decide)
      refine ⟨at_, us, hdp, hok _ (List.mem_of_getElem? hat), eu, hlu, au, fun c => ?_, fun c => ?_⟩
      · refine hN _ _ ⟨⟨_, rfl⟩, us, eu, ?_, m⟩
        rw [any_eqv] at c
        rw [tk1, dd_snoc, ddS, if_pos c]
        exact au
      · have mu : Md [kl] H' (upd H' kl (.lst (us ++ [xv]))) := Md.upd eu rfl (by simp)
        refine hN _ _ ⟨⟨_, rfl⟩, _, upd_same, ?_, m.trans mu⟩
        rw [any_eqv] at c
        rw [tk1, dd_snoc, ddS, if_neg (by rw [c]; exact Bool.false_ne_true), List.map_append]
        exact DpAll.snoc (mu.dp (At.pd at_).nl hdp) (mu.dpAll (pds_at _).nl au)
    have start : (∃ o : Option V, ([some (.ref x), some (.ref a), some (.ref kl), none] : L2.St) = [some (.ref x), some (.ref a), some (.ref kl), o]) ∧ ∃ us, H2 kl = some (.lst us) ∧ DpAll K H2 us ((dd (as.take 0)).map At.d) ∧ Md [kl] H2 H2 := ⟨⟨none, rfl⟩, [], e2, .nil, .refl _ _⟩
    rcases ha with ha | ha
    · refine .inl ⟨_, rfl, a, rfl, ⟨_, s12.seq ha⟩, for_list (K := K) (a := a) (xs := vs) (fun i σ H' => (∃ o, σ = [some (.ref x), some (.ref a), some (.ref kl), o]) ∧ ∃ us, H' kl = some (.lst us) ∧ DpAll K H' us ((dd (as.take i)).map At.d) ∧ Md [kl] H2 H') start (fun i σ H' _ h => ?_) ?_ ?_⟩
      · obtain ⟨_, us, _, _, m⟩ := h
        exact SqL.new ha (Md.newM (S := []) m (Md.of s12) nk0) (by simp)
      · rintro i xv σ H' hg h
        obtain ⟨at_, us, hdp, hao, eu, hlu, au, h1, h2⟩ := body i xv σ H' _ hg h (fun _ _ z => z)
        obtain ⟨⟨o, rfl⟩, _⟩ := h
        refine ⟨_, rfl, xv, .d at_.d, rfl, hdp, _, rfl, ?_⟩
        rw [show isAtomT (.d at_.d) = true from At.isAtom hao]
        refine iteF ?_
        refine ⟨_, rfl, _, rfl, at_.d, _, hdp, .lst (SqL.of eu) au, (At.pd at_).shaped, (pds_at _).shaped, _, rfl, ie (fun c => ?_) (fun c => ?_)⟩
        · have c' : (((dd (as.take i)).map At.d).any fun z => PyData.eqv z at_.d) = false := by
            cases hb : (((dd (as.take i)).map At.d).any fun z => PyData.eqv z at_.d) with
            | false => rfl
            | true => rw [hb] at c; cases c
          exact ⟨_, rfl, .inl ⟨rfl, _, SqL.of eu⟩, _, rfl, kl, _, _, rfl, rfl, eu, hlu, h2 c'⟩
        · have c' : (((dd (as.take i)).map At.d).any fun z => PyData.eqv z at_.d) = true := by
            cases hb : (((dd (as.take i)).map At.d).any fun z => PyData.eqv z at_.d) with
            | true => rfl
            | false => rw [hb] at c; cases c
          exact h1 c'
      · rintro σ H' ⟨⟨o, rfl⟩, h⟩
        have h' : ∃ us, H' kl = some (.lst us) ∧ DpAll K H' us ((dd (as.take as.length)).map At.d) ∧ Md [kl] H2 H' := by rw [← lv]; exact h
        obtain ⟨us, eu, au, m⟩ := id h'
        exact ⟨_, rfl, _, rfl, _, _, _, _, rfl, m.out _ _ hx2 (by simp; exact Ne.symm nkx), T.o_Conditions.cl, T.n_Conditions_kept_atoms, (by show 0 < 1000; decide), fin H' h'⟩
    · refine .inr ⟨_, rfl, a, rfl, ⟨_, Same.seqT s12 ha⟩, for_tup (K := K) (a := a) (xs := vs) (fun i σ H' => (∃ o, σ = [some (.ref x), some (.ref a), some (.ref kl), o]) ∧ ∃ us, H' kl = some (.lst us) ∧ DpAll K H' us ((dd (as.take i)).map At.d) ∧ Md [kl] H2 H') start (fun i σ H' _ h => ?_) ?_ ?_⟩
      · obtain ⟨_, us, _, _, m⟩ := h
        exact m.sqT (Same.seqT s12 ha)
      · rintro i xv σ H' hg h
        obtain ⟨at_, us, hdp, hao, eu, hlu, au, h1, h2⟩ := body i xv σ H' _ hg h (fun _ _ z => z)
        obtain ⟨⟨o, rfl⟩, _⟩ := h
        refine ⟨_, rfl, xv, .d at_.d, rfl, hdp, _, rfl, ?_⟩
        rw [show isAtomT (.d at_.d) = true from At.isAtom hao]
        refine iteF ?_
        refine ⟨_, rfl, _, rfl, at_.d, _, hdp, .lst (SqL.of eu) au, (At.pd at_).shaped, (pds_at _).shaped, _, rfl, ie (fun c => ?_) (fun c => ?_)⟩
        · have c' : (((dd (as.take i)).map At.d).any fun z => PyData.eqv z at_.d) = false := by
            cases hb : (((dd (as.take i)).map At.d).any fun z => PyData.eqv z at_.d) with
            | false => rfl
            | true => rw [hb] at c; cases c
          exact ⟨_, rfl, .inl ⟨rfl, _, SqL.of eu⟩, _, rfl, kl, _, _, rfl, rfl, eu, hlu, h2 c'⟩
        · have c' : (((dd (as.take i)).map At.d).any fun z => PyData.eqv z at_.d) = true := by
            cases hb : (((dd (as.take i)).map At.d).any fun z => PyData.eqv z at_.d) with
            | true => rfl
            | false => rw [hb] at c; cases c
          exact h1 c'
      · rintro σ H' ⟨⟨o, rfl⟩, h⟩
        have h' : ∃ us, H' kl = some (.lst us) ∧ DpAll K H' us ((dd (as.take as.length)).map At.d) ∧ Md [kl] H2 H' := by rw [← lv]; exact h
        obtain ⟨us, eu, au, m⟩ := id h'
        exact ⟨_, rfl, _, rfl, _, _, _, _, rfl, m.out _ _ hx2 (by simp; exact Ne.symm nkx), T.o_Conditions.cl, T.n_Conditions_kept_atoms, (by show 0 < 1000; decide), fin H' h'⟩
/-! Conditions objects -/
structure CdAt (K : PySem.W.Frag) (H : Hp) (x dx l : Addr) (as : List At) : Prop where
  hx : H x = some (.ins (aCd K) dx (cdF l))
  hl : ∃ vs, H l = some (.lst vs) ∧ DpAll K H vs (as.map At.d)
  ok : ∀ a ∈ as, At.ok a
theorem CdAt.md {H H' : Hp} {x dx l : Addr} {as : List At} {S : List Addr} (C : CdAt K H x dx l as) (m : Md S H H') (h1 : x ∉ S) (h2 : l ∉ S) : CdAt K H' x dx l as := by
  obtain ⟨hx, ⟨vs, e, a⟩, ok⟩ := C
  exact ⟨m.out _ _ hx h1, ⟨vs, m.out _ _ e h2, m.dpAll (pds_at as).nl a⟩, ok⟩
theorem CdAt.same {H H' : Hp} {x dx l : Addr} {as : List At} (C : CdAt K H x dx l as) (s : Same H H') : CdAt K H' x dx l as := C.md (S := []) (.of s) (by simp) (by simp)
theorem at_tup {H : Hp} {v : V} {a : At} (h : Dp K H v a.d) : ∃ t v1 v2, v = .ref t ∧ SqT K H t [.str a.s.s, v1, v2] ∧ Dp K H v1 a.l.d ∧ Dp K H v2 a.r.d := by
  cases h with
  | tup hS hA =>
    cases hA with
    | cons h1 hA =>
      cases hA with
      | cons h2 hA =>
        cases hA with
        | cons h3 hA =>
          cases hA
          cases h1
          exact ⟨_, _, _, rfl, hS, h2, h3⟩
theorem getM {α β : Type} {f : α → β} {l : List α} {i : Nat} {d : β} (h : (l.map f)[i]? = some d) : ∃ a, l[i]? = some a ∧ f a = d := by
  rw [List.getElem?_map] at h
  cases e : l[i]? with
  | none => rw [e] at h; cases h
  | some a => rw [e] at h; exact ⟨a, rfl, Option.some.inj h⟩
theorem tk1 {α : Type} {l : List α} {i : Nat} {a : α} (h : l[i]? = some a) : l.take (i + 1) = l.take i ++ [a] := by
  rw [List.take_add_one, h]
  rfl
/-! making Conditions -/
theorem mkCd {H : Hp} {a : Addr} {vs : List V} {as : List At} {Q : Addr → Hp → Prop} {E : XK} (ha : SqL K H a vs ∨ SqT K H a vs) (hA : DpAll K H vs (as.map At.d)) (hok : ∀ a ∈ as, At.ok a) (hl : as.length ≤ 1000)
    (hQ : ∀ z dz n H', Same H H' → H z = none → H n = none → z ≠ n → CdAt K H' z dz n (dd as) → Q z H') :
    ∀ x dx, H x = none → H dx = none → dx ≠ x → spCd K [.ref x, .ref a] (upd (upd H dx (.own x)) x (.ins (aCd K) dx [])) (fun v H2 => v = .non ∧ Q x H2) E := by
  intro x dx nx ndx hne
  generalize eH1 : upd (upd H dx _) x _ = H1
  have s1 : Same H H1 := eH1 ▸ (same_upd ndx).trans (same_upd (by rw [upd_ne (Ne.symm hne)]; exact nx))
  have x1 : H1 x = some (.ins (aCd K) dx []) := eH1 ▸ upd_same
  refine ⟨x, dx, a, vs, as, rfl, x1, ha.elim (fun z => .inl (s1.seq z)) (fun z => .inr (Same.seqT s1 z)), DpAll.same s1 hA, hok, hl, fun l us H' m nl hx hu hd => ⟨rfl, ?_⟩⟩
  have sH : Same H H' := fun b o hb => m.out _ _ (s1 _ _ hb) (by simp; exact ne_of_none hb nx)
  have nl0 : H l = none := s1.free nl
  have nxl : x ≠ l := fun z => by rw [← z, x1] at nl; cases nl
  exact hQ x dx l H' sH nx nl0 nxl ⟨hx, ⟨us, hu, hd⟩, fun a ha => hok a ((dd_mem as a).mp ha)⟩
theorem d_cd1 (T : Txt K mg) : FnR P w K mg base (L2.CX P w) 5 (ma K (ga K "Conditions") "__init__") (spCd K) := by
  obtain ⟨fd, F, ok⟩ := ok_cd (P := P) (w := w) (base := base) T
  have := fnD F ok 2 1 (by simp) rfl (fun _ _ _ _ _ _ _ us its h1 h2 => match us, its, h1, h2 with | [_, _], [_], _, _ => ⟨_, rfl, rfl⟩)
  exact this.imp fun vs H Q E h => by
    rw [show ([V.ref (dflAt ("Conditions", some "__init__") 0 K)] : List V).drop 1 = [] from rfl, List.append_nil]
    exact h
theorem d_cd0 (T : Txt K mg) : FnR P w K mg base (L2.CX P w) 5 (ma K (ga K "Conditions") "__init__") (fun vs H Q E => spCd K (vs ++ [.ref (dflAt ("Conditions", some "__init__") 0 K)]) H Q E) := by
  obtain ⟨fd, F, ok⟩ := ok_cd (P := P) (w := w) (base := base) T
  exact fnD F ok 1 0 (by simp) rfl (fun _ _ _ _ _ _ _ us its h1 h2 => match us, its, h1, h2 with | [_], [_], _, _ => ⟨_, rfl, rfl⟩)
/-! & and ~ -/
def spAnd (K : PySem.W.Frag) : Sp := fun vs H Q _ => ∃ x dx l as y dy m bs, vs = [.ref x, .ref y] ∧ CdAt K H x dx l as ∧ CdAt K H y dy m bs ∧ as.length ≤ 400 ∧ bs.length ≤ 400 ∧ ∀ z dz n H', Same H H' → H z = none → H n = none → z ≠ n → CdAt K H' z dz n (dd (as ++ bs)) → Q (.ref z) H'
theorem DpAll.app {H : Hp} : ∀ {ds es : List PyData} {vs us : List V}, DpAll K H vs ds → DpAll K H us es → DpAll K H (vs ++ us) (ds ++ es)
  | _, _, _, _, .nil, h => h
  | _, _, _, _, .cons a b, h => .cons a (DpAll.app b h)
theorem d_and (T : Txt K mg) : FnR P w K mg base CX0 7 (ma K (ga K "Conditions") "__and__") (spAnd K) := by
  obtain ⟨fd, F⟩ := T.f_Conditions___and__
  have D_cd := d_cd1 (P := P) (w := w) (base := base) T
  refine fnN F (fun _ _ _ _ _ _ us hl => match us, hl with | [_, _], _ => rfl) sc_Conditions___and__ (fun vs H Q E h => ?_) (fun cdv A outer s H vs Q E hr h => ?_)
  · obtain ⟨x, dx, l, as, y, dy, m, bs, rfl, _⟩ := h
    rfl
  · obtain ⟨x, dx, l, as, y, dy, m, bs, rfl, C, D, h1, h2, hQ⟩ := h
    refine ⟨_, PSs.nox (pss_cons (ps_if (pt_not (pt_val (pe_callB call_isi (by rfl) T.z_isinstance (by decide +kernel) (pa_cons (pv 1) (pa_cons (pe_glob (v := .ref (ga K "Conditions")) (by rfl) T.g_Conditions rfl) pa_nil))))) (pss_one ps_never) pss_nil)
      (pss_one (ps_ret (pe_makeE T.m_Conditions D_cd hr T.g_Conditions pxq (pa_cons (pe_op op_cat (pe_fld (pv 0) rfl) (pe_fld (pv 1) rfl)) pa_nil))))), ?_⟩
    obtain ⟨v1, e1, a1⟩ := C.hl
    obtain ⟨v2, e2, a2⟩ := D.hl
    have l1 : v1.length = as.length := by rw [DpAll.length a1, List.length_map]
    have l2 : v2.length = bs.length := by rw [DpAll.length a2, List.length_map]
    refine ⟨_, rfl, _, _, _, _, _, rfl, .own _, T.o_Conditions.ty D.hx, T.o_Conditions.self, _, rfl, iteF ?_⟩
    refine ⟨_, rfl, _, _, _, _, _, rfl, C.hx, T.o_Conditions.cl, T.n_Conditions_kept_atoms, cdF_at, _, rfl, _, _, _, _, _, rfl, D.hx, T.o_Conditions.cl, T.n_Conditions_kept_atoms, cdF_at, l, m, _, _, rfl, rfl, e1, e2, (by rw [l1, l2]; exact Nat.le_trans (Nat.add_le_add h1 h2) (by decide)), fun p np => ?_⟩
    generalize eH1 : upd H p _ = H1
    have s1 : Same H H1 := eH1 ▸ same_upd np
    have e3 : H1 p = some _ := eH1 ▸ upd_same
    refine mkCd (Q := fun z H' => Q (.ref z) H') (as := as ++ bs) (.inl (SqL.of e3)) ?_ ?_ (by rw [List.length_append]; omega) fun z dz n H' sH nz nn hzn CD => ?_
    · rw [List.map_append]
      exact DpAll.app (DpAll.same s1 a1) (DpAll.same s1 a2)
    · exact fun a ha => (List.mem_append.mp ha).elim (C.ok a) (D.ok a)
    · exact hQ z dz n H' (s1.trans sH) (s1.free nz) (s1.free nn) hzn CD

end
end K09
namespace K09
open PySem PySem.Spec PyProof.Rows L2 He TL EL
section
variable {P : Program} {w : World} {K : PySem.W.Frag} {mg : Str → Option Value} {base : Heap}
/-! Conditions.atoms, __eq__, __iand__ -/
def spAtoms (K : PySem.W.Frag) : Sp := fun vs H Q _ => ∃ x dx l as, vs = [.ref x] ∧ CdAt K H x dx l as ∧ ∀ p us H', H p = none → Same H H' → H' p = some (.lst us) → DpAll K H' us (as.map At.d) → Q (.ref p) H'
theorem d_atoms (T : Txt K mg) : FnR P w K mg base CX0 1 (ma K (ga K "Conditions") "atoms") (spAtoms K) := by
  obtain ⟨fd, F⟩ := T.f_Conditions_atoms
  refine fnN F (fun _ _ _ _ _ _ us hl => match us, hl with | [_], _ => rfl) sc_Conditions_atoms (fun vs H Q E h => ?_) (fun cdv A outer s H vs Q E hr h => ?_)
  · obtain ⟨x, dx, l, as, rfl, _⟩ := h
    rfl
  · obtain ⟨x, dx, l, as, rfl, C, hQ⟩ := h
    obtain ⟨v1, e1, a1⟩ := C.hl
    refine ⟨_, PSs.nox (pss_one (ps_ret (pe_callTy call_list_of (by rfl) T.z_list (by decide +kernel) (pa_cons (pe_fld (pv 0) rfl) pa_nil)))), ?_⟩
    refine ⟨_, rfl, _, _, _, _, _, rfl, C.hx, T.o_Conditions.cl, T.n_Conditions_kept_atoms, cdF_at, _, _, rfl, .inl (SqL.of e1), fun p np => ?_⟩
    generalize eH1 : upd H p _ = H1
    have s1 : Same H H1 := eH1 ▸ same_upd np
    have h1 : H1 p = some _ := eH1 ▸ upd_same
    exact hQ p v1 H1 np s1 h1 (DpAll.same s1 a1)
theorem eqv_ats : ∀ as bs : List At, PyData.eqv (.list (as.map At.d)) (.list (bs.map At.d)) = decide (as = bs)
  | [], [] => rfl
  | [], _ :: _ => rfl
  | _ :: _, [] => rfl
  | t :: ts, u :: us => by
    show (PyData.eqv t.d u.d && PyData.eqv (.list (ts.map At.d)) (.list (us.map At.d))) = _
    rw [eqv_at, eqv_ats ts us, ← Bool.decide_and]
    exact decide_eq_decide.mpr ⟨fun h => by rw [h.1, h.2], fun h => by cases h; exact ⟨rfl, rfl⟩⟩
def spCdEq (K : PySem.W.Frag) : Sp := fun vs H Q _ => ∃ x dx l as y dy m bs, vs = [.ref x, .ref y] ∧ CdAt K H x dx l as ∧ CdAt K H y dy m bs ∧ Q (.bl (decide (as = bs))) H
theorem d_cd_eq (T : Txt K mg) : FnR P w K mg base CX0 1 (ma K (ga K "Conditions") "__eq__") (spCdEq K) := by
  obtain ⟨fd, F⟩ := T.f_Conditions___eq__
  refine fnN F (fun _ _ _ _ _ _ us hl => match us, hl with | [_, _], _ => rfl) sc_Conditions___eq__ (fun vs H Q E h => ?_) (fun cdv A outer s H vs Q E hr h => ?_)
  · obtain ⟨x, dx, l, as, y, dy, m, bs, rfl, _⟩ := h
    rfl
  · obtain ⟨x, dx, l, as, y, dy, m, bs, rfl, C, D, q⟩ := h
    obtain ⟨v1, e1, a1⟩ := C.hl
    obtain ⟨v2, e2, a2⟩ := D.hl
    refine ⟨_, PSs.nox (pss_one (ps_ret (pe_and (pe_callB call_isi (by rfl) T.z_isinstance (by decide +kernel) (pa_cons (pv 1) (pa_cons (pe_glob (v := .ref (ga K "Conditions")) (by rfl) T.g_Conditions rfl) pa_nil))) (pe_one (pe_cmpR (op_eqD hr.units) (pe_fld (pv 0) rfl) (pe_fld (pv 1) rfl) (nomark _)))))), ?_⟩
    refine ⟨_, rfl, _, _, _, _, _, rfl, .own _, T.o_Conditions.ty D.hx, T.o_Conditions.self, _, rfl, iteT ?_⟩
    refine ⟨_, rfl, _, _, _, _, _, rfl, C.hx, T.o_Conditions.cl, T.n_Conditions_kept_atoms, cdF_at, _, rfl, _, _, _, _, _, rfl, D.hx, T.o_Conditions.cl, T.n_Conditions_kept_atoms, cdF_at, _, _, .lst (SqL.of e1) a1, .lst (SqL.of e2) a2, (pds_at as).shaped, (pds_at bs).shaped, ?_⟩
    rw [eqv_ats]
    exact q
def spIand (K : PySem.W.Frag) : Sp := fun vs H Q _ => ∃ x dx l as y dy m bs, vs = [.ref x, .ref y] ∧ CdAt K H x dx l as ∧ CdAt K H y dy m bs ∧ as.length ≤ 400 ∧ bs.length ≤ 400 ∧ ∀ n H', Md [x] H H' → H n = none → CdAt K H' x dx n (dd (as ++ bs)) → Q (.ref x) H'
theorem d_iand (T : Txt K mg) : FnR P w K mg base CX0 7 (ma K (ga K "Conditions") "__iand__") (spIand K) := by
  obtain ⟨fd, F⟩ := T.f_Conditions___iand__
  have D_cd := d_cd1 (P := P) (w := w) (base := base) T
  refine fnN F (fun _ _ _ _ _ _ us hl => match us, hl with | [_, _], _ => rfl) sc_Conditions___iand__ (fun vs H Q E h => ?_) (fun cdv A outer s H vs Q E hr h => ?_)
  · obtain ⟨x, dx, l, as, y, dy, m, bs, rfl, _⟩ := h
    rfl
  · obtain ⟨x, dx, l, as, y, dy, m, bs, rfl, C, D, h1, h2, hQ⟩ := h
    refine ⟨_, PSs.nox (pss_cons (ps_if (pt_not (pt_val (pe_callB call_isi (by rfl) T.z_isinstance (by decide +kernel) (pa_cons (pv 1) (pa_cons (pe_glob (v := .ref (ga K "Conditions")) (by rfl) T.g_Conditions rfl) pa_nil))))) (pss_one ps_never) pss_nil)
      (pss_cons (ps_fld (pv 0) (pe_fld (pe_makeE T.m_Conditions D_cd hr T.g_Conditions pxq (pa_cons (pe_op op_cat (pe_fld (pv 0) rfl) (pe_fld (pv 1) rfl)) pa_nil)) rfl) rfl)
      (pss_one (ps_ret (pv 0))))), ?_⟩
    obtain ⟨v1, e1, a1⟩ := C.hl
    obtain ⟨v2, e2, a2⟩ := D.hl
    have l1 : v1.length = as.length := by rw [DpAll.length a1, List.length_map]
    have l2 : v2.length = bs.length := by rw [DpAll.length a2, List.length_map]
    refine ⟨_, rfl, _, _, _, _, _, rfl, .own _, T.o_Conditions.ty D.hx, T.o_Conditions.self, _, rfl, iteF ?_⟩
    refine ⟨_, rfl, _, _, _, _, _, rfl, C.hx, T.o_Conditions.cl, T.n_Conditions_kept_atoms, cdF_at, _, rfl, _, _, _, _, _, rfl, D.hx, T.o_Conditions.cl, T.n_Conditions_kept_atoms, cdF_at, l, m, _, _, rfl, rfl, e1, e2, (by rw [l1, l2]; exact Nat.le_trans (Nat.add_le_add h1 h2) (by decide)), fun p np => ?_⟩
    generalize eH1 : upd H p _ = H1
    have s1 : Same H H1 := eH1 ▸ same_upd np
    have e3 : H1 p = some _ := eH1 ▸ upd_same
    refine mkCd (as := as ++ bs) (.inl (SqL.of e3)) ?_ ?_ (by rw [List.length_append]; omega) fun z dz n H2 s2 nz nn hzn CD => ?_
    · rw [List.map_append]
      exact DpAll.app (DpAll.same s1 a1) (DpAll.same s1 a2)
    · exact fun a ha => (List.mem_append.mp ha).elim (C.ok a) (D.ok a)
    · have s02 := s1.trans s2
      have hx2 := s02 _ _ C.hx
      refine ⟨_, _, _, _, _, rfl, CD.hx, T.o_Conditions.cl, T.n_Conditions_kept_atoms, cdF_at, _, rfl, _, _, _, _, rfl, hx2, T.o_Conditions.cl, T.n_Conditions_kept_atoms, (by show 1 < 1000; decide), _, rfl, ?_⟩
      have mx : Md [x] H2 (upd H2 x (.ins (aCd K) dx (putF "kept_atoms" (.ref n) (cdF l)))) := Md.upd hx2 rfl (by simp)
      obtain ⟨v3, e4, a4⟩ := CD.hl
      have nx : n ≠ x := fun z => by rw [z] at nn; rw [s1 _ _ C.hx] at nn; cases nn
      have ef : putF "kept_atoms" (.ref n) (cdF l) = cdF n := by
        show (if ("kept_atoms" : Str) = "kept_atoms" then [(("kept_atoms" : Str), V.ref n)] else _) = _
        rw [if_pos rfl]
        rfl
      refine hQ n _ ((Md.of s02).trans mx) (s1.free nn) ⟨by rw [upd_same, ef], ⟨v3, by rw [upd_ne nx]; exact e4, mx.dpAll (pds_at _).nl a4⟩, CD.ok⟩

end
end K09
namespace K09
open PySem PySem.Spec PyProof.Rows L2 He TL EL
section
variable {P : Program} {w : World} {K : PySem.W.Frag} {mg : Str → Option Value} {base : Heap}
/-! what stands for a term -/
theorem tm_cell {H : Hp} {v : V} {p : Pl} {c : Nat} (h : Dp K H v (Tm.cell p c).d) : ∃ a, v = .ref a ∧ SqT K H a [.str p.s, .int (c : Nat)] := by
  cases h with
  | tup hS hA =>
    cases hA with
    | cons h1 hA =>
      cases hA with
      | cons h2 hA =>
        cases hA
        cases h1
        cases h2
        exact ⟨_, rfl, hS⟩
theorem tm_val {H : Hp} {v : V} {a b : Int} (h : Dp K H v (Tm.val a b).d) : ∃ q r, v = .ref q ∧ SqT K H q [.str "value", r] ∧ Dp K H r (valD (a, b)) := by
  cases h with
  | tup hS hA =>
    cases hA with
    | cons h1 hA =>
      cases hA with
      | cons h2 hA =>
        cases hA
        cases h1
        exact ⟨_, _, rfl, hS, h2⟩
/-! is_column_count, names_cells, are_row_rules -/
def colOk : PyData → Bool
  | .int i => decide (1 ≤ i) && decide (i ≤ 3)
  | _ => false
def spCol (K : PySem.W.Frag) : Sp := fun vs H Q _ => ∃ v d, vs = [v] ∧ Dp K H v d ∧ Q (.bl (colOk d)) H
theorem d_col (T : Txt K mg) : Dn P w K mg base CX0 2 "is_column_count" (spCol K) := by
  obtain ⟨fd, F⟩ := T.f_is_column_count
  have D_is_whole := d_is_whole (P := P) (w := w) (base := base) T
  refine dnN T.g_is_column_count F (fun _ _ _ _ _ _ us hl => match us, hl with | [_], _ => rfl) sc_is_column_count (fun vs H Q E h => ?_) (fun cdv A outer s H vs Q E hr h => ?_)
  · obtain ⟨v, d, rfl, _⟩ := h
    rfl
  · obtain ⟨v, d, rfl, hd, q⟩ := h
    refine ⟨_, PSs.nox (pss_one (ps_ret (pe_and (cl D_is_whole (hr.mono (by decide)) (pa_cons (pv 0) pa_nil)) (pe_one (pe_chain op_le op_le pe_int (pv 0) (pe_gv T.g_MOST_COLUMNS)))))), ?_⟩
    refine ⟨_, rfl, v, .d d, rfl, hd, _, rfl, ?_⟩
    rw [isWholeT_d]
    by_cases w0 : ∃ i, d = .int i
    · obtain ⟨i, rfl⟩ := w0
      cases hd
      refine iteT ?_
      refine ⟨_, rfl, _, _, rfl, rfl, _, rfl, ?_⟩
      have e : colOk (.int i) = (decide (1 ≤ i) && decide (i ≤ 3)) := rfl
      rw [e] at q
      cases c : decide (1 ≤ i) with
      | true =>
        rw [c, Bool.true_and] at q
        exact iteT ⟨_, _, rfl, rfl, q⟩
      | false =>
        rw [c, Bool.false_and] at q
        exact iteF q
    · have e2 : isWholeD d = false := by
        cases d <;> first | rfl | exact absurd ⟨_, rfl⟩ w0
      rw [e2]
      have e3 : colOk d = false := by
        cases d <;> first | rfl | exact absurd ⟨_, rfl⟩ w0
      rw [e3] at q
      exact iteF q
def Tm.fits (pn : Pl → Nat) : Tm → Bool
  | .cell p c => decide (c < pn p)
  | .val _ _ => true
def At.fits (pn : Pl → Nat) (a : At) : Bool := a.l.fits pn && a.r.fits pn
def PlcAt (H : Hp) (pd : Addr) (pn : Pl → Nat) : Prop := ∃ kvs, H pd = some (.dK kvs) ∧ ∀ p : Pl, (valV kvs (.inr p.s)).getD (.int 0) = .int (pn p : Nat)
theorem PlcAt.same {H H' : Hp} {pd : Addr} {pn : Pl → Nat} (h : PlcAt H pd pn) (s : Same H H') : PlcAt H' pd pn := by
  obtain ⟨kvs, e, k⟩ := h
  exact ⟨kvs, s _ _ e, k⟩
def spNames (K : PySem.W.Frag) : Sp := fun vs H Q _ => ∃ x dx l as pd pn, vs = [.ref x, .ref pd] ∧ CdAt K H x dx l as ∧ PlcAt H pd pn ∧ ∀ H', Same H H' → Q (.bl (as.all (At.fits pn))) H'
theorem d_names (T : Txt K mg) : Dn P w K mg base CX0 2 "names_cells" (spNames K) := by
  obtain ⟨fd, F⟩ := T.f_names_cells
  have D_atoms := d_atoms (P := P) (w := w) (base := base) T
  refine dnN T.g_names_cells F (fun _ _ _ _ _ _ us hl => match us, hl with | [_, _], _ => rfl) sc_names_cells (fun vs H Q E h => ?_) (fun cdv A outer s H vs Q E hr h => ?_)
  · obtain ⟨x, dx, l, as, pd, pn, rfl, _⟩ := h
    rfl
  · obtain ⟨x, dx, l, as, pd, pn, rfl, C, hp, hQ⟩ := h
    refine ⟨_, PSs.nox (pss_cons (ps_for PassesOwn.never rfl (pi_list (pe_methE0 (pv 0) T.o_Conditions.cl T.h_Conditions_atoms D_atoms hr px0)) (pg_tup rfl (pgs_cons (pg_name (i := 2) sc_names_cells.nd rfl (.inl rfl)) (pgs_cons (pg_name (i := 3) sc_names_cells.nd rfl (.inl rfl)) (pgs_cons (pg_name (i := 4) sc_names_cells.nd rfl (.inl rfl)) pgs_nil))))
      (pss_one (ps_for PassesOwn.never rfl (pi_tup (pe_tup (pa_cons (pv 3) (pa_cons (pv 4) pa_nil)))) (pg_name (i := 5) sc_names_cells.nd rfl (.inl rfl))
      (pss_one (ps_if (PW.pt (pw_and (pt_cmpR op_ne (pe_ix ix_tup (pv 5) pe_int (fun _ _ => rfl)) pe_str (nomark _)) (pw_and1 (pt_cmpR op_ge (pe_ix ix_tup (pv 5) pe_int (fun _ _ => rfl)) (pe_dget2 (hu_of hr) (pv 1) (pe_ix ix_tup (pv 5) pe_int (fun _ _ => rfl)) pe_int ⟨by rfl, by rfl, by rfl, by rfl⟩) (nomark _))))) (pss_one (ps_ret pe_bl)) pss_nil)))))
      (pss_one (ps_ret pe_bl))), ?_⟩
    refine ⟨_, rfl, _, _, _, rfl, C.hx, cdF_no (by decide), x, dx, l, as, rfl, C, fun q us H1 nq s1 e1 a1 => ?_⟩
    have lu : us.length = as.length := by rw [DpAll.length a1, List.length_map]
    refine ⟨q, rfl, ⟨_, SqL.of e1⟩, for_list (K := K) (a := q) (xs := us) (fun i σ H' => Same H1 H' ∧ (∃ o2 o3 o4 o5, σ = [some (.ref x), some (.ref pd), o2, o3, o4, o5]) ∧ (as.take i).all (At.fits pn) = true) ⟨.refl _, ⟨none, none, none, none, rfl⟩, rfl⟩ (fun i σ H' _ h => SqL.of (h.1 _ _ e1)) ?_ ?_⟩
    · rintro i xv σ H' hg ⟨s', ⟨o2, o3, o4, o5, rfl⟩, hall⟩
      obtain ⟨d, hd, hdp⟩ := DpAll.get a1 hg
      obtain ⟨a, ha, rfl⟩ := getM hd
      obtain ⟨t, v1, v2, rfl, ht, h1, h2⟩ := at_tup (Dp.same s' hdp)
      refine ⟨t, _, rfl, ht, rfl, _, _, rfl, _, _, rfl, _, _, rfl, rfl, ?_⟩
      refine ⟨_, rfl, _, rfl, (by show 2 ≤ sizeLine; decide), fun tp ntp => ?_⟩
      generalize eH2 : upd H' tp _ = H2
      have s2 : Same H' H2 := eH2 ▸ same_upd ntp
      have e2 : H2 tp = some _ := eH2 ▸ upd_same
      have s12 := s'.trans s2
      have hp2 := hp.same (s1.trans s12)
      have bad : ∀ b : Tm, (b = a.l ∨ b = a.r) → b.fits pn = false → as.all (At.fits pn) = false := fun b hb hf => by
        rw [Bool.eq_false_iff]
        intro z
        have := List.all_eq_true.mp z a (List.mem_of_getElem? ha)
        unfold At.fits at this
        rw [Bool.and_eq_true] at this
        rcases hb with rfl | rfl
        · rw [this.1] at hf; cases hf
        · rw [this.2] at hf; cases hf
      refine ⟨tp, rfl, ⟨_, SqT.of e2⟩, for_tup (K := K) (a := tp) (xs := [v1, v2]) (fun j σ H'' => H2 = H'' ∧ (∃ o5, σ = [some (.ref x), some (.ref pd), some (.str a.s.s), some v1, some v2, o5]) ∧ (1 ≤ j → a.l.fits pn = true) ∧ (2 ≤ j → a.r.fits pn = true)) ⟨rfl, ⟨_, rfl⟩, fun z => absurd z (by decide), fun z => absurd z (by decide)⟩ (fun j σ H'' _ h => by rw [← h.1]; exact SqT.of e2) ?_ ?_⟩
      · rintro j yv σ H'' hgy ⟨rfl, ⟨o5, rfl⟩, g1, g2⟩
        have key : ∃ b : Tm, Dp K H2 yv b.d ∧ (b = a.l ∨ b = a.r) ∧ (b.fits pn = true → (1 ≤ j + 1 → a.l.fits pn = true) ∧ (2 ≤ j + 1 → a.r.fits pn = true)) := by
          match j, hgy with
          | 0, hgy =>
            cases hgy
            exact ⟨a.l, Dp.same s2 h1, .inl rfl, fun z => ⟨fun _ => z, fun z => absurd z (by decide)⟩⟩
          | 1, hgy =>
            cases hgy
            exact ⟨a.r, Dp.same s2 h2, .inr rfl, fun z => ⟨fun _ => g1 (by decide), fun _ => z⟩⟩
        obtain ⟨b, hb, hor, good⟩ := key
        cases b with
        | val x1 x2 =>
          obtain ⟨q1, y1, rfl, hq1, _⟩ := tm_val hb
          refine ⟨_, rfl, _, _, 0, _, rfl, rfl, hq1, atI_nat (j := 0) rfl, rfl, _, rfl, iteF ?_⟩
          obtain ⟨k1, k2⟩ := good rfl
          exact ⟨rfl, ⟨_, rfl⟩, k1, k2⟩
        | cell pl c =>
          obtain ⟨q1, rfl, hq1⟩ := tm_cell hb
          refine ⟨_, rfl, _, _, 0, _, rfl, rfl, hq1, atI_nat (j := 0) rfl, rfl, _, rfl, if_pos_of (by show (!decide (V.str pl.s = V.str "value")) = true; rw [Pl.ne_value]; rfl) ?_⟩
          obtain ⟨kvs, ek, hk⟩ := hp2
          refine ⟨_, rfl, _, _, 1, _, rfl, rfl, hq1, atI_nat (j := 1) rfl, _, rfl, pd, rfl, .inl ⟨kvs, .of ek⟩, _, rfl, _, _, 0, _, rfl, rfl, hq1, atI_nat (j := 0) rfl, _, DGet.k (k := .inr pl.s) ek, ?_⟩
          rw [hk pl]
          refine ⟨_, _, rfl, rfl, _, rfl, ?_⟩
          cases cc : decide (((c : Nat) : Int) ≥ ((pn pl : Nat) : Int)) with
          | true =>
            have := of_decide_eq_true cc
            refine iteT ?_
            have e := hQ H2 (s1.trans s12)
            rw [bad (.cell pl c) hor (decide_eq_false (by omega))] at e
            exact e
          | false =>
            have := of_decide_eq_false cc
            refine iteF ?_
            obtain ⟨k1, k2⟩ := good (decide_eq_true (by omega))
            exact ⟨rfl, ⟨_, rfl⟩, k1, k2⟩
      · rintro σ H'' ⟨rfl, ⟨o5, rfl⟩, g1, g2⟩
        refine ⟨s12, ⟨_, _, _, _, rfl⟩, ?_⟩
        rw [tk1 ha, List.all_append, hall]
        have e : At.fits pn a = true := by
          unfold At.fits
          rw [g1 (by show 1 ≤ 2; decide), g2 (by show 2 ≤ 2; decide)]
          rfl
        simp [e]
    · rintro σ H' ⟨s', ⟨o2, o3, o4, o5, rfl⟩, hall⟩
      rw [lu, List.take_length] at hall
      have e := hQ H' (s1.trans s')
      rw [hall] at e
      exact e
def pn1 (n : Nat) : Pl → Nat
  | .first => n
  | _ => 0
def spRowRules (K : PySem.W.Frag) : Sp := fun vs H Q _ => ∃ x dx l as n, vs = [.ref x, .int (n : Nat)] ∧ CdAt K H x dx l as ∧ ∀ H', Same H H' → Q (.bl (as.all (At.fits (pn1 n)))) H'
theorem d_rowrules (T : Txt K mg) : Dn P w K mg base CX0 3 "are_row_rules" (spRowRules K) := by
  obtain ⟨fd, F⟩ := T.f_are_row_rules
  have D_names_cells := d_names (P := P) (w := w) (base := base) T
  refine dnN T.g_are_row_rules F (fun _ _ _ _ _ _ us hl => match us, hl with | [_, _], _ => rfl) sc_are_row_rules (fun vs H Q E h => ?_) (fun cdv A outer s H vs Q E hr h => ?_)
  · obtain ⟨x, dx, l, as, n, rfl, _⟩ := h
    rfl
  · obtain ⟨x, dx, l, as, n, rfl, C, hQ⟩ := h
    refine ⟨_, PSs.nox (pss_one (ps_ret (pe_and (pe_callB call_isi (by rfl) T.z_isinstance (by decide +kernel) (pa_cons (pv 0) (pa_cons (pe_glob (v := .ref (ga K "Conditions")) (by rfl) T.g_Conditions rfl) pa_nil))) (pe_one (cl D_names_cells (hr.mono (by decide)) (pa_cons (pv 0) (pa_cons (pe_disp (pps_cons pe_str (pv 1) pps_nil) rfl rfl (by simp) (by decide)) pa_nil))))))), ?_⟩
    refine ⟨_, rfl, _, _, _, _, _, rfl, .own _, T.o_Conditions.ty C.hx, T.o_Conditions.self, _, rfl, iteT ?_⟩
    refine ⟨_, rfl, fun pd npd => ?_⟩
    refine ⟨_, rfl, upd_same, [(.inr "first", .int (n : Nat))], rfl, (by show 1 ≤ 15; decide), ?_⟩
    rw [upd_upd, show mergeK [] [((.inr "first" : Key), V.int (n : Nat))] = [((.inr "first" : Key), V.int (n : Nat))] from (putK_new (kvs := ([] : List (Key × V))) (k := (Sum.inr "first" : Key)) (V.int (n : Nat)) rfl)]
    generalize eH1 : upd H pd _ = H1
    have s1 : Same H H1 := eH1 ▸ same_upd npd
    have e1 : H1 pd = some _ := eH1 ▸ upd_same
    refine ⟨x, dx, l, as, pd, pn1 n, rfl, C.same s1, ⟨_, e1, fun p => ?_⟩, fun H' s' => hQ H' (s1.trans s')⟩
    cases p with
    | first =>
      have e : valV [((Sum.inr "first" : Key), V.int (n : Nat))] (.inr (Pl.s .first)) = some (.int (n : Nat)) := valV_pos rfl
      rw [e]
      rfl
    | old =>
      have e : valV [((Sum.inr "first" : Key), V.int (n : Nat))] (.inr (Pl.s .old)) = none := valV_neg (by intro z; exact absurd (Sum.inr.inj z) (by decide +kernel))
      rw [e]
      rfl
    | second =>
      have e : valV [((Sum.inr "first" : Key), V.int (n : Nat))] (.inr (Pl.s .second)) = none := valV_neg (by intro z; exact absurd (Sum.inr.inj z) (by decide +kernel))
      rw [e]
      rfl

end
end K09
namespace K09
open PySem PySem.Spec PyProof.Rows L2 He TL EL
section
variable {P : Program} {w : World} {K : PySem.W.Frag} {mg : Str → Option Value} {base : Heap}
/-! Schema -/
structure Sch where
  nm : Str
  n : Nat
  c : Addr
  dc : Addr
  l : Addr
  as : List At
abbrev aSc (K : PySem.W.Frag) : Addr := ga K "Schema"
def scF (a b : Addr) : List (Str × V) := putF "limits" (.ref b) (putF "widths" (.ref a) [])
theorem scF_widths {a b : Addr} : (scF a b).lookup ("widths" : Str) = some (.ref a) := by
  unfold scF
  rw [lookup_putF, if_neg (by decide +kernel), lookup_putF, if_pos rfl]
theorem scF_limits {a b : Addr} : (scF a b).lookup ("limits" : Str) = some (.ref b) := by
  unfold scF
  rw [lookup_putF, if_pos rfl]
theorem scF_no {a b : Addr} {m : Str} (h1 : m ≠ "widths") (h2 : m ≠ "limits") : (scF a b).lookup m = none := by
  unfold scF
  rw [lookup_putF, if_neg h2, lookup_putF, if_neg h1]
  rfl
def wI (rs : List Sch) : List (Key × Int) := rs.map fun s => (.inr s.nm, (s.n : Int))
def lK (rs : List Sch) : List (Key × V) := rs.map fun s => (.inr s.nm, .ref s.c)
def findS (rs : List Sch) (z : Str) : Option Sch := rs.find? fun s => decide (s.nm = z)
theorem val_w (rs : List Sch) (z : Str) : valV (dI (wI rs)) (.inr z) = (findS rs z).map fun s => V.int (s.n : Nat) := by
  induction rs with
  | nil => rfl
  | cons s r ih =>
    by_cases e : s.nm = z
    · have h1 : valV (dI (wI (s :: r))) (.inr z) = some (.int (s.n : Nat)) := valV_pos (by show (Sum.inr s.nm : Key) = .inr z; rw [e])
      have h2 : findS (s :: r) z = some s := by unfold findS; rw [List.find?_cons]; simp [e]
      rw [h1, h2]
      rfl
    · have h1 : valV (dI (wI (s :: r))) (.inr z) = valV (dI (wI r)) (.inr z) := valV_neg (fun h => e (Sum.inr.inj h))
      have h2 : findS (s :: r) z = findS r z := by unfold findS; rw [List.find?_cons]; simp [e]
      rw [h1, h2, ih]
theorem val_l (rs : List Sch) (z : Str) : valV (lK rs) (.inr z) = (findS rs z).map fun s => V.ref s.c := by
  induction rs with
  | nil => rfl
  | cons s r ih =>
    by_cases e : s.nm = z
    · have h1 : valV (lK (s :: r)) (.inr z) = some (.ref s.c) := valV_pos (by show (Sum.inr s.nm : Key) = .inr z; rw [e])
      have h2 : findS (s :: r) z = some s := by unfold findS; rw [List.find?_cons]; simp [e]
      rw [h1, h2]
      rfl
    · have h1 : valV (lK (s :: r)) (.inr z) = valV (lK r) (.inr z) := valV_neg (fun h => e (Sum.inr.inj h))
      have h2 : findS (s :: r) z = findS r z := by unfold findS; rw [List.find?_cons]; simp [e]
      rw [h1, h2, ih]
theorem findS_mem {rs : List Sch} {z : Str} {s : Sch} (h : findS rs z = some s) : s ∈ rs ∧ s.nm = z := by
  refine ⟨List.mem_of_find?_eq_some h, ?_⟩
  have := List.find?_some h
  exact of_decide_eq_true this
structure ScAt (K : PySem.W.Frag) (H : Hp) (x dx dw dl : Addr) (rs : List Sch) : Prop where
  hx : H x = some (.ins (aSc K) dx (scF dw dl))
  hw : H dw = some (.dK (dI (wI rs)))
  hl : H dl = some (.dK (lK rs))
  hc : ∀ s ∈ rs, CdAt K H s.c s.dc s.l s.as
theorem ScAt.md {H H' : Hp} {x dx dw dl : Addr} {rs : List Sch} {S : List Addr} (C : ScAt K H x dx dw dl rs) (m : Md S H H') (h1 : x ∉ S) (h2 : dw ∉ S) (h3 : dl ∉ S) (h4 : ∀ s ∈ rs, s.c ∉ S ∧ s.l ∉ S) : ScAt K H' x dx dw dl rs :=
  ⟨m.out _ _ C.hx h1, m.out _ _ C.hw h2, m.out _ _ C.hl h3, fun s hs => (C.hc s hs).md m (h4 s hs).1 (h4 s hs).2⟩
theorem ScAt.same {H H' : Hp} {x dx dw dl : Addr} {rs : List Sch} (C : ScAt K H x dx dw dl rs) (s : Same H H') : ScAt K H' x dx dw dl rs := C.md (S := []) (.of s) (by simp) (by simp) (by simp) (fun _ _ => ⟨by simp, by simp⟩)
/-! __init__, twin -/
def DctV (H : Hp) (v : V) (kvs : List (Key × V)) : Prop := (v = .non ∧ kvs = []) ∨ ∃ d, v = .ref d ∧ H d = some (.dK kvs)
def spSc (K : PySem.W.Frag) : Sp := fun vs H Q _ => ∃ x dx v1 v2 ks ls, vs = [.ref x, v1, v2] ∧ H x = some (.ins (aSc K) dx []) ∧ DctV H v1 ks ∧ DctV H v2 ls ∧
  ∀ dw dl H', Md [x] H H' → H dw = none → H dl = none → dw ≠ dl → H' x = some (.ins (aSc K) dx (scF dw dl)) → H' dw = some (.dK ks) → H' dl = some (.dK ls) → Q .non H'
theorem ok_sc (T : Txt K mg) : ∃ fd, FunD K "__init__" "Schema.__init__" (defArgs s_Schema___init__) (defBody s_Schema___init__) (defScope s_Schema___init__) ([.non, .non] : List V) [] (ma K (ga K "Schema") "__init__") fd ∧
    FnOk P w K mg base CX0 1 (ma K (ga K "Schema") "__init__") fd ["self", "widths", "limits"] (spSc K) := by
  obtain ⟨fd, F⟩ := T.f_Schema___init__
  refine ⟨fd, F, F.ok sc_Schema___init__ (fun vs H Q E h => ?_) (fun cdv A outer s H vs Q E hr h => ?_)⟩
  · obtain ⟨x, dx, v1, v2, ks, ls, rfl, _⟩ := h
    rfl
  · obtain ⟨x, dx, v1, v2, ks, ls, rfl, hx, h1, h2, hQ⟩ := h
    refine ⟨_, PSs.nox (pss_cons (ps_fld (pv 0) (pe_ifExp (pt_cmpR op_isN (pv 1) pe_non (nomark _)) pe_dnewK (pe_callTy call_dictD (by rfl) T.z_dict (by decide +kernel) (pa_cons (pv 1) pa_nil))) rfl)
      (pss_one (ps_fld (pv 0) (pe_ifExp (pt_cmpR op_isN (pv 2) pe_non (nomark _)) pe_dnewK (pe_callTy call_dictD (by rfl) T.z_dict (by decide +kernel) (pa_cons (pv 2) pa_nil))) rfl))), ?_⟩
    -- the second dict
    have two : ∀ (dw : Addr) (H2 : Hp), Md [x] H H2 → H dw = none → H2 dw = some (.dK ks) → H2 x = some (.ins (aSc K) dx (putF "widths" (.ref dw) [])) → ∀ (dl : Addr) (H3 : Hp), H2 dl = none → Same H2 H3 → H3 dl = some (.dK ls) → Q .non (upd H3 x (.ins (aSc K) dx (putF "limits" (.ref dl) (putF "widths" (.ref dw) [])))) := fun dw H2 m2 nw e2 x2 dl H3 nl s3 e3 => by
      have nl0 : H dl = none := by
        cases hh : H dl with
        | none => rfl
        | some o =>
          by_cases z : dl = x
          · rw [z, x2] at nl; cases nl
          · rw [m2.out _ _ hh (by simp [z])] at nl; cases nl
      have nwx : dw ≠ x := fun z => by rw [z, hx] at nw; cases nw
      have nlx : dl ≠ x := fun z => by rw [z, hx] at nl0; cases nl0
      have nwl : dw ≠ dl := fun z => by rw [← z, e2] at nl; cases nl
      have mx : Md [x] H3 (upd H3 x (.ins (aSc K) dx (putF "limits" (.ref dl) (putF "widths" (.ref dw) [])))) := Md.upd (s3 _ _ x2) rfl (by simp)
      exact hQ dw dl _ (m2.trans ((Md.of s3).trans mx)) nw nl0 nwl upd_same (by rw [upd_ne nwx]; exact s3 _ _ e2) (by rw [upd_ne nlx]; exact e3)
    have h2' : ∀ {H2 : Hp}, Md [x] H H2 → DctV H2 v2 ls := fun {H2} m2 => by
      rcases h2 with ⟨rfl, rfl⟩ | ⟨d, rfl, hd⟩
      · exact .inl ⟨rfl, rfl⟩
      · exact .inr ⟨d, rfl, m2.out _ _ hd (by simp; exact ne_of hd hx (by intro z; cases z))⟩
    have fin : ∀ (dw : Addr) (H1 : Hp), H dw = none → Same H H1 → H1 dw = some (.dK ks) → ∃ m2 : Md [x] H (upd H1 x (.ins (aSc K) dx (putF "widths" (.ref dw) []))), upd H1 x (.ins (aSc K) dx (putF "widths" (.ref dw) [])) dw = some (.dK ks) := fun dw H1 nw s1 e1 => by
      have nwx : dw ≠ x := fun z => by rw [z, hx] at nw; cases nw
      exact ⟨(Md.of s1).trans (Md.upd (s1 _ _ hx) rfl (by simp)), by rw [upd_ne nwx]; exact e1⟩
    have rest : ∀ (dw : Addr) (H2 : Hp), Md [x] H H2 → H dw = none → H2 dw = some (.dK ks) → H2 x = some (.ins (aSc K) dx (putF "widths" (.ref dw) [])) → ((v2 = .non ∧ ls = []) ∨ ∃ d, v2 = .ref d ∧ H2 d = some (.dK ls)) := fun dw H2 m2 _ _ _ => h2' m2
    rcases h1 with ⟨rfl, rfl⟩ | ⟨d1, rfl, hd1⟩
    · refine ⟨_, rfl, rfl, _, rfl, iteT ?_⟩
      intro dw nw
      generalize eH1 : upd H dw _ = H1
      have s1 : Same H H1 := eH1 ▸ same_upd nw
      have e1 : H1 dw = some _ := eH1 ▸ upd_same
      refine ⟨_, rfl, _, _, _, _, rfl, s1 _ _ hx, T.o_Schema.cl, T.n_Schema_widths, (by decide), ?_⟩
      obtain ⟨m2, e2⟩ := fin dw H1 nw s1 e1
      have x2 : upd H1 x (.ins (aSc K) dx (putF "widths" (.ref dw) [])) x = some (.ins (aSc K) dx (putF "widths" (.ref dw) [])) := upd_same
      generalize upd H1 x _ = H2 at m2 e2 x2 ⊢
      rcases rest dw H2 m2 nw e2 x2 with ⟨rfl, rfl⟩ | ⟨d2, rfl, hd2⟩
      · refine ⟨_, rfl, rfl, _, rfl, iteT ?_⟩
        intro dl nl
        have s3 : Same H2 (upd H2 dl (.dK [])) := same_upd nl
        refine ⟨_, rfl, _, _, _, _, rfl, s3 _ _ x2, T.o_Schema.cl, T.n_Schema_limits, (by show 1 < 1000; decide), ?_⟩
        exact two dw H2 m2 nw e2 x2 dl _ nl s3 upd_same
      · refine ⟨_, rfl, rfl, _, rfl, iteF ?_⟩
        refine ⟨_, rfl, _, _, rfl, .of hd2, fun dl nl => ?_⟩
        have s3 : Same H2 (upd H2 dl (.dK ls)) := same_upd nl
        refine ⟨_, rfl, _, _, _, _, rfl, s3 _ _ x2, T.o_Schema.cl, T.n_Schema_limits, (by show 1 < 1000; decide), ?_⟩
        exact two dw H2 m2 nw e2 x2 dl _ nl s3 upd_same
    · refine ⟨_, rfl, rfl, _, rfl, iteF ?_⟩
      refine ⟨_, rfl, _, _, rfl, .of hd1, fun dw nw => ?_⟩
      generalize eH1 : upd H dw _ = H1
      have s1 : Same H H1 := eH1 ▸ same_upd nw
      have e1 : H1 dw = some _ := eH1 ▸ upd_same
      refine ⟨_, rfl, _, _, _, _, rfl, s1 _ _ hx, T.o_Schema.cl, T.n_Schema_widths, (by decide), ?_⟩
      obtain ⟨m2, e2⟩ := fin dw H1 nw s1 e1
      have x2 : upd H1 x (.ins (aSc K) dx (putF "widths" (.ref dw) [])) x = some (.ins (aSc K) dx (putF "widths" (.ref dw) [])) := upd_same
      generalize upd H1 x _ = H2 at m2 e2 x2 ⊢
      rcases rest dw H2 m2 nw e2 x2 with ⟨rfl, rfl⟩ | ⟨d2, rfl, hd2⟩
      · refine ⟨_, rfl, rfl, _, rfl, iteT ?_⟩
        intro dl nl
        have s3 : Same H2 (upd H2 dl (.dK [])) := same_upd nl
        refine ⟨_, rfl, _, _, _, _, rfl, s3 _ _ x2, T.o_Schema.cl, T.n_Schema_limits, (by show 1 < 1000; decide), ?_⟩
        exact two dw H2 m2 nw e2 x2 dl _ nl s3 upd_same
      · refine ⟨_, rfl, rfl, _, rfl, iteF ?_⟩
        refine ⟨_, rfl, _, _, rfl, .of hd2, fun dl nl => ?_⟩
        have s3 : Same H2 (upd H2 dl (.dK ls)) := same_upd nl
        refine ⟨_, rfl, _, _, _, _, rfl, s3 _ _ x2, T.o_Schema.cl, T.n_Schema_limits, (by show 1 < 1000; decide), ?_⟩
        exact two dw H2 m2 nw e2 x2 dl _ nl s3 upd_same
theorem d_sc2 (T : Txt K mg) : FnR P w K mg base CX0 1 (ma K (ga K "Schema") "__init__") (spSc K) := by
  obtain ⟨fd, F, ok⟩ := ok_sc (P := P) (w := w) (base := base) T
  have := fnD F ok 3 2 (by simp) rfl (fun _ _ _ _ _ _ _ us its h1 h2 => match us, its, h1, h2 with | [_, _, _], [_, _], _, _ => ⟨_, rfl, rfl⟩)
  exact this.imp fun vs H Q E h => by
    rw [show ([.non, .non] : List V).drop 2 = [] from rfl, List.append_nil]
    exact h
theorem d_sc0 (T : Txt K mg) : FnR P w K mg base CX0 1 (ma K (ga K "Schema") "__init__") (fun vs H Q E => spSc K (vs ++ [.non, .non]) H Q E) := by
  obtain ⟨fd, F, ok⟩ := ok_sc (P := P) (w := w) (base := base) T
  exact fnD F ok 1 0 (by simp) rfl (fun _ _ _ _ _ _ _ us its h1 h2 => match us, its, h1, h2 with | [_], [_, _], _, _ => ⟨_, rfl, rfl⟩)
theorem mkSc {H : Hp} {v1 v2 : V} {ks ls : List (Key × V)} {Q : Addr → Hp → Prop} {E : XK} (h1 : DctV H v1 ks) (h2 : DctV H v2 ls)
    (hQ : ∀ x dx dw dl H', Same H H' → H x = none → H dw = none → H dl = none → dw ≠ dl → H' x = some (.ins (aSc K) dx (scF dw dl)) → H' dw = some (.dK ks) → H' dl = some (.dK ls) → Q x H') :
    ∀ x dx, H x = none → H dx = none → dx ≠ x → spSc K [.ref x, v1, v2] (upd (upd H dx (.own x)) x (.ins (aSc K) dx [])) (fun v H2 => v = .non ∧ Q x H2) E := by
  intro x dx nx ndx hne
  generalize eH1 : upd (upd H dx _) x _ = H1
  have s1 : Same H H1 := eH1 ▸ (same_upd ndx).trans (same_upd (by rw [upd_ne (Ne.symm hne)]; exact nx))
  have x1 : H1 x = some (.ins (aSc K) dx []) := eH1 ▸ upd_same
  have up : ∀ {v : V} {k : List (Key × V)}, DctV H v k → DctV H1 v k := fun h => h.elim .inl (fun ⟨d, e, k⟩ => .inr ⟨d, e, s1 _ _ k⟩)
  refine ⟨x, dx, v1, v2, ks, ls, rfl, x1, up h1, up h2, fun dw dl H' m nw nl hn hx hw hl => ⟨rfl, ?_⟩⟩
  have sH : Same H H' := fun b o hb => m.out _ _ (s1 _ _ hb) (by simp; exact ne_of_none hb nx)
  exact hQ x dx dw dl H' sH nx (s1.free nw) (s1.free nl) hn hx hw hl
def spScTwin (K : PySem.W.Frag) : Sp := fun vs H Q _ => ∃ x dx dw dl rs, vs = [.ref x] ∧ ScAt K H x dx dw dl rs ∧ ∀ x' dx' dw' dl' H', Same H H' → H x' = none → H dw' = none → H dl' = none → dw' ≠ dl' → ScAt K H' x' dx' dw' dl' rs → Q (.ref x') H'
theorem d_sc_twin (T : Txt K mg) : FnR P w K mg base CX0 3 (ma K (ga K "Schema") "twin") (spScTwin K) := by
  obtain ⟨fd, F⟩ := T.f_Schema_twin
  have D_sc := d_sc2 (P := P) (w := w) (base := base) T
  refine fnN F (fun _ _ _ _ _ _ us hl => match us, hl with | [_], _ => rfl) sc_Schema_twin (fun vs H Q E h => ?_) (fun cdv A outer s H vs Q E hr h => ?_)
  · obtain ⟨x, dx, dw, dl, rs, rfl, _⟩ := h
    rfl
  · obtain ⟨x, dx, dw, dl, rs, rfl, C, hQ⟩ := h
    refine ⟨_, PSs.nox (pss_one (ps_ret (pe_makeE T.m_Schema D_sc hr T.g_Schema px0 (pa_cons (pe_fld (pv 0) rfl) (pa_cons (pe_fld (pv 0) rfl) pa_nil))))), ?_⟩
    refine ⟨_, rfl, _, _, _, _, _, rfl, C.hx, T.o_Schema.cl, T.n_Schema_widths, scF_widths, _, rfl, _, _, _, _, _, rfl, C.hx, T.o_Schema.cl, T.n_Schema_limits, scF_limits, ?_⟩
    refine mkSc (Q := fun z H' => Q (.ref z) H') (.inr ⟨dw, rfl, C.hw⟩) (.inr ⟨dl, rfl, C.hl⟩) fun x' dx' dw' dl' H' s' n1 n2 n3 hn hx hw hl => ?_
    exact hQ x' dx' dw' dl' H' s' n1 n2 n3 hn ⟨hx, hw, hl, fun s hs => (C.hc s hs).same s'⟩

end
end K09
namespace K09
open PySem PySem.Spec PyProof.Rows L2 He TL EL
section
variable {P : Program} {w : World} {K : PySem.W.Frag} {mg : Str → Option Value} {base : Heap}
/-! Schema's methods -/
abbrev xName (v : V) : HO := .xd [("name", v)]
def spScLen (K : PySem.W.Frag) : Sp := fun vs H Q _ => ∃ x dx dw dl rs, vs = [.ref x] ∧ ScAt K H x dx dw dl rs ∧ Q (.int (rs.length : Nat)) H
theorem d_sc_len (T : Txt K mg) : FnR P w K mg base CX0 1 (ma K (ga K "Schema") "__len__") (spScLen K) := by
  obtain ⟨fd, F⟩ := T.f_Schema___len__
  refine fnN F (fun _ _ _ _ _ _ us hl => match us, hl with | [_], _ => rfl) sc_Schema___len__ (fun vs H Q E h => ?_) (fun cdv A outer s H vs Q E hr h => ?_)
  · obtain ⟨x, dx, dw, dl, rs, rfl, _⟩ := h
    rfl
  · obtain ⟨x, dx, dw, dl, rs, rfl, C, q⟩ := h
    refine ⟨_, PSs.nox (pss_one (ps_ret (pe_callB call_lenD (by rfl) T.z_len (by decide +kernel) (pa_cons (pe_fld (pv 0) rfl) pa_nil)))), ?_⟩
    refine ⟨_, rfl, _, _, _, _, _, rfl, C.hx, T.o_Schema.cl, T.n_Schema_widths, scF_widths, _, _, rfl, C.hw, ?_⟩
    rw [show (dI (wI rs)).length = rs.length by rw [List.length_map]; unfold wI; rw [List.length_map]]
    exact q
def spScNames (K : PySem.W.Frag) : Sp := fun vs H Q _ => ∃ x dx dw dl rs, vs = [.ref x] ∧ ScAt K H x dx dw dl rs ∧ ∀ p H', H p = none → Same H H' → H' p = some (.lst (rs.map fun s => V.str s.nm)) → Q (.ref p) H'
theorem keys_w (rs : List Sch) : (dI (wI rs)).map (fun kv => kV kv.1) = rs.map fun s => V.str s.nm := by
  unfold wI dI
  rw [List.map_map, List.map_map]
  rfl
theorem d_sc_names (T : Txt K mg) : FnR P w K mg base CX0 1 (ma K (ga K "Schema") "names") (spScNames K) := by
  obtain ⟨fd, F⟩ := T.f_Schema_names
  refine fnN F (fun _ _ _ _ _ _ us hl => match us, hl with | [_], _ => rfl) sc_Schema_names (fun vs H Q E h => ?_) (fun cdv A outer s H vs Q E hr h => ?_)
  · obtain ⟨x, dx, dw, dl, rs, rfl, _⟩ := h
    rfl
  · obtain ⟨x, dx, dw, dl, rs, rfl, C, hQ⟩ := h
    refine ⟨_, PSs.nox (pss_one (ps_ret (pe_callTy (call_list_dK rfl) (by rfl) T.z_list (by decide +kernel) (pa_cons (pe_fld (pv 0) rfl) pa_nil)))), ?_⟩
    refine ⟨_, rfl, _, _, _, _, _, rfl, C.hx, T.o_Schema.cl, T.n_Schema_widths, scF_widths, _, _, rfl, C.hw, fun p np => ?_⟩
    rw [keys_w]
    generalize eH1 : upd H p _ = H1
    have s1 : Same H H1 := eH1 ▸ same_upd np
    have e1 : H1 p = some _ := eH1 ▸ upd_same
    exact hQ p H1 np s1 e1
def inS (rs : List Sch) : PyData → Bool
  | .str z => (findS rs z).isSome
  | _ => false
def spScIn (K : PySem.W.Frag) : Sp := fun vs H Q _ => ∃ x dx dw dl rs v d, vs = [.ref x, v] ∧ ScAt K H x dx dw dl rs ∧ Dp K H v d ∧ Q (.bl (inS rs d)) H
theorem d_sc_in (T : Txt K mg) : FnR P w K mg base CX0 1 (ma K (ga K "Schema") "__contains__") (spScIn K) := by
  obtain ⟨fd, F⟩ := T.f_Schema___contains__
  refine fnN F (fun _ _ _ _ _ _ us hl => match us, hl with | [_, _], _ => rfl) sc_Schema___contains__ (fun vs H Q E h => ?_) (fun cdv A outer s H vs Q E hr h => ?_)
  · obtain ⟨x, dx, dw, dl, rs, v, d, rfl, _⟩ := h
    rfl
  · obtain ⟨x, dx, dw, dl, rs, v, d, rfl, C, hd, q⟩ := h
    refine ⟨_, PSs.nox (pss_one (ps_ret (pe_and (pe_callB call_isi (by rfl) T.z_isinstance (by decide +kernel) (pa_cons (pv 1) (pa_cons (pe_bltn (v := .ty "str") (by rfl) T.z_str (by decide +kernel) rfl) pa_nil))) (pe_one (pe_cmp (pc_din (hu_of hr) (pv 1) (pe_fld (pv 0) rfl)) rfl))))), ?_⟩
    refine ⟨_, rfl, _, _, _, _, _, rfl, .ty _, Dp.ty hd, kit_d K .str d, _, rfl, ?_⟩
    by_cases w0 : ∃ z, d = .str z
    · obtain ⟨z, rfl⟩ := w0
      cases hd
      refine iteT ?_
      refine ⟨_, rfl, _, rfl, _, _, _, _, _, rfl, C.hx, T.o_Schema.cl, T.n_Schema_widths, scF_widths, _, _, rfl, DGet.k (k := .inr z) C.hw, ?_⟩
      rw [val_w, Option.isSome_map]
      exact q
    · have e2 : isTy .str d = false := by
        cases d <;> first | rfl | exact absurd ⟨_, rfl⟩ w0
      rw [e2]
      have e : inS rs d = false := by
        cases d <;> first | rfl | exact absurd ⟨_, rfl⟩ w0
      rw [e] at q
      exact iteF q
/-! columns, rules -/
def spScCol (K : PySem.W.Frag) : Sp := fun vs H Q E => ∃ x dx dw dl rs v d, vs = [.ref x, v] ∧ ScAt K H x dx dw dl rs ∧ Dp K H v d ∧ (inS rs d = false → ∀ dd H', Same H H' → H' dd = some (xName v) → E (.ref (ga K "NoTable")) (some dd) H') ∧
  ∀ z s, d = .str z → findS rs z = some s → Q (.int (s.n : Nat)) H
theorem d_sc_col (hP : PF P "/claim/cut.py") (T : Txt K mg) : FnR P w K mg base (L2.CX P w) 1 (ma K (ga K "Schema") "columns") (spScCol K) := by
  obtain ⟨fd, F⟩ := T.f_Schema_columns
  refine fnN F (fun _ _ _ _ _ _ us hl => match us, hl with | [_, _], _ => rfl) sc_Schema_columns (fun vs H Q E h => ?_) (fun cdv A outer s H vs Q E hr h => ?_)
  · obtain ⟨x, dx, dw, dl, rs, v, d, rfl, _⟩ := h
    rfl
  · obtain ⟨x, dx, dw, dl, rs, v, d, rfl, C, hd, hE, hQ⟩ := h
    refine ⟨_, (pss_cons (ps_if (PW.pt (pw_or (pt_not (pt_val (pe_callB call_isi (by rfl) T.z_isinstance (by decide +kernel) (pa_cons (pv 1) (pa_cons (pe_bltn (v := .ty "str") (by rfl) T.z_str (by decide +kernel) rfl) pa_nil))))) (pw_or1 (pt_cmp (pc_dnotin (hu_of hr) (pv 1) (pe_fld (pv 0) rfl)))))) (pss_one (rsx (by rfl) (takes_of rfl rfl rfl rfl) hP T.y_NoTable.1 hr (pa_cons (pv 1) pa_nil))) pss_nil)
      (pss_one (ps_ret (pe_dget (hu_of hr) (pe_fld (pv 0) rfl) (pv 1) (fun _ _ => rfl))))), ?_⟩
    refine ⟨_, rfl, _, _, _, _, _, rfl, .ty _, Dp.ty hd, kit_d K .str d, _, rfl, ?_⟩
    by_cases w0 : ∃ z, d = .str z
    · obtain ⟨z, rfl⟩ := w0
      cases hd
      refine iteF ?_
      have hg := DGet.k (k := .inr z) C.hw
      rw [val_w] at hg
      refine ⟨_, rfl, _, rfl, _, _, _, _, _, rfl, C.hx, T.o_Schema.cl, T.n_Schema_widths, scF_widths, _, _, rfl, hg, _, rfl, ?_⟩
      cases hf : findS rs z with
      | none =>
        refine iteT ?_
        exact ⟨_, rfl, _, rfl, fun dd nd => hE (by show (findS rs z).isSome = false; rw [hf]; rfl) dd _ (same_upd nd) upd_same⟩
      | some s =>
        rw [hf] at hg
        refine iteF ?_
        exact ⟨_, rfl, _, _, _, _, _, rfl, C.hx, T.o_Schema.cl, T.n_Schema_widths, scF_widths, _, rfl, _, _, rfl, hg, hQ z s rfl hf⟩
    · have e2 : isTy .str d = false := by
        cases d <;> first | rfl | exact absurd ⟨_, rfl⟩ w0
      rw [e2]
      refine iteT ?_
      exact ⟨_, rfl, _, rfl, fun dd nd => hE (by cases d <;> first | rfl | exact absurd ⟨_, rfl⟩ w0) dd _ (same_upd nd) upd_same⟩
def spScRules (K : PySem.W.Frag) : Sp := fun vs H Q E => ∃ x dx dw dl rs v d, vs = [.ref x, v] ∧ ScAt K H x dx dw dl rs ∧ Dp K H v d ∧ (inS rs d = false → ∀ dd H', Same H H' → H' dd = some (xName v) → E (.ref (ga K "NoTable")) (some dd) H') ∧
  ∀ z s, d = .str z → findS rs z = some s → s.as.length ≤ 1000 ∧ ∀ y dy n H', Same H H' → H y = none → H n = none → y ≠ n → CdAt K H' y dy n (dd s.as) → Q (.ref y) H'
theorem d_sc_rules (hP : PF P "/claim/cut.py") (T : Txt K mg) : FnR P w K mg base (L2.CX P w) 7 (ma K (ga K "Schema") "rules") (spScRules K) := by
  obtain ⟨fd, F⟩ := T.f_Schema_rules
  have D_cd := d_cd1 (P := P) (w := w) (base := base) T
  have D_atoms := d_atoms (P := P) (w := w) (base := base) T
  refine fnN F (fun _ _ _ _ _ _ us hl => match us, hl with | [_, _], _ => rfl) sc_Schema_rules (fun vs H Q E h => ?_) (fun cdv A outer s H vs Q E hr h => ?_)
  · obtain ⟨x, dx, dw, dl, rs, v, d, rfl, _⟩ := h
    rfl
  · obtain ⟨x, dx, dw, dl, rs, v, d, rfl, C, hd, hE, hQ⟩ := h
    refine ⟨_, (pss_cons (ps_if (PW.pt (pw_or (pt_not (pt_val (pe_callB call_isi (by rfl) T.z_isinstance (by decide +kernel) (pa_cons (pv 1) (pa_cons (pe_bltn (v := .ty "str") (by rfl) T.z_str (by decide +kernel) rfl) pa_nil))))) (pw_or1 (pt_cmp (pc_dnotin (hu_of hr) (pv 1) (pe_fld (pv 0) rfl)))))) (pss_one (rsx (by rfl) (takes_of rfl rfl rfl rfl) hP T.y_NoTable.1 hr (pa_cons (pv 1) pa_nil))) pss_nil)
      (pss_one (ps_ret (pe_makeE T.m_Conditions D_cd hr T.g_Conditions pxq (pa_cons (pe_methE0 (pe_dget (hu_of hr) (pe_fld (pv 0) rfl) (pv 1) (fun _ _ => rfl)) T.o_Conditions.cl T.h_Conditions_atoms D_atoms (hr.mono (by decide)) (fun _ _ _ _ _ _ _ h => h.elim : ∀ σ, PassesAt CX0 _ σ ((fun _ => E0) σ))) pa_nil))))), ?_⟩
    refine ⟨_, rfl, _, _, _, _, _, rfl, .ty _, Dp.ty hd, kit_d K .str d, _, rfl, ?_⟩
    by_cases w0 : ∃ z, d = .str z
    · obtain ⟨z, rfl⟩ := w0
      cases hd
      refine iteF ?_
      have hg := DGet.k (k := .inr z) C.hw
      rw [val_w] at hg
      refine ⟨_, rfl, _, rfl, _, _, _, _, _, rfl, C.hx, T.o_Schema.cl, T.n_Schema_widths, scF_widths, _, _, rfl, hg, _, rfl, ?_⟩
      cases hf : findS rs z with
      | none =>
        refine iteT ?_
        exact ⟨_, rfl, _, rfl, fun dd nd => hE (by show (findS rs z).isSome = false; rw [hf]; rfl) dd _ (same_upd nd) upd_same⟩
      | some s =>
        have hg2 := DGet.k (k := .inr z) C.hl
        rw [val_l, hf] at hg2
        obtain ⟨hlen, hQ⟩ := hQ z s rfl hf
        have Cs := C.hc s (findS_mem hf).1
        refine iteF ?_
        refine ⟨_, rfl, _, _, _, _, _, rfl, C.hx, T.o_Schema.cl, T.n_Schema_limits, scF_limits, _, rfl, _, _, rfl, hg2, _, _, _, rfl, Cs.hx, cdF_no (by decide), s.c, s.dc, s.l, s.as, rfl, Cs, fun p us H1 np s1 e1 a1 => ?_⟩
        refine mkCd (Q := fun z H' => Q (.ref z) H') (as := s.as) (.inl (SqL.of e1)) a1 Cs.ok hlen fun y dy n H' s' ny nn hyn CD => ?_
        exact hQ y dy n H' (s1.trans s') (s1.free ny) (s1.free nn) hyn CD
    · have e2 : isTy .str d = false := by
        cases d <;> first | rfl | exact absurd ⟨_, rfl⟩ w0
      rw [e2]
      refine iteT ?_
      exact ⟨_, rfl, _, rfl, fun dd nd => hE (by cases d <;> first | rfl | exact absurd ⟨_, rfl⟩ w0) dd _ (same_upd nd) upd_same⟩

end
end K09
namespace K09
open PySem PySem.Spec PyProof.Rows L2 He TL EL
section
variable {P : Program} {w : World} {K : PySem.W.Frag} {mg : Str → Option Value} {base : Heap}
/-! Schema.add -/
def addOk (rs : List Sch) (d c : PyData) : Bool := isWordD d && (!inS rs d && colOk c)
def RulV (K : PySem.W.Frag) (H : Hp) (v : V) (as : List At) : Prop := (v = .non ∧ as = []) ∨ ∃ y dy m, v = .ref y ∧ CdAt K H y dy m as
def colN : PyData → Nat
  | .int i => i.toNat
  | _ => 0
def spAdd (K : PySem.W.Frag) : Sp := fun vs H Q E => ∃ x dx dw dl rs vn vc vr d c as, vs = [.ref x, vn, vc, vr] ∧ ScAt K H x dx dw dl rs ∧ Dp K H vn d ∧ Dp K H vc c ∧ (∀ z, d = .str z → z.length ≤ 100000) ∧ RulV K H vr as ∧ rs.length ≤ 1000 ∧ as.length ≤ 1000 ∧ dw ≠ dl ∧
  (addOk rs d c = false → ∀ dd H', Same H H' → H' dd = some (xName vn) → E (.ref (ga K "NoTable")) (some dd) H') ∧
  (addOk rs d c = true → as.all (At.fits (pn1 (colN c))) = false → ∀ H', Same H H' → E (.ref (ga K "NoCondition")) none H') ∧
  (∀ z, d = .str z → addOk rs d c = true → as.all (At.fits (pn1 (colN c))) = true → ∀ y dy l H', Md [dw, dl] H H' → H y = none → H l = none → y ≠ l → ScAt K H' x dx dw dl (rs ++ [⟨z, colN c, y, dy, l, dd as⟩]) → Q .non H')
theorem sc_ne {H : Hp} {x dx dw dl : Addr} {rs : List Sch} (C : ScAt K H x dx dw dl rs) : x ≠ dw ∧ x ≠ dl ∧ ∀ s ∈ rs, s.c ∉ [dw, dl] ∧ s.l ∉ [dw, dl] := by
  refine ⟨ne_of C.hx C.hw (by intro z; cases z), ne_of C.hx C.hl (by intro z; cases z), fun s hs => ?_⟩
  obtain ⟨v, e, _⟩ := (C.hc s hs).hl
  have h1 := (C.hc s hs).hx
  have a1 : s.c ≠ dw := ne_of h1 C.hw (by intro z; cases z)
  have a2 : s.c ≠ dl := ne_of h1 C.hl (by intro z; cases z)
  have a3 : s.l ≠ dw := ne_of e C.hw (by intro z; cases z)
  have a4 : s.l ≠ dl := ne_of e C.hl (by intro z; cases z)
  exact ⟨by simp [a1, a2], by simp [a3, a4]⟩
theorem d_sc_add (hP : PF P "/claim/cut.py") (T : Txt K mg) : ∃ fd, FunD K "add" "Schema.add" (defArgs s_Schema_add) (defBody s_Schema_add) (defScope s_Schema_add) ([.non] : List V) [] (ma K (ga K "Schema") "add") fd ∧
    FnOk P w K mg base (L2.CX P w) 7 (ma K (ga K "Schema") "add") fd ["self", "name", "columns", "rules"] (spAdd K) := by
  obtain ⟨fd, F⟩ := T.f_Schema_add
  have D_is_word := d_is_word (P := P) (w := w) (base := base) T
  have D_is_column_count := d_col (P := P) (w := w) (base := base) T
  have D_are_row_rules := d_rowrules (P := P) (w := w) (base := base) T
  have D_cd := d_cd1 (P := P) (w := w) (base := base) T
  have D_cd0 := d_cd0 (P := P) (w := w) (base := base) T
  have D_atoms := d_atoms (P := P) (w := w) (base := base) T
  refine ⟨fd, F, F.ok sc_Schema_add (fun vs H Q E h => ?_) (fun cdv A outer s H vs Q E hr h => ?_)⟩
  · obtain ⟨x, dx, dw, dl, rs, vn, vc, vr, d, c, as, rfl, _⟩ := h
    rfl
  · obtain ⟨x, dx, dw, dl, rs, vn, vc, vr, d, c, as, rfl, C, hd, hc, hlz, hrv, hrl, hal, hne, hE1, hE2, hQ⟩ := h
    refine ⟨_, (pss_cons (ps_if (PW.pt (pw_or (pt_not (pt_val (cl D_is_word (hr.mono (by decide)) (pa_cons (pv 1) pa_nil)))) (pw_or (pt_cmp (pc_din (hu_of hr) (pv 1) (pe_fld (pv 0) rfl))) (pw_or1 (pt_not (pt_val (cl D_is_column_count (hr.mono (by decide)) (pa_cons (pv 2) pa_nil)))))))) (pss_one (rsx (by rfl) (takes_of rfl rfl rfl rfl) hP T.y_NoTable.1 hr (pa_cons (pv 1) pa_nil))) pss_nil)
      (pss_mid (ps_if (pt_cmpR op_isN (pv 3) pe_non (nomark _)) (pss_one (ps_set (i := 3) sc_Schema_add.nd rfl (.inl rfl) (pe_makeE0 T.m_Conditions D_cd0 hr T.g_Conditions pxq))) pss_nil)
      (pss_cons (ps_if (pt_not (pt_val (cl D_are_row_rules (hr.mono (by decide)) (pa_cons (pv 3) (pa_cons (pv 2) pa_nil))))) (pss_one (EL.rs (by rfl) (takes_of rfl rfl rfl rfl) T.x_NoCondition (by rfl))) pss_nil)
      (pss_cons (ps_dput (hu_of hr) (pe_fld (pv 0) rfl) (pv 1) (pv 2) rfl)
      (pss_one (ps_dput (hu_of hr) (pe_fld (pv 0) rfl) (pv 1) (pe_makeE T.m_Conditions D_cd hr T.g_Conditions pxq (pa_cons (pe_methE0 (pv 3) T.o_Conditions.cl T.h_Conditions_atoms D_atoms (hr.mono (by decide)) px0) pa_nil)) rfl)))))), ?_⟩
    have bad : addOk rs d c = false → ∀ dd, H dd = none → E (.ref (ga K "NoTable")) (some dd) (upd H dd (xName vn)) := fun z dd nd => hE1 z dd _ (same_upd nd) upd_same
    refine ⟨_, rfl, vn, d, rfl, hd, hlz, _, rfl, ?_⟩
    cases hw : isWordD d with
    | false =>
      refine iteT ?_
      exact ⟨_, rfl, _, rfl, fun dd nd => bad (by unfold addOk; rw [hw]; rfl) dd nd⟩
    | true =>
      refine iteF ?_
      obtain ⟨z, rfl⟩ : ∃ z, d = .str z := by cases d <;> first | exact ⟨_, rfl⟩ | cases hw
      cases hd
      have hg := DGet.k (k := .inr z) C.hw
      rw [val_w] at hg
      refine ⟨_, rfl, _, rfl, _, _, _, _, _, rfl, C.hx, T.o_Schema.cl, T.n_Schema_widths, scF_widths, _, _, rfl, hg, _, rfl, ?_⟩
      rw [Option.isSome_map]
      cases hi : (findS rs z).isSome with
      | true =>
        refine iteT ?_
        exact ⟨_, rfl, _, rfl, fun dd nd => bad (by unfold addOk; rw [hw, show inS rs (.str z) = true from hi]; rfl) dd nd⟩
      | false =>
        refine iteF ?_
        refine ⟨_, rfl, vc, c, rfl, hc, _, rfl, ?_⟩
        cases hco : colOk c with
        | false =>
          refine iteT ?_
          exact ⟨_, rfl, _, rfl, fun dd nd => bad (by unfold addOk; rw [hw, hco, Bool.and_false]; rfl) dd nd⟩
        | true =>
          refine iteF ?_
          have hA : addOk rs (.str z) c = true := by unfold addOk; rw [hw, show inS rs (.str z) = false from hi, hco]; rfl
          obtain ⟨ci, rfl⟩ : ∃ ci, c = .int ci := by cases c <;> first | exact ⟨_, rfl⟩ | cases hco
          cases hc
          have hci : 1 ≤ ci ∧ ci ≤ 3 := by
            have h : (decide (1 ≤ ci) && decide (ci ≤ 3)) = true := hco
            rw [Bool.and_eq_true, decide_eq_true_eq, decide_eq_true_eq] at h
            exact h
          have ecn : ci = (colN (.int ci) : Nat) := by show ci = ((ci.toNat : Nat) : Int); omega
          refine ⟨fun σ' H' => ∃ y dy m, σ' = [some (.ref x), some (.str z), some (.int ci), some (.ref y)] ∧ Same H H' ∧ CdAt K H' y dy m as, ?_, ?_⟩
          · rcases hrv with ⟨rfl, rfl⟩ | ⟨y, dy, m, rfl, Cy⟩
            · refine ⟨_, rfl, rfl, _, rfl, iteT ?_⟩
              refine mkCd (a := dflAt ("Conditions", some "__init__") 0 K) (vs := []) (as := []) (.inr (T.dc0 _)) .nil (fun t ht => by cases ht) (by decide) fun bz bdz bn HI sI _ _ _ CI => ?_
              exact ⟨bz, bdz, bn, rfl, sI, CI⟩
            · refine ⟨_, rfl, rfl, _, rfl, iteF ?_⟩
              exact ⟨y, dy, m, rfl, .refl _, Cy⟩
          · rintro σ' H1 ⟨y, dy, m, rfl, s1, Cy⟩
            rw [ecn]
            refine ⟨_, rfl, _, rfl, y, dy, m, as, colN (.int ci), rfl, Cy, fun H2 s2 => ?_⟩
            have s12 := s1.trans s2
            refine ⟨_, rfl, ?_⟩
            cases hf : as.all (At.fits (pn1 (colN (.int ci)))) with
            | false =>
              refine iteT ?_
              exact hE2 hA hf H2 s12
            | true =>
              refine iteF ?_
              have C2 := C.same s12
              obtain ⟨nx1, nx2, nss⟩ := sc_ne C2
              have hz : findS rs z = none := by
                cases hh : findS rs z with
                | none => rfl
                | some s => rw [hh] at hi; cases hi
              have lw : (dI (wI rs)).length = rs.length := by rw [List.length_map]; unfold wI; rw [List.length_map]
              have ll : (lK rs).length = rs.length := by unfold lK; rw [List.length_map]
              refine ⟨_, rfl, _, rfl, _, _, _, _, _, rfl, C2.hx, T.o_Schema.cl, T.n_Schema_widths, scF_widths, _, rfl, _, _, rfl, DPut.k (k := .inr z) C2.hw (by rw [lw]; exact Nat.lt_of_le_of_lt hrl (by decide)), ?_⟩
              rw [putK_new _ (by rw [val_w, hz]; rfl)]
              generalize eH3 : upd H2 dw _ = H3
              have m3 : Md [dw, dl] H2 H3 := eH3 ▸ Md.upd C2.hw rfl (by simp)
              have w3 : H3 dw = _ := eH3 ▸ upd_same
              have hx3 := m3.out _ _ C2.hx (by simp [nx1, nx2])
              have l3 : H3 dl = some (.dK (lK rs)) := by rw [← eH3, upd_ne (Ne.symm hne)]; exact C2.hl
              have hcy2 := Cy.same s2
              have nyw : y ≠ dw := ne_of hcy2.hx C2.hw (by intro z; cases z)
              have nmw : m ≠ dw := by obtain ⟨vv, e, _⟩ := hcy2.hl; exact ne_of e C2.hw (by intro z; cases z)
              have m3' : Md [dw] H2 H3 := eH3 ▸ Md.upd C2.hw rfl (by simp)
              have hcy3 : CdAt K H3 y dy m as := hcy2.md m3' (by simp [nyw]) (by simp [nmw])
              refine ⟨_, rfl, _, _, _, rfl, hcy3.hx, cdF_no (by decide), y, dy, m, as, rfl, hcy3, fun p us H4 np s4 e4 a4 => ?_⟩
              refine mkCd (as := as) (.inl (SqL.of e4)) a4 hcy3.ok hal fun q dq n H5 s5 nq nn hqn CD => ?_
              have s35 := s4.trans s5
              have l5 := s35 _ _ l3
              refine ⟨_, rfl, _, _, _, _, _, rfl, s35 _ _ hx3, T.o_Schema.cl, T.n_Schema_limits, scF_limits, _, rfl, _, _, rfl, DPut.k (k := .inr z) l5 (by rw [ll]; exact Nat.lt_of_le_of_lt hrl (by decide)), ?_⟩
              rw [putK_new _ (by rw [val_l, hz]; rfl)]
              generalize eH6 : upd H5 dl _ = H6
              have m6 : Md [dw, dl] H5 H6 := eH6 ▸ Md.upd l5 rfl (by simp)
              have l6 : H6 dl = _ := eH6 ▸ upd_same
              have mm : Md [dw, dl] H H6 := (Md.of s12).trans (m3.trans ((Md.of s35).trans m6))
              have fr : ∀ {b : Addr}, H4 b = none → H b = none := fun {b} hb => by
                cases hh : H b with
                | none => rfl
                | some ob =>
                  by_cases e1 : b = dw
                  · rw [e1, s4 _ _ w3] at hb; cases hb
                  · rw [s4 _ _ (m3'.out _ _ (s12 _ _ hh) (by simp [e1]))] at hb; cases hb
              have nq' : q ∉ [dw, dl] := by
                have h1 : q ≠ dw := fun z => by rw [z, s4 _ _ w3] at nq; cases nq
                have h2 : q ≠ dl := fun z => by rw [z, s4 _ _ l3] at nq; cases nq
                simp [h1, h2]
              have nn' : n ∉ [dw, dl] := by
                have h1 : n ≠ dw := fun z => by rw [z, s4 _ _ w3] at nn; cases nn
                have h2 : n ≠ dl := fun z => by rw [z, s4 _ _ l3] at nn; cases nn
                simp [h1, h2]
              refine hQ z rfl hA hf q dq n H6 mm (fr nq) (fr nn) hqn ⟨m6.out _ _ (s35 _ _ hx3) (by simp [nx1, nx2]), ?_, ?_, fun t ht => ?_⟩
              · rw [← eH6, upd_ne hne, s35 _ _ w3]
                unfold wI dI
                rw [List.map_append, List.map_append]
                rfl
              · rw [l6]
                unfold lK
                rw [List.map_append]
                rfl
              · rcases List.mem_append.mp ht with ht | ht
                · exact (((C2.hc t ht).md m3 (nss t ht).1 (nss t ht).2).same s35).md m6 (nss t ht).1 (nss t ht).2
                · cases List.mem_singleton.mp ht
                  exact CD.md m6 nq' nn'

end
end K09
namespace K09
open PySem PySem.Spec PyProof.Rows L2 He TL EL
section
variable {P : Program} {w : World} {K : PySem.W.Frag} {mg : Str → Option Value} {base : Heap}
/-! Schema.narrow -/
def setS (rs : List Sch) (z : Str) (q dq n : Addr) (as : List At) : List Sch := rs.map fun s => if s.nm = z then ⟨s.nm, s.n, q, dq, n, as⟩ else s
theorem wI_set (rs : List Sch) (z : Str) (q dq n : Addr) (as : List At) : wI (setS rs z q dq n as) = wI rs := by
  unfold wI setS
  rw [List.map_map]
  refine List.map_congr_left fun s _ => ?_
  show (Sum.inr (if s.nm = z then (⟨s.nm, s.n, q, dq, n, as⟩ : Sch) else s).nm, ((if s.nm = z then (⟨s.nm, s.n, q, dq, n, as⟩ : Sch) else s).n : Int)) = _
  split <;> rfl
theorem lK_set (rs : List Sch) (z : Str) (q dq n : Addr) (as : List At) (h : (findS rs z).isSome = true) : putK (lK rs) (.inr z) (.ref q) = lK (setS rs z q dq n as) := by
  unfold putK
  rw [valV_any, val_l, Option.isSome_map, h, if_pos rfl]
  unfold lK setS
  rw [List.map_map, List.map_map]
  refine List.map_congr_left fun s _ => ?_
  show (if (Sum.inr s.nm : Key) = .inr z then ((Sum.inr s.nm : Key), V.ref q) else (Sum.inr s.nm, V.ref s.c)) = (Sum.inr (if s.nm = z then (⟨s.nm, s.n, q, dq, n, as⟩ : Sch) else s).nm, V.ref (if s.nm = z then (⟨s.nm, s.n, q, dq, n, as⟩ : Sch) else s).c)
  by_cases e : s.nm = z
  · rw [if_pos e, if_pos (by rw [e])]
  · rw [if_neg e, if_neg (fun h => e (Sum.inr.inj h))]
def spNarrow (K : PySem.W.Frag) : Sp := fun vs H Q E => ∃ x dx dw dl rs vn d y dy m as, vs = [.ref x, vn, .ref y] ∧ ScAt K H x dx dw dl rs ∧ Dp K H vn d ∧ CdAt K H y dy m as ∧ rs.length ≤ 1000 ∧ as.length ≤ 400 ∧ dw ≠ dl ∧
  (inS rs d = false → ∀ dd H', Same H H' → H' dd = some (xName vn) → E (.ref (ga K "NoTable")) (some dd) H') ∧
  (∀ z s, d = .str z → findS rs z = some s → s.as.length ≤ 400 ∧
    (as.all (At.fits (pn1 s.n)) = false → ∀ H', Same H H' → E (.ref (ga K "NoCondition")) none H') ∧
    (as.all (At.fits (pn1 s.n)) = true → ∀ q dq l H', Md [dl] H H' → H q = none → H l = none → q ≠ l → ScAt K H' x dx dw dl (setS rs z q dq l (dd (s.as ++ as))) → Q .non H'))
theorem d_sc_narrow (hP : PF P "/claim/cut.py") (T : Txt K mg) : FnR P w K mg base (L2.CX P w) 8 (ma K (ga K "Schema") "narrow") (spNarrow K) := by
  obtain ⟨fd, F⟩ := T.f_Schema_narrow
  have D_col := d_sc_col (P := P) (w := w) (base := base) hP T
  have D_are_row_rules := d_rowrules (P := P) (w := w) (base := base) T
  have D_and := d_and (P := P) (w := w) (base := base) T
  refine fnN F (fun _ _ _ _ _ _ us hl => match us, hl with | [_, _, _], _ => rfl) sc_Schema_narrow (fun vs H Q E h => ?_) (fun cdv A outer s H vs Q E hr h => ?_)
  · obtain ⟨x, dx, dw, dl, rs, vn, d, y, dy, m, as, rfl, _⟩ := h
    rfl
  · obtain ⟨x, dx, dw, dl, rs, vn, d, y, dy, m, as, rfl, C, hd, Cy, hrl, hal, hne, hE1, hQ⟩ := h
    refine ⟨_, (pss_cons (ps_set (i := 3) sc_Schema_narrow.nd rfl (.inl rfl) (pe_methE (pv 0) T.o_Schema.cl T.h_Schema_columns D_col (hr.mono (by decide)) (pxx (takes_of rfl rfl rfl rfl)) (pa_cons (pv 1) pa_nil)))
      (pss_cons (ps_if (pt_not (pt_val (cl D_are_row_rules (hr.mono (by decide)) (pa_cons (pv 2) (pa_cons (pv 3) pa_nil))))) (pss_one (EL.rs (by rfl) (takes_of rfl rfl rfl rfl) T.x_NoCondition (by rfl))) pss_nil)
      (pss_one (ps_dput (hu_of hr) (pe_fld (pv 0) rfl) (pv 1) (pe_op (op_binO T.sf_Conditions T.u_Conditions___and__.1 T.u_Conditions___and__.2 D_and hr pass0) (pe_dget (hu_of hr) (pe_fld (pv 0) rfl) (pv 1) (fun _ _ => rfl)) (pv 2)) rfl)))), ?_⟩
    refine ⟨_, rfl, _, _, _, rfl, C.hx, scF_no (by decide) (by decide), _, rfl, x, dx, dw, dl, rs, vn, d, rfl, C, hd, fun hi dd H' s' e' => hE1 hi dd H' s' e', fun z sc ez hf => ?_⟩
    obtain ⟨hl, hE2, hQ2⟩ := hQ z sc ez hf
    cases ez
    cases hd
    refine ⟨_, rfl, _, rfl, y, dy, m, as, sc.n, rfl, Cy, fun H2 s2 => ?_⟩
    refine ⟨_, rfl, ?_⟩
    cases hfit : as.all (At.fits (pn1 sc.n)) with
    | false =>
      refine iteT ?_
      exact hE2 hfit H2 s2
    | true =>
      refine iteF ?_
      have C2 := C.same s2
      have Cy2 := Cy.same s2
      obtain ⟨nx1, nx2, nss⟩ := sc_ne C2
      have hg2 := DGet.k (k := .inr z) C2.hl
      rw [val_l, hf] at hg2
      have Cs := C2.hc sc (findS_mem hf).1
      have ll : (lK rs).length = rs.length := by unfold lK; rw [List.length_map]
      refine ⟨_, rfl, _, _, _, _, _, rfl, C2.hx, T.o_Schema.cl, T.n_Schema_limits, scF_limits, _, rfl, _, _, rfl, hg2, _, rfl, _, _, _, _, _, _, rfl, rfl, Cs.hx, Cy2.hx, _, _, _, _, _, _, _, _, rfl, Cs, Cy2, hl, hal, fun q dq n H3 s3 nq nn hqn CD => ?_⟩
      have C3 := C2.same s3
      refine ⟨_, rfl, _, _, _, _, _, rfl, C3.hx, T.o_Schema.cl, T.n_Schema_limits, scF_limits, _, rfl, _, _, rfl, DPut.k (k := .inr z) C3.hl (by rw [ll]; exact Nat.lt_of_le_of_lt hrl (by decide)), ?_⟩
      have hsm : (findS rs z).isSome = true := by rw [hf]; rfl
      rw [lK_set rs z q dq n (dd (sc.as ++ as)) hsm]
      generalize eH4 : upd H3 dl _ = H4
      have m4 : Md [dl] H3 H4 := eH4 ▸ Md.upd C3.hl rfl (by simp)
      have l4 : H4 dl = _ := eH4 ▸ upd_same
      have s23 := s2.trans s3
      have nql : q ≠ dl := fun z => by rw [z, C2.hl] at nq; cases nq
      have nnl : n ≠ dl := fun z => by rw [z, C2.hl] at nn; cases nn
      refine hQ2 hfit q dq n H4 ((Md.of s23).trans m4) (s2.free nq) (s2.free nn) hqn ⟨m4.out _ _ C3.hx (by simp [nx2]), ?_, l4, fun t ht => ?_⟩
      · rw [wI_set]
        exact m4.out _ _ C3.hw (by simp [hne])
      · unfold setS at ht
        obtain ⟨u, hu, rfl⟩ := List.mem_map.mp ht
        by_cases e : u.nm = z
        · rw [if_pos e]
          exact CD.md m4 (by simp [nql]) (by simp [nnl])
        · rw [if_neg e]
          have k1 : u.c ≠ dl := fun h => (nss u hu).1 (by simp [h])
          have k2 : u.l ≠ dl := fun h => (nss u hu).2 (by simp [h])
          exact (C3.hc u hu).md m4 (by simp [k1]) (by simp [k2])

end
end K09
namespace K09
open PySem PySem.Spec PyProof.Rows L2 He TL EL
section
variable {P : Program} {w : World} {K : PySem.W.Frag} {mg : Str → Option Value} {base : Heap}
/-! Schema.__eq__ -/
def keyS (s : Sch) : Str × Nat × List At := (s.nm, s.n, s.as)
def nmS (rs : List Sch) : List Str := rs.map Sch.nm
theorem findS_of {ss : List Sch} (nd : (nmS ss).Nodup) {t : Sch} (h : t ∈ ss) : findS ss t.nm = some t := by
  induction ss with
  | nil => cases h
  | cons s r ih =>
    obtain ⟨n1, n2⟩ := List.nodup_cons.mp nd
    unfold findS
    rw [List.find?_cons]
    rcases List.mem_cons.mp h with rfl | h
    · simp
    · have e : s.nm ≠ t.nm := fun z => n1 (by show s.nm ∈ r.map Sch.nm; rw [z]; exact List.mem_map_of_mem h)
      simp only [e, decide_false]
      exact ih n2 h
theorem nm_get {rs ss : List Sch} (e : nmS rs = nmS ss) {i : Nat} {s : Sch} (h : rs[i]? = some s) : ∃ t, ss[i]? = some t ∧ t.nm = s.nm := by
  have h1 : (nmS rs)[i]? = some s.nm := by unfold nmS; rw [List.getElem?_map, h]; rfl
  rw [e] at h1
  exact getM h1
def bsL (rs ss : List Sch) : List Bool := (rs.zip ss).map fun p => decide (p.1.as = p.2.as)
def nsB (rs ss : List Sch) : Bool := (rs.zip ss).all fun p => decide (p.1.n = p.2.n)
theorem bsL_get {rs ss : List Sch} {i : Nat} {s t : Sch} (h1 : rs[i]? = some s) (h2 : ss[i]? = some t) : (bsL rs ss)[i]? = some (decide (s.as = t.as)) := by
  unfold bsL
  rw [List.getElem?_map, (List.getElem?_zip_eq_some (z := (s, t))).mpr ⟨h1, h2⟩]
  rfl
theorem eqDI_all {ss : List Sch} : ∀ {rs' ss' : List Sch}, nmS rs' = nmS ss' → (∀ t ∈ ss', findS ss t.nm = some t) → eqDI (wI rs') (wI ss) = nsB rs' ss'
  | [], [], _, _ => rfl
  | [], _ :: _, e, _ => by cases e
  | _ :: _, [], e, _ => by cases e
  | s :: r, t :: u, e, h => by
    obtain ⟨e1, e2⟩ := List.cons_eq_cons.mp (show s.nm :: nmS r = t.nm :: nmS u from e)
    have ih := eqDI_all (ss := ss) e2 fun t ht => h t (by simp [ht])
    show (decide (valV (dI (wI ss)) (.inr s.nm) = some (.int (s.n : Nat))) && eqDI (wI r) (wI ss)) = (decide (s.n = t.n) && nsB r u)
    rw [ih, val_w, e1, h t (by simp)]
    congr 1
    exact decide_eq_decide.mpr ⟨fun z => by have := Option.some.inj z; have := V.int.inj this; omega, fun z => by rw [z]; rfl⟩
theorem keyS_eq : ∀ {rs ss : List Sch}, nmS rs = nmS ss → decide (rs.map keyS = ss.map keyS) = (nsB rs ss && (bsL rs ss).all id)
  | [], [], _ => rfl
  | [], _ :: _, e => by cases e
  | _ :: _, [], e => by cases e
  | s :: r, t :: u, e => by
    obtain ⟨e1, e2⟩ := List.cons_eq_cons.mp (show s.nm :: nmS r = t.nm :: nmS u from e)
    have ih := keyS_eq e2
    have h1 : nsB (s :: r) (t :: u) = (decide (s.n = t.n) && nsB r u) := rfl
    have h2 : (bsL (s :: r) (t :: u)).all id = (decide (s.as = t.as) && (bsL r u).all id) := rfl
    have h3 : decide ((s :: r).map keyS = (t :: u).map keyS) = (decide (s.n = t.n) && (decide (s.as = t.as) && decide (r.map keyS = u.map keyS))) := by
      rw [← Bool.decide_and, ← Bool.decide_and]
      refine decide_eq_decide.mpr ⟨fun z => ?_, fun z => ?_⟩
      · obtain ⟨a, b⟩ := List.cons_eq_cons.mp (show keyS s :: r.map keyS = keyS t :: u.map keyS from z)
        unfold keyS at a
        injection a with _ a
        injection a with a1 a2
        exact ⟨a1, a2, b⟩
      · show keyS s :: r.map keyS = keyS t :: u.map keyS
        rw [z.2.2]
        unfold keyS
        rw [e1, z.1, z.2.1]
    rw [h3, h1, h2, ih]
    cases decide (s.n = t.n) <;> cases decide (s.as = t.as) <;> cases nsB r u <;> rfl
theorem keyS_nm {rs ss : List Sch} (e : ¬ nmS rs = nmS ss) : decide (rs.map keyS = ss.map keyS) = false := by
  refine decide_eq_false fun z => e ?_
  have := congrArg (List.map Prod.fst) z
  rw [List.map_map, List.map_map] at this
  exact this
theorem pds_str {ns : List Str} (h : ∀ z ∈ ns, PyData.strOk z = true) : Pds (ns.map PyData.str) := fun d hd => by
  obtain ⟨a, ha, rfl⟩ := List.mem_map.mp hd
  exact ⟨rfl, h a ha, by show 0 ≤ 16; decide⟩
theorem dp_str {H : Hp} : ∀ ns : List Str, DpAll K H (ns.map V.str) (ns.map PyData.str)
  | [] => .nil
  | _ :: r => .cons (.str _) (dp_str r)
theorem eqv_strs : ∀ as bs : List Str, PyData.eqv (.list (as.map PyData.str)) (.list (bs.map PyData.str)) = decide (as = bs)
  | [], [] => rfl
  | [], _ :: _ => rfl
  | _ :: _, [] => rfl
  | t :: ts, u :: us => by
    show ((t == u) && PyData.eqv (.list (ts.map PyData.str)) (.list (us.map PyData.str))) = _
    rw [eqv_strs ts us, show (t == u) = decide (t = u) from rfl, ← Bool.decide_and]
    exact decide_eq_decide.mpr ⟨fun h => by rw [h.1, h.2], fun h => by cases h; exact ⟨rfl, rfl⟩⟩
theorem nmS_map (rs : List Sch) : (rs.map fun s => V.str s.nm) = (nmS rs).map V.str := by
  unfold nmS
  rw [List.map_map]
  rfl
def spScEq (K : PySem.W.Frag) : Sp := fun vs H Q _ => ∃ x dx dw dl rs y dy ew el ss, vs = [.ref x, .ref y] ∧ ScAt K H x dx dw dl rs ∧ ScAt K H y dy ew el ss ∧ (nmS rs).Nodup ∧ (nmS ss).Nodup ∧ (∀ z ∈ nmS rs, PyData.strOk z = true) ∧ (∀ z ∈ nmS ss, PyData.strOk z = true) ∧ dw ≠ dl ∧ dw ≠ el ∧ rs.length ≤ 1000 ∧ ∀ H', Same H H' → Q (.bl (decide (rs.map keyS = ss.map keyS))) H'
theorem d_sc_eq (T : Txt K mg) : FnR P w K mg base CX0 3 (ma K (ga K "Schema") "__eq__") (spScEq K) := by
  obtain ⟨fd, F⟩ := T.f_Schema___eq__
  have D_cdeq := d_cd_eq (P := P) (w := w) (base := base) T
  refine fnN F (fun _ _ _ _ _ _ us hl => match us, hl with | [_, _], _ => rfl) sc_Schema___eq__ (fun vs H Q E h => ?_) (fun cdv A outer s H vs Q E hr h => ?_)
  · obtain ⟨x, dx, dw, dl, rs, y, dy, ew, el, ss, rfl, _⟩ := h
    rfl
  · obtain ⟨x, dx, dw, dl, rs, y, dy, ew, el, ss, rfl, C, D, nd1, nd2, ok1, ok2, hne, hne2, hrl, hQ⟩ := h
    refine ⟨_, PSs.nox (pss_cons (ps_if (PW.pt (pw_or (pt_not (pt_val (pe_callB call_isi (by rfl) T.z_isinstance (by decide +kernel) (pa_cons (pv 1) (pa_cons (pe_glob (v := .ref (ga K "Schema")) (by rfl) T.g_Schema rfl) pa_nil))))) (pw_or1 (pt_cmpR (op_neD hr.units) (pe_callTy (call_list_dK rfl) (by rfl) T.z_list (by decide +kernel) (pa_cons (pe_fld (pv 0) rfl) pa_nil)) (pe_callTy (call_list_dK rfl) (by rfl) T.z_list (by decide +kernel) (pa_cons (pe_fld (pv 1) rfl) pa_nil)) (nomark _))))) (pss_one (ps_ret pe_bl)) pss_nil)
      (pss_one (ps_ret (pe_and (pe_cmpR (op_eqDI hr.units0) (pe_fld (pv 0) rfl) (pe_fld (pv 1) rfl) (nomark _)) (pe_one (pe_callB (cr_all rfl) (by rfl) T.z_all (by decide +kernel) (pa_cons (pe_lock (pe_lc (own := [("name", 2)]) (tt := tYes) (by rfl) sc_Schema___eq__.nd (pi_keys (pe_fld (pv 0) rfl)) (blkOk_by (own := [("name", 2)]) (N := ["self", "other", "name"]) (sc := defScope s_Schema___eq__) (by decide +kernel)) (fun _ _ _ _ _ => (pg_name (i := 2) sc_Schema___eq__.nd rfl (.inl rfl))) (fun _ _ _ _ _ => pts_nil) (fun _ _ _ _ _ => (pe_cmpR (show OpR _ (compareOp .Eq) (rCmpO K (ga K "Conditions") (spCdEq K) E0) from op_cmpO (fun _ _ => rfl) T.u_Conditions___eq__.1 T.u_Conditions___eq__.2 D_cdeq (hr.mono (by decide)) pass0) (pe_dget (hu_of hr) (show PE _ _ (tFld K _ "limits") from pe_fld (pv 0) rfl) (pv 2) (fun _ _ => rfl)) (pe_dget (hu_of hr) (show PE _ _ (tFld K _ "limits") from pe_fld (pv 1) rfl) (pv 2) (fun _ _ => rfl)) (nomark _))))) pa_nil))))))), ?_⟩
    refine ⟨_, rfl, _, _, _, _, _, rfl, .own _, T.o_Schema.ty D.hx, T.o_Schema.self, _, rfl, iteF ?_⟩
    refine ⟨_, rfl, _, _, _, _, _, rfl, C.hx, T.o_Schema.cl, T.n_Schema_widths, scF_widths, _, _, rfl, C.hw, fun p np => ?_⟩
    rw [keys_w, nmS_map]
    generalize eH1 : upd H p _ = H1
    have s1 : Same H H1 := eH1 ▸ same_upd np
    have e1 : H1 p = some _ := eH1 ▸ upd_same
    have D1 := D.same s1
    refine ⟨_, rfl, _, _, _, _, _, rfl, D1.hx, T.o_Schema.cl, T.n_Schema_widths, scF_widths, _, _, rfl, D1.hw, fun q nq => ?_⟩
    rw [keys_w, nmS_map]
    generalize eH2 : upd H1 q _ = H2
    have s2 : Same H1 H2 := eH2 ▸ same_upd nq
    have e2 : H2 q = some _ := eH2 ▸ upd_same
    refine ⟨_, _, .lst (SqL.of (s2 _ _ e1)) (dp_str _), .lst (SqL.of e2) (dp_str _), (pds_str ok1).shaped, (pds_str ok2).shaped, ?_⟩
    rw [eqv_strs]
    have s02 := s1.trans s2
    have C2 := C.same s02
    have D2 := D.same s02
    by_cases en : nmS rs = nmS ss
    · rw [decide_eq_true en]
      refine ⟨_, rfl, iteF ?_⟩
      have el0 : rs.length = ss.length := by
        have := congrArg List.length en
        unfold nmS at this
        rw [List.length_map, List.length_map] at this
        exact this
      have ek := keyS_eq en
      have lw : (wI rs).length = (wI ss).length := by unfold wI; rw [List.length_map, List.length_map, el0]
      refine ⟨_, rfl, _, _, _, _, _, rfl, C2.hx, T.o_Schema.cl, T.n_Schema_widths, scF_widths, _, rfl, _, _, _, _, _, rfl, D2.hx, T.o_Schema.cl, T.n_Schema_widths, scF_widths, _, _, _, _, rfl, rfl, C2.hw, D2.hw, ?_⟩
      rw [decide_eq_true lw, Bool.true_and, eqDI_all (ss := ss) en (fun t ht => findS_of nd2 ht)]
      cases hns : nsB rs ss with
      | false =>
        rw [hns, Bool.false_and] at ek
        refine ⟨_, rfl, iteF ?_⟩
        exact ek ▸ hQ H2 s02
      | true =>
        rw [hns, Bool.true_and] at ek
        refine ⟨_, rfl, iteT ?_⟩
        refine ⟨dw, _, C2.hw, trivial, fun od => ?_⟩
        generalize eH3 : upd H2 dw _ = H3
        have k3 : H3 dw = some (.frz od (.dK (dI (wI rs)))) := eH3 ▸ upd_same
        have m3 : Md [dw] H2 H3 := eH3 ▸ Md.upd C2.hw rfl (by simp)
        obtain ⟨nx1, nx2, nss⟩ := sc_ne C2
        have nyw : y ≠ dw := ne_of D2.hx C2.hw (by intro z; cases z)
        refine ⟨_, rfl, _, _, _, _, _, rfl, m3.out _ _ C2.hx (by simp [nx1]), T.o_Schema.cl, T.n_Schema_widths, scF_widths, _, _, rfl, .inl ⟨_, k3, fun L nL => ?_⟩⟩
        have nL2 : H2 L = none := by
          rw [← eH3] at nL
          by_cases z : L = dw
          · rw [z, upd_same] at nL; cases nL
          · rw [upd_ne z] at nL; exact nL
        have nLd : dw ≠ L := fun z => by rw [← z, C2.hw] at nL2; cases nL2
        have lz : (bsL rs ss).length = rs.length := by
          unfold bsL
          rw [List.length_map, List.length_zip, ← el0, Nat.min_self]
        have lwr : (dI (wI rs)).length = rs.length := by rw [List.length_map]; unfold wI; rw [List.length_map]
        refine lc_it walk_keys (fun i H' => H' = upd H3 L (.lst (((bsL rs ss).take i).map V.bl))) rfl (fun i H' _ e => by rw [e, upd_ne nLd]; exact k3) ?_ ?_
        · rintro i xv H' H'' hi e ⟨e', k, v, hg, rfl⟩
          subst e' e
          have sL : Same H3 (upd H3 L (.lst (((bsL rs ss).take i).map V.bl))) := same_upd nL
          obtain ⟨kv, hg, ekv⟩ := getM hg
          obtain ⟨r, hr0, rfl⟩ := getM (show (rs.map fun s => ((Sum.inr s.nm : Key), (s.n : Int)))[i]? = some kv from hg)
          cases ekv
          obtain ⟨t, ht, etn⟩ := nm_get en hr0
          have hfr : findS rs r.nm = some r := findS_of nd1 (List.mem_of_getElem? hr0)
          have hft : findS ss r.nm = some t := etn ▸ findS_of nd2 (List.mem_of_getElem? ht)
          have fit : ∀ {S : Addr} {o : HO}, H2 S = some o → S ≠ dw → upd H3 L (.lst (((bsL rs ss).take i).map V.bl)) S = some o := fun h n => sL _ _ (m3.out _ _ h (by simp [n]))
          have g1 := DGet.k (k := .inr r.nm) (fit C2.hl (Ne.symm hne))
          have g2 := DGet.k (k := .inr r.nm) (fit D2.hl (Ne.symm hne2))
          rw [val_l, hfr] at g1
          rw [val_l, hft] at g2
          have c1 := C2.hc r (List.mem_of_getElem? hr0)
          have c2 := D2.hc t (List.mem_of_getElem? ht)
          have nc : ∀ {c dc l : Addr} {as : List At}, CdAt K H2 c dc l as → c ∉ [dw] ∧ l ∉ [dw] := fun {c dc l as} h => by
            have a1 : c ≠ dw := ne_of h.hx C2.hw (by intro z; cases z)
            obtain ⟨vv, e, _⟩ := h.hl
            have a2 : l ≠ dw := ne_of e C2.hw (by intro z; cases z)
            exact ⟨by simp [a1], by simp [a2]⟩
          have c1' := (c1.md m3 (nc c1).1 (nc c1).2).same sL
          have c2' := (c2.md m3 (nc c2).1 (nc c2).2).same sL
          refine ⟨rfl, tYes_of ?_⟩
          refine ⟨_, rfl, _, _, _, _, _, rfl, fit C2.hx nx1, T.o_Schema.cl, T.n_Schema_limits, scF_limits, _, rfl, _, _, rfl, g1, _, rfl, _, _, _, _, _, rfl, fit D2.hx nyw, T.o_Schema.cl, T.n_Schema_limits, scF_limits, _, rfl, _, _, rfl, g2, _, _, _, _, rfl, c1'.hx, T.o_Conditions.ty c2'.hx, T.nf_Conditions, _, _, _, _, _, _, _, _, rfl, c1', c2', _, upd_same, ?_, ?_⟩
          · rw [List.length_map, List.length_take]
            exact Nat.lt_of_le_of_lt (Nat.min_le_right _ _) (by rw [lz]; exact Nat.lt_of_le_of_lt hrl (by decide))
          · rw [upd_upd, tk1 (bsL_get hr0 ht), List.map_append]
            rfl
        · rintro H' e
          subst e
          rw [lwr, ← lz, List.take_length]
          refine ⟨by rw [upd_ne nLd]; exact k3, ?_⟩
          have e6 : upd (upd H3 L (.lst ((bsL rs ss).map V.bl))) dw (.dK (dI (wI rs))) = upd H2 L (.lst ((bsL rs ss).map V.bl)) := by
            rw [← eH3]
            funext b
            unfold L2.upd
            by_cases z1 : b = dw
            · rw [if_pos z1, if_neg (by rw [z1]; exact nLd), z1, C2.hw]
            · rw [if_neg z1]
              by_cases z2 : b = L
              · rw [if_pos z2, if_pos z2]
              · rw [if_neg z2, if_neg z2, if_neg z1]
          rw [e6]
          have s6 : Same H2 (upd H2 L (.lst ((bsL rs ss).map V.bl))) := same_upd nL2
          refine ⟨_, _, rfl, SqL.of upd_same, ?_⟩
          rw [← ek]
          exact hQ _ (s02.trans s6)
    · rw [decide_eq_false en]
      refine ⟨_, rfl, iteT ?_⟩
      exact keyS_nm en ▸ hQ H2 s02

end
end K09
namespace K09
open PySem PySem.Spec PyProof.Rows L2 He TL EL
section
variable {P : Program} {w : World} {K : PySem.W.Frag} {mg : Str → Option Value} {base : Heap}
/-! _law_rules -/
theorem low1 (n : Int) : Low n 1 := ⟨by decide, by unfold cd; rw [show (1 : Int).natAbs = 1 from rfl, Nat.gcd_one_right]; rfl⟩
def spRules (K : PySem.W.Frag) : Sp := fun vs H Q _ => ∃ p l n, vs = [.ref p, .int (n : Nat)] ∧ 1 ≤ n ∧ Src H p l ∧ ∀ t la us (as : List At) H', Md [p] H H' → Src H' p l → H la = none → H t = none → SqT K H' t [.ref la, .bl (as.all (At.fits (pn1 n)))] → H' la = some (.lst us) → DpAll K H' us (as.map At.d) → (∀ a ∈ as, At.ok a) → as.length ≤ 2 → Q (.ref t) H'
theorem d_lrules (T : Txt K mg) : Dn P w K mg base CX0 3 "_law_rules" (spRules K) := by
  obtain ⟨fd, F⟩ := T.f__law_rules
  have D__law_draw := d_draw (P := P) (w := w) (base := base) T
  refine dnN T.g__law_rules F (fun _ _ _ _ _ _ us hl => match us, hl with | [_, _], _ => rfl) sc__law_rules (fun vs H Q E h => ?_) (fun cdv A outer s H vs Q E hr h => ?_)
  · obtain ⟨p, l, n, rfl, _⟩ := h
    rfl
  · obtain ⟨p, l, n, rfl, hn, S, hQ⟩ := h
    obtain ⟨xs, hp⟩ := S.lst
    obtain ⟨xl, hl⟩ := S.lst2
    refine ⟨_, PSs.nox (pss_cons (ps_set (i := 2) sc__law_rules.nd rfl (.inl rfl) (pe_lst pa_nil))
      (pss_cons (ps_set (i := 3) sc__law_rules.nd rfl (.inl rfl) pe_bl)
      (pss_cons (ps_for PassesOwn.never rfl (pi_range1 (by rfl) T.z_range (pa_cons (cl D__law_draw (hr.mono (by decide)) (pa_cons (pv 0) (pa_cons pe_int pa_nil))) pa_nil)) (pg_name (i := 4) sc__law_rules.nd rfl (.inl rfl))
      (pss_cons (ps_set (i := 5) sc__law_rules.nd rfl (.inl rfl) (cl D__law_draw (hr.mono (by decide)) (pa_cons (pv 0) (pa_cons pe_int pa_nil))))
      (pss_cons (ps_set (i := 6) sc__law_rules.nd rfl (.inl rfl) pe_str)
      (pss_mid (ps_if (pt_cmpR op_eq (cl D__law_draw (hr.mono (by decide)) (pa_cons (pv 0) (pa_cons pe_int pa_nil))) pe_int (nomark _)) (pss_one (ps_set (i := 6) sc__law_rules.nd rfl (.inl rfl) (pe_ix ix_list (pe_lst (pa_cons pe_str (pa_cons pe_str pa_nil))) (cl D__law_draw (hr.mono (by decide)) (pa_cons (pv 0) (pa_cons pe_int pa_nil))) (fun _ _ => rfl)))) pss_nil)
      (pss_mid (ps_if (PW.pt (pw_and (pt_cmpR op_ge (pv 5) (pv 1) (nomark _)) (pw_and1 (pt_cmpR op_gt (cl D__law_draw (hr.mono (by decide)) (pa_cons (pv 0) (pa_cons pe_int pa_nil))) pe_int (nomark _))))) (pss_one (ps_set (i := 5) sc__law_rules.nd rfl (.inl rfl) pe_int)) pss_nil)
      (pss_mid (ps_set (i := 3) sc__law_rules.nd rfl (.inl rfl) (pe_and (pv 3) (pe_and (pe_cmpR op_eq (pv 6) pe_str (nomark _)) (pe_one (pe_cmpR op_lt (pv 5) (pv 1) (nomark _))))))
      (pss_cons (ps_set (i := 7) sc__law_rules.nd rfl (.inl rfl) (pe_ix ix_list (pe_lst (pa_cons pe_str (pa_cons pe_str (pa_cons pe_str (pa_cons pe_str pa_nil))))) (cl D__law_draw (hr.mono (by decide)) (pa_cons (pv 0) (pa_cons pe_int pa_nil))) (fun _ _ => rfl)))
      (pss_cons (ps_set (i := 8) sc__law_rules.nd rfl (.inl rfl) (pe_tup (pa_cons (pv 7) (pa_cons (pe_tup (pa_cons (pv 6) (pa_cons (pv 5) pa_nil))) (pa_cons (pe_tup (pa_cons pe_str (pa_cons (pe_tup (pa_cons (pe_op op_sub (cl D__law_draw (hr.mono (by decide)) (pa_cons (pv 0) (pa_cons pe_int pa_nil))) pe_int) (pa_cons pe_int pa_nil))) pa_nil))) pa_nil)))))
      (pss_mid (ps_if (pt_cmpR op_eq (cl D__law_draw (hr.mono (by decide)) (pa_cons (pv 0) (pa_cons pe_int pa_nil))) pe_int (nomark _)) (pss_one (ps_set (i := 8) sc__law_rules.nd rfl (.inl rfl) (pe_tup (pa_cons (pv 7) (pa_cons (pe_tup (pa_cons pe_str (pa_cons pe_int pa_nil))) (pa_cons (pe_tup (pa_cons (pv 6) (pa_cons (pv 5) pa_nil))) pa_nil)))))) pss_nil)
      (pss_one (ps_expr (pe_bm PySem.F.plainAttrs_list PySem.F.slot_list_append PySem.F.type_list_append mt_append (pv 2) (pa_cons (pv 8) pa_nil)))))))))))))
      (pss_one (ps_ret (pe_tup (pa_cons (pv 2) (pa_cons (pv 3) pa_nil)))))))), ?_⟩
    refine ⟨(by show 0 ≤ sizeLine; decide), fun la nla => ?_⟩
    generalize eH1 : upd H la _ = H1
    have s1 : Same H H1 := eH1 ▸ same_upd nla
    have e1 : H1 la = some _ := eH1 ▸ upd_same
    have lap : la ≠ p := Ne.symm (ne_of_none hp nla)
    have lal : la ≠ l := Ne.symm (ne_of_none hl nla)
    refine ⟨_, rfl, p, l, 3, rfl, by decide, by decide, S.same s1, fun k H2 k0 k1 S2 b2 => ?_⟩
    have m2 : Md [p] H1 H2 := b2.md (s1 _ _ hp) rfl
    have e2 : H2 la = some (.lst []) := b2 _ _ e1 lap
    refine ⟨k, rfl, by omega, by omega, for_range (n := k.toNat) (fun i σ H' => ∃ us as, (∃ o4 o5 o6 o7 o8, σ = [some (.ref p), some (.int (n : Nat)), some (.ref la), some (.bl (as.all (At.fits (pn1 n)))), o4, o5, o6, o7, o8]) ∧ H' la = some (.lst us) ∧ DpAll K H' us (as.map At.d) ∧ as.length = i ∧ (∀ t ∈ as, At.ok t) ∧ Md [p, la] H2 H' ∧ Src H' p l) ⟨[], [], ⟨none, none, none, none, none, rfl⟩, e2, .nil, rfl, (fun t ht => by cases ht), .refl _ _, S2⟩ ?_ ?_⟩
    · rintro i σ H3 hi ⟨us, as, ⟨o4, o5, o6, o7, o8, rfl⟩, eu, au, el, hok, m3, S3⟩
      obtain ⟨xs3, hp3⟩ := S3.lst
      refine ⟨_, rfl, p, l, 3, rfl, by decide, by decide, S3, fun at0 H4 a0 a1 S4 b4 => ?_⟩
      have m4 : Md [p] H3 H4 := b4.md hp3 rfl
      obtain ⟨xs4, hp4⟩ := S4.lst
      obtain ⟨a2, rfl⟩ := Int.eq_ofNat_of_zero_le a0
      -- the place
      refine ⟨fun σ' H' => ∃ pl : Pl, σ' = [some (.ref p), some (.int (n : Nat)), some (.ref la), some (.bl (as.all (At.fits (pn1 n)))), some (.int (0 + (i : Int))), some (.int (a2 : Nat)), some (.str pl.s), o7, o8] ∧ Md [p] H4 H' ∧ Src H' p l, ?_, ?_⟩
      · refine ⟨_, rfl, p, l, 9, rfl, by decide, by decide, S4, fun k1 H5 _ _ S5 b5 => ?_⟩
        have m5 : Md [p] H4 H5 := b5.md hp4 rfl
        obtain ⟨xs5, hp5⟩ := S5.lst
        refine ⟨rfl, _, rfl, ie (fun c => ?_) (fun c => ?_)⟩
        · refine ⟨(by show 2 ≤ sizeLine; decide), fun u nu => ?_⟩
          generalize eH6 : upd H5 u _ = H6
          have s6 : Same H5 H6 := eH6 ▸ same_upd nu
          have e6 : H6 u = some _ := eH6 ▸ upd_same
          have up : u ≠ p := Ne.symm (ne_of_none hp5 nu)
          refine ⟨_, rfl, p, l, 2, rfl, by decide, by decide, S5.same s6, fun j H7 j0 j1 S7 b7 => ?_⟩
          have m7 : Md [p] H6 H7 := b7.md (s6 _ _ hp5) rfl
          have key : ∃ pl : Pl, atI [V.str "old", .str "second"] j = some (.str pl.s) := by
            have : j = 0 ∨ j = 1 := by omega
            rcases this with rfl | rfl
            · exact ⟨.old, atI_nat (j := 0) rfl⟩
            · exact ⟨.second, atI_nat (j := 1) rfl⟩
          obtain ⟨pl, hpl⟩ := key
          refine ⟨u, _, _, _, rfl, rfl, SqL.of (b7 _ _ e6 up), hpl, ?_⟩
          exact ⟨pl, rfl, m5.trans ((Md.of s6).trans m7), S7⟩
        · exact ⟨.first, rfl, m5, S5⟩
      · rintro σ' H5 ⟨pl, rfl, m5, S5⟩
        obtain ⟨xs5, hp5⟩ := S5.lst
        -- the column
        refine ⟨fun σ' H' => ∃ a3 : Nat, a3 < 3 ∧ σ' = [some (.ref p), some (.int (n : Nat)), some (.ref la), some (.bl (as.all (At.fits (pn1 n)))), some (.int (0 + (i : Int))), some (.int (a3 : Nat)), some (.str pl.s), o7, o8] ∧ Md [p] H5 H' ∧ Src H' p l, ?_, ?_⟩
        · refine ⟨_, rfl, _, rfl, _, _, rfl, rfl, _, rfl, ie (fun c => ?_) (fun c => ?_)⟩
          · refine ⟨_, rfl, p, l, 3, rfl, by decide, by decide, S5, fun k1 H6 _ _ S6 b6 => ?_⟩
            have m6 : Md [p] H5 H6 := b6.md hp5 rfl
            refine ⟨_, _, rfl, rfl, _, rfl, ie (fun c => ?_) (fun c => ?_)⟩
            · exact ⟨0, by decide, rfl, m6, S6⟩
            · exact ⟨a2, by omega, rfl, m6, S6⟩
          · exact ⟨a2, by omega, rfl, .refl _ _, S5⟩
        · rintro σ' H6 ⟨a3, h3, rfl, m6, S6⟩
          obtain ⟨xs6, hp6⟩ := S6.lst
          refine ⟨fun σ' H' => H6 = H' ∧ σ' = [some (.ref p), some (.int (n : Nat)), some (.ref la), some (.bl (as.all (At.fits (pn1 n)) && decide (a3 < pn1 n pl))), some (.int (0 + (i : Int))), some (.int (a3 : Nat)), some (.str pl.s), o7, o8], ?_, ?_⟩
          · refine ⟨_, rfl, _, rfl, ?_⟩
            cases hall : as.all (At.fits (pn1 n)) with
            | false => exact iteF ⟨rfl, rfl⟩
            | true =>
              refine iteT ?_
              rw [Bool.true_and]
              cases pl with
              | first =>
                refine ⟨_, rfl, rfl, _, rfl, iteT ?_⟩
                refine ⟨_, rfl, _, rfl, _, _, rfl, rfl, rfl, ?_⟩
                show [_, _, _, some (V.bl (decide ((a3 : Int) < (n : Int)))), _, _, _, _, _] = [_, _, _, some (V.bl (decide (a3 < n))), _, _, _, _, _]
                rw [show decide ((a3 : Int) < (n : Int)) = decide (a3 < n) from decide_eq_decide.mpr (by omega)]
              | old => exact ⟨_, rfl, rfl, _, rfl, iteF ⟨rfl, rfl⟩⟩
              | second => exact ⟨_, rfl, rfl, _, rfl, iteF ⟨rfl, rfl⟩⟩
          · rintro σ' H7' ⟨rfl, rfl⟩
            -- the sign
            refine ⟨(by show 4 ≤ sizeLine; decide), fun u nu => ?_⟩
            generalize eH7 : upd H6 u _ = H7
            have s7 : Same H6 H7 := eH7 ▸ same_upd nu
            have e7 : H7 u = some _ := eH7 ▸ upd_same
            have up : u ≠ p := Ne.symm (ne_of_none hp6 nu)
            refine ⟨_, rfl, p, l, 4, rfl, by decide, by decide, S6.same s7, fun j H8 j0 j1 S8 b8 => ?_⟩
            have m8 : Md [p] H7 H8 := b8.md (s7 _ _ hp6) rfl
            have key : ∃ g : Sg, atI [V.str "<", .str "<=", .str "=", .str "!="] j = some (.str g.s) := by
              have : j = 0 ∨ j = 1 ∨ j = 2 ∨ j = 3 := by omega
              rcases this with rfl | rfl | rfl | rfl
              · exact ⟨.lt, atI_nat (j := 0) rfl⟩
              · exact ⟨.le, atI_nat (j := 1) rfl⟩
              · exact ⟨.eq, atI_nat (j := 2) rfl⟩
              · exact ⟨.ne, atI_nat (j := 3) rfl⟩
            obtain ⟨g, hg⟩ := key
            refine ⟨u, _, _, _, rfl, rfl, SqL.of (b8 _ _ e7 up), hg, ?_⟩
            -- the atom
            refine ⟨_, rfl, _, rfl, _, rfl, (by show 2 ≤ sizeLine; decide), fun q1 nq1 => ?_⟩
            generalize eH9 : upd H8 q1 _ = H9
            have s9 : Same H8 H9 := eH9 ▸ same_upd nq1
            have e9 : H9 q1 = some _ := eH9 ▸ upd_same
            obtain ⟨xs8, hp8⟩ := S8.lst
            refine ⟨_, rfl, p, l, 5, rfl, by decide, by decide, S8.same s9, fun v HA v0 v1 SA bA => ?_⟩
            have mA : Md [p] H9 HA := bA.md (s9 _ _ hp8) rfl
            refine ⟨_, _, rfl, rfl, (by show 2 ≤ sizeLine; decide), fun q2 nq2 => ?_⟩
            generalize eHB : upd HA q2 _ = HB
            have sB : Same HA HB := eHB ▸ same_upd nq2
            have eB : HB q2 = some _ := eHB ▸ upd_same
            refine ⟨(by show 2 ≤ sizeLine; decide), fun q3 nq3 => ?_⟩
            generalize eHC : upd HB q3 _ = HC
            have sC : Same HB HC := eHC ▸ same_upd nq3
            have eC : HC q3 = some _ := eHC ▸ upd_same
            refine ⟨(by show 3 ≤ sizeLine; decide), fun q4 nq4 => ?_⟩
            generalize eHD : upd HC q4 _ = HD
            have sD : Same HC HD := eHD ▸ same_upd nq4
            have eD : HD q4 = some _ := eHD ▸ upd_same
            have SD := SA.same (sB.trans (sC.trans sD))
            have m3D : Md [p] H3 HD := m4.trans (m5.trans (m6.trans ((Md.of s7).trans (m8.trans ((Md.of s9).trans (mA.trans (Md.of (sB.trans (sC.trans sD)))))))))
            have dc9 : Dp K H9 (.ref q1) (Tm.cell pl a3).d := .tup (SqT.of e9) (.cons (.str _) (.cons (.int _) .nil))
            have dcD : Dp K HD (.ref q1) (Tm.cell pl a3).d := Dp.same (sB.trans (sC.trans sD)) (mA.dp (Tm.pd (.cell pl a3)).1.nl dc9)
            have dvD : Dp K HD (.ref q3) (Tm.val (v - 2) 1).d := .tup (SqT.of (sD _ _ eC)) (.cons (.str _) (.cons (.tup (SqT.of (sD _ _ (sC _ _ eB))) (.cons (.int _) (.cons (.int _) .nil))) .nil))
            have datD : Dp K HD (.ref q4) (At.d ⟨g, .cell pl a3, .val (v - 2) 1⟩) := .tup (SqT.of eD) (.cons (.str _) (.cons dcD (.cons dvD .nil)))
            obtain ⟨xsD, hpD⟩ := SD.lst
            refine ⟨fun σ' H' => ∃ (q : Addr) (at_ : At), σ' = [some (.ref p), some (.int (n : Nat)), some (.ref la), some (.bl (as.all (At.fits (pn1 n)) && decide (a3 < pn1 n pl))), some (.int (0 + (i : Int))), some (.int (a3 : Nat)), some (.str pl.s), some (.str g.s), some (.ref q)] ∧ Dp K H' (.ref q) at_.d ∧ At.ok at_ ∧ At.fits (pn1 n) at_ = decide (a3 < pn1 n pl) ∧ Md [p] HD H' ∧ Src H' p l, ?_, ?_⟩
            · refine ⟨_, rfl, p, l, 3, rfl, by decide, by decide, SD, fun c HE _ _ SE bE => ?_⟩
              have mE : Md [p] HD HE := bE.md hpD rfl
              refine ⟨rfl, _, rfl, ie (fun c => ?_) (fun c => ?_)⟩
              · refine ⟨_, rfl, (by show 2 ≤ sizeLine; decide), fun r1 nr1 => ?_⟩
                generalize eHF : upd HE r1 _ = HF
                have sF : Same HE HF := eHF ▸ same_upd nr1
                have eF : HF r1 = some _ := eHF ▸ upd_same
                refine ⟨_, rfl, _, rfl, (by show 2 ≤ sizeLine; decide), fun r2 nr2 => ?_⟩
                generalize eHG : upd HF r2 _ = HG
                have sG : Same HF HG := eHG ▸ same_upd nr2
                have eG : HG r2 = some _ := eHG ▸ upd_same
                refine ⟨(by show 3 ≤ sizeLine; decide), fun r3 nr3 => ?_⟩
                generalize eHI : upd HG r3 _ = HI
                have sI : Same HG HI := eHI ▸ same_upd nr3
                have eI : HI r3 = some _ := eHI ▸ upd_same
                refine ⟨r3, ⟨g, .cell .first 0, .cell pl a3⟩, rfl, .tup (SqT.of eI) (.cons (.str _) (.cons (.tup (SqT.of (sI _ _ (sG _ _ eF))) (.cons (.str _) (.cons (.int _) .nil))) (.cons (.tup (SqT.of (sI _ _ eG)) (.cons (.str _) (.cons (.int _) .nil))) .nil))), ⟨by show 0 < 3; decide, h3⟩, ?_, mE.trans (Md.of (sF.trans (sG.trans sI))), SE.same (sF.trans (sG.trans sI))⟩
                show (decide (0 < n) && decide (a3 < pn1 n pl)) = _
                rw [decide_eq_true (show 0 < n from hn), Bool.true_and]
              · refine ⟨q4, ⟨g, .cell pl a3, .val (v - 2) 1⟩, rfl, mE.dp (At.pd _).nl datD, ⟨h3, low1 _, by show (v - 2).natAbs < 2 ^ 70; omega, by show (1 : Int).natAbs < 2 ^ 70; decide⟩, ?_, mE, SE⟩
                show (decide (a3 < pn1 n pl) && true) = _
                rw [Bool.and_true]
            · rintro σ' HE ⟨q, at_, rfl, dq, okq, fq, mE, SE⟩
              have mm : Md [p] H3 HE := m3D.trans mE
              have eu' : HE la = some (.lst us) := mm.out _ _ eu (by simp [lap])
              refine ⟨_, rfl, .inl ⟨rfl, _, SqL.of eu'⟩, _, rfl, la, _, _, rfl, rfl, eu', (by rw [DpAll.length au, List.length_map, el]; exact Nat.lt_of_lt_of_le hi (Nat.le_trans (show k.toNat ≤ 3 by omega) (by decide))), ?_⟩
              have mu : Md [p, la] HE (upd HE la (.lst (us ++ [.ref q]))) := Md.upd eu' rfl (by simp)
              refine ⟨_, as ++ [at_], ⟨some (.int (0 + (i : Int))), some (.int (a3 : Nat)), some (.str pl.s), some (.str g.s), some (.ref q), ?_⟩, upd_same, ?_, by rw [List.length_append, el]; rfl, fun y hy => (List.mem_append.mp hy).elim (hok y) (fun z => by cases List.mem_singleton.mp z; exact okq), m3.trans ((mm.mono (by simp)).trans mu), ?_⟩
              · rw [List.all_append, ← fq]
                simp only [List.all_cons, List.all_nil, Bool.and_true]
              · rw [List.map_append]
                exact DpAll.snoc (mu.dp (At.pd _).nl dq) (mu.dpAll (pds_at as).nl (mm.dpAll (pds_at as).nl au))
              · exact SE.but (x := la) (fun b o hb hne => (upd_ne hne).trans hb) (Ne.symm lap) (Ne.symm lal)
    · rintro σ H3 ⟨us, as, ⟨o4, o5, o6, o7, o8, rfl⟩, eu, au, el, hok, m3, S3⟩
      refine ⟨_, rfl, _, rfl, (by show 2 ≤ sizeLine; decide), fun t nt => ?_⟩
      generalize eH4 : upd H3 t _ = H4
      have s4 : Same H3 H4 := eH4 ▸ same_upd nt
      have e4 : H4 t = some _ := eH4 ▸ upd_same
      have mm : Md [la, p] H1 H3 := (m2.mono (by simp)).trans (m3.mono (by simp))
      have m0 : Md [p] H H3 := mm.new s1 nla
      have nt0 : H t = none := by
        cases hh : H t with
        | none => rfl
        | some ob =>
          by_cases z : t = p
          · obtain ⟨xs3, hp3⟩ := S3.lst
            rw [z, hp3] at nt; cases nt
          · rw [m0.out _ _ hh (by simp [z])] at nt; cases nt
      exact hQ t la us as H4 (m0.trans (Md.of s4)) (S3.same s4) nla nt0 (SqT.of e4) (s4 _ _ eu) (DpAll.same s4 au) hok (by omega)
end
end K09
namespace K09
open PySem PySem.Spec PyProof.Rows L2 He TL EL
/-! what stands, what is new -/
def Al (M : List Addr) (H : Hp) : Prop := ∀ a ∈ M, ∃ o, H a = some o
theorem Al.out {M : List Addr} {H : Hp} {a : Addr} (h : Al M H) (n : H a = none) : a ∉ M := fun z => by obtain ⟨o, e⟩ := h a z; rw [n] at e; cases e
theorem Al.same {M : List Addr} {H H' : Hp} (h : Al M H) (s : Same H H') : Al M H' := fun a ha => let ⟨o, e⟩ := h a ha; ⟨o, s _ _ e⟩
theorem Al.md {M S : List Addr} {H H' : Hp} (h : Al M H) (m : Md S H H') (k : Al S H') : Al M H' := fun a ha => by
  by_cases z : a ∈ S
  · exact k a z
  · obtain ⟨o, e⟩ := h a ha
    exact ⟨o, m.out _ _ e z⟩
theorem free_md {S : List Addr} {H H' : Hp} {a : Addr} (m : Md S H H') (k : Al S H') (n : H' a = none) : H a = none := by
  cases hh : H a with
  | none => rfl
  | some o =>
    by_cases z : a ∈ S
    · obtain ⟨o', e⟩ := k a z
      rw [n] at e; cases e
    · rw [m.out _ _ hh z] at n; cases n
theorem al1 {a : Addr} {H : Hp} {o : HO} (h : H a = some o) : Al [a] H := fun b hb => by cases List.mem_singleton.mp hb; exact ⟨o, h⟩
theorem al_cons {a : Addr} {S : List Addr} {H : Hp} {o : HO} (h : H a = some o) (k : Al S H) : Al (a :: S) H := fun b hb => (List.mem_cons.mp hb).elim (fun e => e ▸ ⟨o, h⟩) (k b)
theorem al_nil {H : Hp} : Al [] H := fun b hb => by cases hb
section
variable {P : Program} {w : World} {K : PySem.W.Frag} {mg : Str → Option Value} {base : Heap}
/-! _law_added -/
abbrev tabD (d : PyData) : PyData := .list [.str "table", d, .bool true, .bool false]
def spAdded (K : PySem.W.Frag) : Sp := fun vs H Q _ => ∃ x dx dw dl rs vn vc vr d c as, vs = [.ref x, vn, vc, vr] ∧ ScAt K H x dx dw dl rs ∧ Dp K H vn d ∧ Dp K H vc c ∧ (∀ z, d = .str z → z.length ≤ 100000) ∧ RulV K H vr as ∧ rs.length ≤ 1000 ∧ as.length ≤ 1000 ∧ dw ≠ dl ∧
  (addOk rs d c = false → ∀ p H', Same H H' → Dp K H' (.ref p) (tabD d) → Q (.ref p) H') ∧
  (addOk rs d c = true → as.all (At.fits (pn1 (colN c))) = false → ∀ p H', Same H H' → Dp K H' (.ref p) (.list [.str "condition"]) → Q (.ref p) H') ∧
  (∀ z, d = .str z → addOk rs d c = true → as.all (At.fits (pn1 (colN c))) = true → ∀ y dy l H' p, Md [dw, dl] H H' → H y = none → H l = none → y ≠ l → ScAt K H' x dx dw dl (rs ++ [⟨z, colN c, y, dy, l, dd as⟩]) → H p = none → H' p = some (.lst [.str "done"]) → Q (.ref p) H')
theorem d_added (hP : PF P "/claim/cut.py") (T : Txt K mg) : Dn P w K mg base CX0 8 "_law_added" (spAdded K) := by
  obtain ⟨fd, F⟩ := T.f__law_added
  obtain ⟨fdA, FA, okA⟩ := d_sc_add (P := P) (w := w) (base := base) hP T
  have D_add4 := fnD FA okA 4 1 (by simp) rfl (fun _ _ _ _ _ _ _ us its h1 h2 => match us, its, h1, h2 with | [_, _, _, _], [_], _, _ => ⟨_, rfl, rfl⟩)
  have D_add3 := fnD FA okA 3 0 (by simp) rfl (fun _ _ _ _ _ _ _ us its h1 h2 => match us, its, h1, h2 with | [_, _, _], [_], _, _ => ⟨_, rfl, rfl⟩)
  refine dnN T.g__law_added F (fun _ _ _ _ _ _ us hl => match us, hl with | [_, _, _, _], _ => rfl) sc__law_added (fun vs H Q E h => ?_) (fun cdv A outer s H vs Q E hr h => ?_)
  · obtain ⟨x, dx, dw, dl, rs, vn, vc, vr, d, c, as, rfl, _⟩ := h
    rfl
  · obtain ⟨x, dx, dw, dl, rs, vn, vc, vr, d, c, as, rfl, C, hd, hc, hlz, hrv, hrl, hal, hne, q1, q2, q3⟩ := h
    refine ⟨_, PSs.nox (pss_cons (ps_try_mix (by rfl) (by rfl) sc__law_added.nd takes0 (fun W pn xe tk po => (pss_one (ps_if (pt_cmpR op_isN (pv 3) pe_non (nomark _)) (pss_one (ps_expr (pe_methE (pv 0) T.o_Schema.cl T.h_Schema_add D_add3 hr (pxx tk) (pa_cons (pv 1) (pa_cons (pv 2) pa_nil))))) (pss_one (ps_expr (pe_methE (pv 0) T.o_Schema.cl T.h_Schema_add D_add4 hr (pxx tk) (pa_cons (pv 1) (pa_cons (pv 2) (pa_cons (pv 3) pa_nil)))))))))
      (HdsMix.as_ (i := 4) rfl (by rfl) ⟨rfl, by decide, .inl T.g_NoTable⟩ (fun a oe cls d pn hz hf => (pss_one (ps_ret (pe_lst (pa_cons pe_str (pa_cons (pe_xf T.y_NoTable.2.1 T.y_NoTable.2.2 hz hf (pv 4)) (pa_cons (pe_callB (call_isA T.c_NoTable hz hf) (by rfl) T.z_isinstance (by decide +kernel) (pa_cons (pv 4) (pa_cons (pe_glob (v := .ref (ga K "AskError")) (by rfl) T.x_AskError.g rfl) pa_nil))) (pa_cons (pe_callB (call_isA T.c_NoTable hz hf) (by rfl) T.z_isinstance (by decide +kernel) (pa_cons (pv 4) (pa_cons (pe_glob (v := .ref (ga K "NoCondition")) (by rfl) T.x_NoCondition.g rfl) pa_nil))) pa_nil)))))))) (HdsMix.one ⟨rfl, by decide, .inl T.x_NoCondition.g⟩ (fun a oe cls d pn hz hf => (pss_one (ps_ret (pe_lst (pa_cons pe_str pa_nil))))) HdsMix.nil)))
      (pss_one (ps_ret (pe_lst (pa_cons pe_str pa_nil))))), ?_⟩
    rcases hrv with ⟨rfl, rfl⟩ | ⟨y, dy, m, rfl, Cy⟩
    · refine ⟨_, rfl, rfl, _, rfl, iteT ?_⟩
      refine ⟨_, rfl, _, _, _, rfl, C.hx, scF_no (by decide) (by decide), _, rfl, _, rfl, ?_⟩
      refine ⟨x, dx, dw, dl, rs, vn, vc, .non, d, c, [], rfl, C, hd, hc, hlz, .inl ⟨rfl, rfl⟩, hrl, hal, hne, fun g dd' H1 s1 e1 => ?_, fun g1 g2 H1 s1 => ?_, fun z ez g1 g2 y1 dy1 l1 H1 m1 ny nl hyl C1 => ?_⟩
      · refine ⟨true, T.e_NoTable_NoTable, fun _ a na => ?_, fun z => by cases z⟩
        refine ⟨_, rfl, rfl, rfl, dd', _, _, rfl, e1, rfl, _, rfl, rfl, .inr ⟨dd', _, rfl, e1⟩, _, _, _, rfl, fun u r => r, T.k_NoTable_AskError, _, rfl, rfl, .inr ⟨dd', _, rfl, e1⟩, _, _, _, rfl, fun u r => r, T.k_NoTable_NoCondition, (by show 4 ≤ sizeLine; decide), fun p np => ?_⟩
        generalize eH2 : upd H1 p _ = H2
        have s2 : Same H1 H2 := eH2 ▸ same_upd np
        have e2 : H2 p = some _ := eH2 ▸ upd_same
        exact q1 g p H2 (s1.trans s2) (.lst (SqL.of e2) (.cons (.str _) (.cons (Dp.same (s1.trans s2) hd) (.cons (.bl _) (.cons (.bl _) .nil)))))
      · refine ⟨false, T.e_NoCondition_NoTable, fun z => (by cases z), fun _ => ⟨true, T.e_NoCondition_NoCondition, fun _ a na => ?_, fun z => by cases z⟩⟩
        refine ⟨(by show 1 ≤ sizeLine; decide), fun p np => ?_⟩
        generalize eH2 : upd H1 p _ = H2
        have s2 : Same H1 H2 := eH2 ▸ same_upd np
        have e2 : H2 p = some _ := eH2 ▸ upd_same
        exact q2 g1 g2 p H2 (s1.trans s2) (.lst (SqL.of e2) (.cons (.str _) .nil))
      · refine ⟨(by show 1 ≤ sizeLine; decide), fun p np => ?_⟩
        generalize eH2 : upd H1 p _ = H2
        have s2 : Same H1 H2 := eH2 ▸ same_upd np
        have e2 : H2 p = some _ := eH2 ▸ upd_same
        exact q3 z ez g1 g2 y1 dy1 l1 H2 p (m1.trans (Md.of s2)) ny nl hyl (C1.same s2) (free_md m1 (al_cons C1.hw (al1 C1.hl)) np) e2
    · refine ⟨_, rfl, rfl, _, rfl, iteF ?_⟩
      refine ⟨_, rfl, _, _, _, rfl, C.hx, scF_no (by decide) (by decide), _, rfl, _, rfl, _, rfl, ?_⟩
      refine ⟨x, dx, dw, dl, rs, vn, vc, .ref y, d, c, as, rfl, C, hd, hc, hlz, .inr ⟨y, dy, m, rfl, Cy⟩, hrl, hal, hne, fun g dd' H1 s1 e1 => ?_, fun g1 g2 H1 s1 => ?_, fun z ez g1 g2 y1 dy1 l1 H1 m1 ny nl hyl C1 => ?_⟩
      · refine ⟨true, T.e_NoTable_NoTable, fun _ a na => ?_, fun z => by cases z⟩
        refine ⟨_, rfl, rfl, rfl, dd', _, _, rfl, e1, rfl, _, rfl, rfl, .inr ⟨dd', _, rfl, e1⟩, _, _, _, rfl, fun u r => r, T.k_NoTable_AskError, _, rfl, rfl, .inr ⟨dd', _, rfl, e1⟩, _, _, _, rfl, fun u r => r, T.k_NoTable_NoCondition, (by show 4 ≤ sizeLine; decide), fun p np => ?_⟩
        generalize eH2 : upd H1 p _ = H2
        have s2 : Same H1 H2 := eH2 ▸ same_upd np
        have e2 : H2 p = some _ := eH2 ▸ upd_same
        exact q1 g p H2 (s1.trans s2) (.lst (SqL.of e2) (.cons (.str _) (.cons (Dp.same (s1.trans s2) hd) (.cons (.bl _) (.cons (.bl _) .nil)))))
      · refine ⟨false, T.e_NoCondition_NoTable, fun z => (by cases z), fun _ => ⟨true, T.e_NoCondition_NoCondition, fun _ a na => ?_, fun z => by cases z⟩⟩
        refine ⟨(by show 1 ≤ sizeLine; decide), fun p np => ?_⟩
        generalize eH2 : upd H1 p _ = H2
        have s2 : Same H1 H2 := eH2 ▸ same_upd np
        have e2 : H2 p = some _ := eH2 ▸ upd_same
        exact q2 g1 g2 p H2 (s1.trans s2) (.lst (SqL.of e2) (.cons (.str _) .nil))
      · refine ⟨(by show 1 ≤ sizeLine; decide), fun p np => ?_⟩
        generalize eH2 : upd H1 p _ = H2
        have s2 : Same H1 H2 := eH2 ▸ same_upd np
        have e2 : H2 p = some _ := eH2 ▸ upd_same
        exact q3 z ez g1 g2 y1 dy1 l1 H2 p (m1.trans (Md.of s2)) ny nl hyl (C1.same s2) (free_md m1 (al_cons C1.hw (al1 C1.hl)) np) e2
/-! _law_narrowed -/
def spNarrowed (K : PySem.W.Frag) : Sp := fun vs H Q _ => ∃ x dx dw dl rs vn d y dy m as, vs = [.ref x, vn, .ref y] ∧ ScAt K H x dx dw dl rs ∧ Dp K H vn d ∧ CdAt K H y dy m as ∧ rs.length ≤ 1000 ∧ as.length ≤ 400 ∧ dw ≠ dl ∧
  (inS rs d = false → ∀ p H', Same H H' → Dp K H' (.ref p) (tabD d) → Q (.ref p) H') ∧
  (∀ z s, d = .str z → findS rs z = some s → s.as.length ≤ 400 ∧
    (as.all (At.fits (pn1 s.n)) = false → ∀ p H', Same H H' → Dp K H' (.ref p) (.list [.str "condition"]) → Q (.ref p) H') ∧
    (as.all (At.fits (pn1 s.n)) = true → ∀ q dq l H' p, Md [dl] H H' → H q = none → H l = none → q ≠ l → ScAt K H' x dx dw dl (setS rs z q dq l (dd (s.as ++ as))) → H p = none → H' p = some (.lst [.str "done"]) → Q (.ref p) H'))
theorem d_narrowed (hP : PF P "/claim/cut.py") (T : Txt K mg) : Dn P w K mg base CX0 9 "_law_narrowed" (spNarrowed K) := by
  obtain ⟨fd, F⟩ := T.f__law_narrowed
  have D_narrow := d_sc_narrow (P := P) (w := w) (base := base) hP T
  refine dnN T.g__law_narrowed F (fun _ _ _ _ _ _ us hl => match us, hl with | [_, _, _], _ => rfl) sc__law_narrowed (fun vs H Q E h => ?_) (fun cdv A outer s H vs Q E hr h => ?_)
  · obtain ⟨x, dx, dw, dl, rs, vn, d, y, dy, m, as, rfl, _⟩ := h
    rfl
  · obtain ⟨x, dx, dw, dl, rs, vn, d, y, dy, m, as, rfl, C, hd, Cy, hrl, hal, hne, q1, q2⟩ := h
    refine ⟨_, PSs.nox (pss_cons (ps_try_mix (by rfl) (by rfl) sc__law_narrowed.nd takes0 (fun W pn xe tk po => (pss_one (ps_expr (pe_methE (pv 0) T.o_Schema.cl T.h_Schema_narrow D_narrow hr (pxx tk) (pa_cons (pv 1) (pa_cons (pv 2) pa_nil))))))
      (HdsMix.as_ (i := 3) rfl (by rfl) ⟨rfl, by decide, .inl T.g_NoTable⟩ (fun a oe cls d pn hz hf => (pss_one (ps_ret (pe_lst (pa_cons pe_str (pa_cons (pe_xf T.y_NoTable.2.1 T.y_NoTable.2.2 hz hf (pv 3)) (pa_cons (pe_callB (call_isA T.c_NoTable hz hf) (by rfl) T.z_isinstance (by decide +kernel) (pa_cons (pv 3) (pa_cons (pe_glob (v := .ref (ga K "AskError")) (by rfl) T.x_AskError.g rfl) pa_nil))) (pa_cons (pe_callB (call_isA T.c_NoTable hz hf) (by rfl) T.z_isinstance (by decide +kernel) (pa_cons (pv 3) (pa_cons (pe_glob (v := .ref (ga K "NoCondition")) (by rfl) T.x_NoCondition.g rfl) pa_nil))) pa_nil)))))))) (HdsMix.one ⟨rfl, by decide, .inl T.x_NoCondition.g⟩ (fun a oe cls d pn hz hf => (pss_one (ps_ret (pe_lst (pa_cons pe_str pa_nil))))) HdsMix.nil)))
      (pss_one (ps_ret (pe_lst (pa_cons pe_str pa_nil))))), ?_⟩
    refine ⟨_, rfl, _, _, _, rfl, C.hx, scF_no (by decide) (by decide), _, rfl, _, rfl, ?_⟩
    refine ⟨x, dx, dw, dl, rs, vn, d, y, dy, m, as, rfl, C, hd, Cy, hrl, hal, hne, fun g dd' H1 s1 e1 => ?_, fun z sc ez hf => ⟨(q2 z sc ez hf).1, fun g H1 s1 => ?_, fun g y1 dy1 l1 H1 m1 ny nl hyl C1 => ?_⟩⟩
    · refine ⟨true, T.e_NoTable_NoTable, fun _ a na => ?_, fun z => by cases z⟩
      refine ⟨_, rfl, rfl, rfl, dd', _, _, rfl, e1, rfl, _, rfl, rfl, .inr ⟨dd', _, rfl, e1⟩, _, _, _, rfl, fun u r => r, T.k_NoTable_AskError, _, rfl, rfl, .inr ⟨dd', _, rfl, e1⟩, _, _, _, rfl, fun u r => r, T.k_NoTable_NoCondition, (by show 4 ≤ sizeLine; decide), fun p np => ?_⟩
      generalize eH2 : upd H1 p _ = H2
      have s2 : Same H1 H2 := eH2 ▸ same_upd np
      have e2 : H2 p = some _ := eH2 ▸ upd_same
      exact q1 g p H2 (s1.trans s2) (.lst (SqL.of e2) (.cons (.str _) (.cons (Dp.same (s1.trans s2) hd) (.cons (.bl _) (.cons (.bl _) .nil)))))
    · refine ⟨false, T.e_NoCondition_NoTable, fun z => (by cases z), fun _ => ⟨true, T.e_NoCondition_NoCondition, fun _ a na => ?_, fun z => by cases z⟩⟩
      refine ⟨(by show 1 ≤ sizeLine; decide), fun p np => ?_⟩
      generalize eH2 : upd H1 p _ = H2
      have s2 : Same H1 H2 := eH2 ▸ same_upd np
      have e2 : H2 p = some _ := eH2 ▸ upd_same
      exact (q2 z sc ez hf).2.1 g p H2 (s1.trans s2) (.lst (SqL.of e2) (.cons (.str _) .nil))
    · refine ⟨(by show 1 ≤ sizeLine; decide), fun p np => ?_⟩
      generalize eH2 : upd H1 p _ = H2
      have s2 : Same H1 H2 := eH2 ▸ same_upd np
      have e2 : H2 p = some _ := eH2 ▸ upd_same
      exact (q2 z sc ez hf).2.2 g y1 dy1 l1 H2 p (m1.trans (Md.of s2)) ny nl hyl (C1.same s2) (free_md m1 (al1 C1.hl) np) e2
end
end K09
namespace K09
open PySem PySem.Spec PyProof.Rows L2 He TL EL
section
variable {P : Program} {w : World} {K : PySem.W.Frag} {mg : Str → Option Value} {base : Heap}
/-! each atom once: mathematics -/
theorem ddS_in {acc : List At} {a : At} (h : a ∈ acc) : ddS acc a = acc := by
  unfold ddS
  rw [if_pos (List.any_eq_true.mpr ⟨a, h, decide_eq_true rfl⟩)]
theorem ddS_out {acc : List At} {a : At} (h : a ∉ acc) : ddS acc a = acc ++ [a] := by
  unfold ddS
  rw [if_neg (fun z => by obtain ⟨b, hb, e⟩ := List.any_eq_true.mp z; exact h (of_decide_eq_true e ▸ hb))]
theorem ddS_nodup {acc : List At} {a : At} (h : acc.Nodup) : (ddS acc a).Nodup := by
  by_cases hm : a ∈ acc
  · rw [ddS_in hm]; exact h
  · rw [ddS_out hm]
    exact List.nodup_append.mpr ⟨h, by simp, fun x hx y hy z => hm (by rw [List.mem_singleton.mp hy] at z; exact z ▸ hx)⟩
theorem fold_nodup : ∀ (l acc : List At), acc.Nodup → (l.foldl ddS acc).Nodup
  | [], _, h => h
  | a :: r, acc, h => fold_nodup r (ddS acc a) (ddS_nodup h)
theorem fold_nd : ∀ (l acc : List At), (acc ++ l).Nodup → l.foldl ddS acc = acc ++ l
  | [], acc, _ => by rw [List.append_nil]; rfl
  | a :: r, acc, h => by
    have hm : a ∉ acc := fun z => (List.nodup_append.mp h).2.2 a z a (by simp) rfl
    show r.foldl ddS (ddS acc a) = _
    rw [ddS_out hm, fold_nd r (acc ++ [a]) (by rw [List.append_assoc]; exact h), List.append_assoc]
    rfl
theorem dd_nodup (l : List At) : (dd l).Nodup := fold_nodup l [] (by simp)
theorem dd_of {l : List At} (h : l.Nodup) : dd l = l := fold_nd l [] h
theorem dd_dd (l : List At) : dd (dd l) = dd l := dd_of (dd_nodup l)
theorem fold_dd {as : List At} (h : as.Nodup) (bs : List At) : bs.foldl ddS as = dd (as ++ bs) := by
  unfold dd
  rw [List.foldl_append]
  have : as.foldl ddS [] = as := dd_of h
  rw [this]
theorem fold_len : ∀ (l acc : List At), (l.foldl ddS acc).length ≤ acc.length + l.length
  | [], acc => Nat.le_refl _
  | a :: r, acc => by
    have h1 := fold_len r (ddS acc a)
    have h2 : (ddS acc a).length ≤ acc.length + 1 := by
      unfold ddS
      split
      · omega
      · rw [List.length_append]; exact Nat.le_refl _
    show (r.foldl ddS (ddS acc a)).length ≤ acc.length + (r.length + 1)
    omega
/-! _law_joined -/
def spJoined (K : PySem.W.Frag) : Sp := fun vs H Q _ => ∃ a b us ws, ∃ (as bs : List At), vs = [.ref a, .ref b] ∧ H a = some (.lst us) ∧ DpAll K H us (as.map At.d) ∧ H b = some (.lst ws) ∧ DpAll K H ws (bs.map At.d) ∧ as.length ≤ 400 ∧ bs.length ≤ 400 ∧
  ∀ p zs H', Same H H' → H p = none → H' p = some (.lst zs) → DpAll K H' zs ((bs.foldl ddS as).map At.d) → Q (.ref p) H'
theorem d_joined (T : Txt K mg) : Dn P w K mg base CX0 1 "_law_joined" (spJoined K) := by
  obtain ⟨fd, F⟩ := T.f__law_joined
  refine dnN T.g__law_joined F (fun _ _ _ _ _ _ us hl => match us, hl with | [_, _], _ => rfl) sc__law_joined (fun vs H Q E h => ?_) (fun cdv A outer s H vs Q E hr h => ?_)
  · obtain ⟨a, b, us, ws, as, bs, rfl, _⟩ := h
    rfl
  · obtain ⟨a, b, us, ws, as, bs, rfl, ea, da, eb, db, la, lb, hQ⟩ := h
    refine ⟨_, PSs.nox (pss_cons (ps_set (i := 2) sc__law_joined.nd rfl (.inl rfl) (pe_callTy call_list_of (by rfl) T.z_list (by decide +kernel) (pa_cons (pv 0) pa_nil)))
      (pss_cons (ps_for PassesOwn.never rfl (pi_list (pv 1)) (pg_name (i := 3) sc__law_joined.nd rfl (.inl rfl))
      (pss_one (ps_if (pt_cmpR (op_notInD (u65 hr)) (pv 3) (pv 2) (by rfl)) (pss_one (ps_expr (pe_bm PySem.F.plainAttrs_list PySem.F.slot_list_append PySem.F.type_list_append mt_append (pv 2) (pa_cons (pv 3) pa_nil)))) pss_nil)))
      (pss_one (ps_ret (pv 2))))), ?_⟩
    refine ⟨_, rfl, _, _, rfl, .inl (SqL.of ea), fun kl nk => ?_⟩
    generalize eH1 : upd H kl _ = H1
    have s1 : Same H H1 := eH1 ▸ same_upd nk
    have e1 : H1 kl = some _ := eH1 ▸ upd_same
    have lw : ws.length = bs.length := by rw [DpAll.length db, List.length_map]
    have nbk : b ≠ kl := ne_of_none eb nk
    refine ⟨_, rfl, b, rfl, ⟨_, SqL.of (s1 _ _ eb)⟩, for_list (K := K) (a := b) (xs := ws) (fun i σ H' => (∃ o, σ = [some (.ref a), some (.ref b), some (.ref kl), o]) ∧ ∃ zs, H' kl = some (.lst zs) ∧ DpAll K H' zs (((bs.take i).foldl ddS as).map At.d) ∧ Md [kl] H1 H') ⟨⟨none, rfl⟩, us, e1, DpAll.same s1 da, .refl _ _⟩ (fun i σ H' _ h => ?_) ?_ ?_⟩
    · obtain ⟨_, zs, _, _, m⟩ := h
      exact SqL.of (m.out _ _ (s1 _ _ eb) (by simp [nbk]))
    · rintro i xv σ H' hg ⟨⟨o, rfl⟩, zs, ez, az, m⟩
      obtain ⟨d, hd, hdp⟩ := DpAll.get db hg
      obtain ⟨at_, hat, rfl⟩ := getM hd
      have hdp' : Dp K H' xv at_.d := m.dp (At.pd at_).nl (Dp.same s1 hdp)
      have hz : zs.length < sizeLine := by
        rw [DpAll.length az, List.length_map]
        have h1 := fold_len (bs.take i) as
        rw [List.length_take] at h1
        exact Nat.lt_of_le_of_lt (show _ ≤ 800 by omega) (by decide)
      refine ⟨_, rfl, _, rfl, at_.d, _, hdp', .lst (SqL.of ez) az, (At.pd at_).shaped, (pds_at _).shaped, _, rfl, ie (fun c => ?_) (fun c => ?_)⟩
      · have c' : (((bs.take i).foldl ddS as).any fun z => decide (z = at_)) = false := by
          rw [← any_eqv]
          exact (Bool.not_eq_true' _).mp c
        refine ⟨_, rfl, .inl ⟨rfl, _, SqL.of ez⟩, _, rfl, kl, _, _, rfl, rfl, ez, hz, ?_⟩
        have mu : Md [kl] H' (upd H' kl (.lst (zs ++ [xv]))) := Md.upd ez rfl (by simp)
        refine ⟨⟨_, rfl⟩, _, upd_same, ?_, m.trans mu⟩
        rw [tk1 hat, List.foldl_append]
        show DpAll K _ _ ((ddS ((bs.take i).foldl ddS as) at_).map At.d)
        rw [ddS, if_neg (by rw [c']; exact Bool.false_ne_true), List.map_append]
        exact DpAll.snoc (mu.dp (At.pd at_).nl hdp') (mu.dpAll (pds_at _).nl az)
      · have c' : (((bs.take i).foldl ddS as).any fun z => decide (z = at_)) = true := by
          rw [← any_eqv]
          exact (Bool.not_eq_false' _).mp c
        refine ⟨⟨_, rfl⟩, _, ez, ?_, m⟩
        rw [tk1 hat, List.foldl_append]
        show DpAll K _ _ ((ddS ((bs.take i).foldl ddS as) at_).map At.d)
        rw [ddS, if_pos c']
        exact az
    · rintro σ H' ⟨⟨o, rfl⟩, zs, ez, az, m⟩
      rw [lw, List.take_length] at az
      have s0 : Same H H' := (Md.newM (S := []) m (Md.of s1) nk).same
      exact ⟨_, rfl, hQ kl zs H' s0 nk ez az⟩
/-! the law's state -/
abbrev Ent := Str × Nat × List At
def entD (e : Ent) : PyData := .list [.str e.1, .int (e.2.1 : Nat), .list (e.2.2.map At.d)]
structure RowAt (K : PySem.W.Frag) (M : List Addr) (H : Hp) (v : V) (e : Ent) : Prop where
  ex : ∃ a al vs, v = .ref a ∧ a ∉ M ∧ al ∉ M ∧ H a = some (.lst [.str e.1, .int (e.2.1 : Nat), .ref al]) ∧ H al = some (.lst vs) ∧ DpAll K H vs (e.2.2.map At.d)
theorem RowAt.md {M S : List Addr} {H H' : Hp} {v : V} {e : Ent} (h : RowAt K M H v e) (m : Md S H H') (hs : ∀ b ∈ S, b ∈ M) : RowAt K M H' v e := by
  obtain ⟨a, al, vs, rfl, n1, n2, e1, e2, d⟩ := h
  exact ⟨a, al, vs, rfl, n1, n2, m.out _ _ e1 (fun z => n1 (hs _ z)), m.out _ _ e2 (fun z => n2 (hs _ z)), m.dpAll (pds_at _).nl d⟩
theorem RowAt.dp {M : List Addr} {H : Hp} {v : V} {e : Ent} (h : RowAt K M H v e) : Dp K H v (entD e) := by
  obtain ⟨a, al, vs, rfl, n1, n2, e1, e2, d⟩ := h
  exact .lst (SqL.of e1) (.cons (.str _) (.cons (.int _) (.cons (.lst (SqL.of e2) d) .nil)))
inductive RowsAt (K : PySem.W.Frag) (M : List Addr) (H : Hp) : List V → List Ent → Prop
  | nil : RowsAt K M H [] []
  | cons {v : V} {e : Ent} {vs : List V} {es : List Ent} : RowAt K M H v e → RowsAt K M H vs es → RowsAt K M H (v :: vs) (e :: es)
theorem RowsAt.md {M S : List Addr} {H H' : Hp} (m : Md S H H') (hs : ∀ b ∈ S, b ∈ M) : ∀ {vs : List V} {es : List Ent}, RowsAt K M H vs es → RowsAt K M H' vs es
  | _, _, .nil => .nil
  | _, _, .cons a r => .cons (a.md m hs) (RowsAt.md m hs r)
theorem RowsAt.dp {M : List Addr} {H : Hp} : ∀ {vs : List V} {es : List Ent}, RowsAt K M H vs es → DpAll K H vs (es.map entD)
  | _, _, .nil => .nil
  | _, _, .cons a r => .cons a.dp r.dp
theorem RowsAt.length {M : List Addr} {H : Hp} : ∀ {vs : List V} {es : List Ent}, RowsAt K M H vs es → vs.length = es.length
  | _, _, .nil => rfl
  | _, _, .cons _ r => congrArg (· + 1) r.length
theorem RowsAt.get {M : List Addr} {H : Hp} : ∀ {vs : List V} {es : List Ent} {i : Nat} {v : V}, RowsAt K M H vs es → vs[i]? = some v → ∃ e, es[i]? = some e ∧ RowAt K M H v e
  | _, _, 0, _, .cons a _, h => by cases h; exact ⟨_, rfl, a⟩
  | _, _, i + 1, _, .cons _ r, h => r.get (i := i) h
theorem RowsAt.get' {M : List Addr} {H : Hp} : ∀ {vs : List V} {es : List Ent} {i : Nat} {e : Ent}, RowsAt K M H vs es → es[i]? = some e → ∃ v, vs[i]? = some v ∧ RowAt K M H v e
  | _, _, 0, _, .cons a _, h => by cases h; exact ⟨_, rfl, a⟩
  | _, _, i + 1, _, .cons _ r, h => r.get' (i := i) h
theorem RowsAt.snoc {M : List Addr} {H : Hp} {v : V} {e : Ent} (h : RowAt K M H v e) : ∀ {vs : List V} {es : List Ent}, RowsAt K M H vs es → RowsAt K M H (vs ++ [v]) (es ++ [e])
  | _, _, .nil => .cons h .nil
  | _, _, .cons a r => .cons a (RowsAt.snoc h r)
theorem RowsAt.set {M : List Addr} {H : Hp} {v : V} {e : Ent} (h : RowAt K M H v e) : ∀ {vs : List V} {es : List Ent} (i : Nat), RowsAt K M H vs es → RowsAt K M H (vs.set i v) (es.set i e)
  | _, _, _, .nil => .nil
  | _, _, 0, .cons _ r => .cons h r
  | _, _, i + 1, .cons a r => .cons a (RowsAt.set h i r)
structure StAt (K : PySem.W.Frag) (M : List Addr) (H : Hp) (st : Addr) (es : List Ent) : Prop where
  ex : ∃ vs, H st = some (.lst vs) ∧ RowsAt K M H vs es
theorem StAt.md {M S : List Addr} {H H' : Hp} {st : Addr} {es : List Ent} (h : StAt K M H st es) (m : Md S H H') (hs : ∀ b ∈ S, b ∈ M) (n : st ∉ S) : StAt K M H' st es := by
  obtain ⟨vs, e, r⟩ := h
  exact ⟨vs, m.out _ _ e n, r.md m hs⟩
theorem StAt.same {M : List Addr} {H H' : Hp} {st : Addr} {es : List Ent} (h : StAt K M H st es) (s : Same H H') : StAt K M H' st es := h.md (S := []) (.of s) (by simp) (by simp)
theorem StAt.dp {M : List Addr} {H : Hp} {st : Addr} {es : List Ent} (h : StAt K M H st es) : Dp K H (.ref st) (.list (es.map entD)) := by
  obtain ⟨vs, e, r⟩ := h
  exact .lst (SqL.of e) r.dp
end
end K09
namespace K09
open PySem PySem.Spec PyProof.Rows L2 He TL EL
/-! x is not True -/
def rIsntB : R2 := fun x y H Q => ∃ b : Bool, y = .bl b ∧ ((∃ i, x = .int i ∧ Q (.bl true) H) ∨ (x = .non ∧ Q (.bl true) H) ∨ ∃ a : Bool, x = .bl a ∧ Q (.bl (!decide (a = b))) H)
theorem op_isntB {X : Cx} : OpR X (compareOp .IsNot) rIsntB := by
  intro pins s σ H x y v u Q I rx ry h
  obtain ⟨b, rfl, ⟨i, rfl, q⟩ | ⟨rfl, q⟩ | ⟨a, rfl, q⟩⟩ := h
  · obtain ⟨t, rfl⟩ := (show ∃ t, v = Value.int i t from rx)
    cases (show u = Value.bool b from ry)
    exact wpAny_isNot_other rfl (fun z => nomatch z) ⟨.bl true, H, I, rfl, q⟩
  · cases (show v = Value.none from rx)
    cases (show u = Value.bool b from ry)
    exact wpAny_isNot_other rfl (fun z => nomatch z) ⟨.bl true, H, I, rfl, q⟩
  · exact op_isnot_bl pins s σ H _ _ v u Q I rx ry ⟨a, b, rfl, rfl, q⟩
section
variable {P : Program} {w : World} {K : PySem.W.Frag} {mg : Str → Option Value} {base : Heap}
/-! a schema and its state; M: what the law may change -/
def okNm : List Str := ["t", "u", "abcdefgh", "zz", "v"]
structure Par (K : PySem.W.Frag) (M : List Addr) (H : Hp) (x dx dw dl st : Addr) (rs : List Sch) (n : Nat) : Prop where
  sc : ScAt K H x dx dw dl rs
  sa : StAt K M H st (rs.map keyS)
  xm : x ∉ M
  cm : ∀ s ∈ rs, s.c ∉ M ∧ s.l ∉ M
  wm : dw ∈ M ∧ dl ∈ M ∧ st ∈ M
  ne : dw ≠ dl
  nd : (nmS rs).Nodup
  nm : ∀ s ∈ rs, s.nm ∈ okNm
  wn : ∀ s ∈ rs, 1 ≤ s.n ∧ s.n ≤ 3
  dn : ∀ s ∈ rs, s.as.Nodup
  ln : rs.length ≤ n
  la : ∀ s ∈ rs, s.as.length ≤ 2 * n
theorem Par.md {M S : List Addr} {H H' : Hp} {x dx dw dl st : Addr} {rs : List Sch} {n : Nat} (A : Par K M H x dx dw dl st rs n) (m : Md S H H') (hs : ∀ b ∈ S, b ∈ M) (h1 : dw ∉ S) (h2 : dl ∉ S) (h3 : st ∉ S) : Par K M H' x dx dw dl st rs n :=
  ⟨A.sc.md m (fun z => A.xm (hs _ z)) h1 h2 (fun s h => ⟨fun z => (A.cm s h).1 (hs _ z), fun z => (A.cm s h).2 (hs _ z)⟩), A.sa.md m hs h3, A.xm, A.cm, A.wm, A.ne, A.nd, A.nm, A.wn, A.dn, A.ln, A.la⟩
theorem Par.same {M : List Addr} {H H' : Hp} {x dx dw dl st : Addr} {rs : List Sch} {n : Nat} (A : Par K M H x dx dw dl st rs n) (s : Same H H') : Par K M H' x dx dw dl st rs n := A.md (S := []) (.of s) (by simp) (by simp) (by simp) (by simp)
theorem Par.up {M : List Addr} {H : Hp} {x dx dw dl st : Addr} {rs : List Sch} {n k : Nat} (A : Par K M H x dx dw dl st rs n) (h : n ≤ k) : Par K M H x dx dw dl st rs k :=
  ⟨A.sc, A.sa, A.xm, A.cm, A.wm, A.ne, A.nd, A.nm, A.wn, A.dn, Nat.le_trans A.ln h, fun s hs => Nat.le_trans (A.la s hs) (by omega)⟩
/-! _law_place -/
def hasE (es : List Ent) (d : PyData) : Bool := es.any fun e => PyData.eqv (.str e.1) d
def spPlace (K : PySem.W.Frag) : Sp := fun vs H Q _ => ∃ M st es v d, vs = [.ref st, v] ∧ StAt K M H st es ∧ Dp K H v d ∧ Pd d ∧ (∀ e ∈ es, PyData.strOk e.1 = true) ∧ es.length ≤ 1000 ∧ ∀ r : Int, decide (r < 0) = !hasE es d → Q (.int r) H
theorem d_place (T : Txt K mg) : Dn P w K mg base CX0 1 "_law_place" (spPlace K) := by
  obtain ⟨fd, F⟩ := T.f__law_place
  refine dnN T.g__law_place F (fun _ _ _ _ _ _ us hl => match us, hl with | [_, _], _ => rfl) sc__law_place (fun vs H Q E h => ?_) (fun cdv A outer s H vs Q E hr h => ?_)
  · obtain ⟨M, st, es, v, d, rfl, _⟩ := h
    rfl
  · obtain ⟨M, st, es, v, d, rfl, ⟨us, eu, rw_⟩, hd, pd, hok, hl, hQ⟩ := h
    refine ⟨_, PSs.nox (pss_cons (ps_for PassesOwn.never rfl (pi_range1 (by rfl) T.z_range (pa_cons (pe_callB call_len_seq (by rfl) T.z_len (by decide +kernel) (pa_cons (pv 0) pa_nil)) pa_nil)) (pg_name (i := 2) sc__law_place.nd rfl (.inl rfl))
      (pss_one (ps_if (pt_cmpR (op_eqD hr.units) (pe_ix ix_list (pe_ix ix_list (pv 0) (pv 2) (fun _ _ => rfl)) pe_int (fun _ _ => rfl)) (pv 1) (nomark _)) (pss_one (ps_ret (pv 2))) pss_nil)))
      (pss_one (ps_ret (pe_un un_neg pe_int)))), ?_⟩
    have lu := rw_.length
    refine ⟨_, rfl, _, _, rfl, .inl (SqL.of eu), us.length, rfl, by omega, by omega, for_range (n := us.length) (fun i σ H' => H = H' ∧ (∃ o, σ = [some (.ref st), some v, o]) ∧ hasE (es.take i) d = false) ⟨rfl, ⟨none, rfl⟩, rfl⟩ ?_ ?_⟩
    · rintro i σ H' hi ⟨rfl, ⟨o, rfl⟩, hn⟩
      obtain ⟨u, hu⟩ : ∃ u, us[i]? = some u := ⟨_, List.getElem?_eq_getElem hi⟩
      obtain ⟨e, he, ra⟩ := rw_.get hu
      obtain ⟨a, al, zs, rfl, _, _, e1, _, _⟩ := ra
      have pe1 : Pd (.str e.1) := ⟨rfl, hok e (List.mem_of_getElem? he), by show 0 ≤ 16; decide⟩
      refine ⟨_, rfl, _, rfl, _, _, _, _, rfl, rfl, SqL.of eu, (by rw [Int.zero_add]; exact atI_nat hu), _, _, 0, _, rfl, rfl, SqL.of e1, atI_nat (j := 0) rfl, _, rfl, _, _, .str _, hd, pe1.shaped, pd.shaped, _, rfl, ie (fun c => ?_) (fun c => ?_)⟩
      · refine ⟨_, rfl, hQ _ ?_⟩
        rw [show hasE es d = true from List.any_eq_true.mpr ⟨e, List.mem_of_getElem? he, c⟩]
        exact decide_eq_false (by omega)
      · refine ⟨rfl, ⟨_, rfl⟩, ?_⟩
        unfold hasE at hn ⊢
        rw [tk1 he, List.any_append, hn]
        simp only [List.any_cons, List.any_nil, Bool.or_false, Bool.false_or]
        exact c
    · rintro σ H' ⟨rfl, ⟨o, rfl⟩, hn⟩
      rw [lu, List.take_length] at hn
      exact ⟨_, rfl, hQ (-1) (by rw [hn]; rfl)⟩
end
end K09
namespace K09
open PySem PySem.Spec PyProof.Rows L2 He TL EL
section
variable {P : Program} {w : World} {K : PySem.W.Frag} {mg : Str → Option Value} {base : Heap}
/-! the drawn names and columns -/
theorem atI_ex {xs : List V} {n : Int} (h0 : 0 ≤ n) (h1 : n < xs.length) : ∃ v, v ∈ xs ∧ atI xs n = some v := by
  obtain ⟨k, rfl⟩ := Int.eq_ofNat_of_zero_le h0
  have hk : k < xs.length := by omega
  exact ⟨xs[k], List.getElem_mem hk, atI_nat (List.getElem?_eq_getElem hk)⟩
def nmV : List V := [.str "t", .str "u", .str "abcdefgh", .str "zz", .str "v", .str "t", .str "", .str "T", .str "abcdefghi", .str "a b", .int 3, .non]
def okD : List PyData := [.str "t", .str "u", .str "abcdefgh", .str "zz", .str "v"]
structure NmOk (K : PySem.W.Frag) (v : V) (d : PyData) : Prop where
  dp : ∀ H : Hp, Dp K H v d
  sh : ∀ z, d = .str z → z.length ≤ 100000
  pd : Pd d
  wd : (okD.any fun z => PyData.eqv z d) = isWordD d
  ok : isWordD d = true → ∃ z, d = .str z ∧ v = .str z ∧ z ∈ okNm
theorem nm_str {z : Str} (h1 : z.length ≤ 100000) (h2 : PyData.strOk z = true) (h3 : (okD.any fun y => PyData.eqv y (.str z)) = isWordD (.str z)) (h4 : isWordD (.str z) = true → z ∈ okNm) : NmOk K (.str z) (.str z) :=
  ⟨fun _ => .str _, fun y e => by cases e; exact h1, ⟨rfl, h2, by show 0 ≤ 16; decide⟩, h3, fun h => ⟨z, rfl, rfl, h4 h⟩⟩
theorem nm_ok {v : V} (h : v ∈ nmV) : ∃ d, NmOk K v d := by
  unfold nmV at h
  simp only [List.mem_cons, List.not_mem_nil, or_false] at h
  rcases h with rfl | rfl | rfl | rfl | rfl | rfl | rfl | rfl | rfl | rfl | rfl | rfl
  · exact ⟨_, nm_str (by decide +kernel) (by decide +kernel) (by decide +kernel) (by decide +kernel)⟩
  · exact ⟨_, nm_str (by decide +kernel) (by decide +kernel) (by decide +kernel) (by decide +kernel)⟩
  · exact ⟨_, nm_str (by decide +kernel) (by decide +kernel) (by decide +kernel) (by decide +kernel)⟩
  · exact ⟨_, nm_str (by decide +kernel) (by decide +kernel) (by decide +kernel) (by decide +kernel)⟩
  · exact ⟨_, nm_str (by decide +kernel) (by decide +kernel) (by decide +kernel) (by decide +kernel)⟩
  · exact ⟨_, nm_str (by decide +kernel) (by decide +kernel) (by decide +kernel) (by decide +kernel)⟩
  · exact ⟨_, nm_str (by decide +kernel) (by decide +kernel) (by decide +kernel) (by decide +kernel)⟩
  · exact ⟨_, nm_str (by decide +kernel) (by decide +kernel) (by decide +kernel) (by decide +kernel)⟩
  · exact ⟨_, nm_str (by decide +kernel) (by decide +kernel) (by decide +kernel) (by decide +kernel)⟩
  · exact ⟨_, nm_str (by decide +kernel) (by decide +kernel) (by decide +kernel) (by decide +kernel)⟩
  · exact ⟨.int 3, fun _ => .int _, fun z e => (by cases e), ⟨rfl, rfl, by show 0 ≤ 16; decide⟩, by decide +kernel, fun h => by cases h⟩
  · exact ⟨.none, fun _ => .non, fun z e => (by cases e), ⟨rfl, rfl, by show 0 ≤ 16; decide⟩, by decide +kernel, fun h => by cases h⟩
def clV : List V := [.int 1, .int 2, .int 3, .int 2, .int 3, .int 0, .int 4, .bl true, .non]
def ntT : V → Bool
  | .bl b => !b
  | _ => true
structure ClOk (K : PySem.W.Frag) (v : V) (c : PyData) : Prop where
  dp : ∀ H : Hp, Dp K H v c
  pd : Pd c
  kd : (∃ i, v = .int i) ∨ v = .non ∨ v = .bl true
  in3 : (([.int 1, .int 2, .int 3] : List PyData).any (fun z => PyData.eqv z c) && ntT v) = colOk c
  in2 : (([.int 1, .int 2] : List PyData).any (fun z => PyData.eqv z c) && ntT v) = true → colOk c = true ∧ v = .int (colN c : Nat)
  out : (([.int 1, .int 2] : List PyData).any (fun z => PyData.eqv z c) && ntT v) = false → colOk c = true → colN c = 3
  ok : colOk c = true → v = .int (colN c : Nat) ∧ 1 ≤ colN c ∧ colN c ≤ 3
theorem cl_ok {v : V} (h : v ∈ clV) : ∃ c, ClOk K v c := by
  unfold clV at h
  simp only [List.mem_cons, List.not_mem_nil, or_false] at h
  have ci : ∀ i : Int, (i = 0 ∨ i = 1 ∨ i = 2 ∨ i = 3 ∨ i = 4) → ClOk K (.int i) (.int i) := fun i hi => by
    refine ⟨fun _ => .int _, ⟨rfl, rfl, by show 0 ≤ 16; decide⟩, .inl ⟨i, rfl⟩, ?_, ?_, ?_, ?_⟩ <;> rcases hi with rfl | rfl | rfl | rfl | rfl <;> first | decide +kernel | (intro z; first | (cases z; done) | exact ⟨by decide +kernel, rfl⟩ | exact ⟨rfl, by decide +kernel, by decide +kernel⟩ | exact fun y => by cases y)
  rcases h with rfl | rfl | rfl | rfl | rfl | rfl | rfl | rfl | rfl
  · exact ⟨_, ci 1 (by decide)⟩
  · exact ⟨_, ci 2 (by decide)⟩
  · exact ⟨_, ci 3 (by decide)⟩
  · exact ⟨_, ci 2 (by decide)⟩
  · exact ⟨_, ci 3 (by decide)⟩
  · exact ⟨_, ci 0 (by decide)⟩
  · exact ⟨_, ci 4 (by decide)⟩
  · exact ⟨.bool true, fun _ => .bl _, ⟨rfl, rfl, by show 0 ≤ 16; decide⟩, .inr (.inr rfl), by decide +kernel, fun z => (by cases z), fun _ z => (by cases z), fun z => (by cases z)⟩
  · exact ⟨.none, fun _ => .non, ⟨rfl, rfl, by show 0 ≤ 16; decide⟩, .inr (.inl rfl), by decide +kernel, fun z => (by cases z), fun _ z => (by cases z), fun z => (by cases z)⟩
theorem hasE_inS (rs : List Sch) (z : Str) : hasE (rs.map keyS) (.str z) = inS rs (.str z) := by
  show ((rs.map keyS).any fun e => PyData.eqv (.str e.1) (.str z)) = (findS rs z).isSome
  unfold findS
  rw [List.any_map, Bool.eq_iff_iff, List.any_eq_true, List.find?_isSome]
  constructor
  · rintro ⟨s, hs, h⟩
    refine ⟨s, hs, ?_⟩
    have h : (s.nm == z) = true := h
    exact decide_eq_true (eq_of_beq h)
  · rintro ⟨s, hs, h⟩
    refine ⟨s, hs, ?_⟩
    show (s.nm == z) = true
    rw [of_decide_eq_true h]
    exact beq_self_eq_true z
end
end K09
namespace K09
open PySem PySem.Spec PyProof.Rows L2 He TL EL
section
variable {P : Program} {w : World} {K : PySem.W.Frag} {mg : Str → Option Value} {base : Heap}
/-! _law_add -/
abbrev at9 (k : Int) : At := ⟨.lt, .cell .first 0, .val k 1⟩
theorem at9_ok {k : Int} (h : k.natAbs ≤ 99) : At.ok (at9 k) := ⟨by show 0 < 3; decide, low1 _, by show k.natAbs < 2 ^ 70; omega, by show (1 : Int).natAbs < 2 ^ 70; decide⟩
theorem ok_str {z : Str} (h : z ∈ okNm) : PyData.strOk z = true := by
  unfold okNm at h
  simp only [List.mem_cons, List.not_mem_nil, or_false] at h
  rcases h with rfl | rfl | rfl | rfl | rfl <;> decide +kernel
theorem Par.strs {M : List Addr} {H : Hp} {x dx dw dl st : Addr} {rs : List Sch} {n : Nat} (A : Par K M H x dx dw dl st rs n) : ∀ e ∈ rs.map keyS, PyData.strOk e.1 = true := fun e he => by
  obtain ⟨s, hs, rfl⟩ := List.mem_map.mp he
  exact ok_str (A.nm s hs)
theorem pd_tab {d : PyData} (h : Pd d) : Pds [.str "table", d, .bool true, .bool false] := fun x hx => by
  simp only [List.mem_cons, List.not_mem_nil, or_false] at hx
  rcases hx with rfl | rfl | rfl | rfl
  · exact ⟨rfl, by decide +kernel, by show 0 ≤ 16; decide⟩
  · exact h
  · exact ⟨rfl, rfl, by show 0 ≤ 16; decide⟩
  · exact ⟨rfl, rfl, by show 0 ≤ 16; decide⟩
theorem pd_one {z : Str} (h : PyData.strOk z = true) : Pds [.str z] := fun x hx => by
  cases List.mem_singleton.mp hx
  exact ⟨rfl, h, by show 0 ≤ 16; decide⟩
theorem Src.md {S : List Addr} {H H' : Hp} {p l : Addr} (h : Src H p l) (m : Md S H H') (h1 : p ∉ S) (h2 : l ∉ S) : Src H' p l := by
  obtain ⟨ns, i, c, r, e1, e2, k⟩ := h
  exact ⟨ns, i, c, r, m.out _ _ e1 h1, m.out _ _ e2 h2, k⟩
theorem not2 {a b c : Addr} (h1 : a ≠ b) (h2 : a ≠ c) : a ∉ [b, c] := by simp [h1, h2]
theorem not1 {a b : Addr} (h1 : a ≠ b) : a ∉ [b] := by simp [h1]
def spLadd (K : PySem.W.Frag) : Sp := fun vs H Q _ => ∃ p l x dx dw dl st rs M n, vs = [.ref p, .ref x, .ref st] ∧ Src H p l ∧ Par K M H x dx dw dl st rs n ∧ Al M H ∧ p ∈ M ∧ l ∉ M ∧ p ≠ st ∧ n ≤ 100 ∧
  ∀ H' rs', Md [p, dw, dl, st] H H' → Src H' p l → Par K M H' x dx dw dl st rs' (n + 1) → Q (.bl true) H'
theorem d_ladd (hP : PF P "/claim/cut.py") (T : Txt K mg) : Dn P w K mg base CX0 9 "_law_add" (spLadd K) := by
  obtain ⟨fd, F⟩ := T.f__law_add
  have D__law_draw := d_draw (P := P) (w := w) (base := base) T
  have D__law_rules := d_lrules (P := P) (w := w) (base := base) T
  have D__law_place := d_place (P := P) (w := w) (base := base) T
  have D__law_added := d_added (P := P) (w := w) (base := base) hP T
  have D__law_joined := d_joined (P := P) (w := w) (base := base) T
  have D_cd := d_cd1 (P := P) (w := w) (base := base) T
  have D_iand := d_iand (P := P) (w := w) (base := base) T
  refine dnN T.g__law_add F (fun _ _ _ _ _ _ us hl => match us, hl with | [_, _, _], _ => rfl) sc__law_add (fun vs H Q E h => ?_) (fun cdv A outer s H vs Q E hr h => ?_)
  · obtain ⟨p, l, x, dx, dw, dl, st, rs, M, n, rfl, _⟩ := h
    rfl
  · obtain ⟨p, l, x, dx, dw, dl, st, rs, M, n, rfl, S, A0, al, pM, lM, pst, hn, hQ⟩ := h
    refine ⟨_, PSs.nox (pss_cons (ps_set (i := 3) sc__law_add.nd rfl (.inl rfl) (pe_lst (pa_cons pe_str (pa_cons pe_str (pa_cons pe_str (pa_cons pe_str (pa_cons pe_str (pa_cons pe_str (pa_cons pe_str (pa_cons pe_str (pa_cons pe_str (pa_cons pe_str (pa_cons pe_int (pa_cons pe_non pa_nil))))))))))))))
      (pss_cons (ps_set (i := 4) sc__law_add.nd rfl (.inl rfl) (pe_ix ix_list (pv 3) (cl D__law_draw (hr.mono (by decide)) (pa_cons (pv 0) (pa_cons pe_int pa_nil))) (fun _ _ => rfl)))
      (pss_cons (ps_set (i := 5) sc__law_add.nd rfl (.inl rfl) (pe_ix ix_list (pe_lst (pa_cons pe_int (pa_cons pe_int (pa_cons pe_int (pa_cons pe_int (pa_cons pe_int (pa_cons pe_int (pa_cons pe_int (pa_cons pe_bl (pa_cons pe_non pa_nil)))))))))) (cl D__law_draw (hr.mono (by decide)) (pa_cons (pv 0) (pa_cons pe_int pa_nil))) (fun _ _ => rfl)))
      (pss_cons (ps_set (i := 6) sc__law_add.nd rfl (.inl rfl) pe_int)
      (pss_mid (ps_if (PW.pt (pw_and (pt_cmpR (op_inD (u65 hr)) (pv 5) (pe_lst (pa_cons pe_int (pa_cons pe_int pa_nil))) (by rfl)) (pw_and1 (pt_cmpR op_isntB (pv 5) pe_bl (nomark _))))) (pss_one (ps_set (i := 6) sc__law_add.nd rfl (.inl rfl) (pv 5))) pss_nil)
      (pss_cons (ps_set (i := 7) sc__law_add.nd rfl (.inl rfl) (cl D__law_rules (hr.mono (by decide)) (pa_cons (pv 0) (pa_cons (pv 6) pa_nil))))
      (pss_cons (ps_set (i := 8) sc__law_add.nd rfl (.inl rfl) (pe_makeE T.m_Conditions D_cd (hr.mono (by decide)) T.g_Conditions pxq (pa_cons (pe_ix ix_tup (pv 7) pe_int (fun _ _ => rfl)) pa_nil)))
      (pss_mid (ps_if (pt_cmpR op_eq (cl D__law_draw (hr.mono (by decide)) (pa_cons (pv 0) (pa_cons pe_int pa_nil))) pe_int (nomark _)) (pss_cons (ps_set (i := 8) sc__law_add.nd rfl (.inl rfl) pe_non)
      (pss_one (ps_set (i := 7) sc__law_add.nd rfl (.inl rfl) (pe_tup (pa_cons (pe_lst pa_nil) (pa_cons pe_bl pa_nil)))))) pss_nil)
      (pss_mid (ps_set (i := 9) sc__law_add.nd rfl (.inl rfl) (pe_and (pe_cmpR (op_inD (u65 hr)) (pv 4) (pe_lst (pa_cons pe_str (pa_cons pe_str (pa_cons pe_str (pa_cons pe_str (pa_cons pe_str pa_nil)))))) (by rfl)) (pe_one (pe_cmpR op_lt (cl D__law_place (hr.mono (by decide)) (pa_cons (pv 2) (pa_cons (pv 4) pa_nil))) pe_int (nomark _)))))
      (pss_mid (ps_set (i := 9) sc__law_add.nd rfl (.inl rfl) (pe_and (pv 9) (pe_and (pe_cmpR (op_inD (u65 hr)) (pv 5) (pe_lst (pa_cons pe_int (pa_cons pe_int (pa_cons pe_int pa_nil)))) (by rfl)) (pe_one (pe_cmpR op_isntB (pv 5) pe_bl (nomark _))))))
      (pss_cons (ps_set (i := 10) sc__law_add.nd rfl (.inl rfl) (cl D__law_added (hr.mono (by decide)) (pa_cons (pv 1) (pa_cons (pv 4) (pa_cons (pv 5) (pa_cons (pv 8) pa_nil))))))
      (pss_cons (ps_if (pt_not (pt_val (pv 9))) (pss_one (ps_ret (pe_cmpR (op_eqD hr.units) (pv 10) (pe_lst (pa_cons pe_str (pa_cons (pv 4) (pa_cons pe_bl (pa_cons pe_bl pa_nil))))) (nomark _)))) pss_nil)
      (pss_cons (ps_if (pt_not (pt_val (pe_ix ix_tup (pv 7) pe_int (fun _ _ => rfl)))) (pss_one (ps_ret (pe_cmpR (op_eqD hr.units) (pv 10) (pe_lst (pa_cons pe_str pa_nil)) (nomark _)))) pss_nil)
      (pss_mid (ps_if (pt_cmpR op_notN (pv 8) pe_non (nomark _)) (pss_one (ps_aug (i := 8) sc__law_add.nd rfl (.inl rfl) (pe_makeE T.m_Conditions D_cd (hr.mono (by decide)) T.g_Conditions pxq (pa_cons (pe_lst (pa_cons (pe_tup (pa_cons pe_str (pa_cons (pe_tup (pa_cons pe_str (pa_cons pe_int pa_nil))) (pa_cons (pe_tup (pa_cons pe_str (pa_cons (pe_tup (pa_cons pe_int (pa_cons pe_int pa_nil))) pa_nil))) pa_nil)))) pa_nil)) pa_nil)) (ip_own T.sf_Conditions T.u_Conditions___iand__.1 T.u_Conditions___iand__.2 D_iand (hr.mono (by decide)) pass0))) pss_nil)
      (pss_cons (ps_expr (pe_bm PySem.F.plainAttrs_list PySem.F.slot_list_append PySem.F.type_list_append mt_append (pv 2) (pa_cons (pe_lst (pa_cons (pv 4) (pa_cons (pv 5) (pa_cons (cl D__law_joined (hr.mono (by decide)) (pa_cons (pe_lst pa_nil) (pa_cons (pe_ix ix_tup (pv 7) pe_int (fun _ _ => rfl)) pa_nil))) pa_nil)))) pa_nil)))
      (pss_one (ps_ret (pe_cmpR (op_eqD hr.units) (pv 10) (pe_lst (pa_cons pe_str pa_nil)) (nomark _))))))))))))))))))), ?_⟩
    obtain ⟨xs0, hp0⟩ := S.lst
    -- the name
    refine ⟨(by show 12 ≤ sizeLine; decide), fun ln nln => ?_⟩
    generalize eH1 : upd H ln _ = H1
    have s1 : Same H H1 := eH1 ▸ same_upd nln
    have e1 : H1 ln = some _ := eH1 ▸ upd_same
    have lnp : ln ≠ p := Ne.symm (ne_of_none hp0 nln)
    refine ⟨_, rfl, _, rfl, p, l, 12, rfl, by decide, by decide, S.same s1, fun j H2 j0 j1 S2 b2 => ?_⟩
    have m2 : Md [p] H1 H2 := b2.md (s1 _ _ hp0) rfl
    obtain ⟨vn, hvn, avn⟩ := atI_ex (xs := nmV) j0 j1
    obtain ⟨d, ND⟩ := nm_ok (K := K) hvn
    refine ⟨ln, _, _, _, rfl, rfl, SqL.of (b2 _ _ e1 lnp), avn, ?_⟩
    -- the columns
    obtain ⟨xs2, hp2⟩ := S2.lst
    refine ⟨(by show 9 ≤ sizeLine; decide), fun lc nlc => ?_⟩
    generalize eH3 : upd H2 lc _ = H3
    have s3 : Same H2 H3 := eH3 ▸ same_upd nlc
    have e3 : H3 lc = some _ := eH3 ▸ upd_same
    have lcp : lc ≠ p := Ne.symm (ne_of_none hp2 nlc)
    refine ⟨_, rfl, p, l, 9, rfl, by decide, by decide, S2.same s3, fun j4 H4 j40 j41 S4 b4 => ?_⟩
    have m4 : Md [p] H3 H4 := b4.md (s3 _ _ hp2) rfl
    obtain ⟨vc, hvc, avc⟩ := atI_ex (xs := clV) j40 j41
    obtain ⟨c, CD⟩ := cl_ok (K := K) hvc
    refine ⟨lc, _, _, _, rfl, rfl, SqL.of (b4 _ _ e3 lcp), avc, ?_⟩
    have m04 : Md [p] H H4 := (Md.of s1).trans (m2.trans ((Md.of s3).trans m4))
    clear e1 b2 hvn avn e3 b4 hvc avc m2 m4 hp2 S2 lnp lcp
    -- the width
    refine ⟨fun σ' H' => ∃ wd : Nat, 1 ≤ wd ∧ (colOk c = true → colN c = wd) ∧ σ' = [some (.ref p), some (.ref x), some (.ref st), some (.ref ln), some vn, some vc, some (.int (wd : Nat)), none, none, none, none] ∧ Same H4 H', ?_, ?_⟩
    · refine ⟨_, rfl, (by show 2 ≤ sizeLine; decide), fun u nu => ?_⟩
      generalize eH5 : upd H4 u _ = H5
      have s5 : Same H4 H5 := eH5 ▸ same_upd nu
      have e5 : H5 u = some _ := eH5 ▸ upd_same
      refine ⟨c, _, CD.dp _, .lst (SqL.of e5) (.cons (.int _) (.cons (.int _) .nil)), CD.pd.shaped, (by decide +kernel), ?_⟩
      have is2 := CD.in2
      have io := CD.out
      cases hb : (([.int 1, .int 2] : List PyData).any (fun z => PyData.eqv z c)) with
      | false =>
        rw [hb, Bool.false_and] at io
        refine ⟨_, rfl, iteF ?_⟩
        exact ⟨3, by decide, fun z => io rfl z, rfl, s5⟩
      | true =>
        rw [hb, Bool.true_and] at is2 io
        refine ⟨_, rfl, iteT ?_⟩
        rcases CD.kd with ⟨i, rfl⟩ | rfl | rfl
        · obtain ⟨k1, k2⟩ := is2 rfl
          obtain ⟨k3, k4, k5⟩ := CD.ok k1
          refine ⟨_, rfl, true, rfl, .inl ⟨_, rfl, _, rfl, iteT ?_⟩⟩
          refine ⟨_, rfl, ?_⟩
          rw [k2]
          exact ⟨colN c, k4, fun _ => rfl, rfl, s5⟩
        · obtain ⟨k1, k2⟩ := is2 rfl
          cases k2
        · refine ⟨_, rfl, true, rfl, .inr (.inr ⟨_, rfl, _, rfl, iteF ?_⟩)⟩
          exact ⟨3, by decide, fun z => io rfl z, rfl, s5⟩
    · rintro σ' H5 ⟨wd, hwd, hcw, rfl, s45⟩
      obtain ⟨xs4, hp4⟩ := S4.lst
      have S5 := S4.same s45
      have hp5 := s45 _ _ hp4
      have m05 : Md [p] H H5 := m04.trans (Md.of s45)
      -- the rules
      refine ⟨_, rfl, _, rfl, p, l, wd, rfl, hwd, S5, fun t la us as H6 m6 S6 nla nt ht eu au hok hlen => ?_⟩
      have m06 : Md [p] H H6 := m05.trans m6
      obtain ⟨xs6, hp6⟩ := S6.lst
      refine ⟨_, rfl, _, _, 0, _, rfl, rfl, ht, atI_nat (j := 0) rfl, ?_⟩
      refine mkCd (as := as) (.inl (SqL.of eu)) au hok (Nat.le_trans hlen (by decide)) fun y dy m H7 s7 ny nm hym CY => ?_
      have m07 : Md [p] H H7 := m06.trans (Md.of s7)
      have ny0 : H y = none := free_md m06 (al1 hp6) ny
      have nm0 : H m = none := free_md m06 (al1 hp6) nm
      have nla0 : H la = none := free_md m05 (al1 hp5) nla
      have S7 := S6.same s7
      have hp7 := s7 _ _ hp6
      -- none of them
      refine ⟨fun σ' H' => ∃ (t la : Addr) (us : List V) (as : List At) (vr : V), σ' = [some (.ref p), some (.ref x), some (.ref st), some (.ref ln), some vn, some vc, some (.int (wd : Nat)), some (.ref t), some vr, none, none] ∧ Md [p] H H' ∧ Src H' p l ∧ SqT K H' t [.ref la, .bl (as.all (At.fits (pn1 wd)))] ∧ H' la = some (.lst us) ∧ DpAll K H' us (as.map At.d) ∧ (∀ a ∈ as, At.ok a) ∧ as.length ≤ 2 ∧ ((vr = .non ∧ as = []) ∨ ∃ y dy m, vr = .ref y ∧ H y = none ∧ H m = none ∧ CdAt K H' y dy m (dd as)), ?_, ?_⟩
      · refine ⟨_, rfl, p, l, 4, rfl, by decide, by decide, S7, fun k8 H8 _ _ S8 b8 => ?_⟩
        have m8 : Md [p] H7 H8 := b8.md hp7 rfl
        have np : ∀ {b : Addr}, H b = none → b ∉ [p] := fun hb z => by cases List.mem_singleton.mp z; rw [hp0] at hb; cases hb
        refine ⟨rfl, _, rfl, ie (fun cc => ?_) (fun cc => ?_)⟩
        · refine ⟨(by show 0 ≤ sizeLine; decide), fun la2 nla2 => ?_⟩
          generalize eH9 : upd H8 la2 _ = H9
          have s9 : Same H8 H9 := eH9 ▸ same_upd nla2
          have e9 : H9 la2 = some _ := eH9 ▸ upd_same
          refine ⟨(by show 2 ≤ sizeLine; decide), fun t2 nt2 => ?_⟩
          generalize eHA : upd H9 t2 _ = HA
          have sA : Same H9 HA := eHA ▸ same_upd nt2
          have eA : HA t2 = some _ := eHA ▸ upd_same
          exact ⟨t2, la2, [], [], .non, rfl, m07.trans (m8.trans (Md.of (s9.trans sA))), S8.same (s9.trans sA), SqT.of eA, sA _ _ e9, .nil, (fun a ha => by cases ha), by decide, .inl ⟨rfl, rfl⟩⟩
        · exact ⟨t, la, us, as, .ref y, rfl, m07.trans m8, S8, m8.sqT (Same.seqT s7 ht), m8.out _ _ (s7 _ _ eu) (np nla0), m8.dpAll (pds_at _).nl (DpAll.same s7 au), hok, hlen, .inr ⟨y, dy, m, rfl, ny0, nm0, CY.md m8 (np ny0) (np nm0)⟩⟩
      · clear ht eu au hok hlen CY S6 S7 m06 m07 ny nm hym ny0 nm0 nla0 s7 hp6 hp7 m6 nla nt
        rintro σ' H8 ⟨t', la', us', as', vr, rfl, m8, S8, ht, eu, au, hok, hlen, hvr⟩
        obtain ⟨xs8, hp8⟩ := S8.lst
        have dwp : dw ∉ [p] := by simp; exact ne_of A0.sc.hw hp0 (by intro z; cases z)
        have dlp : dl ∉ [p] := by simp; exact ne_of A0.sc.hl hp0 (by intro z; cases z)
        have A8 : Par K M H8 x dx dw dl st rs n := A0.md m8 (by simp [pM]) dwp dlp (by simp; exact Ne.symm pst)
        have al8 : Al M H8 := al.md m8 (al1 hp8)
        -- good, the first half
        refine ⟨fun σ' H' => σ' = [some (.ref p), some (.ref x), some (.ref st), some (.ref ln), some vn, some vc, some (.int (wd : Nat)), some (.ref t'), some vr, some (.bl (isWordD d && !inS rs d)), none] ∧ Same H8 H', ?_, ?_⟩
        · refine ⟨_, rfl, (by show 5 ≤ sizeLine; decide), fun u nu => ?_⟩
          generalize eH9 : upd H8 u _ = H9
          have s9 : Same H8 H9 := eH9 ▸ same_upd nu
          have e9 : H9 u = some _ := eH9 ▸ upd_same
          refine ⟨d, _, ND.dp _, .lst (SqL.of e9) (.cons (.str _) (.cons (.str _) (.cons (.str _) (.cons (.str _) (.cons (.str _) .nil))))), ND.pd.shaped, (by decide +kernel), ?_⟩
          have hwd := ND.wd
          unfold okD at hwd
          rw [hwd]
          cases hw : isWordD d with
          | false => exact ⟨_, rfl, iteF ⟨rfl, s9⟩⟩
          | true =>
            refine ⟨_, rfl, iteT ?_⟩
            obtain ⟨z, rfl, rfl, hz⟩ := ND.ok hw
            have A9 := A8.same s9
            refine ⟨_, rfl, _, rfl, M, st, rs.map keyS, _, .str z, rfl, A9.sa, .str _, ND.pd, A9.strs, by rw [List.length_map]; exact Nat.le_trans A9.ln (by omega), fun r hr' => ?_⟩
            refine ⟨_, _, rfl, rfl, ?_⟩
            have e : decide (r < 0) = !inS rs (.str z) := hr'.trans (by rw [hasE_inS])
            exact ⟨by show [_, _, _, _, _, _, _, _, _, some (V.bl (decide (r < 0))), _] = _; rw [e]; rfl, s9⟩
        · rintro σ' H9 ⟨rfl, s9⟩
          -- good, the second half
          refine ⟨fun σ' H' => σ' = [some (.ref p), some (.ref x), some (.ref st), some (.ref ln), some vn, some vc, some (.int (wd : Nat)), some (.ref t'), some vr, some (.bl (addOk rs d c)), none] ∧ Same H8 H', ?_, ?_⟩
          · refine ⟨_, rfl, _, rfl, ?_⟩
            unfold addOk
            cases hw : (isWordD d && !inS rs d) with
            | false =>
              refine iteF ⟨?_, s9⟩
              rw [← Bool.and_assoc, hw]
              rfl
            | true =>
              refine iteT ?_
              rw [← Bool.and_assoc, hw, Bool.true_and]
              refine ⟨_, rfl, (by show 3 ≤ sizeLine; decide), fun u nu => ?_⟩
              generalize eHA : upd H9 u _ = HA
              have sA : Same H9 HA := eHA ▸ same_upd nu
              have eA : HA u = some _ := eHA ▸ upd_same
              refine ⟨c, _, CD.dp _, .lst (SqL.of eA) (.cons (.int _) (.cons (.int _) (.cons (.int _) .nil))), CD.pd.shaped, (by decide +kernel), ?_⟩
              have i3 := CD.in3
              cases hb : (([.int 1, .int 2, .int 3] : List PyData).any (fun z => PyData.eqv z c)) with
              | false =>
                rw [hb, Bool.false_and] at i3
                rw [← i3]
                exact ⟨_, rfl, iteF ⟨rfl, s9.trans sA⟩⟩
              | true =>
                rw [hb, Bool.true_and] at i3
                rw [← i3]
                refine ⟨_, rfl, iteT ?_⟩
                rcases CD.kd with ⟨i, rfl⟩ | rfl | rfl
                · exact ⟨_, rfl, true, rfl, .inl ⟨_, rfl, rfl, s9.trans sA⟩⟩
                · exact ⟨_, rfl, true, rfl, .inr (.inl ⟨rfl, rfl, s9.trans sA⟩)⟩
                · exact ⟨_, rfl, true, rfl, .inr (.inr ⟨_, rfl, rfl, s9.trans sA⟩)⟩
          · clear s9
            rintro σ' H9 ⟨rfl, s9⟩
            have A9 := A8.same s9
            have al9 := al8.same s9
            have fe : ∀ pn, (dd as').all (At.fits pn) = as'.all (At.fits pn) := fun pn => by
              rw [Bool.eq_iff_iff, List.all_eq_true, List.all_eq_true]
              exact ⟨fun h a ha => h a ((dd_mem _ _).mpr ha), fun h a ha => h a ((dd_mem _ _).mp ha)⟩
            have rul : RulV K H9 vr (dd as') := by
              rcases hvr with ⟨rfl, rfl⟩ | ⟨y, dy, m, rfl, _, _, C⟩
              · exact .inl ⟨rfl, rfl⟩
              · exact .inr ⟨y, dy, m, rfl, C.same s9⟩
            have ld : (dd as').length ≤ 2 := Nat.le_trans (dd_len _) hlen
            have m9 : Md [p] H H9 := m8.trans (Md.of s9)
            have S9 := S8.same s9
            have hp9 := s9 _ _ hp8
            refine ⟨_, rfl, _, rfl, _, rfl, _, rfl, x, dx, dw, dl, rs, vn, vc, vr, d, c, dd as', rfl, A9.sc, ND.dp _, CD.dp _, ND.sh, rul, Nat.le_trans A9.ln (by omega), by omega, A9.ne, fun g q HA sA dq => ?_, fun g g2 q HA sA dq => ?_, fun z ez g g2 y1 dy1 l1 HA q mA ny1 nl1 hyl1 CA nq dq => ?_⟩
            · rw [g]
              refine ⟨_, rfl, _, rfl, iteT ?_⟩
              refine ⟨_, rfl, _, rfl, (by show 4 ≤ sizeLine; decide), fun u nu => ?_⟩
              generalize eHB : upd HA u _ = HB
              have sB : Same HA HB := eHB ▸ same_upd nu
              have eB : HB u = some _ := eHB ▸ upd_same
              refine ⟨_, _, Dp.same sB dq, .lst (SqL.of eB) (.cons (.str _) (.cons (ND.dp _) (.cons (.bl _) (.cons (.bl _) .nil)))), (pd_tab ND.pd).shaped, (pd_tab ND.pd).shaped, ?_⟩
              rw [(pd_tab ND.pd).refl]
              exact hQ HB rs ((m9.trans (Md.of (sA.trans sB))).mono (by simp)) (S9.same (sA.trans sB)) ((A9.same (sA.trans sB)).up (by omega))
            · have ck : colOk c = true := by
                unfold addOk at g
                rw [Bool.and_eq_true, Bool.and_eq_true] at g
                exact g.2.2
              rw [hcw ck, fe] at g2
              rw [g]
              refine ⟨_, rfl, _, rfl, iteF ?_⟩
              have htA := Same.seqT (s9.trans sA) ht
              refine ⟨_, rfl, _, _, 1, _, rfl, rfl, htA, atI_nat (j := 1) rfl, _, rfl, ?_⟩
              rw [g2]
              refine iteT ?_
              refine ⟨_, rfl, (by show 1 ≤ sizeLine; decide), fun u nu => ?_⟩
              generalize eHB : upd HA u _ = HB
              have sB : Same HA HB := eHB ▸ same_upd nu
              have eB : HB u = some _ := eHB ▸ upd_same
              have pc : Pds [.str "condition"] := pd_one (by decide +kernel)
              refine ⟨_, _, Dp.same sB dq, .lst (SqL.of eB) (.cons (.str _) .nil), pc.shaped, pc.shaped, ?_⟩
              rw [pc.refl]
              exact hQ HB rs ((m9.trans (Md.of (sA.trans sB))).mono (by simp)) (S9.same (sA.trans sB)) ((A9.same (sA.trans sB)).up (by omega))
            · have ck : colOk c = true := by
                unfold addOk at g
                rw [Bool.and_eq_true, Bool.and_eq_true] at g
                exact g.2.2
              rw [hcw ck, fe] at g2
              rw [g]
              refine ⟨_, rfl, _, rfl, iteF ?_⟩
              have htA := mA.sqT (Same.seqT s9 ht)
              refine ⟨_, rfl, _, _, 1, _, rfl, rfl, htA, atI_nat (j := 1) rfl, _, rfl, ?_⟩
              rw [g2]
              refine iteF ?_
              have hww : isWordD d = true := by
                unfold addOk at g
                rw [Bool.and_eq_true] at g
                exact g.1
              have hnS : inS rs d = false := by
                unfold addOk at g
                rw [Bool.and_eq_true, Bool.and_eq_true] at g
                exact (Bool.not_eq_true' _).mp g.2.1
              obtain ⟨z', ez', rfl, hz'⟩ := ND.ok hww
              subst ez
              cases ez'
              obtain ⟨k3, k4, k5⟩ := CD.ok ck
              subst k3
              -- what stands behind the adding
              have mHA : Md [p, dw, dl] H HA := (m9.mono (by simp)).trans (mA.mono (by simp))
              have lst2 : ∀ {b : Addr} {o : List V}, H9 b = some (.lst o) → b ∉ [dw, dl] := fun hb => not2 (ne_of hb A9.sc.hw (by intro z; cases z)) (ne_of hb A9.sc.hl (by intro z; cases z))
              obtain ⟨xl9, hl9⟩ := S9.lst2
              have SA : Src HA p l := Src.md S9 mA (lst2 hp9) (lst2 hl9)
              have euA : HA la' = some (.lst us') := mA.out _ _ (s9 _ _ eu) (lst2 (s9 _ _ eu))
              have auA : DpAll K HA us' (as'.map At.d) := mA.dpAll (pds_at _).nl (DpAll.same s9 au)
              generalize ers : (rs ++ [(⟨z, colN c, y1, dy1, l1, dd (dd as')⟩ : Sch)]) = rs' at CA
              refine ⟨fun σ' H' => σ' = [some (.ref p), some (.ref x), some (.ref st), some (.ref ln), some (.str z), some (.int (colN c : Nat)), some (.int (wd : Nat)), some (.ref t'), some vr, some (.bl true), some (.ref q)] ∧ Md [p, dw, dl] H H' ∧ Src H' p l ∧ ScAt K H' x dx dw dl rs' ∧ H' q = some (.lst [.str "done"]) ∧ H' la' = some (.lst us') ∧ DpAll K H' us' (as'.map At.d) ∧ SqT K H' t' [.ref la', .bl (as'.all (At.fits (pn1 wd)))], ?_, ?_⟩
              · rcases hvr with ⟨rfl, e⟩ | ⟨y, dy, m, rfl, ny, nm, C8⟩
                · refine ⟨_, rfl, rfl, _, rfl, iteF ?_⟩
                  exact ⟨rfl, mHA, SA, CA, dq, euA, auA, htA⟩
                · refine ⟨_, rfl, rfl, _, rfl, iteT ?_⟩
                  have C9 := C8.same s9
                  obtain ⟨vm, em, _⟩ := C9.hl
                  have CyA : CdAt K HA y dy m (dd as') := C9.md mA (not2 (ne_of C9.hx A9.sc.hw (by intro z; cases z)) (ne_of C9.hx A9.sc.hl (by intro z; cases z))) (lst2 em)
                  refine ⟨_, rfl, (by show 2 ≤ sizeLine; decide), fun a1 n1 => ?_⟩
                  generalize eHB : upd HA a1 _ = HB
                  have sB : Same HA HB := eHB ▸ same_upd n1
                  have eB : HB a1 = some _ := eHB ▸ upd_same
                  refine ⟨(by show 2 ≤ sizeLine; decide), fun a2 n2 => ?_⟩
                  generalize eHC : upd HB a2 _ = HC
                  have sC : Same HB HC := eHC ▸ same_upd n2
                  have eC : HC a2 = some _ := eHC ▸ upd_same
                  refine ⟨(by show 2 ≤ sizeLine; decide), fun a3 n3 => ?_⟩
                  generalize eHD : upd HC a3 _ = HD
                  have sD : Same HC HD := eHD ▸ same_upd n3
                  have eD : HD a3 = some _ := eHD ▸ upd_same
                  refine ⟨(by show 3 ≤ sizeLine; decide), fun a4 n4 => ?_⟩
                  generalize eHE : upd HD a4 _ = HE
                  have sE : Same HD HE := eHE ▸ same_upd n4
                  have eE : HE a4 = some _ := eHE ▸ upd_same
                  refine ⟨(by show 1 ≤ sizeLine; decide), fun a5 n5 => ?_⟩
                  generalize eHF : upd HE a5 _ = HF
                  have sF : Same HE HF := eHF ▸ same_upd n5
                  have eF : HF a5 = some _ := eHF ▸ upd_same
                  have dat : Dp K HF (.ref a4) (At.d (at9 99)) := .tup (SqT.of (sF _ _ eE)) (.cons (.str _) (.cons (.tup (SqT.of (sF _ _ (sE _ _ (sD _ _ (sC _ _ eB))))) (.cons (.str _) (.cons (.int _) .nil))) (.cons (.tup (SqT.of (sF _ _ (sE _ _ eD))) (.cons (.str _) (.cons (.tup (SqT.of (sF _ _ (sE _ _ (sD _ _ eC)))) (.cons (.int _) (.cons (.int _) .nil))) .nil))) .nil)))
                  refine mkCd (as := [at9 99]) (.inl (SqL.of eF)) (.cons dat .nil) (fun a ha => by cases List.mem_singleton.mp ha; exact at9_ok (by decide)) (by decide) fun w1 dw1 m1 HG sG nw1 nm1 hwm1 CW => ?_
                  have sAG : Same HA HG := sB.trans (sC.trans (sD.trans (sE.trans (sF.trans sG))))
                  have CyG := CyA.same sAG
                  refine ⟨_, _, _, rfl, CyG.hx, _, _, _, _, _, _, _, _, rfl, CyG, CW, by omega, Nat.le_trans (dd_len _) (by decide), fun n' HI mI nn CI => ?_⟩
                  have mHI : Md [y, p, dw, dl] H HI := (mHA.mono (by simp)).trans ((Md.of sAG).trans (mI.mono (by simp)))
                  have nal : ∀ {b : Addr} {o : HO}, H b = some o → b ∉ [y] := fun hb => not1 (ne_of_none hb ny)
                  have nal9 : ∀ {b : Addr}, H9 b = none → b ∉ [y] := fun hb => not1 (Ne.symm (ne_of_none C9.hx hb))
                  have nlst : ∀ {b : Addr} {o : List V}, HA b = some (.lst o) → b ∉ [y] := fun hb => not1 (ne_of hb CyA.hx (by intro z; cases z))
                  have SG := SA.same sAG
                  obtain ⟨xlA, hlA⟩ := SA.lst2
                  obtain ⟨xpA, hpA⟩ := SA.lst
                  refine ⟨rfl, mHI.newM (.refl _ _) ny, Src.md SG mI (nlst hpA) (nlst hlA), (CA.same sAG).md mI (nal A0.sc.hx) (nal A0.sc.hw) (nal A0.sc.hl) (fun s hs => ?_), mI.out _ _ (sAG _ _ dq) (nlst dq), mI.out _ _ (sAG _ _ euA) (nlst euA), mI.dpAll (pds_at _).nl (DpAll.same sAG auA), mI.sqT (Same.seqT sAG htA)⟩
                  rw [← ers] at hs
                  rcases List.mem_append.mp hs with hs | hs
                  · obtain ⟨vv, e, _⟩ := (A0.sc.hc s hs).hl
                    exact ⟨nal (A0.sc.hc s hs).hx, nal e⟩
                  · cases List.mem_singleton.mp hs
                    exact ⟨nal9 ny1, nal9 nl1⟩
              · rintro σ' HB ⟨rfl, mB, SB, CB, eq, euB, auB, htB⟩
                obtain ⟨xpB, hpB⟩ := SB.lst
                have alB : Al M HB := al.md mB (al_cons hpB (al_cons CB.hw (al1 CB.hl)))
                have stn : st ∉ [p, dw, dl] := by
                  obtain ⟨vs0, e0, _⟩ := A0.sa
                  have h1 : st ≠ dw := ne_of e0 A0.sc.hw (by intro z; cases z)
                  have h2 : st ≠ dl := ne_of e0 A0.sc.hl (by intro z; cases z)
                  simp [Ne.symm pst, h1, h2]
                have saB : StAt K M HB st (rs.map keyS) := A0.sa.md mB (by simp [pM, A0.wm.1, A0.wm.2.1]) stn
                obtain ⟨vs0, est, rows⟩ := id saB
                refine ⟨_, rfl, .inl ⟨rfl, _, SqL.of est⟩, _, rfl, _, rfl, (by show 0 ≤ sizeLine; decide), fun e0 ne0 => ?_⟩
                generalize eHC : upd HB e0 _ = HC
                have sC : Same HB HC := eHC ▸ same_upd ne0
                have eC : HC e0 = some _ := eHC ▸ upd_same
                refine ⟨_, rfl, _, _, 0, _, rfl, rfl, Same.seqT sC htB, atI_nat (j := 0) rfl, e0, la', [], us', [], as', rfl, eC, .nil, sC _ _ euB, DpAll.same sC auB, by decide, by omega, fun pj zs HD sD npj ej dj => ?_⟩
                refine ⟨(by show 3 ≤ sizeLine; decide), fun r nr => ?_⟩
                generalize eHE : upd HD r _ = HE
                have sE : Same HD HE := eHE ▸ same_upd nr
                have eE : HE r = some _ := eHE ▸ upd_same
                have sBE : Same HB HE := sC.trans (sD.trans sE)
                have estE := sBE _ _ est
                have lr := rows.length
                rw [List.length_map] at lr
                refine ⟨st, _, _, rfl, rfl, estE, (by rw [lr]; exact Nat.lt_of_le_of_lt (Nat.le_trans A0.ln hn) (by decide)), ?_⟩
                generalize eHF : upd HE st _ = HF
                have mF : Md [st] HE HF := eHF ▸ Md.upd estE rfl (by simp)
                have stF : HF st = some (.lst (vs0 ++ [.ref r])) := eHF ▸ upd_same
                have alE := alB.same sBE
                have inM : ∀ {b : Addr}, b ∉ M → b ∉ [st] := fun hb z => by cases List.mem_singleton.mp z; exact hb A0.wm.2.2
                have rM : r ∉ M := (alB.same (sC.trans sD)).out nr
                have jM : pj ∉ M := (alB.same sC).out npj
                have qst : q ∉ [st] := by
                  obtain ⟨vs9, e9, _⟩ := A9.sa
                  exact not1 (Ne.symm (ne_of_none e9 nq))
                have cm' : ∀ s ∈ rs', s.c ∉ M ∧ s.l ∉ M := fun s hs => by
                  rw [← ers] at hs
                  rcases List.mem_append.mp hs with hs | hs
                  · exact A0.cm s hs
                  · cases List.mem_singleton.mp hs
                    exact ⟨al9.out ny1, al9.out nl1⟩
                have kst : ∀ {b : Addr} {kv : List (Key × V)}, HE b = some (.dK kv) → b ∉ [st] := fun hb => not1 (ne_of hb estE (by intro z; cases z))
                have CE := CB.same sBE
                have CF : ScAt K HF x dx dw dl rs' := CE.md mF (inM A0.xm) (kst CE.hw) (kst CE.hl) (fun s hs => ⟨inM (cm' s hs).1, inM (cm' s hs).2⟩)
                have rowF : RowAt K M HF (.ref r) (z, colN c, dd as') := ⟨r, pj, zs, rfl, rM, jM, mF.out _ _ eE (inM rM), mF.out _ _ (sE _ _ ej) (inM jM), mF.dpAll (pds_at _).nl (DpAll.same sE dj)⟩
                have keys : rs'.map keyS = rs.map keyS ++ [(z, colN c, dd as')] := by
                  rw [← ers, List.map_append]
                  show _ ++ [(z, colN c, dd (dd as'))] = _
                  rw [dd_dd]
                have saF : StAt K M HF st (rs'.map keyS) := ⟨_, stF, by rw [keys]; exact RowsAt.snoc rowF ((rows.md (S := []) (Md.of sBE) (by simp)).md mF (by simp [A0.wm.2.2]))⟩
                have pstn : p ∉ [st] := not1 pst
                have lstn : l ∉ [st] := inM lM
                have SF : Src HF p l := Src.md (SB.same sBE) mF pstn lstn
                have PF' : Par K M HF x dx dw dl st rs' (n + 1) := by
                  refine ⟨CF, saF, A0.xm, cm', A0.wm, A0.ne, ?_, ?_, ?_, ?_, ?_, ?_⟩
                  · rw [← ers]
                    unfold nmS
                    rw [List.map_append]
                    refine List.nodup_append.mpr ⟨A0.nd, by simp, fun a ha b hb e => ?_⟩
                    have hb' : b = z := by simpa using hb
                    obtain ⟨s, hs, es⟩ := List.mem_map.mp ha
                    have : (findS rs z).isSome = true := by
                      have := findS_of A0.nd hs
                      rw [es, e, hb'] at this
                      rw [this]; rfl
                    have h2 : (findS rs z).isSome = false := hnS
                    rw [this] at h2
                    cases h2
                  · intro s hs
                    rw [← ers] at hs
                    rcases List.mem_append.mp hs with hs | hs
                    · exact A0.nm s hs
                    · cases List.mem_singleton.mp hs
                      exact hz'
                  · intro s hs
                    rw [← ers] at hs
                    rcases List.mem_append.mp hs with hs | hs
                    · exact A0.wn s hs
                    · cases List.mem_singleton.mp hs
                      exact ⟨k4, k5⟩
                  · intro s hs
                    rw [← ers] at hs
                    rcases List.mem_append.mp hs with hs | hs
                    · exact A0.dn s hs
                    · cases List.mem_singleton.mp hs
                      exact dd_nodup _
                  · rw [← ers, List.length_append]
                    exact Nat.add_le_add A0.ln (Nat.le_refl _)
                  · intro s hs
                    rw [← ers] at hs
                    rcases List.mem_append.mp hs with hs | hs
                    · have := A0.la s hs; omega
                    · cases List.mem_singleton.mp hs
                      show (dd (dd as')).length ≤ _
                      rw [dd_dd]
                      omega
                have qF := mF.out _ _ (sBE _ _ eq) qst
                refine ⟨_, rfl, (by show 1 ≤ sizeLine; decide), fun u nu => ?_⟩
                generalize eHG : upd HF u _ = HG
                have sG : Same HF HG := eHG ▸ same_upd nu
                have eG : HG u = some _ := eHG ▸ upd_same
                have pc : Pds [.str "done"] := pd_one (by decide +kernel)
                refine ⟨_, _, .lst (SqL.of (sG _ _ qF)) (.cons (.str _) .nil), .lst (SqL.of eG) (.cons (.str _) .nil), pc.shaped, pc.shaped, ?_⟩
                rw [pc.refl]
                exact hQ HG rs' ((mB.mono (by simp)).trans ((Md.of sBE).trans ((mF.mono (by simp)).trans (Md.of sG)))) (SF.same sG) (PF'.same sG)
end
end K09
namespace K09
open PySem PySem.Spec PyProof.Rows L2 He TL EL
section
variable {P : Program} {w : World} {K : PySem.W.Frag} {mg : Str → Option Value} {base : Heap}
/-! _law_narrow -/
theorem setS_out {rs : List Sch} {z : Str} {q dq l : Addr} {as : List At} (h : z ∉ nmS rs) : setS rs z q dq l as = rs := by
  unfold setS
  refine (List.map_congr_left fun s hs => ?_).trans (List.map_id _)
  exact if_neg (fun (e : s.nm = z) => h (e ▸ List.mem_map_of_mem (f := Sch.nm) hs))
theorem setS_cons (s : Sch) (r : List Sch) (z : Str) (q dq l : Addr) (as : List At) : setS (s :: r) z q dq l as = (if s.nm = z then ⟨s.nm, s.n, q, dq, l, as⟩ else s) :: setS r z q dq l as := rfl
theorem setS_keys {q dq l : Addr} {as : List At} : ∀ {rs : List Sch} {i : Nat} {s : Sch}, (nmS rs).Nodup → rs[i]? = some s → (setS rs s.nm q dq l as).map keyS = (rs.map keyS).set i (s.nm, s.n, as)
  | s0 :: r, 0, s, nd, h => by
    cases h
    rw [setS_cons, if_pos rfl, setS_out (List.nodup_cons.mp nd).1]
    rfl
  | s0 :: r, i + 1, s, nd, h => by
    obtain ⟨n1, n2⟩ := List.nodup_cons.mp (show (s0.nm :: nmS r).Nodup from nd)
    have h : r[i]? = some s := h
    have ne : s0.nm ≠ s.nm := fun e => n1 (e ▸ List.mem_map_of_mem (List.mem_of_getElem? h))
    rw [setS_cons, if_neg ne, List.map_cons, List.map_cons, List.set_cons_succ, setS_keys n2 h]
theorem setS_nm (rs : List Sch) (z : Str) (q dq l : Addr) (as : List At) : nmS (setS rs z q dq l as) = nmS rs := by
  unfold nmS setS
  rw [List.map_map]
  refine List.map_congr_left fun s _ => ?_
  show (if s.nm = z then (⟨s.nm, s.n, q, dq, l, as⟩ : Sch) else s).nm = s.nm
  split <;> rfl
theorem setS_mem {rs : List Sch} {z : Str} {q dq l : Addr} {as : List At} {s : Sch} (h : s ∈ setS rs z q dq l as) : s ∈ rs ∨ ∃ s0 ∈ rs, s0.nm = z ∧ s = ⟨s0.nm, s0.n, q, dq, l, as⟩ := by
  unfold setS at h
  obtain ⟨u, hu, rfl⟩ := List.mem_map.mp h
  by_cases e : u.nm = z
  · rw [if_pos e]; exact .inr ⟨u, hu, e, rfl⟩
  · rw [if_neg e]; exact .inl hu
theorem mem_fold {a : At} : ∀ {l acc : List At}, a ∈ l.foldl ddS acc ↔ a ∈ acc ∨ a ∈ l
  | [], acc => by simp
  | b :: r, acc => by
    show a ∈ r.foldl ddS (ddS acc b) ↔ _
    rw [mem_fold]
    have h2 : a ∈ ddS acc b ↔ a ∈ acc ∨ a = b := by
      by_cases hm : b ∈ acc
      · rw [ddS_in hm]; exact ⟨.inl, fun h => h.elim id (fun e => e ▸ hm)⟩
      · rw [ddS_out hm]; simp
    rw [h2, List.mem_cons, or_assoc]
theorem fold_take (acc as : List At) : ∀ n, (dd (as.take n)).foldl ddS acc = (as.take n).foldl ddS acc
  | 0 => rfl
  | n + 1 => by
    have ih := fold_take acc as n
    cases e : as[n]? with
    | none => rw [List.take_add_one, e]; simp only [Option.toList_none, List.append_nil]; exact ih
    | some a =>
      rw [tk1 e, dd_snoc, List.foldl_append]
      show _ = ddS ((as.take n).foldl ddS acc) a
      by_cases hm : a ∈ dd (as.take n)
      · rw [ddS_in hm, ih, ddS_in (mem_fold.mpr (.inr ((dd_mem _ _).mp hm)))]
      · rw [ddS_out hm, List.foldl_append, ih]
        rfl
theorem fold_dd2 (acc as : List At) : (dd as).foldl ddS acc = as.foldl ddS acc := by
  have := fold_take acc as as.length
  rw [List.take_length] at this
  exact this
theorem dd_app {as : List At} (h : as.Nodup) (bs : List At) : dd (as ++ dd bs) = bs.foldl ddS as := by
  rw [← fold_dd h, fold_dd2]
def odV : List V := [.str "w", .str "", .int 3, .str "T"]
structure OdOk (K : PySem.W.Frag) (v : V) (d : PyData) : Prop where
  dp : ∀ H : Hp, Dp K H v d
  pd : Pd d
  no : ∀ z, d = .str z → z ∉ okNm
theorem od_str {z : Str} (h2 : PyData.strOk z = true) (h4 : z ∉ okNm) : OdOk K (.str z) (.str z) := ⟨fun _ => .str _, ⟨rfl, h2, by show 0 ≤ 16; decide⟩, fun y e => by cases e; exact h4⟩
theorem od_int (i : Int) : OdOk K (.int i) (.int i) := ⟨fun _ => .int _, ⟨rfl, rfl, by show 0 ≤ 16; decide⟩, fun y e => by cases e⟩
theorem od_ok {v : V} (h : v ∈ odV) : ∃ d, OdOk K v d := by
  unfold odV at h
  simp only [List.mem_cons, List.not_mem_nil, or_false] at h
  rcases h with rfl | rfl | rfl | rfl
  · exact ⟨_, od_str (by decide +kernel) (by decide +kernel)⟩
  · exact ⟨_, od_str (by decide +kernel) (by decide +kernel)⟩
  · exact ⟨_, od_int 3⟩
  · exact ⟨_, od_str (by decide +kernel) (by decide +kernel)⟩
theorem Par.notin {M : List Addr} {H : Hp} {x dx dw dl st : Addr} {rs : List Sch} {n : Nat} (A : Par K M H x dx dw dl st rs n) {d : PyData} (h : ∀ z, d = .str z → z ∉ okNm) : inS rs d = false := by
  cases d with
  | str z =>
    show (findS rs z).isSome = false
    cases e : findS rs z with
    | none => rfl
    | some s =>
      obtain ⟨h1, h2⟩ := findS_mem e
      exact absurd (h2 ▸ A.nm s h1) (h z rfl)
  | _ => rfl
theorem d_lnarrow (hP : PF P "/claim/cut.py") (T : Txt K mg) : Dn P w K mg base CX0 10 "_law_narrow" (spLadd K) := by
  obtain ⟨fd, F⟩ := T.f__law_narrow
  have D__law_draw := d_draw (P := P) (w := w) (base := base) T
  have D__law_rules := d_lrules (P := P) (w := w) (base := base) T
  have D__law_narrowed := d_narrowed (P := P) (w := w) (base := base) hP T
  have D__law_joined := d_joined (P := P) (w := w) (base := base) T
  have D_cd := d_cd1 (P := P) (w := w) (base := base) T
  have D_cd0 := d_cd0 (P := P) (w := w) (base := base) T
  have D_iand := d_iand (P := P) (w := w) (base := base) T
  refine dnN T.g__law_narrow F (fun _ _ _ _ _ _ us hl => match us, hl with | [_, _, _], _ => rfl) sc__law_narrow (fun vs H Q E h => ?_) (fun cdv A outer s H vs Q E hr h => ?_)
  · obtain ⟨p, l, x, dx, dw, dl, st, rs, M, n, rfl, _⟩ := h
    rfl
  · obtain ⟨p, l, x, dx, dw, dl, st, rs, M, n, rfl, S, A0, al, pM, lM, pst, hn, hQ⟩ := h
    refine ⟨_, PSs.nox (pss_cons (ps_set (i := 3) sc__law_narrow.nd rfl (.inl rfl) (pe_op op_mod (cl D__law_draw (hr.mono (by decide)) (pa_cons (pv 0) (pa_cons pe_int pa_nil))) (pe_op op_add (pe_callB call_len_seq (by rfl) T.z_len (by decide +kernel) (pa_cons (pv 2) pa_nil)) pe_int)))
      (pss_cons (ps_if (pt_cmpR op_eq (pv 3) (pe_callB call_len_seq (by rfl) T.z_len (by decide +kernel) (pa_cons (pv 2) pa_nil)) (nomark _)) (pss_cons (ps_set (i := 4) sc__law_narrow.nd rfl (.inl rfl) (pe_ix ix_list (pe_lst (pa_cons pe_str (pa_cons pe_str (pa_cons pe_int (pa_cons pe_str pa_nil))))) (cl D__law_draw (hr.mono (by decide)) (pa_cons (pv 0) (pa_cons pe_int pa_nil))) (fun _ _ => rfl)))
      (pss_one (ps_ret (pe_cmpR (op_eqD hr.units) (cl D__law_narrowed (hr.mono (by decide)) (pa_cons (pv 1) (pa_cons (pv 4) (pa_cons (pe_makeE0 T.m_Conditions D_cd0 (hr.mono (by decide)) T.g_Conditions pxq) pa_nil)))) (pe_lst (pa_cons pe_str (pa_cons (pv 4) (pa_cons pe_bl (pa_cons pe_bl pa_nil))))) (nomark _))))) pss_nil)
      (pss_cons (ps_set (i := 5) sc__law_narrow.nd rfl (.inl rfl) (cl D__law_rules (hr.mono (by decide)) (pa_cons (pv 0) (pa_cons (pe_ix ix_list (pe_ix ix_list (pv 2) (pv 3) (fun _ _ => rfl)) pe_int (fun _ _ => rfl)) pa_nil))))
      (pss_cons (ps_set (i := 6) sc__law_narrow.nd rfl (.inl rfl) (pe_makeE T.m_Conditions D_cd (hr.mono (by decide)) T.g_Conditions pxq (pa_cons (pe_ix ix_tup (pv 5) pe_int (fun _ _ => rfl)) pa_nil)))
      (pss_cons (ps_set (i := 7) sc__law_narrow.nd rfl (.inl rfl) (cl D__law_narrowed (hr.mono (by decide)) (pa_cons (pv 1) (pa_cons (pe_ix ix_list (pe_ix ix_list (pv 2) (pv 3) (fun _ _ => rfl)) pe_int (fun _ _ => rfl)) (pa_cons (pv 6) pa_nil)))))
      (pss_cons (ps_if (pt_not (pt_val (pe_ix ix_tup (pv 5) pe_int (fun _ _ => rfl)))) (pss_one (ps_ret (pe_cmpR (op_eqD hr.units) (pv 7) (pe_lst (pa_cons pe_str pa_nil)) (nomark _)))) pss_nil)
      (pss_cons (ps_aug (i := 6) sc__law_narrow.nd rfl (.inl rfl) (pe_makeE T.m_Conditions D_cd (hr.mono (by decide)) T.g_Conditions pxq (pa_cons (pe_lst (pa_cons (pe_tup (pa_cons pe_str (pa_cons (pe_tup (pa_cons pe_str (pa_cons pe_int pa_nil))) (pa_cons (pe_tup (pa_cons pe_str (pa_cons (pe_tup (pa_cons pe_int (pa_cons pe_int pa_nil))) pa_nil))) pa_nil)))) pa_nil)) pa_nil)) (ip_own T.sf_Conditions T.u_Conditions___iand__.1 T.u_Conditions___iand__.2 D_iand (hr.mono (by decide)) pass0))
      (pss_cons (ps_asg (pe_lst (pa_cons (pe_ix ix_list (pe_ix ix_list (pv 2) (pv 3) (fun _ _ => rfl)) pe_int (fun _ _ => rfl)) (pa_cons (pe_ix ix_list (pe_ix ix_list (pv 2) (pv 3) (fun _ _ => rfl)) pe_int (fun _ _ => rfl)) (pa_cons (cl D__law_joined (hr.mono (by decide)) (pa_cons (pe_ix ix_list (pe_ix ix_list (pv 2) (pv 3) (fun _ _ => rfl)) pe_int (fun _ _ => rfl)) (pa_cons (pe_ix ix_tup (pv 5) pe_int (fun _ _ => rfl)) pa_nil))) pa_nil)))) (pg_sub (pv 2) (pv 3) set_list))
      (pss_one (ps_ret (pe_cmpR (op_eqD hr.units) (pv 7) (pe_lst (pa_cons pe_str pa_nil)) (nomark _)))))))))))), ?_⟩
    obtain ⟨xs0, hp0⟩ := S.lst
    have dwp : dw ∉ [p] := not1 (ne_of A0.sc.hw hp0 (by intro z; cases z))
    have dlp : dl ∉ [p] := not1 (ne_of A0.sc.hl hp0 (by intro z; cases z))
    have frA : ∀ {H' : Hp}, Md [p] H H' → Par K M H' x dx dw dl st rs n := fun m => A0.md m (by simp [pM]) dwp dlp (not1 (Ne.symm pst))
    refine ⟨_, rfl, p, l, 90, rfl, by decide, by decide, S, fun j H1 j0 j1 S1 b1 => ?_⟩
    have m1 : Md [p] H H1 := b1.md hp0 rfl
    have A1 := frA m1
    obtain ⟨vs1, est1, rows1⟩ := id A1.sa
    have lr := rows1.length
    rw [List.length_map] at lr
    obtain ⟨xs1, hp1⟩ := S1.lst
    refine ⟨_, rfl, _, _, rfl, .inl (SqL.of est1), _, _, rfl, rfl, _, _, rfl, rfl, (by show (0 : Int) < (vs1.length : Int) + 1; omega), ?_⟩
    have hm0 : 0 ≤ j % ((vs1.length : Int) + 1) := Int.emod_nonneg _ (by omega)
    have hm1 : j % ((vs1.length : Int) + 1) < (vs1.length : Int) + 1 := Int.emod_lt_of_pos _ (by omega)
    obtain ⟨i, ei⟩ := Int.eq_ofNat_of_zero_le hm0
    refine ⟨_, rfl, _, rfl, _, _, rfl, .inl (SqL.of est1), rfl, _, rfl, ie (fun cc => ?_) (fun cc => ?_)⟩
    · refine ⟨(by show 4 ≤ sizeLine; decide), fun u nu => ?_⟩
      generalize eH2 : upd H1 u _ = H2
      have s2 : Same H1 H2 := eH2 ▸ same_upd nu
      have e2 : H2 u = some _ := eH2 ▸ upd_same
      have up : u ≠ p := Ne.symm (ne_of_none hp1 nu)
      refine ⟨_, rfl, p, l, 4, rfl, by decide, by decide, S1.same s2, fun k H3 k0 k1 S3 b3 => ?_⟩
      have m3 : Md [p] H2 H3 := b3.md (s2 _ _ hp1) rfl
      obtain ⟨vn, hvn, avn⟩ := atI_ex (xs := odV) k0 k1
      obtain ⟨d, OD⟩ := od_ok (K := K) hvn
      refine ⟨u, _, _, _, rfl, rfl, SqL.of (b3 _ _ e2 up), avn, ?_⟩
      have m03 : Md [p] H H3 := m1.trans ((Md.of s2).trans m3)
      have A3 := frA m03
      refine ⟨_, rfl, _, rfl, ?_⟩
      refine mkCd (a := dflAt ("Conditions", some "__init__") 0 K) (vs := []) (as := []) (.inr (T.dc0 _)) .nil (fun t ht => by cases ht) (by decide) fun y dy m H4 s4 _ _ _ C4 => ?_
      have A4 := A3.same s4
      refine ⟨x, dx, dw, dl, rs, vn, d, y, dy, m, _, rfl, A4.sc, OD.dp _, C4, Nat.le_trans A4.ln (by omega), by decide, A4.ne, fun g q HA sA dq => ?_, fun z sc ez hf => ?_⟩
      · refine ⟨_, rfl, (by show 4 ≤ sizeLine; decide), fun u nu => ?_⟩
        generalize eHB : upd HA u _ = HB
        have sB : Same HA HB := eHB ▸ same_upd nu
        have eB : HB u = some _ := eHB ▸ upd_same
        refine ⟨_, _, Dp.same sB dq, .lst (SqL.of eB) (.cons (.str _) (.cons (OD.dp _) (.cons (.bl _) (.cons (.bl _) .nil)))), (pd_tab OD.pd).shaped, (pd_tab OD.pd).shaped, ?_⟩
        rw [(pd_tab OD.pd).refl]
        have sH := s4.trans (sA.trans sB)
        exact hQ HB rs ((m03.trans (Md.of sH)).mono (by simp)) (S3.same sH) ((A3.same sH).up (by omega))
      · have := A4.notin OD.no
        rw [ez] at this
        have h2 : (findS rs z).isSome = false := this
        rw [hf] at h2
        cases h2
    · have hi : i < vs1.length := by
        have h : decide (V.int (j % ((vs1.length : Int) + 1)) = V.int (vs1.length : Int)) = false := cc
        rw [ei] at h hm1
        have : (i : Int) ≠ (vs1.length : Int) := fun z => by rw [z] at h; simp at h
        omega
      obtain ⟨v, hv⟩ : ∃ v, vs1[i]? = some v := ⟨_, List.getElem?_eq_getElem hi⟩
      obtain ⟨e, he, ra⟩ := rows1.get hv
      obtain ⟨sc, hsc, rfl⟩ := getM he
      have scm := List.mem_of_getElem? hsc
      obtain ⟨w1, w2⟩ := A0.wn sc scm
      have hf : findS rs sc.nm = some sc := findS_of A0.nd scm
      obtain ⟨ra1, ral, rvs, rfl, raM, ralM, er1, er2, dr⟩ := id ra
      have er1 : H1 ra1 = some (.lst [.str sc.nm, .int (sc.n : Nat), .ref ral]) := er1
      have dr : DpAll K H1 rvs (sc.as.map At.d) := dr
      have inM : ∀ {b : Addr} {S : List Addr}, b ∉ M → (∀ a ∈ S, a ∈ M) → b ∉ S := fun hb hS z => hb (hS _ z)
      -- the rules
      refine ⟨_, rfl, _, rfl, _, rfl, _, _, _, _, rfl, rfl, SqL.of est1, (by rw [ei]; exact atI_nat hv), _, _, 1, _, rfl, rfl, SqL.of er1, atI_nat (j := 1) rfl, p, l, sc.n, rfl, w1, S1, fun t la us as H2 m2 S2 nla nt ht eu au hok hlen => ?_⟩
      have m02 : Md [p] H H2 := m1.trans m2
      obtain ⟨xs2, hp2⟩ := S2.lst
      have la0 : H la = none := free_md m1 (al1 hp1) nla
      refine ⟨_, rfl, _, _, 0, _, rfl, rfl, ht, atI_nat (j := 0) rfl, ?_⟩
      refine mkCd (as := as) (.inl (SqL.of eu)) au hok (Nat.le_trans hlen (by decide)) fun y dy m H3 s3 ny nm hym CY => ?_
      have m03 : Md [p] H H3 := m02.trans (Md.of s3)
      have m13 : Md [p] H1 H3 := m2.trans (Md.of s3)
      have A3 := frA m03
      have ny0 : H y = none := free_md m02 (al1 hp2) ny
      have S3 := S2.same s3
      have hp3 := s3 _ _ hp2
      have al3 : Al M H3 := al.md m03 (al1 hp3)
      have pm1 : ∀ a ∈ [p], a ∈ M := by simp [pM]
      have est3 : H3 st = some (.lst vs1) := m13.out _ _ est1 (not1 (Ne.symm pst))
      have er13 := m13.out _ _ er1 (inM raM pm1)
      have er23 := m13.out _ _ er2 (inM ralM pm1)
      have dr3 : DpAll K H3 rvs (sc.as.map At.d) := m13.dpAll (pds_at _).nl dr
      have fe : ∀ pn, (dd as).all (At.fits pn) = as.all (At.fits pn) := fun pn => by
        rw [Bool.eq_iff_iff, List.all_eq_true, List.all_eq_true]
        exact ⟨fun h a ha => h a ((dd_mem _ _).mpr ha), fun h a ha => h a ((dd_mem _ _).mp ha)⟩
      have ld : (dd as).length ≤ 2 := Nat.le_trans (dd_len _) hlen
      have hsa := A0.la sc scm
      refine ⟨_, rfl, _, rfl, _, rfl, _, _, _, _, rfl, rfl, SqL.of est3, (by rw [ei]; exact atI_nat hv), _, _, 0, _, rfl, rfl, SqL.of er13, atI_nat (j := 0) rfl, _, rfl, x, dx, dw, dl, rs, _, .str sc.nm, y, dy, m, dd as, rfl, A3.sc, .str _, CY, Nat.le_trans A3.ln (by omega), by omega, A3.ne, fun g => ?_, fun z sc' ez hf' => ?_⟩
      · have g : (findS rs sc.nm).isSome = false := g
        rw [hf] at g
        cases g
      · cases ez
        rw [hf] at hf'
        cases hf'
        refine ⟨by omega, fun g q HA sA dq => ?_, fun g q1 dq1 l1 HA q mA nq1 nl1 hql1 CA nq dq => ?_⟩
        · rw [fe] at g
          have htA := Same.seqT (s3.trans sA) ht
          refine ⟨_, rfl, _, _, 1, _, rfl, rfl, htA, atI_nat (j := 1) rfl, _, rfl, ?_⟩
          rw [g]
          refine iteT ?_
          refine ⟨_, rfl, (by show 1 ≤ sizeLine; decide), fun u nu => ?_⟩
          generalize eHB : upd HA u _ = HB
          have sB : Same HA HB := eHB ▸ same_upd nu
          have eB : HB u = some _ := eHB ▸ upd_same
          have pc : Pds [.str "condition"] := pd_one (by decide +kernel)
          refine ⟨_, _, Dp.same sB dq, .lst (SqL.of eB) (.cons (.str _) .nil), pc.shaped, pc.shaped, ?_⟩
          rw [pc.refl]
          exact hQ HB rs ((m03.trans (Md.of (sA.trans sB))).mono (by simp)) (S3.same (sA.trans sB)) ((A3.same (sA.trans sB)).up (by omega))
        · rw [fe] at g
          have htA := mA.sqT (Same.seqT s3 ht)
          refine ⟨_, rfl, _, _, 1, _, rfl, rfl, htA, atI_nat (j := 1) rfl, _, rfl, ?_⟩
          rw [g]
          refine iteF ?_
          have mHA : Md [p, dl] H1 HA := (m13.mono (by simp)).trans (mA.mono (by simp))
          have ny1 : H1 y = none := free_md m2 (al1 hp2) ny
          have lst1 : ∀ {b : Addr} {o : List V}, H3 b = some (.lst o) → b ∉ [dl] := fun hb => not1 (ne_of hb A3.sc.hl (by intro z; cases z))
          obtain ⟨xl3, hl3⟩ := S3.lst2
          have SA : Src HA p l := Src.md S3 mA (lst1 hp3) (lst1 hl3)
          have eu3 := s3 _ _ eu
          have euA : HA la = some (.lst us) := mA.out _ _ eu3 (lst1 eu3)
          have auA : DpAll K HA us (as.map At.d) := mA.dpAll (pds_at _).nl (DpAll.same s3 au)
          obtain ⟨vm, em, _⟩ := CY.hl
          have CyA : CdAt K HA y dy m (dd as) := CY.md mA (not1 (ne_of CY.hx A3.sc.hl (by intro z; cases z))) (lst1 em)
          generalize ers : setS rs sc.nm q1 dq1 l1 (dd (sc.as ++ dd as)) = rs' at CA
          refine ⟨_, rfl, (by show 2 ≤ sizeLine; decide), fun a1 n1 => ?_⟩
          generalize eHB : upd HA a1 _ = HB
          have sB : Same HA HB := eHB ▸ same_upd n1
          have eB : HB a1 = some _ := eHB ▸ upd_same
          refine ⟨(by show 2 ≤ sizeLine; decide), fun a2 n2 => ?_⟩
          generalize eHC : upd HB a2 _ = HC
          have sC : Same HB HC := eHC ▸ same_upd n2
          have eC : HC a2 = some _ := eHC ▸ upd_same
          refine ⟨(by show 2 ≤ sizeLine; decide), fun a3 n3 => ?_⟩
          generalize eHD : upd HC a3 _ = HD
          have sD : Same HC HD := eHD ▸ same_upd n3
          have eD : HD a3 = some _ := eHD ▸ upd_same
          refine ⟨(by show 3 ≤ sizeLine; decide), fun a4 n4 => ?_⟩
          generalize eHE : upd HD a4 _ = HE
          have sE : Same HD HE := eHE ▸ same_upd n4
          have eE : HE a4 = some _ := eHE ▸ upd_same
          refine ⟨(by show 1 ≤ sizeLine; decide), fun a5 n5 => ?_⟩
          generalize eHF : upd HE a5 _ = HF
          have sF : Same HE HF := eHF ▸ same_upd n5
          have eF : HF a5 = some _ := eHF ▸ upd_same
          have dat : Dp K HF (.ref a4) (At.d (at9 99)) := .tup (SqT.of (sF _ _ eE)) (.cons (.str _) (.cons (.tup (SqT.of (sF _ _ (sE _ _ (sD _ _ (sC _ _ eB))))) (.cons (.str _) (.cons (.int _) .nil))) (.cons (.tup (SqT.of (sF _ _ (sE _ _ eD))) (.cons (.str _) (.cons (.tup (SqT.of (sF _ _ (sE _ _ (sD _ _ eC)))) (.cons (.int _) (.cons (.int _) .nil))) .nil))) .nil)))
          refine mkCd (as := [at9 99]) (.inl (SqL.of eF)) (.cons dat .nil) (fun a ha => by cases List.mem_singleton.mp ha; exact at9_ok (by decide)) (by decide) fun w1' dw1 m1' HG sG nw1 nm1 hwm1 CW => ?_
          have sAG : Same HA HG := sB.trans (sC.trans (sD.trans (sE.trans (sF.trans sG))))
          have CyG := CyA.same sAG
          refine ⟨_, _, _, rfl, CyG.hx, _, _, _, _, _, _, _, _, rfl, CyG, CW, by omega, Nat.le_trans (dd_len _) (by decide), fun n' HI mI nn CI => ?_⟩
          have mI' : Md [y, p, dl] H1 HI := (mHA.mono (by simp)).trans ((Md.of sAG).trans (mI.mono (by simp)))
          have m1I : Md [p, dl] H1 HI := mI'.newM (.refl _ _) ny1
          have nal : ∀ {b : Addr} {o : HO}, H1 b = some o → b ∉ [y] := fun hb => not1 (ne_of_none hb ny1)
          have nal3 : ∀ {b : Addr}, H3 b = none → b ∉ [y] := fun hb => not1 (Ne.symm (ne_of_none CY.hx hb))
          have nlst : ∀ {b : Addr} {o : List V}, HA b = some (.lst o) → b ∉ [y] := fun hb => not1 (ne_of hb CyA.hx (by intro z; cases z))
          have SG := SA.same sAG
          obtain ⟨xlA, hlA⟩ := SA.lst2
          obtain ⟨xpA, hpA⟩ := SA.lst
          have SI : Src HI p l := Src.md SG mI (nlst hpA) (nlst hlA)
          have CI' : ScAt K HI x dx dw dl rs' := (CA.same sAG).md mI (nal A1.sc.hx) (nal A1.sc.hw) (nal A1.sc.hl) (fun s hs => by
            rw [← ers] at hs
            rcases setS_mem hs with hs | ⟨s0, hs0, _, rfl⟩
            · obtain ⟨vv, e, _⟩ := (A1.sc.hc s hs).hl
              exact ⟨nal (A1.sc.hc s hs).hx, nal e⟩
            · exact ⟨nal3 nq1, nal3 nl1⟩)
          have eqI := mI.out _ _ (sAG _ _ dq) (nlst dq)
          have euI := mI.out _ _ (sAG _ _ euA) (nlst euA)
          have auI : DpAll K HI us (as.map At.d) := mI.dpAll (pds_at _).nl (DpAll.same sAG auA)
          have htI := mI.sqT (Same.seqT sAG htA)
          have pdM : ∀ a ∈ [p, dl], a ∈ M := by simp [pM, A0.wm.2.1]
          have stn : st ∉ [p, dl] := not2 (Ne.symm pst) (ne_of est1 A1.sc.hl (by intro z; cases z))
          have estI := m1I.out _ _ est1 stn
          have er1I := m1I.out _ _ er1 (inM raM pdM)
          have er2I := m1I.out _ _ er2 (inM ralM pdM)
          have drI : DpAll K HI rvs (sc.as.map At.d) := m1I.dpAll (pds_at _).nl dr
          have rowsI := rows1.md m1I pdM
          have alI : Al M HI := (al.md m1 (al1 hp1)).md m1I (by obtain ⟨xI, hI⟩ := SI.lst; exact al_cons hI (al1 CI'.hl))
          refine ⟨_, rfl, _, rfl, _, _, _, _, rfl, rfl, SqL.of estI, (by rw [ei]; exact atI_nat hv), _, _, 0, _, rfl, rfl, SqL.of er1I, atI_nat (j := 0) rfl, ?_⟩
          refine ⟨_, rfl, _, rfl, _, _, _, _, rfl, rfl, SqL.of estI, (by rw [ei]; exact atI_nat hv), _, _, 1, _, rfl, rfl, SqL.of er1I, atI_nat (j := 1) rfl, ?_⟩
          refine ⟨_, rfl, _, rfl, _, _, _, _, rfl, rfl, SqL.of estI, (by rw [ei]; exact atI_nat hv), _, _, 2, _, rfl, rfl, SqL.of er1I, atI_nat (j := 2) rfl, ?_⟩
          refine ⟨_, rfl, _, _, 0, _, rfl, rfl, htI, atI_nat (j := 0) rfl, ral, la, rvs, us, sc.as, as, rfl, er2I, drI, euI, auI, by omega, by omega, fun pj zs HJ sJ npj ej dj => ?_⟩
          refine ⟨(by show 3 ≤ sizeLine; decide), fun r nr => ?_⟩
          generalize eHK : upd HJ r _ = HK
          have sK : Same HJ HK := eHK ▸ same_upd nr
          have eK : HK r = some _ := eHK ▸ upd_same
          have sIK : Same HI HK := sJ.trans sK
          have estK := sIK _ _ estI
          refine ⟨_, rfl, _, rfl, st, vs1, _, i, rfl, rfl, estK, ?_, ?_⟩
          · show ixN vs1.length (j % ((vs1.length : Int) + 1)) = some i
            rw [ei]
            unfold ixN
            rw [if_pos (Int.natCast_nonneg i)]
            first
              | rw [if_pos (by omega)]; rfl
              | (simp; omega)
          · generalize eHL : upd HK st _ = HL
            have mL : Md [st] HK HL := eHL ▸ Md.upd estK rfl (by simp)
            have stL : HL st = some (.lst (vs1.set i (.ref r))) := eHL ▸ upd_same
            have inS' : ∀ {b : Addr}, b ∉ M → b ∉ [st] := fun hb z => by cases List.mem_singleton.mp z; exact hb A0.wm.2.2
            have rM : r ∉ M := (alI.same sJ).out nr
            have jM : pj ∉ M := alI.out npj
            have qst : q ∉ [st] := not1 (Ne.symm (ne_of_none est3 nq))
            have cm' : ∀ s ∈ rs', s.c ∉ M ∧ s.l ∉ M := fun s hs => by
              rw [← ers] at hs
              rcases setS_mem hs with hs | ⟨s0, hs0, _, rfl⟩
              · exact A0.cm s hs
              · exact ⟨al3.out nq1, al3.out nl1⟩
            have kst : ∀ {b : Addr} {kv : List (Key × V)}, HK b = some (.dK kv) → b ∉ [st] := fun hb => not1 (ne_of hb estK (by intro z; cases z))
            have CK := CI'.same sIK
            have CL : ScAt K HL x dx dw dl rs' := CK.md mL (inS' A0.xm) (kst CK.hw) (kst CK.hl) (fun s hs => ⟨inS' (cm' s hs).1, inS' (cm' s hs).2⟩)
            have rowL : RowAt K M HL (.ref r) (sc.nm, sc.n, as.foldl ddS sc.as) := ⟨r, pj, zs, rfl, rM, jM, mL.out _ _ eK (inS' rM), mL.out _ _ (sK _ _ ej) (inS' jM), mL.dpAll (pds_at _).nl (DpAll.same sK dj)⟩
            have keys : rs'.map keyS = (rs.map keyS).set i (sc.nm, sc.n, as.foldl ddS sc.as) := by
              rw [← ers, setS_keys A0.nd hsc, dd_app (A0.dn sc scm)]
            have saL : StAt K M HL st (rs'.map keyS) := ⟨_, stL, by rw [keys]; exact RowsAt.set rowL i ((rowsI.md (S := []) (Md.of sIK) (by simp)).md mL (by simp [A0.wm.2.2]))⟩
            have SL : Src HL p l := Src.md (SI.same sIK) mL (not1 pst) (inS' lM)
            have PL : Par K M HL x dx dw dl st rs' (n + 1) := by
              refine ⟨CL, saL, A0.xm, cm', A0.wm, A0.ne, ?_, ?_, ?_, ?_, ?_, ?_⟩
              · rw [← ers, setS_nm]
                exact A0.nd
              · intro s hs
                rw [← ers] at hs
                rcases setS_mem hs with hs | ⟨s0, hs0, _, rfl⟩
                · exact A0.nm s hs
                · exact A0.nm s0 hs0
              · intro s hs
                rw [← ers] at hs
                rcases setS_mem hs with hs | ⟨s0, hs0, _, rfl⟩
                · exact A0.wn s hs
                · exact A0.wn s0 hs0
              · intro s hs
                rw [← ers] at hs
                rcases setS_mem hs with hs | ⟨s0, hs0, _, rfl⟩
                · exact A0.dn s hs
                · exact dd_nodup _
              · rw [← ers]
                unfold setS
                rw [List.length_map]
                exact Nat.le_trans A0.ln (by omega)
              · intro s hs
                rw [← ers] at hs
                rcases setS_mem hs with hs | ⟨s0, hs0, _, rfl⟩
                · have := A0.la s hs; omega
                · show (dd (sc.as ++ dd as)).length ≤ _
                  have h1 := dd_len (sc.as ++ dd as)
                  rw [List.length_append] at h1
                  omega
            have qL := mL.out _ _ (sIK _ _ eqI) qst
            refine ⟨_, rfl, (by show 1 ≤ sizeLine; decide), fun u nu => ?_⟩
            generalize eHM : upd HL u _ = HM
            have sM : Same HL HM := eHM ▸ same_upd nu
            have eM : HM u = some _ := eHM ▸ upd_same
            have pc : Pds [.str "done"] := pd_one (by decide +kernel)
            refine ⟨_, _, .lst (SqL.of (sM _ _ qL)) (.cons (.str _) .nil), .lst (SqL.of eM) (.cons (.str _) .nil), pc.shaped, pc.shaped, ?_⟩
            rw [pc.refl]
            exact hQ HM rs' ((m1.mono (by simp)).trans ((m1I.mono (by simp)).trans ((Md.of sIK).trans ((mL.mono (by simp)).trans (Md.of sM))))) (SL.same sM) (PL.same sM)
end
end K09
namespace K09
open PySem PySem.Spec PyProof.Rows L2 He TL EL
section
variable {P : Program} {w : World} {K : PySem.W.Frag} {mg : Str → Option Value} {base : Heap}
/-! _law_asked -/
def spAsked (K : PySem.W.Frag) : Sp := fun vs H Q _ => ∃ x dx dw dl rs v d, vs = [.ref x, v] ∧ ScAt K H x dx dw dl rs ∧ OdOk K v d ∧ inS rs d = false ∧ ∀ H', Same H H' → Q (.int 2) H'
theorem d_asked (hP : PF P "/claim/cut.py") (T : Txt K mg) : Dn P w K mg base CX0 8 "_law_asked" (spAsked K) := by
  obtain ⟨fd, F⟩ := T.f__law_asked
  have D_col := d_sc_col (P := P) (w := w) (base := base) hP T
  have D_rules := d_sc_rules (P := P) (w := w) (base := base) hP T
  refine dnN T.g__law_asked F (fun _ _ _ _ _ _ us hl => match us, hl with | [_, _], _ => rfl) sc__law_asked (fun vs H Q E h => ?_) (fun cdv A outer s H vs Q E hr h => ?_)
  · obtain ⟨x, dx, dw, dl, rs, v, d, rfl, _⟩ := h
    rfl
  · obtain ⟨x, dx, dw, dl, rs, v, d, rfl, C, OD, hi, hQ⟩ := h
    refine ⟨_, PSs.nox (pss_cons (ps_set (i := 2) sc__law_asked.nd rfl (.inl rfl) pe_int)
      (pss_cons (ps_try_as (i := 3) (by rfl) (by rfl) sc__law_asked.nd rfl (by rfl) ⟨rfl, by decide, .inl T.g_NoTable⟩ takes0 (fun W pn xe tk po => (pss_one (ps_expr (pe_methE (pv 0) T.o_Schema.cl T.h_Schema_columns D_col (hr.mono (by decide)) (pxx tk) (pa_cons (pv 1) pa_nil)))))
      (fun a oe cls d pn hz hf => (pss_one (ps_set (i := 2) sc__law_asked.nd rfl (.inl rfl) (pe_callTy call_int1 (by rfl) T.z_int (by decide +kernel) (pa_cons (pe_cmpR (show OpR _ (compareOp .Eq) (rEqD K) from op_eqD hr.units) (pe_xf T.y_NoTable.2.1 T.y_NoTable.2.2 hz hf (pv 3)) (pv 1) (nomark _)) pa_nil))))))
      (pss_cons (ps_try_as (i := 3) (by rfl) (by rfl) sc__law_asked.nd rfl (by rfl) ⟨rfl, by decide, .inl T.g_NoTable⟩ takes0 (fun W pn xe tk po => (pss_one (ps_expr (pe_methE (pv 0) T.o_Schema.cl T.h_Schema_rules D_rules hr (pxx tk) (pa_cons (pv 1) pa_nil)))))
      (fun a oe cls d pn hz hf => (pss_one (ps_set (i := 2) sc__law_asked.nd rfl (.inl rfl) (pe_op op_add (pv 2) (pe_callTy call_int1 (by rfl) T.z_int (by decide +kernel) (pa_cons (pe_cmpR (show OpR _ (compareOp .Eq) (rEqD K) from op_eqD hr.units) (pe_xf T.y_NoTable.2.1 T.y_NoTable.2.2 hz hf (pv 3)) (pv 1) (nomark _)) pa_nil)))))))
      (pss_one (ps_ret (pv 2)))))), ?_⟩
    have no : ∀ {z : Str} {s : Sch}, d = .str z → findS rs z = some s → False := fun {z s} e hf => by
      rw [e] at hi
      have h2 : (findS rs z).isSome = false := hi
      rw [hf] at h2
      cases h2
    have er : PyData.eqv d d = true := SeqAt.eqv_refl _ OD.pd.cl
    refine ⟨_, rfl, _, _, _, rfl, C.hx, scF_no (by decide) (by decide), _, rfl, x, dx, dw, dl, rs, v, d, rfl, C, OD.dp _, fun _ dd H1 s1 e1 => ?_, fun z s ez hf => (no ez hf).elim⟩
    refine ⟨true, T.e_NoTable_NoTable, fun _ a na => ?_, fun z => by cases z⟩
    refine ⟨_, rfl, rfl, rfl, dd, _, _, rfl, e1, rfl, _, rfl, d, d, OD.dp _, OD.dp _, OD.pd.shaped, OD.pd.shaped, ?_⟩
    rw [er]
    refine .inr ⟨_, rfl, ?_⟩
    have C1 := C.same s1
    refine ⟨_, rfl, _, _, _, rfl, C1.hx, scF_no (by decide) (by decide), _, rfl, x, dx, dw, dl, rs, v, d, rfl, C1, OD.dp _, fun _ dd2 H2 s2 e2 => ?_, fun z s ez hf => (no ez hf).elim⟩
    refine ⟨true, T.e_NoTable_NoTable, fun _ a na => ?_, fun z => by cases z⟩
    refine ⟨_, rfl, _, rfl, rfl, rfl, dd2, _, _, rfl, e2, rfl, _, rfl, d, d, OD.dp _, OD.dp _, OD.pd.shaped, OD.pd.shaped, ?_⟩
    rw [er]
    refine .inr ⟨_, rfl, ?_⟩
    refine ⟨_, _, rfl, rfl, ?_⟩
    exact ⟨_, rfl, hQ H2 (s1.trans s2)⟩
end
end K09
namespace K09
open PySem PySem.Spec PyProof.Rows L2 He TL EL
section
variable {P : Program} {w : World} {K : PySem.W.Frag} {mg : Str → Option Value} {base : Heap}
/-! _law_is -/
theorem nmS_keys (rs : List Sch) : (rs.map keyS).map Prod.fst = nmS rs := by
  rw [List.map_map]
  rfl
def spIs (K : PySem.W.Frag) : Sp := fun vs H Q _ => ∃ M x dx dw dl st rs n, vs = [.ref x, .ref st] ∧ Par K M H x dx dw dl st rs n ∧ n ≤ 100 ∧ ∀ H', Same H H' → Q (.bl true) H'
theorem d_is (hP : PF P "/claim/cut.py") (T : Txt K mg) : Dn P w K mg base CX0 9 "_law_is" (spIs K) := by
  obtain ⟨fd, F⟩ := T.f__law_is
  have D_names := d_sc_names (P := P) (w := w) (base := base) T
  have D_len := d_sc_len (P := P) (w := w) (base := base) T
  have D_in := d_sc_in (P := P) (w := w) (base := base) T
  have D_col := d_sc_col (P := P) (w := w) (base := base) hP T
  have D_rules := d_sc_rules (P := P) (w := w) (base := base) hP T
  have D_atoms := d_atoms (P := P) (w := w) (base := base) T
  have D_cd := d_cd1 (P := P) (w := w) (base := base) T
  have D_iand := d_iand (P := P) (w := w) (base := base) T
  have D__law_asked := d_asked (P := P) (w := w) (base := base) hP T
  refine dnN T.g__law_is F (fun _ _ _ _ _ _ us hl => match us, hl with | [_, _], _ => rfl) sc__law_is (fun vs H Q E h => ?_) (fun cdv A outer s H vs Q E hr h => ?_)
  · obtain ⟨M, x, dx, dw, dl, st, rs, n, rfl, _⟩ := h
    rfl
  · obtain ⟨M, x, dx, dw, dl, st, rs, n, rfl, A0, hn, hQ⟩ := h
    refine ⟨_, PSs.nox (pss_cons (ps_set (i := 2) sc__law_is.nd rfl (.inl rfl) (pe_methE0 (pv 0) T.o_Schema.cl T.h_Schema_names D_names (hr.mono (by decide)) px0))
      (pss_cons (ps_if (PW.pt (pw_or (pt_not (pt_val (pe_callB call_isi (by rfl) T.z_isinstance (by decide +kernel) (pa_cons (pv 2) (pa_cons (pe_bltn (v := .ty "list") (by rfl) T.z_list (by decide +kernel) rfl) pa_nil))))) (pw_or (pt_cmpR (op_neD hr.units) (pv 2) (pe_lc (own := [("_law_row", 3)]) (tt := tYes) (by rfl) sc__law_is.nd (pi_list (pv 1)) (blkOk_by (own := [("_law_row", 3)]) (N := ["_law_schema", "_law_state", "_law_names", "_law_row", "_law_rules_here", "_law_one", "_law_odd"]) (sc := defScope s__law_is) (by decide +kernel)) (fun _ _ _ _ _ => (pg_name (i := 3) sc__law_is.nd rfl (.inl rfl))) (fun _ _ _ _ _ => pts_nil) (fun _ _ _ _ _ => (pe_ix (show IxR _ (rIxL K) from ix_list) (pv 3) pe_int (fun _ _ => rfl)))) (nomark _)) (pw_or1 (pt_cmpR op_ne (pe_callB (call_lenO T.h_Schema___len__ D_len (hr.mono (by decide)) pass0) (by rfl) T.z_len (by decide +kernel) (pa_cons (pv 0) pa_nil)) (pe_callB call_len_seq (by rfl) T.z_len (by decide +kernel) (pa_cons (pv 1) pa_nil)) (nomark _)))))) (pss_one (ps_ret pe_bl)) pss_nil)
      (pss_cons (ps_expr (pe_bm PySem.F.plainAttrs_list PySem.F.slot_list_append PySem.F.type_list_append mt_append (pv 2) (pa_cons pe_str pa_nil)))
      (pss_cons (ps_for PassesOwn.never rfl (pi_list (pv 1)) (pg_name (i := 3) sc__law_is.nd rfl (.inl rfl))
      (pss_cons (ps_set (i := 4) sc__law_is.nd rfl (.inl rfl) (pe_methE (pv 0) T.o_Schema.cl T.h_Schema_rules D_rules (hr.mono (by decide)) pxq (pa_cons (pe_ix ix_list (pv 3) pe_int (fun _ _ => rfl)) pa_nil)))
      (pss_cons (ps_if (PW.pt (pw_or (pt_cmpR op_isnot_bl (pe_cmpR (op_inO T.h_Schema___contains__ D_in (hr.mono (by decide)) pass0) (pe_ix (show IxR _ (rIxL K) from ix_list) (pv 3) pe_int (fun _ _ => rfl)) (pv 0) (by rfl)) pe_bl (nomark _)) (pw_or (pt_cmpR op_ne (pe_methE (pv 0) T.o_Schema.cl T.h_Schema_columns D_col (hr.mono (by decide)) pxq (pa_cons (pe_ix ix_list (pv 3) pe_int (fun _ _ => rfl)) pa_nil)) (pe_ix ix_list (pv 3) pe_int (fun _ _ => rfl)) (nomark _)) (pw_or1 (pt_cmpR (op_neD hr.units) (pe_methE0 (pv 4) T.o_Conditions.cl T.h_Conditions_atoms D_atoms (hr.mono (by decide)) px0) (pe_ix ix_list (pv 3) pe_int (fun _ _ => rfl)) (nomark _)))))) (pss_one (ps_ret pe_bl)) pss_nil)
      (pss_cons (ps_aug (i := 4) sc__law_is.nd rfl (.inl rfl) (pe_makeE T.m_Conditions D_cd (hr.mono (by decide)) T.g_Conditions pxq (pa_cons (pe_lst (pa_cons (pe_tup (pa_cons pe_str (pa_cons (pe_tup (pa_cons pe_str (pa_cons pe_int pa_nil))) (pa_cons (pe_tup (pa_cons pe_str (pa_cons (pe_tup (pa_cons pe_int (pa_cons pe_int pa_nil))) pa_nil))) pa_nil)))) pa_nil)) pa_nil)) (ip_own T.sf_Conditions T.u_Conditions___iand__.1 T.u_Conditions___iand__.2 D_iand (hr.mono (by decide)) pass0))
      (pss_one (ps_if (PW.pt (pw_or (pt_cmpR (op_neD hr.units) (pe_methE0 (pe_methE (pv 0) T.o_Schema.cl T.h_Schema_rules D_rules (hr.mono (by decide)) pxq (pa_cons (pe_ix ix_list (pv 3) pe_int (fun _ _ => rfl)) pa_nil)) T.o_Conditions.cl T.h_Conditions_atoms D_atoms (hr.mono (by decide)) px0) (pe_ix ix_list (pv 3) pe_int (fun _ _ => rfl)) (nomark _)) (pw_or1 (pt_cmpR (op_neD hr.units) (pe_methE0 (pv 0) T.o_Schema.cl T.h_Schema_names D_names (hr.mono (by decide)) px0) (pe_lc (own := [("_law_one", 5)]) (tt := tYes) (by rfl) sc__law_is.nd (pi_list (pv 1)) (blkOk_by (own := [("_law_one", 5)]) (N := ["_law_schema", "_law_state", "_law_names", "_law_row", "_law_rules_here", "_law_one", "_law_odd"]) (sc := defScope s__law_is) (by decide +kernel)) (fun _ _ _ _ _ => (pg_name (i := 5) sc__law_is.nd rfl (.inl rfl))) (fun _ _ _ _ _ => pts_nil) (fun _ _ _ _ _ => (pe_ix (show IxR _ (rIxL K) from ix_list) (pv 5) pe_int (fun _ _ => rfl)))) (nomark _))))) (pss_one (ps_ret pe_bl)) pss_nil))))))
      (pss_cons (ps_for PassesOwn.never rfl (pi_list (pe_lst (pa_cons pe_str (pa_cons pe_str (pa_cons pe_int (pa_cons pe_non (pa_cons (pe_lst (pa_cons pe_str pa_nil)) (pa_cons (pe_tup (pa_cons pe_str (pa_cons pe_int pa_nil))) pa_nil)))))))) (pg_name (i := 6) sc__law_is.nd rfl (.inl rfl))
      (pss_one (ps_if (pt_cmpR op_isnot_bl (pe_cmpR (op_inO T.h_Schema___contains__ D_in (hr.mono (by decide)) pass0) (pv 6) (pv 0) (by rfl)) pe_bl (nomark _)) (pss_one (ps_ret pe_bl)) pss_nil)))
      (pss_one (ps_ret (pe_and (pe_cmpR op_eq (cl D__law_asked (hr.mono (by decide)) (pa_cons (pv 0) (pa_cons pe_str pa_nil))) pe_int (nomark _)) (pe_one (pe_cmpR op_eq (cl D__law_asked (hr.mono (by decide)) (pa_cons (pv 0) (pa_cons pe_int pa_nil))) pe_int (nomark _))))))))))), ?_⟩
    have ok1 : ∀ z ∈ nmS rs, PyData.strOk z = true := fun z hz => by
      obtain ⟨s, hs, rfl⟩ := List.mem_map.mp hz
      exact ok_str (A0.nm s hs)
    obtain ⟨vs0, est, rows⟩ := id A0.sa
    have lr := rows.length
    rw [List.length_map] at lr
    have hl : rs.length ≤ 100 := Nat.le_trans A0.ln hn
    refine ⟨_, rfl, _, _, _, rfl, A0.sc.hx, scF_no (by decide) (by decide), x, dx, dw, dl, rs, rfl, A0.sc, fun p H1 np s1 e1 => ?_⟩
    rw [nmS_map] at e1
    have A1 := A0.same s1
    have est1 := s1 _ _ est
    have rows1 := rows.md (S := []) (Md.of s1) (by simp)
    refine ⟨_, rfl, _, _, _, _, _, rfl, .ty _, Dp.ty (.lst (SqL.of e1) (dp_str _)), kit_d K .lst (.list _), _, rfl, iteF ?_⟩
    -- the names, drawn again
    refine ⟨_, rfl, _, rfl, st, rfl, ⟨_, SqL.of est1⟩, fun L nL => ?_⟩
    have stL : st ≠ L := ne_of_none est1 nL
    have sL : Same H1 (upd H1 L (.lst [])) := same_upd nL
    refine lc_it (walk_list (xs := vs0)) (fun i H' => H' = upd H1 L (.lst (((nmS rs).take i).map V.str))) rfl (fun i H' _ h => by rw [h]; exact SqL.of ((upd_ne stL).trans est1)) ?_ ?_
    · rintro i xv H' H'' hi e ⟨e', hx⟩
      subst e' e
      obtain ⟨e, he, ra⟩ := rows1.get hx
      obtain ⟨sc, hsc, rfl⟩ := getM he
      obtain ⟨ra1, ral, rvs, rfl, raM, ralM, er1, er2, dr⟩ := ra
      refine ⟨rfl, tYes_of ?_⟩
      have raL : ra1 ≠ L := ne_of_none er1 nL
      refine ⟨_, rfl, _, _, 0, _, rfl, rfl, SqL.of ((upd_ne raL).trans er1), atI_nat (j := 0) rfl, _, upd_same, ?_, ?_⟩
      · rw [List.length_map, List.length_take]
        have : (nmS rs).length ≤ 100 := by unfold nmS; rw [List.length_map]; exact hl
        exact Nat.lt_of_le_of_lt (Nat.le_trans (Nat.min_le_right _ _) this) (by decide)
      · rw [upd_upd, tk1 (show (nmS rs)[i]? = some sc.nm by unfold nmS; rw [List.getElem?_map, hsc]; rfl), List.map_append]
        rfl
    · rintro H2 e
      subst e
      rw [show vs0.length = (nmS rs).length by unfold nmS; rw [List.length_map, lr], List.take_length]
      generalize eH2 : upd H1 L _ = H2
      have s2 : Same H1 H2 := eH2 ▸ same_upd nL
      have eL : H2 L = some (.lst ((nmS rs).map V.str)) := eH2 ▸ upd_same
      refine ⟨_, _, .lst (SqL.of (s2 _ _ e1)) (dp_str _), .lst (SqL.of eL) (dp_str _), (pds_str ok1).shaped, (pds_str ok1).shaped, ?_⟩
      rw [eqv_strs, decide_eq_true (rfl : nmS rs = nmS rs)]
      refine ⟨_, rfl, iteF ?_⟩
      have A2 := A1.same s2
      have est2 := s2 _ _ est1
      refine ⟨_, rfl, x, dx, _, rfl, A2.sc.hx, x, dx, dw, dl, rs, rfl, A2.sc, _, rfl, ⟨by omega, by omega⟩, ?_⟩
      refine ⟨_, rfl, _, _, rfl, .inl (SqL.of est2), rfl, ?_⟩
      rw [lr]
      refine ⟨_, rfl, if_neg_of (by show (!decide (V.int (rs.length : Int) = V.int (rs.length : Int))) = false; rw [decide_eq_true rfl]; rfl) ?_⟩
      -- names.append('more')
      have e12 := s2 _ _ e1
      refine ⟨_, rfl, .inl ⟨rfl, _, SqL.of e12⟩, p, _, _, rfl, rfl, e12, (by rw [List.length_map]; unfold nmS; rw [List.length_map]; exact Nat.lt_of_le_of_lt hl (by decide)), ?_⟩
      generalize eH3 : upd H2 p _ = H3
      have m3 : Md [p] H2 H3 := eH3 ▸ Md.upd e12 rfl (by simp)
      have s03 : Same H H3 := ((m3.mono (S' := [p]) (by simp)).newM (S := []) (Md.of (s1.trans s2)) np).same
      have A3 := A0.same s03
      have est3 := s03 _ _ est
      have rows3 := rows.md (S := []) (Md.of s03) (by simp)
      clear eH3 m3 e12 eH2 eL nL stL sL est2 A2 A1 est1 rows1 e1 s1 s2
      have names : ∀ z ∈ nmS rs, PyData.strOk z = true := ok1
      -- the rows
      refine ⟨_, rfl, st, rfl, ⟨_, SqL.of est3⟩, for_list (K := K) (a := st) (xs := vs0) (fun i σ H' => Same H3 H' ∧ ∃ o3 o4, σ = [some (.ref x), some (.ref st), some (.ref p), o3, o4, none, none]) ⟨.refl _, none, none, rfl⟩ (fun i σ H' _ h => SqL.of (h.1 _ _ est3)) ?_ ?_⟩
      · rintro i xv σ H4 hx ⟨s4, o3, o4, rfl⟩
        obtain ⟨e, he, ra⟩ := rows3.get hx
        obtain ⟨sc, hsc, rfl⟩ := getM he
        have scm := List.mem_of_getElem? hsc
        have hf : findS rs sc.nm = some sc := findS_of A0.nd scm
        have hin : inS rs (.str sc.nm) = true := by show (findS rs sc.nm).isSome = true; rw [hf]; rfl
        have hsa := A0.la sc scm
        have hdd : dd sc.as = sc.as := dd_of (A0.dn sc scm)
        obtain ⟨ra1, ral, rvs, rfl, raM, ralM, er1, er2, dr⟩ := ra
        have er1 : H3 ra1 = some (.lst [.str sc.nm, .int (sc.n : Nat), .ref ral]) := er1
        have dr : DpAll K H3 rvs (sc.as.map At.d) := dr
        have A4 := A3.same s4
        have notF : ∀ {R : Prop}, inS rs (.str sc.nm) = false → R := fun h => by rw [hin] at h; cases h
        -- rules
        refine ⟨_, rfl, _, _, _, rfl, A4.sc.hx, scF_no (by decide) (by decide), _, rfl, _, _, 0, _, rfl, rfl, SqL.of (s4 _ _ er1), atI_nat (j := 0) rfl, x, dx, dw, dl, rs, _, .str sc.nm, rfl, A4.sc, .str _, fun h => notF h, fun z s' ez hf' => ?_⟩
        cases ez
        rw [hf] at hf'
        cases hf'
        refine ⟨by omega, fun y dy m H5 s5 ny nm hym CY => ?_⟩
        rw [hdd] at CY
        have A5 := A4.same s5
        have s35 := s4.trans s5
        -- in
        refine ⟨_, rfl, _, _, 0, _, rfl, rfl, SqL.of (s35 _ _ er1), atI_nat (j := 0) rfl, _, rfl, x, dx, _, rfl, A5.sc.hx, x, dx, dw, dl, rs, _, .str sc.nm, rfl, A5.sc, .str _, _, rfl, ?_⟩
        rw [hin]
        refine ⟨_, _, rfl, rfl, _, rfl, iteF ?_⟩
        -- columns
        refine ⟨_, rfl, _, _, _, rfl, A5.sc.hx, scF_no (by decide) (by decide), _, rfl, _, _, 0, _, rfl, rfl, SqL.of (s35 _ _ er1), atI_nat (j := 0) rfl, x, dx, dw, dl, rs, _, .str sc.nm, rfl, A5.sc, .str _, fun h => notF h, fun z s' ez hf' => ?_⟩
        cases ez
        rw [hf] at hf'
        cases hf'
        refine ⟨_, rfl, _, _, 1, _, rfl, rfl, SqL.of (s35 _ _ er1), atI_nat (j := 1) rfl, rfl, _, rfl, if_neg_of (by show (!decide (V.int (sc.n : Int) = V.int (sc.n : Int))) = false; rw [decide_eq_true rfl]; rfl) ?_⟩
        -- atoms
        refine ⟨_, rfl, _, _, _, rfl, CY.hx, cdF_no (by decide), y, dy, m, sc.as, rfl, CY, fun q us H6 nq s6 e6 a6 => ?_⟩
        have s36 := s35.trans s6
        refine ⟨_, rfl, _, _, 2, _, rfl, rfl, SqL.of (s36 _ _ er1), atI_nat (j := 2) rfl, _, _, .lst (SqL.of e6) a6, .lst (SqL.of (s36 _ _ er2)) (DpAll.same s36 dr), (pds_at _).shaped, (pds_at _).shaped, ?_⟩
        rw [eqv_ats, decide_eq_true (rfl : sc.as = sc.as)]
        refine ⟨_, rfl, iteF ?_⟩
        -- &=
        have CY6 := CY.same s6
        refine ⟨_, rfl, (by show 2 ≤ sizeLine; decide), fun a1 n1 => ?_⟩
        generalize eHB : upd H6 a1 _ = HB
        have sB : Same H6 HB := eHB ▸ same_upd n1
        have eB : HB a1 = some _ := eHB ▸ upd_same
        refine ⟨(by show 2 ≤ sizeLine; decide), fun a2 n2 => ?_⟩
        generalize eHC : upd HB a2 _ = HC
        have sC : Same HB HC := eHC ▸ same_upd n2
        have eC : HC a2 = some _ := eHC ▸ upd_same
        refine ⟨(by show 2 ≤ sizeLine; decide), fun a3 n3 => ?_⟩
        generalize eHD : upd HC a3 _ = HD
        have sD : Same HC HD := eHD ▸ same_upd n3
        have eD : HD a3 = some _ := eHD ▸ upd_same
        refine ⟨(by show 3 ≤ sizeLine; decide), fun a4 n4 => ?_⟩
        generalize eHE : upd HD a4 _ = HE
        have sE : Same HD HE := eHE ▸ same_upd n4
        have eE : HE a4 = some _ := eHE ▸ upd_same
        refine ⟨(by show 1 ≤ sizeLine; decide), fun a5 n5 => ?_⟩
        generalize eHF : upd HE a5 _ = HF
        have sF : Same HE HF := eHF ▸ same_upd n5
        have eF : HF a5 = some _ := eHF ▸ upd_same
        have dat : Dp K HF (.ref a4) (At.d (at9 98)) := .tup (SqT.of (sF _ _ eE)) (.cons (.str _) (.cons (.tup (SqT.of (sF _ _ (sE _ _ (sD _ _ (sC _ _ eB))))) (.cons (.str _) (.cons (.int _) .nil))) (.cons (.tup (SqT.of (sF _ _ (sE _ _ eD))) (.cons (.str _) (.cons (.tup (SqT.of (sF _ _ (sE _ _ (sD _ _ eC)))) (.cons (.int _) (.cons (.int _) .nil))) .nil))) .nil)))
        refine mkCd (as := [at9 98]) (.inl (SqL.of eF)) (.cons dat .nil) (fun a ha => by cases List.mem_singleton.mp ha; exact at9_ok (by decide)) (by decide) fun w1' dw1 m1' HG sG nw1 nm1 hwm1 CW => ?_
        have s6G : Same H6 HG := sB.trans (sC.trans (sD.trans (sE.trans (sF.trans sG))))
        have CyG := CY6.same s6G
        refine ⟨_, _, _, rfl, CyG.hx, _, _, _, _, _, _, _, _, rfl, CyG, CW, by omega, Nat.le_trans (dd_len _) (by decide), fun n' HI mI nn CI => ?_⟩
        have s4I : Same H4 HI := (mI.newM (S := []) (Md.of (s5.trans (s6.trans s6G))) ny).same
        have s3I := s4.trans s4I
        have AI := A4.same s4I
        clear eHB eHC eHD eHE eHF dat CW CyG s6G mI CI CY6 sB eB sC eC sD eD sE eE sF eF sG e6 a6 s36 s35 s6 A5 CY s5
        -- rules again
        refine ⟨_, rfl, _, _, _, rfl, AI.sc.hx, scF_no (by decide) (by decide), _, rfl, _, _, 0, _, rfl, rfl, SqL.of (s3I _ _ er1), atI_nat (j := 0) rfl, x, dx, dw, dl, rs, _, .str sc.nm, rfl, AI.sc, .str _, fun h => notF h, fun z s' ez hf' => ?_⟩
        cases ez
        rw [hf] at hf'
        cases hf'
        refine ⟨by omega, fun y2 dy2 m2 HJ sJ ny2 nm2 hym2 CY2 => ?_⟩
        rw [hdd] at CY2
        refine ⟨_, _, _, rfl, CY2.hx, cdF_no (by decide), y2, dy2, m2, sc.as, rfl, CY2, fun q2 us2 HK nq2 sK eK aK => ?_⟩
        have s3K := s3I.trans (sJ.trans sK)
        refine ⟨_, rfl, _, _, 2, _, rfl, rfl, SqL.of (s3K _ _ er1), atI_nat (j := 2) rfl, _, _, .lst (SqL.of eK) aK, .lst (SqL.of (s3K _ _ er2)) (DpAll.same s3K dr), (pds_at _).shaped, (pds_at _).shaped, ?_⟩
        rw [eqv_ats, decide_eq_true (rfl : sc.as = sc.as)]
        refine ⟨_, rfl, iteF ?_⟩
        -- names again
        have AK := A3.same s3K
        refine ⟨_, rfl, _, _, _, rfl, AK.sc.hx, scF_no (by decide) (by decide), x, dx, dw, dl, rs, rfl, AK.sc, fun p2 HL np2 sL e2 => ?_⟩
        rw [nmS_map] at e2
        have s3L := s3K.trans sL
        have estL := s3L _ _ est3
        have rowsL := rows3.md (S := []) (Md.of s3L) (by simp)
        refine ⟨_, rfl, st, rfl, ⟨_, SqL.of estL⟩, fun L nL => ?_⟩
        have stL : st ≠ L := ne_of_none estL nL
        refine lc_it (walk_list (xs := vs0)) (fun i H' => H' = upd HL L (.lst (((nmS rs).take i).map V.str))) rfl (fun i H' _ h => by rw [h]; exact SqL.of ((upd_ne stL).trans estL)) ?_ ?_
        · rintro i xv H' H'' hi e ⟨e', hx⟩
          subst e' e
          obtain ⟨e, he, ra⟩ := rowsL.get hx
          obtain ⟨sc2, hsc2, rfl⟩ := getM he
          obtain ⟨rb1, rbl, rws, rfl, rbM, rblM, eb1, eb2, db⟩ := ra
          refine ⟨rfl, tYes_of ?_⟩
          have raL : rb1 ≠ L := ne_of_none eb1 nL
          refine ⟨_, rfl, _, _, 0, _, rfl, rfl, SqL.of ((upd_ne raL).trans eb1), atI_nat (j := 0) rfl, _, upd_same, ?_, ?_⟩
          · rw [List.length_map, List.length_take]
            have : (nmS rs).length ≤ 100 := by unfold nmS; rw [List.length_map]; exact hl
            exact Nat.lt_of_le_of_lt (Nat.le_trans (Nat.min_le_right _ _) this) (by decide)
          · rw [upd_upd, tk1 (show (nmS rs)[i]? = some sc2.nm by unfold nmS; rw [List.getElem?_map, hsc2]; rfl), List.map_append]
            rfl
        · rintro HM e
          subst e
          rw [show vs0.length = (nmS rs).length by unfold nmS; rw [List.length_map, lr], List.take_length]
          generalize eHM : upd HL L _ = HM
          have sM : Same HL HM := eHM ▸ same_upd nL
          have eL : HM L = some (.lst ((nmS rs).map V.str)) := eHM ▸ upd_same
          refine ⟨_, _, .lst (SqL.of (sM _ _ e2)) (dp_str _), .lst (SqL.of eL) (dp_str _), (pds_str ok1).shaped, (pds_str ok1).shaped, ?_⟩
          rw [eqv_strs, decide_eq_true (rfl : nmS rs = nmS rs)]
          refine ⟨_, rfl, iteF ?_⟩
          exact ⟨s3L.trans sM, _, _, rfl⟩
      · rintro σ H4 ⟨s4, o3, o4, rfl⟩
        have A4 := A3.same s4
        -- odd things
        refine ⟨(by show 1 ≤ sizeLine; decide), fun u1 n1 => ?_⟩
        generalize eH5 : upd H4 u1 _ = H5
        have s5 : Same H4 H5 := eH5 ▸ same_upd n1
        have e5 : H5 u1 = some _ := eH5 ▸ upd_same
        refine ⟨(by show 2 ≤ sizeLine; decide), fun u2 n2 => ?_⟩
        generalize eH6 : upd H5 u2 _ = H6
        have s6 : Same H5 H6 := eH6 ▸ same_upd n2
        have e6 : H6 u2 = some _ := eH6 ▸ upd_same
        refine ⟨(by show 6 ≤ sizeLine; decide), fun u3 n3 => ?_⟩
        generalize eH7 : upd H6 u3 _ = H7
        have s7 : Same H6 H7 := eH7 ▸ same_upd n3
        have e7 : H7 u3 = some _ := eH7 ▸ upd_same
        have A7 := A4.same (s5.trans (s6.trans s7))
        have odd : ∀ {i : Nat} {v : V}, ([.str "more", .str "", .int 3, .non, .ref u1, .ref u2] : List V)[i]? = some v → ∃ d, Dp K H7 v d ∧ inS rs d = false := by
          have more : OdOk K (.str "more") (.str "more") := od_str (by decide +kernel) (by decide +kernel)
          intro i v h
          have hm := List.mem_of_getElem? h
          simp only [List.mem_cons, List.not_mem_nil, or_false] at hm
          rcases hm with rfl | rfl | rfl | rfl | rfl | rfl
          · exact ⟨_, more.dp _, A7.notin more.no⟩
          · exact ⟨.str "", .str _, A7.notin (fun z e => by cases e; decide +kernel)⟩
          · exact ⟨.int 3, .int _, rfl⟩
          · exact ⟨.none, .non, rfl⟩
          · exact ⟨.list [.str "t"], .lst (SqL.of (s7 _ _ (s6 _ _ e5))) (.cons (.str _) .nil), rfl⟩
          · exact ⟨.tuple [.str "t", .int 1], .tup (SqT.of (s7 _ _ e6)) (.cons (.str _) (.cons (.int _) .nil)), rfl⟩
        refine ⟨u3, rfl, ⟨_, SqL.of e7⟩, for_list (K := K) (a := u3) (xs := [.str "more", .str "", .int 3, .non, .ref u1, .ref u2]) (fun i σ H' => H7 = H' ∧ ∃ o6, σ = [some (.ref x), some (.ref st), some (.ref p), o3, o4, none, o6]) ⟨rfl, none, rfl⟩ (fun i σ H' _ h => by rw [← h.1]; exact SqL.of e7) ?_ ?_⟩
        · rintro i xv σ H' hx ⟨rfl, o6, rfl⟩
          obtain ⟨d, hd, hi⟩ := odd hx
          refine ⟨_, rfl, _, rfl, x, dx, _, rfl, A7.sc.hx, x, dx, dw, dl, rs, _, d, rfl, A7.sc, hd, _, rfl, ?_⟩
          rw [hi]
          refine ⟨_, _, rfl, rfl, _, rfl, iteF ?_⟩
          exact ⟨rfl, _, rfl⟩
        · rintro σ H' ⟨rfl, o6, rfl⟩
          have more : OdOk K (.str "more") (.str "more") := od_str (by decide +kernel) (by decide +kernel)
          refine ⟨_, rfl, x, dx, dw, dl, rs, _, _, rfl, A7.sc, more, A7.notin more.no, fun H8 s8 => ?_⟩
          refine ⟨rfl, _, rfl, iteT ?_⟩
          have A8 := A7.same s8
          refine ⟨_, rfl, x, dx, dw, dl, rs, _, _, rfl, A8.sc, od_int 3, A8.notin (od_int (K := K) 3).no, fun H9 s9 => ?_⟩
          refine ⟨rfl, ?_⟩
          exact hQ H9 (s03.trans (s4.trans (s5.trans (s6.trans (s7.trans (s8.trans s9))))))
end
end K09
namespace K09
open PySem PySem.Spec PyProof.Rows L2 He TL EL
section
variable {P : Program} {w : World} {K : PySem.W.Frag} {mg : Str → Option Value} {base : Heap}
/-! the states compared -/
theorem eqv_ent (a b : Ent) : PyData.eqv (entD a) (entD b) = decide (a = b) := by
  obtain ⟨a1, a2, a3⟩ := a
  obtain ⟨b1, b2, b3⟩ := b
  show ((a1 == b1) && (((a2 : Int) == (b2 : Int)) && (PyData.eqv (.list (a3.map At.d)) (.list (b3.map At.d)) && true))) = _
  rw [eqv_ats, show (a1 == b1) = decide (a1 = b1) from rfl, show ((a2 : Int) == (b2 : Int)) = decide ((a2 : Int) = (b2 : Int)) from rfl, Bool.and_true, ← Bool.decide_and, ← Bool.decide_and]
  refine decide_eq_decide.mpr ⟨fun h => ?_, fun h => by cases h; exact ⟨rfl, rfl, rfl⟩⟩
  obtain ⟨h1, h2, h3⟩ := h
  have h2 : a2 = b2 := by omega
  rw [h1, h2, h3]
theorem eqv_ents : ∀ as bs : List Ent, PyData.eqv (.list (as.map entD)) (.list (bs.map entD)) = decide (as = bs)
  | [], [] => rfl
  | [], _ :: _ => rfl
  | _ :: _, [] => rfl
  | t :: ts, u :: us => by
    show (PyData.eqv (entD t) (entD u) && PyData.eqv (.list (ts.map entD)) (.list (us.map entD))) = _
    rw [eqv_ent, eqv_ents ts us, ← Bool.decide_and]
    exact decide_eq_decide.mpr ⟨fun h => by rw [h.1, h.2], fun h => by cases h; exact ⟨rfl, rfl⟩⟩
theorem ents_sh {es : List Ent} (h : ∀ e ∈ es, PyData.strOk e.1 = true) : SeqAt.shaped (.list (es.map entD)) = true := by
  have h1 : PyData.canLayAll0 (es.map entD) = true ∧ PyData.depthAll (es.map entD) ≤ 18 := by
    induction es with
    | nil => exact ⟨rfl, by show 0 ≤ 18; decide⟩
    | cons e r ih =>
      obtain ⟨i1, i2⟩ := ih fun x hx => h x (by simp [hx])
      have p := pds_at e.2.2
      refine ⟨Bool.and_eq_true_iff.mpr ⟨?_, i1⟩, Nat.max_le.mpr ⟨?_, i2⟩⟩
      · show (PyData.strOk e.1 && (true && (PyData.canLayAll0 (e.2.2.map At.d) && true))) = true
        rw [h e (by simp), p.cl]; rfl
      · have hd := p.dp
        show max 0 (max 0 (max (PyData.depthAll (e.2.2.map At.d) + 1) 0)) + 1 ≤ 18
        omega
  exact Bool.and_eq_true_iff.mpr ⟨h1.1, decide_eq_true (by show PyData.depthAll (es.map entD) + 1 ≤ 64; have := h1.2; omega)⟩
/-! two schemas and their states -/
structure Ad where
  x : Addr
  dx : Addr
  dw : Addr
  dl : Addr
  st : Addr
abbrev mM (p wl sl : Addr) (A B : Ad) : List Addr := [p, wl, sl, A.dw, A.dl, A.st, B.dw, B.dl, B.st]
abbrev PrA (K : PySem.W.Frag) (M : List Addr) (H : Hp) (A : Ad) (rs : List Sch) (n : Nat) : Prop := Par K M H A.x A.dx A.dw A.dl A.st rs n
structure Sit (K : PySem.W.Frag) (H : Hp) (p l wl sl : Addr) (A B : Ad) (ra rb : List Sch) (n : Nat) : Prop where
  src : Src H p l
  hwl : H wl = some (.lst [.ref A.x, .ref B.x])
  hsl : H sl = some (.lst [.ref A.st, .ref B.st])
  pa : PrA K (mM p wl sl A B) H A ra n
  pb : PrA K (mM p wl sl A B) H B rb n
  nd : (mM p wl sl A B).Nodup
  lM : l ∉ mM p wl sl A B
section
variable {H H' : Hp} {p l wl sl : Addr} {A B : Ad} {ra rb ra' : List Sch} {n : Nat}
theorem Sit.same (S : Sit K H p l wl sl A B ra rb n) (s : Same H H') : Sit K H' p l wl sl A B ra rb n :=
  ⟨S.src.same s, s _ _ S.hwl, s _ _ S.hsl, S.pa.same s, S.pb.same s, S.nd, S.lM⟩
theorem Sit.al (S : Sit K H p l wl sl A B ra rb n) : Al (mM p wl sl A B) H := by
  obtain ⟨xp, hp⟩ := S.src.lst
  obtain ⟨v1, e1, _⟩ := S.pa.sa
  obtain ⟨v2, e2, _⟩ := S.pb.sa
  exact al_cons hp (al_cons S.hwl (al_cons S.hsl (al_cons S.pa.sc.hw (al_cons S.pa.sc.hl (al_cons e1 (al_cons S.pb.sc.hw (al_cons S.pb.sc.hl (al1 e2))))))))
theorem Sit.draw (S : Sit K H p l wl sl A B ra rb n) (b : But p H H') (S' : Src H' p l) : Sit K H' p l wl sl A B ra rb n := by
  obtain ⟨xs, hp⟩ := S.src.lst
  have m : Md [p] H H' := b.md hp rfl
  have nd := S.nd
  simp only [List.nodup_cons, List.mem_cons, List.not_mem_nil, not_or, or_false] at nd
  obtain ⟨⟨p1, p2, p3, p4, p5, p6, p7, p8⟩, _⟩ := nd
  exact ⟨S', m.out _ _ S.hwl (not1 (Ne.symm p1)), m.out _ _ S.hsl (not1 (Ne.symm p2)), S.pa.md m (by simp) (not1 (Ne.symm p3)) (not1 (Ne.symm p4)) (not1 (Ne.symm p5)), S.pb.md m (by simp) (not1 (Ne.symm p6)) (not1 (Ne.symm p7)) (not1 (Ne.symm p8)), S.nd, S.lM⟩
theorem Sit.deedA (S : Sit K H p l wl sl A B ra rb n) (m : Md [p, A.dw, A.dl, A.st] H H') (S' : Src H' p l) (W : PrA K (mM p wl sl A B) H' A ra' (n + 1)) : Sit K H' p l wl sl A B ra' rb (n + 1) := by
  have nd := S.nd
  simp only [List.nodup_cons, List.mem_cons, List.not_mem_nil, not_or, or_false] at nd
  obtain ⟨⟨p1, p2, p3, p4, p5, p6, p7, p8⟩, ⟨q2, q3, q4, q5, q6, q7, q8⟩, ⟨r3, r4, r5, r6, r7, r8⟩, ⟨t4, t5, t6, t7, t8⟩, ⟨u5, u6, u7, u8⟩, ⟨v6, v7, v8⟩, _⟩ := nd
  refine ⟨S', m.out _ _ S.hwl ?_, m.out _ _ S.hsl ?_, W, (S.pb.md m (by simp) ?_ ?_ ?_).up (by omega), S.nd, S.lM⟩
  · simp [Ne.symm p1, q3, q4, q5]
  · simp [Ne.symm p2, r3, r4, r5]
  · simp [Ne.symm p6, Ne.symm t6, Ne.symm u6, Ne.symm v6]
  · simp [Ne.symm p7, Ne.symm t7, Ne.symm u7, Ne.symm v7]
  · simp [Ne.symm p8, Ne.symm t8, Ne.symm u8, Ne.symm v8]
theorem Sit.deedB {rb' : List Sch} (S : Sit K H p l wl sl A B ra rb n) (m : Md [p, B.dw, B.dl, B.st] H H') (S' : Src H' p l) (W : PrA K (mM p wl sl A B) H' B rb' (n + 1)) : Sit K H' p l wl sl A B ra rb' (n + 1) := by
  have nd := S.nd
  simp only [List.nodup_cons, List.mem_cons, List.not_mem_nil, not_or, or_false] at nd
  obtain ⟨⟨p1, p2, p3, p4, p5, p6, p7, p8⟩, ⟨q2, q3, q4, q5, q6, q7, q8⟩, ⟨r3, r4, r5, r6, r7, r8⟩, ⟨t4, t5, t6, t7, t8⟩, ⟨u5, u6, u7, u8⟩, ⟨v6, v7, v8⟩, _⟩ := nd
  refine ⟨S', m.out _ _ S.hwl ?_, m.out _ _ S.hsl ?_, (S.pa.md m (by simp) ?_ ?_ ?_).up (by omega), W, S.nd, S.lM⟩
  · simp [Ne.symm p1, q6, q7, q8]
  · simp [Ne.symm p2, r6, r7, r8]
  · simp [Ne.symm p3, t6, t7, t8]
  · simp [Ne.symm p4, u6, u7, u8]
  · simp [Ne.symm p5, v6, v7, v8]
end
end
end K09
namespace K09
open PySem PySem.Spec PyProof.Rows L2 He TL EL
section
variable {P : Program} {w : World} {K : PySem.W.Frag} {mg : Str → Option Value} {base : Heap}
def spLaw (K : PySem.W.Frag) : Sp := fun vs H Q _ => ∃ (a : Addr) (ns : List Int), vs = [.ref a] ∧ SqL K H a (ns.map V.int) ∧ ns.length ≤ 63 ∧ ∀ H', Q (.bl true) H'
theorem par0 {M : List Addr} {H : Hp} {x dx dw dl st : Addr} (h1 : H x = some (.ins (aSc K) dx (scF dw dl))) (h2 : H dw = some (.dK [])) (h3 : H dl = some (.dK [])) (h4 : H st = some (.lst [])) (xm : x ∉ M) (wm : dw ∈ M ∧ dl ∈ M ∧ st ∈ M) (ne : dw ≠ dl) : Par K M H x dx dw dl st [] 0 :=
  ⟨⟨h1, h2, h3, fun s hs => by cases hs⟩, ⟨[], h4, .nil⟩, xm, (fun s hs => by cases hs), wm, ne, by simp [nmS], (fun s hs => by cases hs), (fun s hs => by cases hs), (fun s hs => by cases hs), by decide, (fun s hs => by cases hs)⟩
def Kd (M : List Addr) (H : Hp) : Prop := ∀ a ∈ M, (∃ v, H a = some (.lst v)) ∨ ∃ k, H a = some (.dK k)
theorem kd_nil {H : Hp} : Kd [] H := fun a h => by cases h
theorem kd_l {M : List Addr} {H : Hp} {a : Addr} {v : List V} (h : H a = some (.lst v)) (k : Kd M H) : Kd (a :: M) H := fun b hb => (List.mem_cons.mp hb).elim (fun e => e ▸ .inl ⟨v, h⟩) (k b)
theorem kd_d {M : List Addr} {H : Hp} {a : Addr} {v : List (Key × V)} (h : H a = some (.dK v)) (k : Kd M H) : Kd (a :: M) H := fun b hb => (List.mem_cons.mp hb).elim (fun e => e ▸ .inr ⟨v, h⟩) (k b)
theorem ins_out {M : List Addr} {H : Hp} {x c d : Addr} {f : List (Str × V)} (k : Kd M H) (h : H x = some (.ins c d f)) : x ∉ M := fun z => by
  rcases k x z with ⟨v, e⟩ | ⟨v, e⟩ <;> (rw [h] at e; cases e)
theorem RowAt.reM {M M' : List Addr} {H : Hp} {v : V} {e : Ent} (h : RowAt K M H v e) (hm : ∀ b, b ∉ M → (∃ o, H b = some o) → b ∉ M') : RowAt K M' H v e := by
  obtain ⟨a, al, vs, rfl, n1, n2, e1, e2, d⟩ := h
  exact ⟨a, al, vs, rfl, hm _ n1 ⟨_, e1⟩, hm _ n2 ⟨_, e2⟩, e1, e2, d⟩
theorem RowsAt.reM {M M' : List Addr} {H : Hp} (hm : ∀ b, b ∉ M → (∃ o, H b = some o) → b ∉ M') : ∀ {vs : List V} {es : List Ent}, RowsAt K M H vs es → RowsAt K M' H vs es
  | _, _, .nil => .nil
  | _, _, .cons a r => .cons (a.reM hm) (RowsAt.reM hm r)
theorem Par.reM {M M' : List Addr} {H : Hp} {x dx dw dl st : Addr} {rs : List Sch} {n : Nat} (A : Par K M H x dx dw dl st rs n) (hm : ∀ b, b ∉ M → (∃ o, H b = some o) → b ∉ M') (wm : dw ∈ M' ∧ dl ∈ M' ∧ st ∈ M') : Par K M' H x dx dw dl st rs n := by
  obtain ⟨vs, e, r⟩ := id A.sa
  exact ⟨A.sc, ⟨vs, e, r.reM hm⟩, hm _ A.xm ⟨_, A.sc.hx⟩, fun s hs => ⟨hm _ (A.cm s hs).1 ⟨_, (A.sc.hc s hs).hx⟩, let ⟨_, e, _⟩ := (A.sc.hc s hs).hl; hm _ (A.cm s hs).2 ⟨_, e⟩⟩, wm, A.ne, A.nd, A.nm, A.wn, A.dn, A.ln, A.la⟩
theorem ok_law {fd : FuncData} (hP : PF P "/claim/cut.py") (T : Txt K mg) (F : FunD K "law" "law" (defArgs s_law) (defBody s_law) (defScope s_law) ([] : List V) [] (ga K "law") fd) : FnOk P w K mg base CX0 11 (ga K "law") fd ["_law_script"] (spLaw K) := by
  have D__law_begin := d_begin (P := P) (w := w) (base := base) T
  have D__law_draw := d_draw (P := P) (w := w) (base := base) T
  have D__law_add := d_ladd (w := w) (base := base) hP T
  have D__law_narrow := d_lnarrow (w := w) (base := base) hP T
  have D__law_is := d_is (w := w) (base := base) hP T
  have D_twin := d_sc_twin (P := P) (w := w) (base := base) T
  have D_sc0 := d_sc0 (P := P) (w := w) (base := base) T
  have D_sceq := d_sc_eq (P := P) (w := w) (base := base) T
  refine F.ok sc_law (fun vs H Q E h => ?_) (fun cdv A outer s H vs Q E hr h => ?_)
  · obtain ⟨a, ns, rfl, _⟩ := h
    rfl
  · obtain ⟨a, ns, rfl, hS, _, q⟩ := h
    refine ⟨_, PSs.nox (pss_cons (ps_set (i := 1) sc_law.nd rfl (.inl rfl) (cl D__law_begin (hr.mono (by decide)) (pa_cons (pv 0) pa_nil)))
      (pss_cons (ps_set (i := 2) sc_law.nd rfl (.inl rfl) (pe_lst (pa_cons (pe_makeE0 T.m_Schema D_sc0 (hr.mono (by decide)) T.g_Schema px0) (pa_cons (pe_makeE0 T.m_Schema D_sc0 (hr.mono (by decide)) T.g_Schema px0) pa_nil))))
      (pss_cons (ps_set (i := 3) sc_law.nd rfl (.inl rfl) (pe_lst (pa_cons (pe_lst pa_nil) (pa_cons (pe_lst pa_nil) pa_nil))))
      (pss_cons (ps_set (i := 4) sc_law.nd rfl (.inl rfl) (cl D__law_draw (hr.mono (by decide)) (pa_cons (pv 1) (pa_cons pe_int pa_nil))))
      (pss_cons (ps_for PassesOwn.never rfl (pi_range1 (by rfl) T.z_range (pa_cons pe_int pa_nil)) (pg_name (i := 5) sc_law.nd rfl (.inl rfl))
      (pss_mid (ps_if (pt_cmpR op_eq (pv 5) (pv 4) (nomark _)) (pss_cons (ps_asg (pe_methE0 (pe_ix ix_list (pv 2) pe_int (fun _ _ => rfl)) T.o_Schema.cl T.h_Schema_twin D_twin (hr.mono (by decide)) px0) (pg_sub (pv 2) pe_int set_list))
      (pss_one (ps_asg (pe_callTy call_list_of (by rfl) T.z_list (by decide +kernel) (pa_cons (pe_ix ix_list (pv 3) pe_int (fun _ _ => rfl)) pa_nil)) (pg_sub (pv 3) pe_int set_list)))) pss_nil)
      (pss_cons (ps_set (i := 6) sc_law.nd rfl (.inl rfl) (cl D__law_draw (hr.mono (by decide)) (pa_cons (pv 1) (pa_cons pe_int pa_nil))))
      (pss_mid (ps_if (pt_cmpR op_eq (cl D__law_draw (hr.mono (by decide)) (pa_cons (pv 1) (pa_cons pe_int pa_nil))) pe_int (nomark _)) (pss_one (ps_set (i := 7) sc_law.nd rfl (.inl rfl) (cl D__law_add (hr.mono (by decide)) (pa_cons (pv 1) (pa_cons (pe_ix ix_list (pv 2) (pv 6) (fun _ _ => rfl)) (pa_cons (pe_ix ix_list (pv 3) (pv 6) (fun _ _ => rfl)) pa_nil)))))) (pss_one (ps_set (i := 7) sc_law.nd rfl (.inl rfl) (cl D__law_narrow (hr.mono (by decide)) (pa_cons (pv 1) (pa_cons (pe_ix ix_list (pv 2) (pv 6) (fun _ _ => rfl)) (pa_cons (pe_ix ix_list (pv 3) (pv 6) (fun _ _ => rfl)) pa_nil)))))))
      (pss_cons (ps_if (PW.pt (pw_or (pt_not (pt_val (pv 7))) (pw_or (pt_not (pt_val (cl D__law_is (hr.mono (by decide)) (pa_cons (pe_ix ix_list (pv 2) pe_int (fun _ _ => rfl)) (pa_cons (pe_ix ix_list (pv 3) pe_int (fun _ _ => rfl)) pa_nil))))) (pw_or1 (pt_not (pt_val (cl D__law_is (hr.mono (by decide)) (pa_cons (pe_ix ix_list (pv 2) pe_int (fun _ _ => rfl)) (pa_cons (pe_ix ix_list (pv 3) pe_int (fun _ _ => rfl)) pa_nil))))))))) (pss_one (ps_ret pe_bl)) pss_nil)
      (pss_cons (ps_set (i := 8) sc_law.nd rfl (.inl rfl) (pe_cmpR (op_cmpO (fun _ _ => rfl) T.u_Schema___eq__.1 T.u_Schema___eq__.2 D_sceq (hr.mono (by decide)) pass0) (pe_ix ix_list (pv 2) pe_int (fun _ _ => rfl)) (pe_ix ix_list (pv 2) pe_int (fun _ _ => rfl)) (nomark _)))
      (pss_one (ps_if (PW.pt (pw_or (pt_not (pt_val (pe_callB call_isi (by rfl) T.z_isinstance (by decide +kernel) (pa_cons (pv 8) (pa_cons (pe_bltn (v := .ty "bool") (by rfl) T.z_bool (by decide +kernel) rfl) pa_nil))))) (pw_or1 (pt_cmpR op_ne (pv 8) (pe_cmpR (op_eqD hr.units) (pe_ix ix_list (pv 3) pe_int (fun _ _ => rfl)) (pe_ix ix_list (pv 3) pe_int (fun _ _ => rfl)) (nomark _)) (nomark _))))) (pss_one (ps_ret pe_bl)) pss_nil))))))))
      (pss_one (ps_ret pe_bl))))))), ?_⟩
    refine ⟨_, rfl, a, ns, rfl, hS, fun p l H1 np nl s1 S1 => ?_⟩
    obtain ⟨xp1, hp1⟩ := S1.lst
    obtain ⟨xl1, hl1⟩ := S1.lst2
    have al1' : Al [p, l] H1 := al_cons hp1 (al1 hl1)
    have nd1 : [p, l].Nodup := by simp; exact Ne.symm S1.ne
    have grow : ∀ {a : Addr} {M : List Addr} {X : Hp}, M.Nodup → Al M X → X a = none → (a :: M).Nodup := fun nd al na => List.nodup_cons.mpr ⟨al.out na, nd⟩
    -- the schemas
    refine mkSc (.inl ⟨rfl, rfl⟩) (.inl ⟨rfl, rfl⟩) fun x1 dx1 dw1 dl1 H2 s2 nx1 nw1 nl1 hn1 hx1 hw1 hl1' => ?_
    have al2 : Al [dl1, dw1, p, l] H2 := al_cons hl1' (al_cons hw1 (al1'.same s2))
    have nd2 : [dl1, dw1, p, l].Nodup := List.nodup_cons.mpr ⟨fun z => (List.mem_cons.mp z).elim (fun e => hn1 e.symm) (al1'.out nl1), grow nd1 al1' nw1⟩
    refine mkSc (.inl ⟨rfl, rfl⟩) (.inl ⟨rfl, rfl⟩) fun x2 dx2 dw2 dl2 H3 s3 nx2 nw2 nl2 hn2 hx2 hw2 hl2 => ?_
    have al3 : Al [dl2, dw2, dl1, dw1, p, l] H3 := al_cons hl2 (al_cons hw2 (al2.same s3))
    have nd3 : [dl2, dw2, dl1, dw1, p, l].Nodup := List.nodup_cons.mpr ⟨fun z => (List.mem_cons.mp z).elim (fun e => hn2 e.symm) (al2.out nl2), grow nd2 al2 nw2⟩
    refine ⟨(by show 2 ≤ sizeLine; decide), fun wl nwl => ?_⟩
    generalize eH4 : upd H3 wl _ = H4
    have s4 : Same H3 H4 := eH4 ▸ same_upd nwl
    have e4 : H4 wl = some _ := eH4 ▸ upd_same
    have al4 := al_cons e4 (al3.same s4)
    have nd4 := grow nd3 al3 nwl
    refine ⟨(by show 0 ≤ sizeLine; decide), fun st1 nst1 => ?_⟩
    generalize eH5 : upd H4 st1 _ = H5
    have s5 : Same H4 H5 := eH5 ▸ same_upd nst1
    have e5 : H5 st1 = some _ := eH5 ▸ upd_same
    have al5 := al_cons e5 (al4.same s5)
    have nd5 := grow nd4 al4 nst1
    refine ⟨(by show 0 ≤ sizeLine; decide), fun st2 nst2 => ?_⟩
    generalize eH6 : upd H5 st2 _ = H6
    have s6 : Same H5 H6 := eH6 ▸ same_upd nst2
    have e6 : H6 st2 = some _ := eH6 ▸ upd_same
    have al6 := al_cons e6 (al5.same s6)
    have nd6 := grow nd5 al5 nst2
    refine ⟨(by show 2 ≤ sizeLine; decide), fun sl nsl => ?_⟩
    generalize eH7 : upd H6 sl _ = H7
    have s7 : Same H6 H7 := eH7 ▸ same_upd nsl
    have e7 : H7 sl = some _ := eH7 ▸ upd_same
    have nd7 := grow nd6 al6 nsl
    have s37 : Same H3 H7 := s4.trans (s5.trans (s6.trans s7))
    have s27 : Same H2 H7 := s3.trans s37
    let A1 : Ad := ⟨x1, dx1, dw1, dl1, st1⟩
    let A2 : Ad := ⟨x2, dx2, dw2, dl2, st2⟩
    have S7 : Src H7 p l := S1.same (s2.trans s27)
    obtain ⟨xp7, hp7⟩ := S7.lst
    have e4' := (s5.trans (s6.trans s7)) _ _ e4
    have e5' := (s6.trans s7) _ _ e5
    have e6' := s7 _ _ e6
    have kd7 : Kd (mM p wl sl A1 A2) H7 := kd_l hp7 (kd_l e4' (kd_l e7 (kd_d (s27 _ _ hw1) (kd_d (s27 _ _ hl1') (kd_l e5' (kd_d (s37 _ _ hw2) (kd_d (s37 _ _ hl2) (kd_l e6' kd_nil))))))))
    have start : Sit K H7 p l wl sl A1 A2 [] [] 0 := by
      refine ⟨S7, e4', e7, par0 (s27 _ _ hx1) (s27 _ _ hw1) (s27 _ _ hl1') e5' (ins_out kd7 (s27 _ _ hx1)) ⟨by simp [A1], by simp [A1], by simp [A1]⟩ hn1, par0 (s37 _ _ hx2) (s37 _ _ hw2) (s37 _ _ hl2) e6' (ins_out kd7 (s37 _ _ hx2)) ⟨by simp [A2], by simp [A2], by simp [A2]⟩ hn2, ?_, ?_⟩
      · show [p, wl, sl, dw1, dl1, st1, dw2, dl2, st2].Nodup
        simp only [List.nodup_cons, List.mem_cons, List.not_mem_nil, not_or, or_false, not_false_eq_true, List.nodup_nil, and_true] at nd7 ⊢
        grind
      · show l ∉ [p, wl, sl, dw1, dl1, st1, dw2, dl2, st2]
        simp only [List.nodup_cons, List.mem_cons, List.not_mem_nil, not_or, or_false, not_false_eq_true, List.nodup_nil, and_true] at nd7 ⊢
        grind
    clear_value A1 A2
    refine ⟨_, rfl, p, l, 7, rfl, by decide, by decide, start.src, fun n H8 n0 n1 S8 b8 => ?_⟩
    have start8 := start.draw b8 S8
    refine ⟨12, rfl, by decide, by decide, for_range (n := 12) (fun i σ H' => ∃ (o5 o6 o7 o8 : Option V) (B : Ad) (ra rb : List Sch), σ = [some (.ref a), some (.ref p), some (.ref wl), some (.ref sl), some (.int n), o5, o6, o7, o8] ∧ Sit K H' p l wl sl A1 B ra rb i) ⟨none, none, none, none, A2, [], [], rfl, start8⟩ ?_ (fun σ H' _ => q H')⟩
    rintro i σ H9 hi ⟨o5, o6, o7, o8, B, ra, rb, rfl, Z⟩
    refine ⟨fun σ' H' => ∃ (o6 o7 o8 : Option V) (B : Ad) (rb : List Sch), σ' = [some (.ref a), some (.ref p), some (.ref wl), some (.ref sl), some (.int n), some (.int (0 + (i : Int))), o6, o7, o8] ∧ Sit K H' p l wl sl A1 B ra rb i, ?_, ?_⟩
    · refine ⟨_, rfl, _, rfl, rfl, _, rfl, ie (fun c => ?_) (fun c => ?_)⟩
      · refine ⟨_, rfl, _, _, 0, _, rfl, rfl, SqL.of Z.hwl, atI_nat (j := 0) rfl, _, _, _, rfl, Z.pa.sc.hx, scF_no (by decide) (by decide), ?_⟩
        refine ⟨A1.x, A1.dx, A1.dw, A1.dl, ra, rfl, Z.pa.sc, fun x3 dx3 dw3 dl3 G1 t1 g1 g2 g3 hn3 C3 => ?_⟩
        have Z1 := Z.same t1
        refine ⟨_, rfl, wl, _, 1, 1, rfl, rfl, Z1.hwl, rfl, ?_⟩
        generalize eG2 : upd G1 wl _ = G2
        have u2 : Md [wl] G1 G2 := eG2 ▸ Md.upd Z1.hwl rfl (by simp)
        have wl2 : G2 wl = some (.lst [.ref A1.x, .ref x3]) := eG2 ▸ upd_same
        have nd := Z.nd
        simp only [List.nodup_cons, List.mem_cons, List.not_mem_nil, not_or, or_false, not_false_eq_true, List.nodup_nil, and_true] at nd
        have sl2 : G2 sl = some (.lst [.ref A1.st, .ref B.st]) := u2.out _ _ Z1.hsl (not1 (by grind))
        have pa2 : PrA K (mM p wl sl A1 B) G2 A1 ra i := Z1.pa.md u2 (by simp) (not1 (by grind)) (not1 (by grind)) (not1 (by grind))
        obtain ⟨vs2, est2, rows2⟩ := id pa2.sa
        refine ⟨_, rfl, _, _, 0, _, rfl, rfl, SqL.of sl2, atI_nat (j := 0) rfl, _, _, rfl, .inl (SqL.of est2), fun st3 nst3 => ?_⟩
        generalize eG3 : upd G2 st3 _ = G3
        have t3 : Same G2 G3 := eG3 ▸ same_upd nst3
        have es3 : G3 st3 = some _ := eG3 ▸ upd_same
        refine ⟨_, rfl, sl, _, 1, 1, rfl, rfl, t3 _ _ sl2, rfl, ?_⟩
        generalize eG4 : upd G3 sl _ = G4
        have u4 : Md [sl] G3 G4 := eG4 ▸ Md.upd (t3 _ _ sl2) rfl (by simp)
        have sl4 : G4 sl = some (.lst [.ref A1.st, .ref st3]) := eG4 ▸ upd_same
        -- the places
        let B3 : Ad := ⟨x3, dx3, dw3, dl3, st3⟩
        have alZ := Z.al
        have al2 : Al (mM p wl sl A1 B) G2 := (alZ.same t1).md u2 (al1 wl2)
        have ow : dw3 ∉ mM p wl sl A1 B := alZ.out g2
        have ol : dl3 ∉ mM p wl sl A1 B := alZ.out g3
        have os : st3 ∉ mM p wl sl A1 B := al2.out nst3
        have fst : H9 st3 = none := t1.free (free_md u2 (al1 wl2) nst3)
        obtain ⟨wlw, wll⟩ : dw3 ≠ wl ∧ dl3 ≠ wl := ⟨fun z => ow (by simp [z]), fun z => ol (by simp [z])⟩
        have w32 : G2 dw3 = some (.dK (dI (wI ra))) := u2.out _ _ C3.hw (not1 wlw)
        have l32 : G2 dl3 = some (.dK (lK ra)) := u2.out _ _ C3.hl (not1 wll)
        have sw : dw3 ≠ st3 := ne_of_none w32 nst3
        have sl' : dl3 ≠ st3 := ne_of_none l32 nst3
        have ndM : (mM p wl sl A1 B3).Nodup := by
          show [p, wl, sl, A1.dw, A1.dl, A1.st, dw3, dl3, st3].Nodup
          simp only [List.nodup_cons, List.mem_cons, List.not_mem_nil, not_or, or_false, not_false_eq_true, List.nodup_nil, and_true] at ow ol os ⊢
          grind
        have re : ∀ b, b ∉ mM p wl sl A1 B → (∃ o, H9 b = some o) → b ∉ mM p wl sl A1 B3 := fun b hb ⟨o, ho⟩ => by
          have k1 : b ≠ dw3 := ne_of_none ho g2
          have k2 : b ≠ dl3 := ne_of_none ho g3
          have k3 : b ≠ st3 := ne_of_none ho fst
          show b ∉ [p, wl, sl, A1.dw, A1.dl, A1.st, dw3, dl3, st3]
          simp only [List.mem_cons, List.not_mem_nil, not_or, or_false] at hb ⊢
          grind
        have paM : PrA K (mM p wl sl A1 B3) H9 A1 ra i := Z.pa.reM re ⟨by simp, by simp, by simp⟩
        have mT : Md [wl, sl] H9 G4 := (Md.of t1).trans ((u2.mono (by simp)).trans ((Md.of t3).trans (u4.mono (by simp))))
        have ox : x3 ∉ mM p wl sl A1 B := alZ.out g1
        have pa4 : PrA K (mM p wl sl A1 B3) G4 A1 ra i := paM.md mT (by simp) (not2 (by grind) (by grind)) (not2 (by grind) (by grind)) (not2 (by grind) (by grind))
        obtain ⟨xl9, hl9⟩ := Z.src.lst2
        have lM := Z.lM
        have S4 : Src G4 p l := Src.md Z.src mT (not2 (by grind) (by grind)) (not2 (fun z => lM (by simp [z])) (fun z => lM (by simp [z])))
        have wl4 : G4 wl = some (.lst [.ref A1.x, .ref x3]) := u4.out _ _ (t3 _ _ wl2) (not1 (by grind))
        obtain ⟨vs0, est0, rows0⟩ := id paM.sa
        have est0' : G2 A1.st = some (.lst vs0) := u2.out _ _ (t1 _ _ est0) (not1 (by grind))
        have evs : vs2 = vs0 := by
          rw [est2] at est0'
          exact HO.lst.inj (Option.some.inj est0')
        subst evs
        have rows4 := rows0.md mT (by simp)
        have inW : ∀ {b : Addr}, b ∉ mM p wl sl A1 B → b ∉ [wl] ∧ b ∉ [sl] := fun {b} hb => ⟨not1 (fun z => hb (by simp [z])), not1 (fun z => hb (by simp [z]))⟩
        have C2 : ScAt K G2 x3 dx3 dw3 dl3 ra := C3.md u2 (inW ox).1 (inW ow).1 (inW ol).1 (fun s hs => ⟨(inW (Z.pa.cm s hs).1).1, (inW (Z.pa.cm s hs).2).1⟩)
        have C4 : ScAt K G4 x3 dx3 dw3 dl3 ra := (C2.same t3).md u4 (inW ox).2 (inW ow).2 (inW ol).2 (fun s hs => ⟨(inW (Z.pa.cm s hs).1).2, (inW (Z.pa.cm s hs).2).2⟩)
        have st4 : G4 st3 = some (.lst vs2) := u4.out _ _ es3 (inW os).2
        have xm : x3 ∉ mM p wl sl A1 B3 := by
          have k1 : x3 ≠ dw3 := ne_of C3.hx C3.hw (by intro z; cases z)
          have k2 : x3 ≠ dl3 := ne_of C3.hx C3.hl (by intro z; cases z)
          have k3 : x3 ≠ st3 := ne_of_none C2.hx nst3
          show x3 ∉ [p, wl, sl, A1.dw, A1.dl, A1.st, dw3, dl3, st3]
          simp only [List.mem_cons, List.not_mem_nil, not_or, or_false] at ox ⊢
          grind
        have pb4 : PrA K (mM p wl sl A1 B3) G4 B3 ra i := ⟨C4, ⟨vs2, st4, rows4⟩, xm, paM.cm, ⟨by simp [B3], by simp [B3], by simp [B3]⟩, hn3, Z.pa.nd, Z.pa.nm, Z.pa.wn, Z.pa.dn, Z.pa.ln, Z.pa.la⟩
        exact ⟨o6, o7, o8, B3, ra, rfl, S4, wl4, sl4, pa4, pb4, ndM, re l lM ⟨_, hl9⟩⟩
      · exact ⟨o6, o7, o8, B, rb, rfl, Z⟩
    · rintro σ' HA ⟨o6', o7', o8', B', rb', rfl, Z'⟩
      refine ⟨_, rfl, p, l, 2, rfl, by decide, by decide, Z'.src, fun k HB k0 k1 SB bB => ?_⟩
      have ZB := Z'.draw bB SB
      have nd := Z'.nd
      simp only [List.nodup_cons, List.mem_cons, List.not_mem_nil, not_or, or_false, not_false_eq_true, List.nodup_nil, and_true] at nd
      refine ⟨fun σ' H' => ∃ (ra' rb'' : List Sch), σ' = [some (.ref a), some (.ref p), some (.ref wl), some (.ref sl), some (.int n), some (.int (0 + (i : Int))), some (.int k), some (.bl true), o8'] ∧ Sit K H' p l wl sl A1 B' ra' rb'' (i + 1), ?_, ?_⟩
      · refine ⟨_, rfl, p, l, 2, rfl, by decide, by decide, ZB.src, fun k2 HC _ _ SC bC => ?_⟩
        have ZC := ZB.draw bC SC
        have hk : k = 0 ∨ k = 1 := by omega
        refine ⟨rfl, _, rfl, ie (fun c => ?_) (fun c => ?_)⟩ <;> rcases hk with rfl | rfl
        · refine ⟨_, rfl, _, rfl, _, rfl, _, _, 0, _, rfl, rfl, SqL.of ZC.hwl, atI_nat (j := 0) rfl, _, rfl, _, rfl, _, _, 0, _, rfl, rfl, SqL.of ZC.hsl, atI_nat (j := 0) rfl, ?_⟩
          refine ⟨p, l, A1.x, A1.dx, A1.dw, A1.dl, A1.st, ra, _, i, rfl, ZC.src, ZC.pa, ZC.al, by simp, ZC.lM, by grind, by omega, fun HD rs' mD SD PD => ?_⟩
          exact ⟨_, _, rfl, ZC.deedA mD SD PD⟩
        · refine ⟨_, rfl, _, rfl, _, rfl, _, _, 1, _, rfl, rfl, SqL.of ZC.hwl, atI_nat (j := 1) rfl, _, rfl, _, rfl, _, _, 1, _, rfl, rfl, SqL.of ZC.hsl, atI_nat (j := 1) rfl, ?_⟩
          refine ⟨p, l, B'.x, B'.dx, B'.dw, B'.dl, B'.st, rb', _, i, rfl, ZC.src, ZC.pb, ZC.al, by simp, ZC.lM, by grind, by omega, fun HD rs' mD SD PD => ?_⟩
          exact ⟨_, _, rfl, ZC.deedB mD SD PD⟩
        · refine ⟨_, rfl, _, rfl, _, rfl, _, _, 0, _, rfl, rfl, SqL.of ZC.hwl, atI_nat (j := 0) rfl, _, rfl, _, rfl, _, _, 0, _, rfl, rfl, SqL.of ZC.hsl, atI_nat (j := 0) rfl, ?_⟩
          refine ⟨p, l, A1.x, A1.dx, A1.dw, A1.dl, A1.st, ra, _, i, rfl, ZC.src, ZC.pa, ZC.al, by simp, ZC.lM, by grind, by omega, fun HD rs' mD SD PD => ?_⟩
          exact ⟨_, _, rfl, ZC.deedA mD SD PD⟩
        · refine ⟨_, rfl, _, rfl, _, rfl, _, _, 1, _, rfl, rfl, SqL.of ZC.hwl, atI_nat (j := 1) rfl, _, rfl, _, rfl, _, _, 1, _, rfl, rfl, SqL.of ZC.hsl, atI_nat (j := 1) rfl, ?_⟩
          refine ⟨p, l, B'.x, B'.dx, B'.dw, B'.dl, B'.st, rb', _, i, rfl, ZC.src, ZC.pb, ZC.al, by simp, ZC.lM, by grind, by omega, fun HD rs' mD SD PD => ?_⟩
          exact ⟨_, _, rfl, ZC.deedB mD SD PD⟩
      · rintro σ' HC ⟨ra', rb'', rfl, ZC⟩
        refine ⟨_, rfl, _, rfl, iteF ?_⟩
        refine ⟨_, rfl, _, _, 0, _, rfl, rfl, SqL.of ZC.hwl, atI_nat (j := 0) rfl, _, rfl, _, _, 0, _, rfl, rfl, SqL.of ZC.hsl, atI_nat (j := 0) rfl, ?_⟩
        refine ⟨_, _, _, _, _, _, _, _, rfl, ZC.pa, by omega, fun HD sD => ?_⟩
        refine ⟨_, rfl, iteF ?_⟩
        have ZD := ZC.same sD
        refine ⟨_, rfl, _, _, 1, _, rfl, rfl, SqL.of ZD.hwl, atI_nat (j := 1) rfl, _, rfl, _, _, 1, _, rfl, rfl, SqL.of ZD.hsl, atI_nat (j := 1) rfl, ?_⟩
        refine ⟨_, _, _, _, _, _, _, _, rfl, ZD.pb, by omega, fun HE sE => ?_⟩
        refine ⟨_, rfl, iteF ?_⟩
        have ZE := ZD.same sE
        have stOk : ∀ {rs : List Sch}, (∀ s ∈ rs, s.nm ∈ okNm) → ∀ z ∈ nmS rs, PyData.strOk z = true := fun h z hz => by
          obtain ⟨s, hs, rfl⟩ := List.mem_map.mp hz
          exact ok_str (h s hs)
        refine ⟨_, rfl, _, _, 0, _, rfl, rfl, SqL.of ZE.hwl, atI_nat (j := 0) rfl, _, rfl, _, _, 1, _, rfl, rfl, SqL.of ZE.hwl, atI_nat (j := 1) rfl, ?_⟩
        refine ⟨_, _, _, _, rfl, ZE.pa.sc.hx, T.o_Schema.ty ZE.pb.sc.hx, T.nf_Schema, _, _, _, _, _, _, _, _, _, _, rfl, ZE.pa.sc, ZE.pb.sc, ZE.pa.nd, ZE.pb.nd, stOk ZE.pa.nm, stOk ZE.pb.nm, ZE.pa.ne, by grind, Nat.le_trans ZE.pa.ln (by omega), fun HF sF => ?_⟩
        have ZF := ZE.same sF
        refine ⟨_, rfl, _, _, _, _, _, rfl, .ty _, Dp.ty (.bl _), kit_d K .bl (.bool _), _, rfl, iteF ?_⟩
        refine ⟨_, rfl, _, rfl, _, _, 0, _, rfl, rfl, SqL.of ZF.hsl, atI_nat (j := 0) rfl, _, rfl, _, _, 1, _, rfl, rfl, SqL.of ZF.hsl, atI_nat (j := 1) rfl, _, _, ZF.pa.sa.dp, ZF.pb.sa.dp, ents_sh ZF.pa.strs, ents_sh ZF.pb.strs, ?_⟩
        rw [eqv_ents]
        refine ⟨rfl, _, rfl, if_neg_of (by show (!decide (V.bl (decide (ra'.map keyS = rb''.map keyS)) = V.bl (decide (ra'.map keyS = rb''.map keyS)))) = false; rw [decide_eq_true rfl]; rfl) ?_⟩
        exact ⟨_, _, _, _, B', _, _, rfl, ZF⟩
end
end K09
namespace K09
open PySem PySem.Spec PyProof.Rows L2 He TL EL
def dd__wall : EL.DefE := ⟨fun K => (ga K "_wall"), "_wall", "_wall", defArgs s__wall, defBody s__wall, defScope s__wall, []⟩
def dd_is_whole : EL.DefE := ⟨fun K => (ga K "is_whole"), "is_whole", "is_whole", defArgs s_is_whole, defBody s_is_whole, defScope s_is_whole, []⟩
def dd_is_word : EL.DefE := ⟨fun K => (ga K "is_word"), "is_word", "is_word", defArgs s_is_word, defBody s_is_word, defScope s_is_word, []⟩
def dd_common_divisor : EL.DefE := ⟨fun K => (ga K "common_divisor"), "common_divisor", "common_divisor", defArgs s_common_divisor, defBody s_common_divisor, defScope s_common_divisor, []⟩
def dd_is_value : EL.DefE := ⟨fun K => (ga K "is_value"), "is_value", "is_value", defArgs s_is_value, defBody s_is_value, defScope s_is_value, []⟩
def dd_is_term : EL.DefE := ⟨fun K => (ga K "is_term"), "is_term", "is_term", defArgs s_is_term, defBody s_is_term, defScope s_is_term, []⟩
def dd_is_atom : EL.DefE := ⟨fun K => (ga K "is_atom"), "is_atom", "is_atom", defArgs s_is_atom, defBody s_is_atom, defScope s_is_atom, []⟩
def dd_Conditions___init__ : EL.DefE := ⟨fun K => (ma K (ga K "Conditions") "__init__"), "__init__", "Conditions.__init__", defArgs s_Conditions___init__, defBody s_Conditions___init__, defScope s_Conditions___init__, [.adr (dflAt ("Conditions", some "__init__") 0)]⟩
def dd_Conditions_atoms : EL.DefE := ⟨fun K => (ma K (ga K "Conditions") "atoms"), "atoms", "Conditions.atoms", defArgs s_Conditions_atoms, defBody s_Conditions_atoms, defScope s_Conditions_atoms, []⟩
def dd_Conditions___eq__ : EL.DefE := ⟨fun K => (ma K (ga K "Conditions") "__eq__"), "__eq__", "Conditions.__eq__", defArgs s_Conditions___eq__, defBody s_Conditions___eq__, defScope s_Conditions___eq__, []⟩
def dd_Conditions___and__ : EL.DefE := ⟨fun K => (ma K (ga K "Conditions") "__and__"), "__and__", "Conditions.__and__", defArgs s_Conditions___and__, defBody s_Conditions___and__, defScope s_Conditions___and__, []⟩
def dd_Conditions___iand__ : EL.DefE := ⟨fun K => (ma K (ga K "Conditions") "__iand__"), "__iand__", "Conditions.__iand__", defArgs s_Conditions___iand__, defBody s_Conditions___iand__, defScope s_Conditions___iand__, []⟩
def dd_is_column_count : EL.DefE := ⟨fun K => (ga K "is_column_count"), "is_column_count", "is_column_count", defArgs s_is_column_count, defBody s_is_column_count, defScope s_is_column_count, []⟩
def dd_names_cells : EL.DefE := ⟨fun K => (ga K "names_cells"), "names_cells", "names_cells", defArgs s_names_cells, defBody s_names_cells, defScope s_names_cells, []⟩
def dd_are_row_rules : EL.DefE := ⟨fun K => (ga K "are_row_rules"), "are_row_rules", "are_row_rules", defArgs s_are_row_rules, defBody s_are_row_rules, defScope s_are_row_rules, []⟩
def dd_Schema___init__ : EL.DefE := ⟨fun K => (ma K (ga K "Schema") "__init__"), "__init__", "Schema.__init__", defArgs s_Schema___init__, defBody s_Schema___init__, defScope s_Schema___init__, [.non, .non]⟩
def dd_Schema___len__ : EL.DefE := ⟨fun K => (ma K (ga K "Schema") "__len__"), "__len__", "Schema.__len__", defArgs s_Schema___len__, defBody s_Schema___len__, defScope s_Schema___len__, []⟩
def dd_Schema___contains__ : EL.DefE := ⟨fun K => (ma K (ga K "Schema") "__contains__"), "__contains__", "Schema.__contains__", defArgs s_Schema___contains__, defBody s_Schema___contains__, defScope s_Schema___contains__, []⟩
def dd_Schema___eq__ : EL.DefE := ⟨fun K => (ma K (ga K "Schema") "__eq__"), "__eq__", "Schema.__eq__", defArgs s_Schema___eq__, defBody s_Schema___eq__, defScope s_Schema___eq__, []⟩
def dd_Schema_names : EL.DefE := ⟨fun K => (ma K (ga K "Schema") "names"), "names", "Schema.names", defArgs s_Schema_names, defBody s_Schema_names, defScope s_Schema_names, []⟩
def dd_Schema_add : EL.DefE := ⟨fun K => (ma K (ga K "Schema") "add"), "add", "Schema.add", defArgs s_Schema_add, defBody s_Schema_add, defScope s_Schema_add, [.non]⟩
def dd_Schema_columns : EL.DefE := ⟨fun K => (ma K (ga K "Schema") "columns"), "columns", "Schema.columns", defArgs s_Schema_columns, defBody s_Schema_columns, defScope s_Schema_columns, []⟩
def dd_Schema_rules : EL.DefE := ⟨fun K => (ma K (ga K "Schema") "rules"), "rules", "Schema.rules", defArgs s_Schema_rules, defBody s_Schema_rules, defScope s_Schema_rules, []⟩
def dd_Schema_narrow : EL.DefE := ⟨fun K => (ma K (ga K "Schema") "narrow"), "narrow", "Schema.narrow", defArgs s_Schema_narrow, defBody s_Schema_narrow, defScope s_Schema_narrow, []⟩
def dd_Schema_twin : EL.DefE := ⟨fun K => (ma K (ga K "Schema") "twin"), "twin", "Schema.twin", defArgs s_Schema_twin, defBody s_Schema_twin, defScope s_Schema_twin, []⟩
def dd__law_begin : EL.DefE := ⟨fun K => (ga K "_law_begin"), "_law_begin", "_law_begin", defArgs s__law_begin, defBody s__law_begin, defScope s__law_begin, []⟩
def dd__law_draw : EL.DefE := ⟨fun K => (ga K "_law_draw"), "_law_draw", "_law_draw", defArgs s__law_draw, defBody s__law_draw, defScope s__law_draw, []⟩
def dd__law_rules : EL.DefE := ⟨fun K => (ga K "_law_rules"), "_law_rules", "_law_rules", defArgs s__law_rules, defBody s__law_rules, defScope s__law_rules, []⟩
def dd__law_added : EL.DefE := ⟨fun K => (ga K "_law_added"), "_law_added", "_law_added", defArgs s__law_added, defBody s__law_added, defScope s__law_added, []⟩
def dd__law_narrowed : EL.DefE := ⟨fun K => (ga K "_law_narrowed"), "_law_narrowed", "_law_narrowed", defArgs s__law_narrowed, defBody s__law_narrowed, defScope s__law_narrowed, []⟩
def dd__law_joined : EL.DefE := ⟨fun K => (ga K "_law_joined"), "_law_joined", "_law_joined", defArgs s__law_joined, defBody s__law_joined, defScope s__law_joined, []⟩
def dd__law_place : EL.DefE := ⟨fun K => (ga K "_law_place"), "_law_place", "_law_place", defArgs s__law_place, defBody s__law_place, defScope s__law_place, []⟩
def dd__law_add : EL.DefE := ⟨fun K => (ga K "_law_add"), "_law_add", "_law_add", defArgs s__law_add, defBody s__law_add, defScope s__law_add, []⟩
def dd__law_narrow : EL.DefE := ⟨fun K => (ga K "_law_narrow"), "_law_narrow", "_law_narrow", defArgs s__law_narrow, defBody s__law_narrow, defScope s__law_narrow, []⟩
def dd__law_asked : EL.DefE := ⟨fun K => (ga K "_law_asked"), "_law_asked", "_law_asked", defArgs s__law_asked, defBody s__law_asked, defScope s__law_asked, []⟩
def dd__law_is : EL.DefE := ⟨fun K => (ga K "_law_is"), "_law_is", "_law_is", defArgs s__law_is, defBody s__law_is, defScope s__law_is, []⟩
def dd_law : EL.DefE := ⟨fun K => (ga K "law"), "law", "law", defArgs s_law, defBody s_law, defScope s_law, []⟩
def fn : List EL.DefE := [dd__wall, dd_is_whole, dd_is_word, dd_common_divisor, dd_is_value, dd_is_term, dd_is_atom, dd_Conditions___init__, dd_Conditions_atoms, dd_Conditions___eq__, dd_Conditions___and__, dd_Conditions___iand__, dd_is_column_count, dd_names_cells, dd_are_row_rules, dd_Schema___init__, dd_Schema___len__, dd_Schema___contains__, dd_Schema___eq__, dd_Schema_names, dd_Schema_add, dd_Schema_columns, dd_Schema_rules, dd_Schema_narrow, dd_Schema_twin, dd__law_begin, dd__law_draw, dd__law_rules, dd__law_added, dd__law_narrowed, dd__law_joined, dd__law_place, dd__law_add, dd__law_narrow, dd__law_asked, dd__law_is, dd_law]
def fa : List He.Fa := [.glo "_wall", .glo "is_whole", .glo "is_word", .glo "common_divisor", .glo "is_value", .glo "is_term", .glo "is_atom", .glo "is_column_count", .glo "names_cells", .glo "are_row_rules", .glo "_law_begin", .glo "_law_draw", .glo "_law_rules", .glo "_law_added", .glo "_law_narrowed", .glo "_law_joined", .glo "_law_place", .glo "_law_add", .glo "_law_narrow", .glo "_law_asked", .glo "_law_is", .glo "law", .glo "NotSingle", .glo "NoTable", .glo "Conditions", .glo "Schema", .glo "AskError", .exc "AskError", .glo "NoCondition", .exc "NoCondition", .str "LETTERS" "abcdefghijklmnopqrstuvwxyz", .glo "SIGNS", .glo "NEGATED", .glo "PLACES", .int "MOST_COLUMNS" 3, .free "ValueError", .free "super", .free "isinstance", .free "int", .free "bool", .free "str", .free "len", .free "abs", .free "tuple", .free "list", .free "iter", .free "dict", .free "all", .free "range", .exm "NoTable" "NoTable" true, .exm "NoTable" "NoCondition" false, .exm "NoCondition" "NoTable" false, .exm "NoCondition" "NoCondition" true, .mkr "Conditions", .meth "Conditions" "atoms", .meth "Conditions" "__eq__", .meth "Conditions" "__and__", .meth "Conditions" "__iand__", .mkr "Schema", .meth "Schema" "__len__", .meth "Schema" "__contains__", .meth "Schema" "__eq__", .meth "Schema" "names", .meth "Schema" "add", .meth "Schema" "columns", .meth "Schema" "rules", .meth "Schema" "narrow", .meth "Schema" "twin", .noat "Conditions" "kept_atoms", .noat "Schema" "widths", .noat "Schema" "limits"]
def xn : List EL.DefX := [xw_NoTable]
def exL (K : PySem.W.Frag) : List Bool := [tupAB K (dflAt ("Conditions", some "__init__") 0 K), excCB K (ga K "NoTable"), decide (PySem.W.kitOne K (.ref (ga K "NoTable")) (.ref (ga K "AskError")) = some true), decide (PySem.W.kitOne K (.ref (ga K "NoTable")) (.ref (ga K "NoCondition")) = some false), ocB K (ga K "Conditions"), ocB K (ga K "Schema"), dunB K (ga K "Conditions") "__eq__", dunB K (ga K "Conditions") "__and__", dunB K (ga K "Conditions") "__iand__", dunB K (ga K "Schema") "__eq__", PySem.W.selfFirst K (ga K "Conditions"), PySem.W.notFirst K (ga K "Conditions") (.ref (ga K "Conditions")), PySem.W.notFirst K (ga K "Schema") (.ref (ga K "Schema")), tupB K "PLACES" [.str "old", .str "first", .str "second"], tupB K "SIGNS" [.str "<", .str "<=", .str "=", .str "!="], xtB K "NoTable" "name" "/claim/cut.py"]
def ex (K : PySem.W.Frag) : Bool := (exL K).all id
theorem txt_of {K : PySem.W.Frag} {h : Heap} {mg : Str → Option Value} (X : K.In h) (G : h.Ns mainGlobals mg) (cx : EL.SaysX fa fn xn ex K) : Txt K mg := by
  have c := cx.e
  have m := c.ex_
  exact ⟨He.glo_ok X G (c.fact 0 (by rfl)),
    He.glo_ok X G (c.fact 1 (by rfl)),
    He.glo_ok X G (c.fact 2 (by rfl)),
    He.glo_ok X G (c.fact 3 (by rfl)),
    He.glo_ok X G (c.fact 4 (by rfl)),
    He.glo_ok X G (c.fact 5 (by rfl)),
    He.glo_ok X G (c.fact 6 (by rfl)),
    He.glo_ok X G (c.fact 7 (by rfl)),
    He.glo_ok X G (c.fact 8 (by rfl)),
    He.glo_ok X G (c.fact 9 (by rfl)),
    He.glo_ok X G (c.fact 10 (by rfl)),
    He.glo_ok X G (c.fact 11 (by rfl)),
    He.glo_ok X G (c.fact 12 (by rfl)),
    He.glo_ok X G (c.fact 13 (by rfl)),
    He.glo_ok X G (c.fact 14 (by rfl)),
    He.glo_ok X G (c.fact 15 (by rfl)),
    He.glo_ok X G (c.fact 16 (by rfl)),
    He.glo_ok X G (c.fact 17 (by rfl)),
    He.glo_ok X G (c.fact 18 (by rfl)),
    He.glo_ok X G (c.fact 19 (by rfl)),
    He.glo_ok X G (c.fact 20 (by rfl)),
    He.glo_ok X G (c.fact 21 (by rfl)),
    He.glo_ok X G (c.fact 22 (by rfl)),
    He.glo_ok X G (c.fact 23 (by rfl)),
    He.glo_ok X G (c.fact 24 (by rfl)),
    He.glo_ok X G (c.fact 25 (by rfl)),
    xc_of (He.glo_ok X G (c.fact 26 (by rfl))) (He.exc_ok (c.fact 27 (by rfl))),
    xc_of (He.glo_ok X G (c.fact 28 (by rfl))) (He.exc_ok (c.fact 29 (by rfl))),
    gv_str (He.str_ok X G (c.fact 30 (by rfl))),
    He.glo_ok X G (c.fact 31 (by rfl)),
    He.glo_ok X G (c.fact 32 (by rfl)),
    He.glo_ok X G (c.fact 33 (by rfl)),
    gv_int (He.int_ok X G (c.fact 34 (by rfl))),
    He.free_ok X G (c.fact 35 (by rfl)),
    He.free_ok X G (c.fact 36 (by rfl)),
    He.free_ok X G (c.fact 37 (by rfl)),
    He.free_ok X G (c.fact 38 (by rfl)),
    He.free_ok X G (c.fact 39 (by rfl)),
    He.free_ok X G (c.fact 40 (by rfl)),
    He.free_ok X G (c.fact 41 (by rfl)),
    He.free_ok X G (c.fact 42 (by rfl)),
    He.free_ok X G (c.fact 43 (by rfl)),
    He.free_ok X G (c.fact 44 (by rfl)),
    He.free_ok X G (c.fact 45 (by rfl)),
    He.free_ok X G (c.fact 46 (by rfl)),
    He.free_ok X G (c.fact 47 (by rfl)),
    He.free_ok X G (c.fact 48 (by rfl)),
    He.exm_ok (c.fact 49 (by rfl)),
    He.exm_ok (c.fact 50 (by rfl)),
    He.exm_ok (c.fact 51 (by rfl)),
    He.exm_ok (c.fact 52 (by rfl)),
    He.mkr_ok (c.fact 53 (by rfl)),
    He.meth_ok (c.fact 54 (by rfl)),
    He.meth_ok (c.fact 55 (by rfl)),
    He.meth_ok (c.fact 56 (by rfl)),
    He.meth_ok (c.fact 57 (by rfl)),
    He.mkr_ok (c.fact 58 (by rfl)),
    He.meth_ok (c.fact 59 (by rfl)),
    He.meth_ok (c.fact 60 (by rfl)),
    He.meth_ok (c.fact 61 (by rfl)),
    He.meth_ok (c.fact 62 (by rfl)),
    He.meth_ok (c.fact 63 (by rfl)),
    He.meth_ok (c.fact 64 (by rfl)),
    He.meth_ok (c.fact 65 (by rfl)),
    He.meth_ok (c.fact 66 (by rfl)),
    He.meth_ok (c.fact 67 (by rfl)),
    He.noat_ok (c.fact 68 (by rfl)),
    He.noat_ok (c.fact 69 (by rfl)),
    He.noat_ok (c.fact 70 (by rfl)),
    c.def_ 0 (d := dd__wall) rfl,
    c.def_ 1 (d := dd_is_whole) rfl,
    c.def_ 2 (d := dd_is_word) rfl,
    c.def_ 3 (d := dd_common_divisor) rfl,
    c.def_ 4 (d := dd_is_value) rfl,
    c.def_ 5 (d := dd_is_term) rfl,
    c.def_ 6 (d := dd_is_atom) rfl,
    c.def_ 7 (d := dd_Conditions___init__) rfl,
    c.def_ 8 (d := dd_Conditions_atoms) rfl,
    c.def_ 9 (d := dd_Conditions___eq__) rfl,
    c.def_ 10 (d := dd_Conditions___and__) rfl,
    c.def_ 11 (d := dd_Conditions___iand__) rfl,
    c.def_ 12 (d := dd_is_column_count) rfl,
    c.def_ 13 (d := dd_names_cells) rfl,
    c.def_ 14 (d := dd_are_row_rules) rfl,
    c.def_ 15 (d := dd_Schema___init__) rfl,
    c.def_ 16 (d := dd_Schema___len__) rfl,
    c.def_ 17 (d := dd_Schema___contains__) rfl,
    c.def_ 18 (d := dd_Schema___eq__) rfl,
    c.def_ 19 (d := dd_Schema_names) rfl,
    c.def_ 20 (d := dd_Schema_add) rfl,
    c.def_ 21 (d := dd_Schema_columns) rfl,
    c.def_ 22 (d := dd_Schema_rules) rfl,
    c.def_ 23 (d := dd_Schema_narrow) rfl,
    c.def_ 24 (d := dd_Schema_twin) rfl,
    c.def_ 25 (d := dd__law_begin) rfl,
    c.def_ 26 (d := dd__law_draw) rfl,
    c.def_ 27 (d := dd__law_rules) rfl,
    c.def_ 28 (d := dd__law_added) rfl,
    c.def_ 29 (d := dd__law_narrowed) rfl,
    c.def_ 30 (d := dd__law_joined) rfl,
    c.def_ 31 (d := dd__law_place) rfl,
    c.def_ 32 (d := dd__law_add) rfl,
    c.def_ 33 (d := dd__law_narrow) rfl,
    c.def_ 34 (d := dd__law_asked) rfl,
    c.def_ 35 (d := dd__law_is) rfl,
    c.def_ 36 (d := dd_law) rfl,
    fun H => tupAB_ok (exG m 0 (by rfl)) H,
    excCB_ok (exG m 1 (by rfl)),
    of_decide_eq_true (exG m 2 (by rfl)),
    of_decide_eq_true (exG m 3 (by rfl)),
    ocB_ok (exG m 4 (by rfl)),
    ocB_ok (exG m 5 (by rfl)),
    dunB_ok (exG m 6 (by rfl)),
    dunB_ok (exG m 7 (by rfl)),
    dunB_ok (exG m 8 (by rfl)),
    dunB_ok (exG m 9 (by rfl)),
    (exG m 10 (by rfl)),
    (exG m 11 (by rfl)),
    (exG m 12 (by rfl)),
    fun H => tupB_ok (exG m 13 (by rfl)) H,
    fun H => tupB_ok (exG m 14 (by rfl)) H,
    xt_of xwok_NoTable (cx.xd 0 (by rfl)) (He.glo_ok X G (c.fact 23 (by rfl))) (He.free_ok X G (c.fact 36 (by rfl))) (exG m 15 (by rfl))⟩
def loose : List Str := ["_wall", "AskError", "NoCondition", "NotSingle", "NoTable", "LETTERS", "SIGNS", "NEGATED", "is_whole", "is_word", "common_divisor", "is_value", "PLACES", "MOST_COLUMNS", "is_term", "is_atom", "Conditions", "is_column_count", "names_cells", "are_row_rules", "Schema", "_law_begin", "_law_draw", "_law_rules", "_law_added", "_law_narrowed", "_law_joined", "_law_place", "_law_add", "_law_narrow", "_law_asked", "_law_is"]
abbrev R : PySem.W.OpenRow := PySem.W.OpenLaw.row PySem.Challenge.rw_endlessasks_k09_schemas
abbrev hk : PySem.W.Hook := hookX 6 fa fn xn ex
def ob (s : PySem.W.SharedT) : AlX := obsXG 6 fa fn xn ex (HandSHeadRun.getT s)
theorem ob_eq (s : PySem.W.SharedT) : ob s = hk.obs s.abs := obsXG_eq (HandSHeadRun.getT_eq s)
theorem run (w : World) : HandSHeadRun.RunEq R (PySem.W.view R.prog [37]) hk ob 8000 loose w :=
  PySem.W.byRow2 "special-get-raises" (P := fun w => HandSHeadRun.RunEq R (PySem.W.view R.prog [37]) hk ob 8000 loose w) (fun w => by intro os; kernel_rfl) (fun w => by intro os; kernel_rfl) w
end K09
namespace K09
open PySem PySem.Spec PyProof.Rows L2 He TL EL
theorem facts {P : Program} {w : World} {K : PySem.W.Frag} {mg : Str → Option Value} {f : Addr} (hP : PF P "/claim/cut.py") (T : Txt K mg) (hfa : mg ("law" : Str) = some (.ref f)) :
    ∃ fd : FuncData, (∀ (s : Shared) (v : Value), BindsTo s fd ⟨[v], []⟩ [("_law_script", v)]) ∧ ∀ base : Heap, FnOk P w K mg base CX0 11 f fd ["_law_script"] (spLaw K) := by
  obtain ⟨fd, F⟩ := T.f_law
  have e := hfa.symm.trans T.g_law
  cases e
  have b := FunD.bindsA (ps := ["_law_script"]) F (fun _ _ _ _ _ _ us hl => match us, hl with | [_], _ => rfl)
  exact ⟨fd, fun s v => b s [v] rfl, fun base => ok_law hP T F⟩
end K09
open PySem PySem.W PySem.Calls PyProof.Rows
set_option maxHeartbeats 0 in
theorem PySem.Challenge.cw_endlessasks_k09_schemas_holds : PySem.Challenge.rw_endlessasks_k09_schemas.Holds := by
  w_on; o_law
  refine HandSHeadRun.head_any (r := OpenLaw.row PySem.Challenge.rw_endlessasks_k09_schemas) (q := view (OpenLaw.row PySem.Challenge.rw_endlessasks_k09_schemas).prog [37]) (H := K09.hk) (ob := K09.ob) (M := 8000) (loose := K09.loose) (d := HandSHeadRun.topDef (OpenLaw.row PySem.Challenge.rw_endlessasks_k09_schemas).prog 37) (kwd := []) K09.ob_eq
    (by kernel_rfl) (fun s => by kernel_rfl) K09.run (by kernel_rfl) (by kernel_rfl) (by kernel_rfl) (by rfl) (by first | assumption | decide +kernel) (by decide +kernel) ⟨rfl, rfl, rfl, rfl, rfl, by decide +kernel⟩ ?hw ?hc
  case hw => w_witness2
  case hc =>
    refine L2.walk_ofE (l := PySem.Challenge.rw_endlessasks_k09_schemas) (n := 63) (k := 11) (x := "_law_script") (CX := L2.CX0) rfl (by decide) (by kernel_rfl) ⟨rfl, by decide, by decide⟩ ?F (fun _ _ _ _ z => z)
    intro w mg fa h Y G hmg0
    obtain ⟨K, KX, c⟩ := Y
    have hmg : mg ("law" : PySem.Str) = some (.ref fa) := by
      have e : (HandSHeadRun.topDef (OpenLaw.row PySem.Challenge.rw_endlessasks_k09_schemas).prog 37).name = ("law" : PySem.Str) := by kernel_rfl
      rw [← e]
      exact hmg0
    obtain ⟨fd, hb, hF⟩ := K09.facts (P := (PySem.Challenge.rw_endlessasks_k09_schemas).prog) (w := w) ⟨by kernel_rfl, by kernel_rfl⟩ (K09.txt_of KX G c) hmg
    exact ⟨K, fd, K09.spLaw K, KX, hb, fun H a ns hl _ hS => ⟨a, ns, rfl, hS, hl, fun _ => rfl⟩, fun base _ _ => hF base⟩
