import PyProof.Rows.All
import Wide.All
import OpenK.AllK
import Wide.FinOn
import KE.KStateDown
import HandS.ForMost
import HandS.ForExc
import HandS.More
import HandS.Wide
import HandS.IsInst
import HandS.ExcIs
import HandS.FStr
import HandS.Defaults
import HandS.TupAny
import HandS.TupLe
import HandS.Deep
import HandS.Flow
import HandS.Walk
import HandS.Head0
import HandS.Head1
import HandS.Head2
import HandS.HeadEnd
import HandS.HeadHook1
import HandS.HeadHook2
import PySem.Challenge.RW_endlessasks_k01_values
set_option Elab.async false
set_option linter.all false
set_option maxRecDepth 100000
namespace EL
/-- the greatest common divisor, as the loop leaves it -/
def cd (a b : Int) : Int := ((Nat.gcd a.natAbs b.natAbs : Nat) : Int)
def nrm (t b : Int) : Int × Int := if b < 0 then ((-t) / cd (-t) (-b), (-b) / cd (-t) (-b)) else (t / cd t b, b / cd t b)
theorem cd_pos {a b : Int} (h : b ≠ 0) : 0 < cd a b := by
  unfold cd
  have := Nat.gcd_pos_of_pos_right a.natAbs (n := b.natAbs) (by omega)
  omega
theorem cd_dvd_l (a b : Int) : cd a b ∣ a := by
  unfold cd
  exact Int.ofNat_dvd_left.mpr (Nat.gcd_dvd_left _ _)
theorem cd_dvd_r (a b : Int) : cd a b ∣ b := by
  unfold cd
  exact Int.ofNat_dvd_left.mpr (Nat.gcd_dvd_right _ _)
theorem cd_neg_l (a b : Int) : cd (-a) b = cd a b := by unfold cd; rw [Int.natAbs_neg]
theorem cd_neg_r (a b : Int) : cd a (-b) = cd a b := by unfold cd; rw [Int.natAbs_neg]
/-- a value in lowest terms -/
def Low (a b : Int) : Prop := 0 < b ∧ cd a b = 1
theorem cd_div {a b : Int} (hb : b ≠ 0) : cd (a / cd a b) (b / cd a b) = 1 := by
  have hp := cd_pos (a := a) hb
  have e : ∀ x : Int, cd a b ∣ x → (x / cd a b).natAbs = x.natAbs / Nat.gcd a.natAbs b.natAbs := fun x hx => by
    rw [Int.natAbs_ediv_of_dvd hx]
    rfl
  show ((Nat.gcd (a / cd a b).natAbs (b / cd a b).natAbs : Nat) : Int) = 1
  rw [e a (cd_dvd_l a b), e b (cd_dvd_r a b), Nat.gcd_div (Nat.gcd_dvd_left _ _) (Nat.gcd_dvd_right _ _), Nat.div_self (Nat.gcd_pos_of_pos_right _ (by omega))]
  rfl
theorem nrm_low {t b : Int} (hb : b ≠ 0) : Low (nrm t b).1 (nrm t b).2 := by
  unfold nrm
  by_cases h : b < 0
  · rw [if_pos h]
    have hp := cd_pos (a := -t) (b := -b) (by omega)
    refine ⟨?_, cd_div (by omega)⟩
    exact Int.ediv_pos_of_pos_of_dvd (by omega) (Int.le_of_lt hp) (cd_dvd_r _ _)
  · rw [if_neg h]
    have hp := cd_pos (a := t) (b := b) hb
    refine ⟨?_, cd_div hb⟩
    exact Int.ediv_pos_of_pos_of_dvd (by omega) (Int.le_of_lt hp) (cd_dvd_r _ _)
theorem nrm_eq {t b : Int} (hb : b ≠ 0) : (nrm t b).1 * b = t * (nrm t b).2 := by
  unfold nrm
  by_cases h : b < 0
  · rw [if_pos h]
    have hp := cd_pos (a := -t) (b := -b) (by omega)
    obtain ⟨u, hu⟩ := cd_dvd_l (-t) (-b)
    obtain ⟨v, hv⟩ := cd_dvd_r (-t) (-b)
    generalize cd (-t) (-b) = g at *
    have e1 : -t / g = u := by rw [hu, Int.mul_ediv_cancel_left _ (by omega)]
    have e2 : -b / g = v := by rw [hv, Int.mul_ediv_cancel_left _ (by omega)]
    show -t / g * b = t * (-b / g)
    rw [e1, e2]
    have ht : t = -(g * u) := by omega
    have hb' : b = -(g * v) := by omega
    rw [ht, hb', Int.mul_neg, Int.neg_mul, Int.mul_left_comm, Int.mul_comm g u, Int.mul_assoc, Int.mul_left_comm u g v]
  · rw [if_neg h]
    have hp := cd_pos (a := t) (b := b) hb
    obtain ⟨u, hu⟩ := cd_dvd_l t b
    obtain ⟨v, hv⟩ := cd_dvd_r t b
    generalize cd t b = g at *
    have e1 : t / g = u := by rw [hu, Int.mul_ediv_cancel_left _ (by omega)]
    have e2 : b / g = v := by rw [hv, Int.mul_ediv_cancel_left _ (by omega)]
    show t / g * b = t * (b / g)
    rw [e1, e2, hu, hv, Int.mul_left_comm, Int.mul_assoc]
/-- two values in lowest terms that stand for one fraction are one -/
theorem low_unique {a b c d : Int} (h1 : Low a b) (h2 : Low c d) (h : a * d = c * b) : a = c ∧ b = d := by
  obtain ⟨hb, g1⟩ := h1
  obtain ⟨hd, g2⟩ := h2
  have c1 : Nat.gcd a.natAbs b.natAbs = 1 := by unfold cd at g1; omega
  have c2 : Nat.gcd c.natAbs d.natAbs = 1 := by unfold cd at g2; omega
  have hn : a.natAbs * d.natAbs = c.natAbs * b.natAbs := by rw [← Int.natAbs_mul, ← Int.natAbs_mul, h]
  have d1 : b.natAbs ∣ d.natAbs := by
    have : b.natAbs ∣ a.natAbs * d.natAbs := by rw [hn]; exact Nat.dvd_mul_left _ _
    exact (Nat.Coprime.symm (show Nat.Coprime a.natAbs b.natAbs from c1)).dvd_of_dvd_mul_left this
  have d2 : d.natAbs ∣ b.natAbs := by
    have : d.natAbs ∣ c.natAbs * b.natAbs := by rw [← hn]; exact Nat.dvd_mul_left _ _
    exact (Nat.Coprime.symm (show Nat.Coprime c.natAbs d.natAbs from c2)).dvd_of_dvd_mul_left this
  have e : b = d := by
    have := Nat.dvd_antisymm d1 d2
    omega
  subst e
  exact ⟨Int.eq_of_mul_eq_mul_right (by omega) h, rfl⟩
theorem nrm_scale {t b f : Int} (hb : b ≠ 0) (hf : f ≠ 0) : nrm (t * f) (b * f) = nrm t b := by
  have hbf : b * f ≠ 0 := Int.mul_ne_zero hb hf
  have l1 := nrm_low (t := t * f) hbf
  have l2 := nrm_low (t := t) hb
  have e1 := nrm_eq (t := t * f) hbf
  have e2 := nrm_eq (t := t) hb
  have u := low_unique l1 l2 (by
    generalize (nrm (t * f) (b * f)).1 = p at *
    generalize (nrm (t * f) (b * f)).2 = q at *
    generalize (nrm t b).1 = r at *
    generalize (nrm t b).2 = s at *
    -- p * (b f) = (t f) q ; r b = t s ; want p s = r q
    have hbf2 : p * b = t * q := by
      refine Int.eq_of_mul_eq_mul_right hf ?_
      rw [Int.mul_assoc, e1, Int.mul_assoc, Int.mul_comm f q, Int.mul_assoc]
    refine Int.eq_of_mul_eq_mul_right hb ?_
    calc p * s * b = (p * b) * s := by rw [Int.mul_assoc, Int.mul_comm s b, Int.mul_assoc]
      _ = (t * q) * s := by rw [hbf2]
      _ = (t * s) * q := by rw [Int.mul_assoc, Int.mul_comm q s, Int.mul_assoc]
      _ = r * b * q := by rw [e2]
      _ = r * q * b := by rw [Int.mul_assoc, Int.mul_comm b q, Int.mul_assoc])
  exact Prod.ext u.1 u.2
theorem nrm_one (t : Int) : nrm t 1 = (t, 1) := by
  have e : cd t 1 = 1 := by unfold cd; simp
  unfold nrm
  rw [if_neg (by omega), e]
  simp
end EL
namespace EL
open PySem PySem.Spec PyProof.Rows L2 He
/-! ### a def by its name -/
structure Dn (P : Program) (w : World) (K : PySem.W.Frag) (mg : Str → Option Value) (base : Heap) (CX : CXT) (k : Nat) (x : Str) (sp : Sp) : Prop where
  g : mg x = some (.ref (ga K x))
  kp : PySem.W.keepIn K (.ref (ga K x)) = true
  r : FnR P w K mg base CX k (ga K x) sp
section
variable {X : Cx} {CX : CXT} {k : Nat} {f : Addr} {sp : Sp} {E : L2.St → XK} {x : Str} {p pos : Pos} {e : Expr} {es : List Expr} {t : TA}
theorem run_fnRS {pins : List (Addr × Obj)} {σ : L2.St} {H : Hp} {s : Shared} {Q : VK} {us : List Value} {vs : List V} (F : FnR X.prog X.w X.K X.mg X.base CX k f sp) (hr : Room k X.A) (hx : PassesAt CX X σ (E σ))
    (I : Inv X pins σ H s) (r : Vals vs us) (h : sp vs H Q (E σ)) : wpAny (model X.prog X.w) X.A (call (.ref f) us) (EP X pins σ Q) X.xe s := by
  refine wpAny_call (codeAny_mono (F X.A X.stack s H us vs Q (E σ) hr I.env0 r h) fun r s' hq => ?_)
  cases r with
  | error e => exact hx pins H s e s' I hq
  | ok fl =>
    cases fl with
    | ret u => exact I.after hq
    | next => exact False.elim hq
    | brk => exact False.elim hq
    | cont => exact False.elim hq
theorem pe_fn (F : FnR X.prog X.w X.K X.mg X.base CX k f sp) (hr : Room k X.A) (hg : Gl X x) (hm : X.mg x = some (.ref f)) (hk : PySem.W.keepIn X.K (.ref f) = true) (hx : ∀ σ, PassesAt CX X σ (E σ))
    (ha : PA X (e :: es) t) (hdb : (x == ("__debug__" : Str)) = false := by decide) (he : starEach (e :: es) X.env = (false, eval e X.env) :: starEach es X.env := by rfl) (hpl : (backTo pos (starEach es X.env)).any (·.1) = false := by rfl) :
    PE X (.Call (.Name x p) (e :: es) [] pos) (tCallS sp E t) := by
  refine ⟨fun pins s σ H Q I h => ?_⟩
  refine wpAny_Call_Name_kw (ld_glob I hg hm ?_ hdb)
  refine PySem.W.callWith_K (h₀ := X.base) I.ok.mod.kin hk (thn (ha.run pos pins s σ H _ I h) fun us s1 ⟨vs, H1, I1, r, q⟩ => ⟨I1.kIn, ?_⟩) he hpl
  exact run_fnRS F hr (hx σ) I1 r q
/-- a call of a def that lets nothing out -/
theorem cl (D : Dn X.prog X.w X.K X.mg X.base CX0 k x sp) (hr : Room k X.A) (ha : PA X (e :: es) t) (hg : Gl X x := by rfl)
    (hdb : (x == ("__debug__" : Str)) = false := by decide) (he : starEach (e :: es) X.env = (false, eval e X.env) :: starEach es X.env := by rfl) (hpl : (backTo pos (starEach es X.env)).any (·.1) = false := by rfl) :
    PE X (.Call (.Name x p) (e :: es) [] pos) (tCallS sp (fun _ => E0) t) := pe_fn D.r hr hg D.g D.kp (fun _ _ _ _ _ _ _ h => h.elim) ha hdb he hpl
/-- a call of a def that may raise, where it raises nothing -/
theorem cl0 (D : Dn X.prog X.w X.K X.mg X.base (L2.CX X.prog X.w) k x sp) (hr : Room k X.A) (ha : PA X (e :: es) t) (hg : Gl X x := by rfl)
    (hdb : (x == ("__debug__" : Str)) = false := by decide) (he : starEach (e :: es) X.env = (false, eval e X.env) :: starEach es X.env := by rfl) (hpl : (backTo pos (starEach es X.env)).any (·.1) = false := by rfl) :
    PE X (.Call (.Name x p) (e :: es) [] pos) (tCallS sp (fun _ => E0) t) := pe_fn D.r hr hg D.g D.kp (fun σ pins H s e s' I h => passL pins σ H s e s' I h) ha hdb he hpl
/-- a call of a def that may raise -/
theorem clx {W : WX} (tk : Takes X W) (D : Dn X.prog X.w X.K X.mg X.base (L2.CX X.prog X.w) k x sp) (hr : Room k X.A) (ha : PA X (e :: es) t) (hg : Gl X x := by rfl)
    (hdb : (x == ("__debug__" : Str)) = false := by decide) (he : starEach (e :: es) X.env = (false, eval e X.env) :: starEach es X.env := by rfl) (hpl : (backTo pos (starEach es X.env)).any (·.1) = false := by rfl) :
    PE X (.Call (.Name x p) (e :: es) [] pos) (tCallS sp (WE W) t) := pe_fn D.r hr hg D.g D.kp (fun σ => passAt tk σ) ha hdb he hpl
/-- a module's name that holds a plain value -/
theorem pe_gv {v : V} {pos : Pos} (h : ∃ u, X.mg x = some u ∧ RelV v u) (hg : Gl X x := by rfl) (hd : (x == ("__debug__" : Str)) = false := by decide) : PE X (.Name x pos) (tC v) := by
  obtain ⟨u, h1, h2⟩ := h
  exact pe_glob hg h1 h2 hd
end
/-! ### own errors without an __init__ -/
structure XC (K : PySem.W.Frag) (mg : Str → Option Value) (x : Str) : Prop where
  g : mg x = some (.ref (ga K x))
  q : PySem.W.excIn K (ga K x) veBase "ValueError.__new__" = true
  k : PySem.W.keepIn K (.ref (ga K x)) = true
  b : PySem.W.subIn K (.ref (ga K x)) (.type "BaseException") = some true
  t : PySem.W.typeIn K (.ref (ga K x)) = some (.type "type")
/-- raise C('..') -/
theorem rs {X : Cx} {W : WX} {c m : Str} {j : Nat} {p p2 pos pos2 : Pos} (hc : X.calm = true) (tk : Takes X W) (x : XC X.K X.mg c) (hg : Gl X c) (hdb : (c == ("__debug__" : Str)) = false := by decide) :
    PS X (.Raise (some (.Call (.Name c p) [.Constant (.str m) j p2] [] pos)) none pos2) (fun _ σ H => W (.ref (ga X.K c)) none σ H) :=
  ps_raise hc tk (pmk_own PySem.F.excBase_ValueError x.q x.g x.k (raises_own x.b x.t) hg hdb)
/-! ### heaps -/
theorem same_upd {H : Hp} {p : Addr} {o : HO} (h : H p = none) : Same H (upd H p o) := fun b x e => by
  rw [upd_ne (ne_of_none e h)]
  exact e
theorem Same.seqT {K : PySem.W.Frag} {H H' : Hp} {a : Addr} {xs : List V} (e : Same H H') (h : SqT K H a xs) : SqT K H' a xs := by
  rcases h with (h | ⟨o, h⟩) | h
  · exact .inl (.inl (e _ _ h))
  · exact .inl (.inr ⟨o, e _ _ h⟩)
  · exact .inr h
/-- a new object: the heap behind is a letter -/
theorem newO {H : Hp} {o : HO} {Q : Addr → Hp → Prop} (h : ∀ p H', H p = none → Same H H' → H' p = some o → Q p H') : ∀ p, H p = none → Q p (upd H p o) := fun p hp => h p _ hp (same_upd hp) upd_same
theorem newV {H : Hp} {o : HO} {Q : V → Hp → Prop} (h : ∀ p H', H p = none → Same H H' → H' p = some o → Q (.ref p) H') : ∀ p, H p = none → Q (.ref p) (upd H p o) := fun p hp => h p _ hp (same_upd hp) upd_same
theorem ie {b : Bool} {A B : Prop} (h1 : b = true → A) (h2 : b = false → B) : if b = true then A else B := by
  cases b with
  | true => rw [if_pos rfl]; exact h1 rfl
  | false => rw [if_neg Bool.false_ne_true]; exact h2 rfl
theorem if_pos_of {b : Bool} {A B : Prop} (h : b = true) (a : A) : if b = true then A else B := by rw [if_pos h]; exact a
theorem if_neg_of {b : Bool} {A B : Prop} (h : b = false) (a : B) : if b = true then A else B := by rw [h, if_neg Bool.false_ne_true]; exact a
theorem small40 {n : Nat} (h : n ≤ 100000) : n ≤ sizeLine := Nat.le_trans h (by decide)
end EL
namespace EL
open PySem PySem.Spec PyProof.Rows L2 He
/-! ### the head: facts, defs and one more Bool -/
theorem xc_of {K : PySem.W.Frag} {mg : Str → Option Value} {x : Str} (g : mg x = some (.ref (ga K x))) (h : PySem.W.excIn K (ga K x) veBase "ValueError.__new__" = true ∧ PySem.W.keepIn K (.ref (ga K x)) = true ∧ PySem.W.subIn K (.ref (ga K x)) (.type "BaseException") = some true ∧
    PySem.W.typeIn K (.ref (ga K x)) = some (.type "type")) : XC K mg x := ⟨g, h.1, h.2.1, h.2.2.1, h.2.2.2⟩
theorem gv_int {mg : Str → Option Value} {x : Str} {i : Int} (h : ∃ t, mg x = some (.int i t)) : ∃ u, mg x = some u ∧ RelV (.int i) u := by
  obtain ⟨t, e⟩ := h
  exact ⟨_, e, t, rfl⟩
theorem gv_str {mg : Str → Option Value} {x z : Str} (h : ∃ t, mg x = some (.str z t)) : ∃ u, mg x = some u ∧ RelV (.str z) u := by
  obtain ⟨t, e⟩ := h
  exact ⟨_, e, t, rfl⟩
abbrev AlM : Type := AlD × Bool
def obsM (fa : List Fa) (fn : List DefD) (ex : PySem.W.Frag → Bool) (K : PySem.W.Frag) : AlM := (obsD fa fn K, ex K)
def obsMG (n : Nat) (fa : List Fa) (fn : List DefD) (ex : PySem.W.Frag → Bool) (g : Addr → Option Obj) : AlM := obsM fa fn ex (frG g (asD g n))
def valM (fn : List DefD) : AlM := (valD fn, true)
def hookM (n : Nat) (fa : List Fa) (fn : List DefD) (ex : PySem.W.Frag → Bool) : PySem.W.Hook where
  α := AlM
  obs := fun s => obsMG n fa fn ex s.heap.get?
  val := fun _ => valM fn
  says := fun _ h => ∃ K : PySem.W.Frag, K.In h ∧ SaysD fa fn K ∧ ex K = true
  of := fun _ _ e => ⟨_, frG_in, congrArg (fun z : AlM => z.1) e, congrArg (fun z : AlM => z.2) e⟩
  keeps := fun _ _ _ ⟨K, hK, c⟩ k => ⟨K, PySem.W.Frag.In.keeps hK k, c⟩
theorem obsMG_eq {n : Nat} {fa : List Fa} {fn : List DefD} {ex : PySem.W.Frag → Bool} {g : Addr → Option Obj} {s : Shared} (h : ∀ a, g a = s.heap.get? a) : obsMG n fa fn ex g = (hookM n fa fn ex).obs s := by
  have e : g = s.heap.get? := funext h
  rw [e] <;> rfl
end EL
namespace EL
open PySem PySem.Spec PyProof.Rows L2 He
/-! ### from a def's body to its Dn -/
section
variable {P : Program} {w : World} {K : PySem.W.Frag} {mg : Str → Option Value} {base : Heap} {CX : CXT} {k : Nat} {x : Str} {sp : Sp} {params : Arguments} {body : List Stmt} {scope : Scope} {dvs : List V} {fd : FuncData} {ps N : List Str}
theorem dnN (g : mg x = some (.ref (ga K x))) (F : FunD K x x params body scope [] [] (ga K x) fd)
    (hb : ∀ (kV doc pm : Value) (an : Option Addr) (cdv ct : Value) (us : List Value), us.length = ps.length → bindArgs (PySem.W.fnOf x x params body scope .none kV doc pm an cdv ct) ⟨us, []⟩ = pure (ps.zip us))
    (S : FnScope N ps scope) (len : ∀ vs H Q E, sp vs H Q E → vs.length = ps.length)
    (hbody : ∀ (cdv : Value) (A : Around) (outer : List Env) (s : Shared) (H : Hp) (vs : List V) (Q : VK) (E : XK), Room k (A.deeper (envOfC x scope s.heap.objs.size (ga K x) cdv)) → sp vs H Q E →
      ∃ t, PSs (cxOf CX P w K mg base N x scope (ga K x) cdv A outer s H E) body t ∧ t { nx := fun _ H' => Q .non H', rt := Q } (start N vs) H) : Dn P w K mg base CX (k + 1) x sp :=
  ⟨g, F.kp, ((F.ok S len hbody).raw (F.bindsN hb) .nil).imp fun vs H Q E h => by rw [List.append_nil]; exact h⟩
theorem Dn.mono {j : Nat} (D : Dn P w K mg base CX j x sp) (h : j ≤ k) : Dn P w K mg base CX k x sp := ⟨D.g, D.kp, D.r.mono h⟩
end
/-! ### data -/
inductive Kd where
  | non | bl | int | str | lst | tup | dct
  deriving DecidableEq
def kdN : Kd → String
  | .non => "NoneType"
  | .bl => "bool"
  | .int => "int"
  | .str => "str"
  | .lst => "list"
  | .tup => "tuple"
  | .dct => "dict"
def kd : PyData → Kd
  | .none => .non
  | .bool _ => .bl
  | .int _ => .int
  | .str _ => .str
  | .list _ => .lst
  | .tuple _ => .tup
  | .dict _ => .dct
def tyn (d : PyData) : String := kdN (kd d)
theorem SqL.ty {K : PySem.W.Frag} {H : Hp} {a : Addr} {xs : List V} (h : SqL K H a xs) : TyX K H (.ref a) (.type "list") := by
  rcases h with (h | ⟨o, h⟩) | ⟨o, its, n, h1, h2, _⟩
  · exact .base (.lst h)
  · exact .base (.frz h)
  · exact .kList h1 h2
theorem SqT.ty {K : PySem.W.Frag} {H : Hp} {a : Addr} {xs : List V} (h : SqT K H a xs) : TyX K H (.ref a) (.type "tuple") := by
  rcases h with (h | ⟨o, h⟩) | ⟨o, its, n, h1, h2, _⟩
  · exact .base (.tup h)
  · exact .fTuple h
  · exact .kTuple h1 h2
theorem Dp.ty {K : PySem.W.Frag} {H : Hp} {v : V} {d : PyData} (h : Dp K H v d) : TyX K H v (.type (tyn d)) := by
  cases h with
  | non => exact .base .non
  | bl b => exact .base (.bl b)
  | int i => exact .base (.int i)
  | str x => exact .base (.str x)
  | lst h _ => exact SqL.ty h
  | tup h _ => exact SqT.ty h
mutual
theorem Dp.same {K : PySem.W.Frag} {H H' : Hp} (s : Same H H') : ∀ {d : PyData} {v : V}, Dp K H v d → Dp K H' v d
  | _, _, .non => .non
  | _, _, .bl b => .bl b
  | _, _, .int i => .int i
  | _, _, .str x => .str x
  | _, _, .lst h a => .lst (s.seq h) (DpAll.same s a)
  | _, _, .tup h a => .tup (Same.seqT s h) (DpAll.same s a)
theorem DpAll.same {K : PySem.W.Frag} {H H' : Hp} (s : Same H H') : ∀ {ds : List PyData} {vs : List V}, DpAll K H vs ds → DpAll K H' vs ds
  | _, _, .nil => .nil
  | _, _, .cons a b => .cons (Dp.same s a) (DpAll.same s b)
end
theorem DpAll.length {K : PySem.W.Frag} {H : Hp} : ∀ {ds : List PyData} {vs : List V}, DpAll K H vs ds → vs.length = ds.length
  | _, _, .nil => rfl
  | _, _, .cons _ b => congrArg Nat.succ (DpAll.length b)
/-- isinstance's answers of data -/
def kIs (T k : Kd) : Bool := decide (k = T) || (decide (T = .int) && decide (k = .bl))
def isTy (T : Kd) (d : PyData) : Bool := kIs T (kd d)
theorem kit_k : ∀ T k : Kd, kitB (kdN k) (kdN T) = some (kIs T k) := by
  intro T k
  cases T <;> cases k <;> decide +kernel
theorem kit_d (K : PySem.W.Frag) (T : Kd) (d : PyData) : PySem.W.kitOne K (.type (tyn d)) (.type (kdN T)) = some (isTy T d) := kit_ty (kit_k T (kd d))
/-- a thing: data, or some object that is none of the five -/
inductive Th where
  | d (d : PyData)
  | o
def ThOk (K : PySem.W.Frag) (H : Hp) (v : V) : Th → Prop
  | .d d => Dp K H v d
  | .o => ∃ t, TyX K H v t ∧ ∀ T : Kd, PySem.W.kitOne K t (.type (kdN T)) = some false
def Th.is (T : Kd) : Th → Bool
  | Th.d x => isTy T x
  | Th.o => false
/-- its type and isinstance's answers -/
theorem ThOk.ty {K : PySem.W.Frag} {H : Hp} {v : V} {th : Th} (h : ThOk K H v th) : ∃ t, TyX K H v t ∧ ∀ T : Kd, PySem.W.kitOne K t (.type (kdN T)) = some (th.is T) := by
  cases th with
  | d d => exact ⟨_, Dp.ty h, fun T => kit_d K T d⟩
  | o => exact h
def isWholeT (th : Th) : Bool := th.is .int && !th.is .bl
def isWholeD : PyData → Bool
  | .int _ => true
  | _ => false
theorem isWholeT_d (d : PyData) : isWholeT (.d d) = isWholeD d := by cases d <;> rfl
def isValD : PyData → Bool
  | .tuple [.int a, .int b] => !decide (b < 1) && decide (cd a b = 1)
  | _ => false
def isValT : Th → Bool
  | Th.d x => isValD x
  | Th.o => false
end EL
namespace EL
open PySem PySem.Spec PyProof.Rows L2 He TL
/-! ### keywords alone -/
section
variable {K : PySem.W.Frag} {x qual : Str} {params : Arguments} {body : List Stmt} {scope : Scope} {dvs : List V} {kws : List (Str × V)} {f : Addr} {fd : FuncData} {ps : List Str}
theorem kbinds1 (F : FunD K x qual params body scope dvs kws f fd) (n : Nat) (ks : List Str) (g : {α : Type} → List α → List α → List α → List α) (hd : dvs ≠ [])
    (hrel : ∀ {vs ds zs : List V} {us its ws : List Value}, Vals vs us → Vals ds its → Vals zs ws → Vals (g vs ds zs) (g us its ws))
    (h : ∀ (T : Addr) (kV doc pm : Value) (an : Option Addr) (cdv ct : Value) (us its ws : List Value), us.length = n → its.length = dvs.length → ws.length = ks.length →
      ∃ k, bindArgs (PySem.W.fnOf x qual params body scope (.ref T) kV doc pm an cdv ct) ⟨us, ks.zip ws⟩ = seqItems? (.ref T) >>= k ∧ k (some its.toArray) = pure (ps.zip (g us its ws))) :
    ∃ its : List Value, KBn K fd ps n ks (fun us ws => g us its ws) (fun vs zs => g vs dvs zs) := by
  obtain ⟨oc, od, dV, kV, doc, pm, an, cdv, ct, osl, rfl, lk, hcd, hD, hK⟩ := F.ex
  rcases hD with ⟨e, _⟩ | ⟨_, T, o, its, m, rfl, lT, oT, rT⟩
  · exact absurd e hd
  · refine ⟨its, ⟨fun s us ws X h1 h2 => ?_, fun r rz => hrel r rT rz⟩⟩
    obtain ⟨k, e1, e2⟩ := h T kV doc pm an cdv ct us its ws h1 rT.length.symm h2
    refine BindsTo.of_looks fun M => ?_
    rw [e1]
    exact looks_items X lT oT (.of_pure e2)
end
section
variable {X : Cx} {CX : CXT} {k : Nat} {f : Addr} {fd : FuncData} {ps ks : List Str} {sp : Sp} {E : XK} {x : Str} {p pos : Pos} {kws : List Keyword} {tk : TA} {g : List Value → List Value → List Value} {gV : List V → List V → List V}
/-- f(k = v, ..) -/
theorem pe_callN0 (F : FnOk X.prog X.w X.K X.mg X.base CX k f fd ps sp) (hr : Room k X.A) (hg : Gl X x) (hm : X.mg x = some (.ref f)) (hk : PySem.W.keepIn X.K (.ref f) = true) (hb : KBn X.K fd ps 0 ks g gV) (hx : Passes CX X E)
    (hkw : PK X kws tk) (hall : (backToKw pos (keywordEach kws X.env)).all (·.1.isSome) = true := by rfl) (hks : (backToKw pos (keywordEach kws X.env)).filterMap (·.1) = ks := by rfl)
    (hdb : (x == ("__debug__" : Str)) = false := by decide) (hpl : ((backTo pos (starEach [] X.env)).any (·.1) || (backToKw pos (keywordEach kws X.env)).any (·.1.isNone)) = false := by rfl) :
    PE X (.Call (.Name x p) [] kws pos) (tCallN 0 ks.length sp gV E tNil tk) := by
  refine ⟨fun pins s σ H Q I h => ?_⟩
  refine wpAny_Call_Name_kw (ld_glob I hg hm ?_ hdb)
  refine PySem.W.callWith_KW0 (h₀ := X.base) I.ok.mod.kin hk hall ?_ hpl
  refine thn (hkw.run pos pins s σ H _ I h) fun ws s2 ⟨zs, H2, I2, rz, l1, l2, q2⟩ => ⟨I2.kIn, ?_⟩
  rw [hks]
  exact run_fnN (us := []) (vs := []) F hr hb hx I2 .nil rz rfl l2 q2
end
/-! ### texts of numbers -/
theorem str_nil (x : Str) : Str.empty ++ x = x := ext_tl (by rw [tl_append]; rfl)
theorem natDigits_len {n k : Nat} (hk : 0 < k) (h : n < 10 ^ k) : (numL n).length ≤ k := numL_len hk h
/-- the signs of an int -/
def intL (a : Int) : List Nat := if a < 0 then 45 :: numL a.natAbs else numL a.natAbs
theorem tl_int (a : Int) : tl (Str.ofString (toString a)) = intL a := by
  cases a with
  | ofNat n => exact tl_num n
  | negSucc n =>
    unfold intL
    rw [if_pos (by omega), tl_ofString]
    show ("-" ++ Nat.repr (n + 1)).toList.map Char.toNat = 45 :: numL (n + 1)
    rw [String.toList_append, List.map_append, Nat.toList_repr]
    rfl
theorem numL_len1000 {n : Nat} (h : n < 2 ^ 1000) : (numL n).length ≤ 1000 := numL_len (by decide) (Nat.lt_of_lt_of_le h (Nat.pow_le_pow_left (by decide) _))
theorem len_int {a : Int} (h : a.natAbs < 2 ^ 1000) : (Str.ofString (toString a)).length ≤ 1001 := by
  rw [len_tl, tl_int]
  have := numL_len1000 h
  unfold intL
  split
  · rw [List.length_cons]
    omega
  · omega
/-- what a text of digits is worth -/
def isDig (c : Nat) : Bool := decide (48 ≤ c) && decide (c ≤ 57)
def rdD (cs : List Nat) : Option Nat := if (1 ≤ cs.length ∧ cs.length ≤ 40) ∧ cs.all isDig = true ∧ ¬ (1 < cs.length ∧ cs.head? = some 48) then some (NumText.digitsVal cs) else none
def optV : Option Nat → V
  | none => .non
  | some n => .int n
/-- a text as value reads it -/
def rdP (cs : List Nat) : List Nat × Option (List Nat) := match par [47] [] cs with
  | none => (cs, none)
  | some (a, b) => (a, some b)
def rdB : Option (List Nat) → Option Nat
  | none => some 1
  | some u => match rdD u with
    | some b => if 2 ≤ b then some b else none
    | none => none
def rdF (below : Bool) : Option Nat → Option Nat → Option (Int × Int)
  | some b, some t => if (below && decide (t = 0)) || decide (Nat.gcd t b ≠ 1) then none else some (if below then -(t : Int) else (t : Int), (b : Int))
  | _, _ => none
def rdV (cs : List Nat) : Option (Int × Int) :=
  rdF (decide (cs.take 1 = [45])) (rdB (rdP (if decide (cs.take 1 = [45]) = true then cs.drop 1 else cs)).2) (rdD (rdP (if decide (cs.take 1 = [45]) = true then cs.drop 1 else cs)).1)
theorem par_split {s : Nat} : ∀ (cs acc a b : List Nat), par [s] acc cs = some (a, b) → acc ++ cs = a ++ s :: b
  | [], acc, a, b, h => by simp [par] at h
  | c :: r, acc, a, b, h => by
    by_cases e : c = s
    · subst e
      rw [par_hit (by simp [pre])] at h
      injection h with h
      injection h with h1 h2
      rw [← h1, ← h2]
      rfl
    · rw [par_miss (pre_of_head [] r e)] at h
      have := par_split r (acc ++ [c]) a b h
      rw [← this]
      simp
end EL
namespace EL
open PySem PySem.Spec PyProof.Rows L2 He TL
theorem tl_cut_to (z : Str) (k : Nat) : tl (cutS z none (some (k : Int))) = (tl z).take k := by
  show ((tl z).drop (HT.sIx z.length 0 none)).take (HT.sIx z.length z.length (some (k : Int)) - HT.sIx z.length 0 none) = (tl z).take k
  rw [HT.sIx_none, HT.sIx_nat, List.drop_zero, Nat.sub_zero, len_tl]
  by_cases h : k ≤ (tl z).length
  · rw [Nat.min_eq_left h]
  · rw [Nat.min_eq_right (by omega), List.take_length, List.take_of_length_le (by omega)]
theorem tl_cut_from (z : Str) (k : Nat) : tl (cutS z (some (k : Int)) none) = (tl z).drop k := by
  show ((tl z).drop (HT.sIx z.length 0 (some (k : Int)))).take (HT.sIx z.length z.length none - HT.sIx z.length 0 (some (k : Int))) = (tl z).drop k
  rw [HT.sIx_none, HT.sIx_nat, len_tl]
  by_cases h : k ≤ (tl z).length
  · rw [Nat.min_eq_left h, List.take_of_length_le (by rw [List.length_drop]; omega)]
  · rw [Nat.min_eq_right (by omega), List.drop_length, List.drop_of_length_le (by omega), List.take_nil]
theorem tl_digits : tl ("0123456789" : Str) = [48, 49, 50, 51, 52, 53, 54, 55, 56, 57] := by decide +kernel
theorem mem_digits (c : Nat) : decide (c ∈ tl ("0123456789" : Str)) = isDig c := by
  rw [tl_digits]
  unfold isDig
  rw [← Bool.decide_and]
  refine decide_eq_decide.mpr ?_
  simp only [List.mem_cons, List.not_mem_nil, or_false]
  omega
theorem str_one {c : Nat} {y : Str} {d : Nat} (hy : tl y = [d]) : decide (V.str ⟨#[c]⟩ = V.str y) = decide (c = d) := by
  refine decide_eq_decide.mpr ⟨fun e => ?_, fun e => ?_⟩
  · have e1 : (⟨#[c]⟩ : Str) = y := by injection e
    rw [← e1] at hy
    have h2 : [c] = [d] := hy
    injection h2
  · have e1 : (⟨#[c]⟩ : Str) = y := ext_tl (by rw [hy, e])
    rw [e1]
theorem allDigits_of {cs : List Nat} (h : cs.all isDig = true) : NumText.AllDigits cs := fun c hc => by
  have := List.all_eq_true.mp h c hc
  unfold isDig at this
  rw [Bool.and_eq_true, decide_eq_true_eq, decide_eq_true_eq] at this
  exact this
theorem str_eq_tl {x y : Str} : decide (V.str x = V.str y) = decide (tl x = tl y) := decide_eq_decide.mpr ⟨fun e => by injection e with e; rw [e], fun e => by rw [ext_tl e]⟩
/-- a statement, then the rest, with a word between them -/
def tMid (t u : TS) : TS := fun D σ H => ∃ Mid : L2.St → Hp → Prop, t { D with nx := Mid } σ H ∧ ∀ σ' H', Mid σ' H' → u D σ' H'
theorem pss_mid {X : Cx} {st : Stmt} {rest : List Stmt} {t u : TS} (h1 : PS X st t) (h2 : PSs X rest u) : PSs X (st :: rest) (tMid t u) := by
  refine ⟨fun pins s σ H D I h => ?_⟩
  obtain ⟨Mid, hm, hu⟩ := h
  refine wpAny_execs_cons (thn (h1.run pins s σ H { D with nx := Mid } I hm) fun f s1 q => ?_)
  cases f with
  | next =>
    obtain ⟨σ', H', I', q⟩ := q
    exact h2.run pins s1 σ' H' D I' (hu σ' H' q)
  | ret v => exact q
  | brk => exact q
  | cont => exact q
end EL
namespace EL
open PySem PySem.Spec PyProof.Rows L2 He TL
/-! ### more facts of K, as Bools -/
theorem exG {l : List Bool} {b : Bool} (m : l.all id = true) (i : Nat) (h : l[i]? = some b) : b = true := List.all_eq_true.mp m b (List.mem_of_getElem? h)
def excCB (K : PySem.W.Frag) (D : Addr) : Bool := eqO (PySem.W.findIn K (.ref D) "__getattribute__") (some (some (.builtin "BaseException.__getattribute__"))) && (eqO (PySem.W.findIn K (.ref D) "__getattr__") (some none) &&
  (decide (PySem.W.subIn K (.ref D) (.type "BaseException") = some true) && (PySem.W.hasDictIn K D && (eqO (PySem.W.findIn K (.ref D) "__class__") (some (some (.builtin "object.__class__"))) &&
  (eqO (PySem.W.specialIn K (.builtin "object.__class__") "__get__") (some (some (.builtin "getset_descriptor.__get__"))) && (decide (PySem.W.takesIn K (.builtin "object.__class__") = some true) && decide (PySem.W.mroIn K D (.type "object") = some true)))))))
theorem excCB_ok {K : PySem.W.Frag} {D : Addr} (h : excCB K D = true) : ExcC K D := by
  obtain ⟨h1, h⟩ := ba h
  obtain ⟨h2, h⟩ := ba h
  obtain ⟨h3, h⟩ := ba h
  obtain ⟨h4, h⟩ := ba h
  obtain ⟨h5, h⟩ := ba h
  obtain ⟨h6, h⟩ := ba h
  obtain ⟨h7, h8⟩ := ba h
  exact ⟨eqO_ok h1, eqO_ok h2, of_decide_eq_true h3, h4, eqO_ok h5, eqO_ok h6, of_decide_eq_true h7, of_decide_eq_true h8⟩
/-- isinstance(e, c), e the exception of the class at D that the suite holds -/
theorem call_isX {X : Cx} {a : Addr} {oe : Obj} {pn : List (Addr × Obj)} {cls : Value} {d : Option Addr} (D : Addr) (C : ExcC X.K D) (hz : Zc cls d oe) (hf : ∃ vs, oe.data = .fields vs) :
    CallR (X.suite a ((a, oe) :: pn)) (.builtin "isinstance") (fun xs H Q => cls = .ref D ∧ d = none ∧ rIsE X.K D a xs H Q) := by
  intro pins s σ H xs us Q I r h
  obtain ⟨rfl, rfl, h⟩ := h
  exact call_isE C hz hf pins s σ H xs us Q I r h
/-! ### the law's source of draws -/
/-- the list [cells, place, digits, state] -/
def Src (H : Hp) (p l : Addr) : Prop := ∃ (ns : List Int) (i : Nat) (c r : Int), H p = some (.lst [.ref l, .int i, .int c, .int r]) ∧ H l = some (.lst (ns.map V.int)) ∧ 0 ≤ c ∧ 0 ≤ r ∧ r < 2147483647
/-- all but p is as it was -/
def But (p : Addr) (H H' : Hp) : Prop := ∀ b o, H b = some o → b ≠ p → H' b = some o
theorem But.refl (p : Addr) (H : Hp) : But p H H := fun _ _ h _ => h
theorem But.trans {p : Addr} {H H1 H2 : Hp} (a : But p H H1) (b : But p H1 H2) : But p H H2 := fun c o h n => b c o (a c o h n) n
theorem But.of {p : Addr} {H H' : Hp} (s : Same H H') : But p H H' := fun b o h _ => s b o h
theorem but_upd {p : Addr} {H : Hp} {o : HO} : But p H (upd H p o) := fun b x h n => by rw [upd_ne n]; exact h
theorem Src.same {H H' : Hp} {p l : Addr} (s : Same H H') (h : Src H p l) : Src H' p l := by
  obtain ⟨ns, i, c, r, h1, h2, h3⟩ := h
  exact ⟨ns, i, c, r, s _ _ h1, s _ _ h2, h3⟩
theorem Src.lst {H : Hp} {p l : Addr} (h : Src H p l) : ∃ xs, H p = some (.lst xs) := by
  obtain ⟨ns, i, c, r, h1, _⟩ := h
  exact ⟨_, h1⟩
theorem Src.lst2 {H : Hp} {p l : Addr} (h : Src H p l) : ∃ xs, H l = some (.lst xs) := by
  obtain ⟨ns, i, c, r, h1, h2, _⟩ := h
  exact ⟨_, h2⟩
theorem Src.ne {H : Hp} {p l : Addr} (h : Src H p l) : l ≠ p := fun e => by
  obtain ⟨ns, i, c, r, h1, h2, _⟩ := h
  subst e
  rw [h1] at h2
  injection h2 with h2
  injection h2 with h2
  cases ns with
  | nil => cases h2
  | cons x r => injection h2 with h2; cases h2
/-- another thing changes -/
theorem Src.but {H H' : Hp} {p l x : Addr} (s : But x H H') (h : Src H p l) (h1 : p ≠ x) (h2 : l ≠ x) : Src H' p l := by
  obtain ⟨ns, i, c, r, k1, k2, h3⟩ := h
  exact ⟨ns, i, c, r, s _ _ k1 h1, s _ _ k2 h2, h3⟩
theorem But.seqT {K : PySem.W.Frag} {p a : Addr} {H H' : Hp} {xs : List V} (s : But p H H') (hp : ∃ ys, H p = some (.lst ys)) (h : SqT K H a xs) : SqT K H' a xs := by
  obtain ⟨ys, hp⟩ := hp
  rcases h with (h | ⟨o, h⟩) | h
  · exact .inl (.inl (s _ _ h (ne_of h hp (by intro z; cases z))))
  · exact .inl (.inr ⟨o, s _ _ h (ne_of h hp (by intro z; cases z))⟩)
  · exact .inr h
end EL
namespace EL
open PySem PySem.Spec PyProof.Rows L2 He TL
/-! ### a written value is read back -/
def txtV (a b : Int) : Str := if b = 1 then (toString a : String) else ((toString a : String) : Str) ++ "/" ++ ((toString b : String) : Str)
theorem numL_head {n : Nat} (h : 1 ≤ n) : (numL n).head? ≠ some 48 := by
  induction n using Nat.strongRecOn with
  | _ n ih =>
    by_cases h10 : n < 10
    · rw [numL_lt h10]
      intro e
      have e2 : 48 + n = 48 := Option.some.inj e
      omega
    · rw [numL_step (by omega)]
      have hh := ih (n / 10) (by omega) (by omega)
      cases hc : numL (n / 10) with
      | nil => exact absurd hc (numL_ne _)
      | cons x r =>
        rw [hc] at hh
        exact hh
theorem rdD_num {n : Nat} (h : n < 10 ^ 40) : rdD (numL n) = some n := by
  unfold rdD
  have hl : (numL n).length ≤ 40 := numL_len (by decide) h
  have h1 : 1 ≤ (numL n).length := by
    cases hc : numL n with
    | nil => exact absurd hc (numL_ne _)
    | cons x r => simp
  rw [if_pos, numL_val]
  refine ⟨⟨h1, hl⟩, ?_, ?_⟩
  · refine List.all_eq_true.mpr fun c hc => ?_
    have := numL_digits n c hc
    unfold isDig
    rw [Bool.and_eq_true, decide_eq_true_eq, decide_eq_true_eq]
    exact this
  · rintro ⟨h2, h3⟩
    by_cases h0 : n < 10
    · rw [numL_lt h0] at h2
      exact absurd h2 (Nat.lt_irrefl 1)
    · exact numL_head (by omega) h3
theorem tl_txtV (a b : Int) : tl (txtV a b) = if b = 1 then intL a else intL a ++ 47 :: intL b := by
  unfold txtV
  by_cases h : b = 1
  · rw [if_pos h, if_pos h]
    exact tl_int a
  · rw [if_neg h, if_neg h, tl_append, tl_append, tl_int, tl_int, show tl ("/" : Str) = [47] by decide +kernel, List.append_assoc]
    rfl
theorem numL_first (n : Nat) : (numL n).take 1 ≠ [45] := fun e => by
  have : (45 : Nat) ∈ (numL n).take 1 := by rw [e]; simp
  exact numL_free (n := n) (s := 45) (.inl (by decide)) (List.mem_of_mem_take this)
theorem numL_app_first (n : Nat) (r : List Nat) : (numL n ++ r).take 1 ≠ [45] := fun e => by
  cases hc : numL n with
  | nil => exact absurd hc (numL_ne _)
  | cons x q =>
    rw [hc] at e
    have := numL_first n
    rw [hc] at this
    exact this e
theorem rdP_num (n : Nat) : rdP (numL n) = (numL n, none) := by
  unfold rdP
  rw [par_none1 (numL_free (.inl (by decide)))]
theorem rdP_two (n m : Nat) : rdP (numL n ++ 47 :: numL m) = (numL n, some (numL m)) := by
  unfold rdP
  rw [show numL n ++ 47 :: numL m = numL n ++ ([47] ++ numL m) from rfl, par_part1 (numL_free (.inl (by decide)))]
  rfl
theorem rdV_txt {a b : Int} (h : Low a b) (ha : a.natAbs < 10 ^ 40) (hb : b.natAbs < 10 ^ 40) : rdV (tl (txtV a b)) = some (a, b) := by
  obtain ⟨hb0, hg⟩ := h
  have hg' : Nat.gcd a.natAbs b.natAbs = 1 := by unfold cd at hg; omega
  have hbL : intL b = numL b.natAbs := by
    unfold intL
    rw [if_neg (by omega)]
  -- the body behind the sign, by its parts
  have body : ∀ cs : List Nat, cs = (if b = 1 then numL a.natAbs else numL a.natAbs ++ 47 :: numL b.natAbs) → rdB (rdP cs).2 = some b.natAbs ∧ rdD (rdP cs).1 = some a.natAbs := by
    intro cs hcs
    by_cases h1 : b = 1
    · rw [if_pos h1] at hcs
      rw [hcs, rdP_num]
      refine ⟨?_, rdD_num ha⟩
      rw [h1]
      rfl
    · rw [if_neg h1] at hcs
      rw [hcs, rdP_two]
      refine ⟨?_, rdD_num ha⟩
      simp only [rdB, rdD_num hb]
      exact if_pos (by omega)
  rw [tl_txtV]
  unfold rdV
  by_cases hn : a < 0
  · have e : (if b = 1 then intL a else intL a ++ 47 :: intL b) = 45 :: (if b = 1 then numL a.natAbs else numL a.natAbs ++ 47 :: numL b.natAbs) := by
      unfold intL
      rw [if_pos hn, if_neg (show ¬ b < 0 by omega)]
      split <;> rfl
    rw [e]
    obtain ⟨e1, e2⟩ := body _ rfl
    rw [show decide ((45 :: (if b = 1 then numL a.natAbs else numL a.natAbs ++ 47 :: numL b.natAbs)).take 1 = [45]) = true from rfl, if_pos rfl, List.drop_one, List.tail_cons, e1, e2]
    show (if (true && decide (a.natAbs = 0) || decide (Nat.gcd a.natAbs b.natAbs ≠ 1)) = true then none else some (-(a.natAbs : Int), (b.natAbs : Int))) = _
    rw [if_neg]
    · rw [show -(a.natAbs : Int) = a by omega, show (b.natAbs : Int) = b by omega]
    · rw [decide_eq_false (show ¬ a.natAbs = 0 by omega), Bool.and_false, Bool.false_or]
      exact fun z => of_decide_eq_true z hg'
  · have e : (if b = 1 then intL a else intL a ++ 47 :: intL b) = (if b = 1 then numL a.natAbs else numL a.natAbs ++ 47 :: numL b.natAbs) := by
      unfold intL
      rw [if_neg hn, if_neg (show ¬ b < 0 by omega)]
    rw [e]
    have hf : (if b = 1 then numL a.natAbs else numL a.natAbs ++ 47 :: numL b.natAbs).take 1 ≠ [45] := by
      split
      · exact numL_first _
      · exact numL_app_first _ _
    obtain ⟨e1, e2⟩ := body _ rfl
    rw [decide_eq_false hf, if_neg Bool.false_ne_true, e1, e2]
    show (if (false && decide (a.natAbs = 0) || decide (Nat.gcd a.natAbs b.natAbs ≠ 1)) = true then none else some ((a.natAbs : Int), (b.natAbs : Int))) = _
    rw [if_neg]
    · rw [show (a.natAbs : Int) = a by omega, show (b.natAbs : Int) = b by omega]
    · rw [Bool.false_and, Bool.false_or]
      exact fun z => of_decide_eq_true z hg'
theorem nrm_abs (t b : Int) : (nrm t b).1.natAbs ≤ t.natAbs ∧ (nrm t b).2.natAbs ≤ b.natAbs := by
  have k : ∀ x g : Int, g ∣ x → (x / g).natAbs ≤ x.natAbs := fun x g h => by
    rw [Int.natAbs_ediv_of_dvd h]
    exact Nat.div_le_self _ _
  unfold nrm
  split
  · have h1 := k (-t) _ (cd_dvd_l (-t) (-b))
    have h2 := k (-b) _ (cd_dvd_r (-t) (-b))
    rw [Int.natAbs_neg] at h1 h2
    exact ⟨h1, h2⟩
  · exact ⟨k t _ (cd_dvd_l t b), k b _ (cd_dvd_r t b)⟩
theorem nrm_neg {t b : Int} (h : b < 0) : nrm (-t) (-b) = nrm t b := by
  unfold nrm
  rw [if_pos h, if_neg (by omega)]
end EL
namespace K01
open PySem PySem.Spec PyProof.Rows L2 He EL
def topS (i : Nat) : Stmt := PySem.Challenge.pw_endlessasks_k01_values.main.body.getD i (.Pass ⟨0, 0, 0, 0⟩)
abbrev s_is_whole : Stmt := (topS 7)
abbrev s_common_divisor : Stmt := (topS 8)
abbrev s_value : Stmt := (topS 9)
abbrev s_is_value : Stmt := (topS 10)
abbrev s_less : Stmt := (topS 11)
abbrev s_text_of : Stmt := (topS 12)
abbrev s_read_digits : Stmt := (topS 13)
abbrev s_read_value : Stmt := (topS 14)
abbrev s__law_begin : Stmt := (topS 16)
abbrev s__law_draw : Stmt := (topS 17)
abbrev s__law_number : Stmt := (topS 18)
abbrev s__law_divisor : Stmt := (topS 19)
abbrev s__law_is_integer : Stmt := (topS 20)
abbrev s__law_is_lowest : Stmt := (topS 21)
abbrev s__law_refused : Stmt := (topS 22)
abbrev s__law_all_refused : Stmt := (topS 23)
abbrev s__law_written : Stmt := (topS 24)
abbrev s__law_changed_are_none : Stmt := (topS 25)
abbrev s__law_in_order : Stmt := (topS 26)
abbrev s_law : Stmt := (topS 27)
theorem sc_is_whole : FnScope ["thing"] ["thing"] (defScope s_is_whole) := ⟨rfl, rfl, rfl, by decide +kernel, rfl, by decide +kernel, by decide +kernel⟩
theorem sc_common_divisor : FnScope ["one", "other"] ["one", "other"] (defScope s_common_divisor) := ⟨rfl, rfl, rfl, by decide +kernel, rfl, by decide +kernel, by decide +kernel⟩
theorem sc_value : FnScope ["top", "bottom", "divisor"] ["top", "bottom"] (defScope s_value) := ⟨rfl, rfl, rfl, by decide +kernel, rfl, by decide +kernel, by decide +kernel⟩
theorem sc_is_value : FnScope ["thing"] ["thing"] (defScope s_is_value) := ⟨rfl, rfl, rfl, by decide +kernel, rfl, by decide +kernel, by decide +kernel⟩
theorem sc_less : FnScope ["one", "other"] ["one", "other"] (defScope s_less) := ⟨rfl, rfl, rfl, by decide +kernel, rfl, by decide +kernel, by decide +kernel⟩
theorem sc_text_of : FnScope ["worth"] ["worth"] (defScope s_text_of) := ⟨rfl, rfl, rfl, by decide +kernel, rfl, by decide +kernel, by decide +kernel⟩
theorem sc_read_digits : FnScope ["text", "sign"] ["text"] (defScope s_read_digits) := ⟨rfl, rfl, rfl, by decide +kernel, rfl, by decide +kernel, by decide +kernel⟩
theorem sc_read_value : FnScope ["text", "below", "over", "line", "under", "top", "bottom"] ["text"] (defScope s_read_value) := ⟨rfl, rfl, rfl, by decide +kernel, rfl, by decide +kernel, by decide +kernel⟩
theorem sc__law_begin : FnScope ["_law_script"] ["_law_script"] (defScope s__law_begin) := ⟨rfl, rfl, rfl, by decide +kernel, rfl, by decide +kernel, by decide +kernel⟩
theorem sc__law_draw : FnScope ["_law_source", "_law_limit", "_law_cell", "_law_digit"] ["_law_source", "_law_limit"] (defScope s__law_draw) := ⟨rfl, rfl, rfl, by decide +kernel, rfl, by decide +kernel, by decide +kernel⟩
theorem sc__law_number : FnScope ["_law_source", "_law_kind", "_law_large"] ["_law_source"] (defScope s__law_number) := ⟨rfl, rfl, rfl, by decide +kernel, rfl, by decide +kernel, by decide +kernel⟩
theorem sc__law_divisor : FnScope ["_law_one", "_law_other", "_law_rest"] ["_law_one", "_law_other"] (defScope s__law_divisor) := ⟨rfl, rfl, rfl, by decide +kernel, rfl, by decide +kernel, by decide +kernel⟩
theorem sc__law_is_integer : FnScope ["_law_thing"] ["_law_thing"] (defScope s__law_is_integer) := ⟨rfl, rfl, rfl, by decide +kernel, rfl, by decide +kernel, by decide +kernel⟩
theorem sc__law_is_lowest : FnScope ["_law_made", "_law_upper", "_law_lower"] ["_law_made", "_law_upper", "_law_lower"] (defScope s__law_is_lowest) := ⟨rfl, rfl, rfl, by decide +kernel, rfl, by decide +kernel, by decide +kernel⟩
theorem sc__law_refused : FnScope ["_law_upper", "_law_lower", "e"] ["_law_upper", "_law_lower"] (defScope s__law_refused) := ⟨rfl, rfl, rfl, by decide +kernel, rfl, by decide +kernel, by decide +kernel⟩
theorem sc__law_all_refused : FnScope ["_law_one", "_law_other", "_law_odd"] ["_law_one", "_law_other"] (defScope s__law_all_refused) := ⟨rfl, rfl, rfl, by decide +kernel, rfl, by decide +kernel, by decide +kernel⟩
theorem sc__law_written : FnScope ["_law_worth"] ["_law_worth"] (defScope s__law_written) := ⟨rfl, rfl, rfl, by decide +kernel, rfl, by decide +kernel, by decide +kernel⟩
theorem sc__law_changed_are_none : FnScope ["_law_worth", "_law_factor", "_law_changed", "_law_thing"] ["_law_worth", "_law_factor"] (defScope s__law_changed_are_none) := ⟨rfl, rfl, rfl, by decide +kernel, rfl, by decide +kernel, by decide +kernel⟩
theorem sc__law_in_order : FnScope ["_law_left", "_law_right", "_law_one", "_law_other", "_law_due", "_law_actual", "_law_beside"] ["_law_left", "_law_right", "_law_one", "_law_other"] (defScope s__law_in_order) := ⟨rfl, rfl, rfl, by decide +kernel, rfl, by decide +kernel, by decide +kernel⟩
theorem sc_law : FnScope ["_law_script", "_law_source", "_law_made", "_law_pairs", "_law_turn", "_law_upper", "_law_lower", "_law_factor", "_law_one", "_law_text", "_law_at", "_law_other"] ["_law_script"] (defScope s_law) := ⟨rfl, rfl, rfl, by decide +kernel, rfl, by decide +kernel, by decide +kernel⟩
structure Txt (K : PySem.W.Frag) (mg : Str → Option Value) : Prop where
  g_is_whole : mg "is_whole" = some (.ref (ga K "is_whole"))
  g_common_divisor : mg "common_divisor" = some (.ref (ga K "common_divisor"))
  g_value : mg "value" = some (.ref (ga K "value"))
  g_is_value : mg "is_value" = some (.ref (ga K "is_value"))
  g_less : mg "less" = some (.ref (ga K "less"))
  g_text_of : mg "text_of" = some (.ref (ga K "text_of"))
  g_read_digits : mg "read_digits" = some (.ref (ga K "read_digits"))
  g_read_value : mg "read_value" = some (.ref (ga K "read_value"))
  g__law_begin : mg "_law_begin" = some (.ref (ga K "_law_begin"))
  g__law_draw : mg "_law_draw" = some (.ref (ga K "_law_draw"))
  g__law_number : mg "_law_number" = some (.ref (ga K "_law_number"))
  g__law_divisor : mg "_law_divisor" = some (.ref (ga K "_law_divisor"))
  g__law_is_integer : mg "_law_is_integer" = some (.ref (ga K "_law_is_integer"))
  g__law_is_lowest : mg "_law_is_lowest" = some (.ref (ga K "_law_is_lowest"))
  g__law_refused : mg "_law_refused" = some (.ref (ga K "_law_refused"))
  g__law_all_refused : mg "_law_all_refused" = some (.ref (ga K "_law_all_refused"))
  g__law_written : mg "_law_written" = some (.ref (ga K "_law_written"))
  g__law_changed_are_none : mg "_law_changed_are_none" = some (.ref (ga K "_law_changed_are_none"))
  g__law_in_order : mg "_law_in_order" = some (.ref (ga K "_law_in_order"))
  g_law : mg "law" = some (.ref (ga K "law"))
  x_AskError : XC K mg "AskError"
  x_NoValue : XC K mg "NoValue"
  x_NoCell : XC K mg "NoCell"
  g_MOST_DIGITS : ∃ u, mg "MOST_DIGITS" = some u ∧ RelV (.int 40) u
  g_DIGITS : ∃ u, mg "DIGITS" = some u ∧ RelV (.str "0123456789") u
  z_ValueError : mg "ValueError" = none
  z_isinstance : mg "isinstance" = none
  z_int : mg "int" = none
  z_bool : mg "bool" = none
  z_abs : mg "abs" = none
  z_tuple : mg "tuple" = none
  z_len : mg "len" = none
  z_str : mg "str" = none
  z_list : mg "list" = none
  z_range : mg "range" = none
  e_NoValue_NoValue : PySem.W.exmOne K (.ref (ga K "NoValue")) (.ref (ga K "NoValue")) = some true
  f_is_whole : ∃ fd, FunD K "is_whole" "is_whole" (defArgs s_is_whole) (defBody s_is_whole) (defScope s_is_whole) ([] : List V) [] (ga K "is_whole") fd
  f_common_divisor : ∃ fd, FunD K "common_divisor" "common_divisor" (defArgs s_common_divisor) (defBody s_common_divisor) (defScope s_common_divisor) ([] : List V) [] (ga K "common_divisor") fd
  f_value : ∃ fd, FunD K "value" "value" (defArgs s_value) (defBody s_value) (defScope s_value) ([.int 1] : List V) [] (ga K "value") fd
  f_is_value : ∃ fd, FunD K "is_value" "is_value" (defArgs s_is_value) (defBody s_is_value) (defScope s_is_value) ([] : List V) [] (ga K "is_value") fd
  f_less : ∃ fd, FunD K "less" "less" (defArgs s_less) (defBody s_less) (defScope s_less) ([] : List V) [] (ga K "less") fd
  f_text_of : ∃ fd, FunD K "text_of" "text_of" (defArgs s_text_of) (defBody s_text_of) (defScope s_text_of) ([] : List V) [] (ga K "text_of") fd
  f_read_digits : ∃ fd, FunD K "read_digits" "read_digits" (defArgs s_read_digits) (defBody s_read_digits) (defScope s_read_digits) ([] : List V) [] (ga K "read_digits") fd
  f_read_value : ∃ fd, FunD K "read_value" "read_value" (defArgs s_read_value) (defBody s_read_value) (defScope s_read_value) ([] : List V) [] (ga K "read_value") fd
  f__law_begin : ∃ fd, FunD K "_law_begin" "_law_begin" (defArgs s__law_begin) (defBody s__law_begin) (defScope s__law_begin) ([] : List V) [] (ga K "_law_begin") fd
  f__law_draw : ∃ fd, FunD K "_law_draw" "_law_draw" (defArgs s__law_draw) (defBody s__law_draw) (defScope s__law_draw) ([] : List V) [] (ga K "_law_draw") fd
  f__law_number : ∃ fd, FunD K "_law_number" "_law_number" (defArgs s__law_number) (defBody s__law_number) (defScope s__law_number) ([] : List V) [] (ga K "_law_number") fd
  f__law_divisor : ∃ fd, FunD K "_law_divisor" "_law_divisor" (defArgs s__law_divisor) (defBody s__law_divisor) (defScope s__law_divisor) ([] : List V) [] (ga K "_law_divisor") fd
  f__law_is_integer : ∃ fd, FunD K "_law_is_integer" "_law_is_integer" (defArgs s__law_is_integer) (defBody s__law_is_integer) (defScope s__law_is_integer) ([] : List V) [] (ga K "_law_is_integer") fd
  f__law_is_lowest : ∃ fd, FunD K "_law_is_lowest" "_law_is_lowest" (defArgs s__law_is_lowest) (defBody s__law_is_lowest) (defScope s__law_is_lowest) ([] : List V) [] (ga K "_law_is_lowest") fd
  f__law_refused : ∃ fd, FunD K "_law_refused" "_law_refused" (defArgs s__law_refused) (defBody s__law_refused) (defScope s__law_refused) ([] : List V) [] (ga K "_law_refused") fd
  f__law_all_refused : ∃ fd, FunD K "_law_all_refused" "_law_all_refused" (defArgs s__law_all_refused) (defBody s__law_all_refused) (defScope s__law_all_refused) ([] : List V) [] (ga K "_law_all_refused") fd
  f__law_written : ∃ fd, FunD K "_law_written" "_law_written" (defArgs s__law_written) (defBody s__law_written) (defScope s__law_written) ([] : List V) [] (ga K "_law_written") fd
  f__law_changed_are_none : ∃ fd, FunD K "_law_changed_are_none" "_law_changed_are_none" (defArgs s__law_changed_are_none) (defBody s__law_changed_are_none) (defScope s__law_changed_are_none) ([] : List V) [] (ga K "_law_changed_are_none") fd
  f__law_in_order : ∃ fd, FunD K "_law_in_order" "_law_in_order" (defArgs s__law_in_order) (defBody s__law_in_order) (defScope s__law_in_order) ([] : List V) [] (ga K "_law_in_order") fd
  f_law : ∃ fd, FunD K "law" "law" (defArgs s_law) (defBody s_law) (defScope s_law) ([] : List V) [] (ga K "law") fd
  c_NoValue : ExcC K (ga K "NoValue")
  k_NoValue_AskError : PySem.W.kitOne K (.ref (ga K "NoValue")) (.ref (ga K "AskError")) = some true
  k_NoValue_ValueError : PySem.W.kitOne K (.ref (ga K "NoValue")) (.type "ValueError") = some true
  k_NoValue_NoCell : PySem.W.kitOne K (.ref (ga K "NoValue")) (.ref (ga K "NoCell")) = some false
end K01
namespace K01
open PySem PySem.Spec PyProof.Rows L2 He EL
section
variable {P : Program} {w : World} {K : PySem.W.Frag} {mg : Str → Option Value} {base : Heap}
/-! is_whole -/
def spIsWhole (K : PySem.W.Frag) : Sp := fun vs H Q _ => ∃ v th, vs = [v] ∧ ThOk K H v th ∧ Q (.bl (isWholeT th)) H
theorem d_is_whole (T : Txt K mg) : Dn P w K mg base CX0 1 "is_whole" (spIsWhole K) := by
  obtain ⟨fd, F⟩ := T.f_is_whole
  refine dnN T.g_is_whole F (fun _ _ _ _ _ _ us hl => match us, hl with | [_], _ => rfl) sc_is_whole (fun vs H Q E h => ?_) (fun cdv A outer s H vs Q E hr h => ?_)
  · obtain ⟨v, th, rfl, _⟩ := h
    rfl
  · obtain ⟨v, th, rfl, ht, q⟩ := h
    obtain ⟨t, ty, ki⟩ := ht.ty
    refine ⟨_, PSs.nox (pss_one (ps_ret (pe_and (pe_callB call_isi (by rfl) T.z_isinstance (by decide +kernel) (pa_cons (pv 0) (pa_cons (pe_bltn (v := .ty "int") (by rfl) T.z_int (by decide +kernel) rfl) pa_nil))) (pe_one (pe_not (pe_callB call_isi (by rfl) T.z_isinstance (by decide +kernel) (pa_cons (pv 0) (pa_cons (pe_bltn (v := .ty "bool") (by rfl) T.z_bool (by decide +kernel) rfl) pa_nil)))))))), ?_⟩
    refine ⟨_, rfl, _, _, t, _, _, rfl, .ty _, ty, ki .int, _, rfl, ie (fun h1 => ?_) (fun h1 => ?_)⟩
    · refine ⟨_, rfl, _, _, t, _, _, rfl, .ty _, ty, ki .bl, _, rfl, ?_⟩
      have e : isWholeT th = !th.is .bl := by unfold isWholeT; rw [h1]; rfl
      rw [e] at q
      exact q
    · have e : isWholeT th = false := by unfold isWholeT; rw [h1]; rfl
      rw [e] at q
      exact q
/-! common_divisor -/
def spCD : Sp := fun vs H Q _ => ∃ a b : Int, vs = [.int a, .int b] ∧ Q (.int (cd a b)) H
theorem d_common_divisor (T : Txt K mg) : Dn P w K mg base CX0 1 "common_divisor" spCD := by
  obtain ⟨fd, F⟩ := T.f_common_divisor
  refine dnN T.g_common_divisor F (fun _ _ _ _ _ _ us hl => match us, hl with | [_, _], _ => rfl) sc_common_divisor (fun vs H Q E h => ?_) (fun cdv A outer s H vs Q E hr h => ?_)
  · obtain ⟨a, b, rfl, _⟩ := h
    rfl
  · obtain ⟨a, b, rfl, q⟩ := h
    refine ⟨_, PSs.nox (pss_cons (ps_par (i := 0) (j := 1) (by rfl) sc_common_divisor.nd rfl rfl (by decide) rfl rfl (pa_cons (pe_callB call_abs (by rfl) T.z_abs (by decide +kernel) (pa_cons (pv 0) pa_nil)) (pa_cons (pe_callB call_abs (by rfl) T.z_abs (by decide +kernel) (pa_cons (pv 1) pa_nil)) pa_nil)) (by rfl))
      (pss_cons (ps_while PassesOwn.never (pt_cmpR op_gt (pv 1) pe_int (nomark _))
      (pss_one (ps_par (i := 0) (j := 1) (by rfl) sc_common_divisor.nd rfl rfl (by decide) rfl rfl (pa_cons (pv 1) (pa_cons (pe_op op_mod (pv 0) (pv 1)) pa_nil)) (by rfl))))
      (pss_one (ps_ret (pv 0))))), ?_⟩
    refine ⟨_, rfl, _, rfl, _, rfl, _, rfl, _, _, rfl, ?_⟩
    refine ⟨fun m σ H' => ∃ x y : Nat, m = y ∧ σ = [some (.int x), some (.int y)] ∧ H' = H ∧ Nat.gcd x y = Nat.gcd a.natAbs b.natAbs, ⟨b.natAbs, a.natAbs, b.natAbs, rfl, ?_, rfl, rfl⟩, ?_⟩
    · have e : ∀ z : Int, (if z < 0 then -z else z) = (z.natAbs : Int) := fun z => by split <;> omega
      show [some (V.int _), some (V.int _)] = _
      rw [e, e]
    · rintro m σ H' ⟨x, y, em, rfl, rfl, hg⟩
      subst m
      refine ⟨_, rfl, _, _, rfl, rfl, _, rfl, ie (fun h1 => ?_) (fun h1 => ?_)⟩
      · have hy : 0 < y := by
          have := of_decide_eq_true h1
          omega
        refine ⟨_, fun σ' H2 hN => hN, _, rfl, _, rfl, _, rfl, _, _, rfl, rfl, (by show (0 : Int) < (y : Int); omega), _, _, rfl, ?_⟩
        exact ⟨x % y, Nat.mod_lt _ hy, y, x % y, rfl, rfl, rfl, by rw [← hg, Nat.gcd_comm x y, Nat.gcd_rec y x, Nat.gcd_comm]⟩
      · have hy : y = 0 := by
          have := of_decide_eq_false h1
          omega
        refine ⟨_, rfl, ?_⟩
        subst hy
        rw [Nat.gcd_zero_right] at hg
        unfold cd at q
        rw [← hg] at q
        exact q
end
end K01
namespace K01
open PySem PySem.Spec PyProof.Rows L2 He TL EL
section
variable {P : Program} {w : World} {K : PySem.W.Frag} {mg : Str → Option Value} {base : Heap}
/-! is_value -/
def spIsValue (K : PySem.W.Frag) : Sp := fun vs H Q _ => ∃ v th, vs = [v] ∧ ThOk K H v th ∧ Q (.bl (isValT th)) H
theorem d_is_value (T : Txt K mg) : Dn P w K mg base CX0 2 "is_value" (spIsValue K) := by
  obtain ⟨fd, F⟩ := T.f_is_value
  have D_is_whole := d_is_whole (P := P) (w := w) (base := base) T
  have D_common_divisor := d_common_divisor (P := P) (w := w) (base := base) T
  refine dnN T.g_is_value F (fun _ _ _ _ _ _ us hl => match us, hl with | [_], _ => rfl) sc_is_value (fun vs H Q E h => ?_) (fun cdv A outer s H vs Q E hr h => ?_)
  · obtain ⟨v, th, rfl, _⟩ := h
    rfl
  · obtain ⟨v, th, rfl, ht, q⟩ := h
    obtain ⟨t, ty, ki⟩ := ht.ty
    refine ⟨_, PSs.nox (pss_cons (ps_if (PW.pt (pw_or (pt_not (pt_val (pe_callB call_isi (by rfl) T.z_isinstance (by decide +kernel) (pa_cons (pv 0) (pa_cons (pe_bltn (v := .ty "tuple") (by rfl) T.z_tuple (by decide +kernel) rfl) pa_nil))))) (pw_or1 (pt_cmpR op_ne (pe_callB call_len_seq (by rfl) T.z_len (by decide +kernel) (pa_cons (pv 0) pa_nil)) pe_int (nomark _))))) (pss_one (ps_ret pe_bl)) pss_nil)
      (pss_cons (ps_if (PW.pt (pw_or (pt_not (pt_val (cl D_is_whole (hr.mono (by decide)) (pa_cons (pe_ix ix_tup (pv 0) pe_int (fun _ _ => rfl)) pa_nil)))) (pw_or (pt_not (pt_val (cl D_is_whole (hr.mono (by decide)) (pa_cons (pe_ix ix_tup (pv 0) pe_int (fun _ _ => rfl)) pa_nil)))) (pw_or1 (pt_cmpR op_lt (pe_ix ix_tup (pv 0) pe_int (fun _ _ => rfl)) pe_int (nomark _)))))) (pss_one (ps_ret pe_bl)) pss_nil)
      (pss_one (ps_ret (pe_cmpR op_eq (cl D_common_divisor (hr.mono (by decide)) (pa_cons (pe_ix ix_tup (pv 0) pe_int (fun _ _ => rfl)) (pa_cons (pe_ix ix_tup (pv 0) pe_int (fun _ _ => rfl)) pa_nil))) pe_int (nomark _)))))), ?_⟩
    refine ⟨_, rfl, _, _, t, _, _, rfl, .ty _, ty, ki .tup, _, rfl, ?_⟩
    by_cases hn : ∃ ds, th = .d (.tuple ds)
    · obtain ⟨ds, rfl⟩ := hn
      refine iteF ?_
      cases ht with
      | @tup a xs _ hS hA =>
      refine ⟨_, rfl, _, _, rfl, .inr hS, rfl, _, rfl, ?_⟩
      by_cases hl : xs.length = 2
      · match xs, hl with
        | [v0, v1], _ =>
        match ds, hA with
        | [d0, d1], .cons h0 (.cons h1 .nil) =>
        refine iteF ?_
        -- is_whole(thing[0])
        refine ⟨_, rfl, _, _, 0, v0, rfl, rfl, hS, atI_nat (j := 0) rfl, v0, .d d0, rfl, h0, _, rfl, ?_⟩
        rw [isWholeT_d]
        by_cases w0 : ∃ a, d0 = .int a
        · obtain ⟨a0, rfl⟩ := w0
          refine iteF ?_
          refine ⟨_, rfl, _, _, 1, v1, rfl, rfl, hS, atI_nat (j := 1) rfl, v1, .d d1, rfl, h1, _, rfl, ?_⟩
          rw [isWholeT_d]
          by_cases w1 : ∃ b, d1 = .int b
          · obtain ⟨b0, rfl⟩ := w1
            refine iteF ?_
            cases h0
            cases h1
            refine ⟨_, rfl, _, _, 1, _, rfl, rfl, hS, atI_nat (j := 1) rfl, _, _, rfl, rfl, _, rfl, ie (fun c => ?_) (fun c => ?_)⟩
            · have e : isValT (.d (.tuple [.int a0, .int b0])) = false := by
                show (!decide (b0 < 1) && decide (cd a0 b0 = 1)) = false
                rw [c]
                rfl
              rw [e] at q
              exact q
            · have e : isValT (.d (.tuple [.int a0, .int b0])) = decide (V.int (cd a0 b0) = V.int 1) := by
                show (!decide (b0 < 1) && decide (cd a0 b0 = 1)) = decide (V.int (cd a0 b0) = V.int 1)
                rw [c]
                simp
              rw [e] at q
              exact ⟨_, rfl, _, _, 0, _, rfl, rfl, hS, atI_nat (j := 0) rfl, _, rfl, _, _, 1, _, rfl, rfl, hS, atI_nat (j := 1) rfl, _, _, rfl, rfl, q⟩
          · have e2 : isWholeD d1 = false := by
              cases d1 <;> first | rfl | exact absurd ⟨_, rfl⟩ w1
            rw [e2]
            have e : isValT (.d (.tuple [.int a0, d1])) = false := by
              cases d1 <;> first | rfl | exact absurd ⟨_, rfl⟩ w1
            rw [e] at q
            exact q
        · have e2 : isWholeD d0 = false := by
            cases d0 <;> first | rfl | exact absurd ⟨_, rfl⟩ w0
          rw [e2]
          have e : isValT (.d (.tuple [d0, d1])) = false := by
            cases d0 <;> first | rfl | exact absurd ⟨_, rfl⟩ w0
          rw [e] at q
          exact q
      · have e2 : decide (V.int (xs.length : Int) = V.int 2) = false := decide_eq_false fun z => hl (by injection z; omega)
        rw [e2]
        have hdl : ds.length ≠ 2 := by
          rw [← DpAll.length hA]
          exact hl
        have e : isValT (.d (.tuple ds)) = false := by
          match ds, hdl with
          | [], _ => rfl
          | [_], _ => simp [isValT, isValD]
          | [_, _], h => exact absurd rfl h
          | _ :: _ :: _ :: _, _ => simp [isValT, isValD]
        rw [e] at q
        exact q
    · have e1 : th.is .tup = false := by
        cases th with
        | o => rfl
        | d d => cases d <;> first | rfl | exact absurd ⟨_, rfl⟩ hn
      rw [e1]
      have e : isValT th = false := by
        cases th with
        | o => rfl
        | d d => cases d <;> first | rfl | exact absurd ⟨_, rfl⟩ hn
      rw [e] at q
      exact q
/-! less -/
def spLess (K : PySem.W.Frag) : Sp := fun vs H Q _ => ∃ (p q : Addr) (a b c d : Int), vs = [.ref p, .ref q] ∧ SqT K H p [.int a, .int b] ∧ SqT K H q [.int c, .int d] ∧ CMulW a d ∧ CMulW c b ∧ Q (.bl (decide (a * d < c * b))) H
theorem d_less (T : Txt K mg) : Dn P w K mg base CX0 1 "less" (spLess K) := by
  obtain ⟨fd, F⟩ := T.f_less
  refine dnN T.g_less F (fun _ _ _ _ _ _ us hl => match us, hl with | [_, _], _ => rfl) sc_less (fun vs H Q E h => ?_) (fun cdv A outer s H vs Q E hr h => ?_)
  · obtain ⟨p, q, a, b, c, d, rfl, _⟩ := h
    rfl
  · obtain ⟨p, q, a, b, c, d, rfl, h1, h2, m1, m2, hq⟩ := h
    refine ⟨_, PSs.nox (pss_one (ps_ret (pe_cmpR op_lt (pe_op op_mulW (pe_ix ix_tup (pv 0) pe_int (fun _ _ => rfl)) (pe_ix ix_tup (pv 1) pe_int (fun _ _ => rfl))) (pe_op op_mulW (pe_ix ix_tup (pv 1) pe_int (fun _ _ => rfl)) (pe_ix ix_tup (pv 0) pe_int (fun _ _ => rfl))) (nomark _)))), ?_⟩
    exact ⟨_, rfl, _, _, 0, _, rfl, rfl, h1, atI_nat (j := 0) rfl, _, rfl, _, _, 1, _, rfl, rfl, h2, atI_nat (j := 1) rfl, _, _, rfl, rfl, m1,
      _, rfl, _, _, 0, _, rfl, rfl, h2, atI_nat (j := 0) rfl, _, rfl, _, _, 1, _, rfl, rfl, h1, atI_nat (j := 1) rfl, _, _, rfl, rfl, m2, _, _, rfl, rfl, hq⟩
/-! text_of -/
def spTextOf (K : PySem.W.Frag) : Sp := fun vs H Q _ => ∃ (p : Addr) (a b : Int), vs = [.ref p] ∧ SqT K H p [.int a, .int b] ∧ a.natAbs < 2 ^ 1000 ∧ b.natAbs < 2 ^ 1000 ∧ Q (.str (txtV a b)) H
theorem log_lt {a : Int} (h : a.natAbs < 2 ^ 1000) : a.natAbs.log2 < 1920 := Nat.lt_of_lt_of_le (PySem.Flt.log2_lt_of (by decide) h) (by decide)
theorem d_text_of (T : Txt K mg) : Dn P w K mg base CX0 1 "text_of" (spTextOf K) := by
  obtain ⟨fd, F⟩ := T.f_text_of
  refine dnN T.g_text_of F (fun _ _ _ _ _ _ us hl => match us, hl with | [_], _ => rfl) sc_text_of (fun vs H Q E h => ?_) (fun cdv A outer s H vs Q E hr h => ?_)
  · obtain ⟨p, a, b, rfl, _⟩ := h
    rfl
  · obtain ⟨p, a, b, rfl, h1, ha, hb, hq⟩ := h
    refine ⟨_, PSs.nox (pss_cons (ps_if (pt_cmpR op_eq (pe_ix ix_tup (pv 0) pe_int (fun _ _ => rfl)) pe_int (nomark _)) (pss_one (ps_ret (pe_joined1 (pe_fmt (pe_ix ix_tup (pv 0) pe_int (fun _ _ => rfl)))))) pss_nil)
      (pss_one (ps_ret (pe_joined (PJ.cons (pe_fmt (pe_ix ix_tup (pv 0) pe_int (fun _ _ => rfl))) (PJ.cons pe_str (PJ.cons (pe_fmt (pe_ix ix_tup (pv 0) pe_int (fun _ _ => rfl))) PJ.nil))))))), ?_⟩
    refine ⟨_, rfl, _, _, 1, _, rfl, rfl, h1, atI_nat (j := 1) rfl, rfl, _, rfl, ie (fun c => ?_) (fun c => ?_)⟩
    · have e : b = 1 := by
        have := of_decide_eq_true c
        injection this
      unfold txtV at hq
      rw [if_pos e] at hq
      exact ⟨_, rfl, _, _, 0, _, rfl, rfl, h1, atI_nat (j := 0) rfl, .inr ⟨_, rfl, log_lt ha, hq⟩⟩
    · have e : b ≠ 1 := fun z => by
        subst z
        exact absurd c (by decide)
      unfold txtV at hq
      rw [if_neg e] at hq
      have l1 := len_int ha
      have l2 := len_int hb
      rw [len_tl] at l1 l2
      refine ⟨_, rfl, _, _, 0, _, rfl, rfl, h1, atI_nat (j := 0) rfl, .inr ⟨_, rfl, log_lt ha, _, rfl, ?_, _, rfl, ?_, _, rfl, _, _, 1, _, rfl, rfl, h1, atI_nat (j := 1) rfl, .inr ⟨_, rfl, log_lt hb, _, rfl, ?_, ?_⟩⟩⟩
      · rw [str_nil, len_tl]
        exact small40 (by omega)
      · rw [str_nil, len_tl, tl_append, List.length_append]
        show _ + 1 ≤ sizeLine
        exact small40 (by omega)
      · rw [str_nil, len_tl, tl_append, tl_append, List.length_append, List.length_append]
        show _ + 1 + _ ≤ sizeLine
        exact small40 (by omega)
      · rw [str_nil]
        exact hq
/-! value -/
def spValue (K : PySem.W.Frag) : Sp := fun vs H Q E => ∃ v1 v2 th1 th2, vs = [v1, v2] ∧ ThOk K H v1 th1 ∧ ThOk K H v2 th2 ∧
  ((¬ ∃ t b, th1 = .d (.int t) ∧ th2 = .d (.int b) ∧ b ≠ 0) → E (.ref (ga K "NoValue")) none H) ∧
  (∀ t b : Int, th1 = .d (.int t) → th2 = .d (.int b) → b ≠ 0 → b.natAbs < 2 ^ 8000 ∧ ∀ p H', H p = none → Same H H' → H' p = some (.tup [.int (nrm t b).1, .int (nrm t b).2]) → Q (.ref p) H')
theorem ok_value (T : Txt K mg) : ∃ fd, FunD K "value" "value" (defArgs s_value) (defBody s_value) (defScope s_value) ([.int 1] : List V) [] (ga K "value") fd ∧ FnOk P w K mg base (L2.CX P w) 2 (ga K "value") fd ["top", "bottom"] (spValue K) := by
  obtain ⟨fd, F⟩ := T.f_value
  have D_is_whole := d_is_whole (P := P) (w := w) (base := base) T
  have D_common_divisor := d_common_divisor (P := P) (w := w) (base := base) T
  refine ⟨fd, F, F.ok sc_value (fun vs H Q E h => ?_) (fun cdv A outer s H vs Q E hr h => ?_)⟩
  · obtain ⟨v1, v2, th1, th2, rfl, _⟩ := h
    rfl
  · obtain ⟨v1, v2, th1, th2, rfl, ht1, ht2, hE, hQ⟩ := h
    refine ⟨_, (pss_cons (ps_if (PW.pt (pw_or (pt_not (pt_val (cl D_is_whole (hr.mono (by decide)) (pa_cons (pv 0) pa_nil)))) (pw_or (pt_not (pt_val (cl D_is_whole (hr.mono (by decide)) (pa_cons (pv 1) pa_nil)))) (pw_or1 (pt_cmpR op_eq (pv 1) pe_int (nomark _)))))) (pss_one (rs (by rfl) (takes_of rfl rfl rfl rfl) T.x_NoValue (by rfl))) pss_nil)
      (pss_cons (ps_if (pt_cmpR op_lt (pv 1) pe_int (nomark _)) (pss_one (ps_par (i := 0) (j := 1) (by rfl) sc_value.nd rfl rfl (by decide) rfl rfl (pa_cons (pe_un un_neg (pv 0)) (pa_cons (pe_un un_neg (pv 1)) pa_nil)) (by rfl))) pss_nil)
      (pss_cons (ps_set (i := 2) sc_value.nd rfl (.inl rfl) (cl D_common_divisor (hr.mono (by decide)) (pa_cons (pv 0) (pa_cons (pv 1) pa_nil))))
      (pss_one (ps_ret (pe_tup (pa_cons (pe_op op_fdivW (pv 0) (pv 2)) (pa_cons (pe_op op_fdivW (pv 1) (pv 2)) pa_nil)))))))), ?_⟩
    refine ⟨_, rfl, v1, th1, rfl, ht1, _, rfl, ?_⟩
    by_cases w1 : ∃ a, th1 = .d (.int a)
    · obtain ⟨a, rfl⟩ := w1
      refine iteF ?_
      refine ⟨_, rfl, v2, th2, rfl, ht2, _, rfl, ?_⟩
      by_cases w2 : ∃ b, th2 = .d (.int b)
      · obtain ⟨b, rfl⟩ := w2
        cases ht1
        cases ht2
        refine iteF ?_
        refine ⟨_, rfl, rfl, _, rfl, ie (fun c => ?_) (fun c => ?_)⟩
        · refine hE ?_
          rintro ⟨t, b', e1, e2, hb⟩
          have e3 : b = b' := by injection e2 with e2; injection e2
          subst e3
          have := of_decide_eq_true c
          injection this with this
          exact hb this
        · have hb : b ≠ 0 := fun z => by
            subst z
            exact absurd c (by decide)
          obtain ⟨hz, hQ⟩ := hQ a b rfl rfl hb
          refine ⟨_, rfl, _, _, rfl, rfl, _, rfl, ie (fun c2 => ?_) (fun c2 => ?_)⟩
          · have hneg := of_decide_eq_true c2
            have hp := cd_pos (a := -a) (b := -b) (by omega)
            have hle : cd (-a) (-b) ≤ -b := Int.le_of_dvd (by omega) (cd_dvd_r _ _)
            have hW : ∀ i : Int, CDivW i (cd (-a) (-b)) := fun i => wide_div hp (b := 8000) (Nat.lt_of_le_of_lt (by omega) hz) (by decide) (by decide)
            refine ⟨_, rfl, _, rfl, _, rfl, _, rfl, _, _, rfl, ?_⟩
            refine ⟨_, rfl, _, rfl, _, _, rfl, ?_⟩
            refine ⟨_, rfl, _, rfl, _, _, rfl, rfl, hW _, _, rfl, _, rfl, _, _, rfl, rfl, hW _, (by show 2 ≤ sizeLine; decide), newO fun p H' hp' hs h' => ?_⟩
            refine hQ p H' hp' hs ?_
            rw [h']
            unfold nrm
            rw [if_pos hneg]
          · have hneg := of_decide_eq_false c2
            have hp := cd_pos (a := a) (b := b) hb
            have hle : cd a b ≤ b := Int.le_of_dvd (by omega) (cd_dvd_r _ _)
            have hW : ∀ i : Int, CDivW i (cd a b) := fun i => wide_div hp (b := 8000) (Nat.lt_of_le_of_lt (by omega) hz) (by decide) (by decide)
            refine ⟨_, rfl, _, rfl, _, _, rfl, ?_⟩
            refine ⟨_, rfl, _, rfl, _, _, rfl, rfl, hW _, _, rfl, _, rfl, _, _, rfl, rfl, hW _, (by show 2 ≤ sizeLine; decide), newO fun p H' hp' hs h' => ?_⟩
            refine hQ p H' hp' hs ?_
            rw [h']
            unfold nrm
            rw [if_neg hneg]
      · have e : isWholeT th2 = false := by
          cases th2 with
          | o => rfl
          | d d => cases d <;> first | rfl | exact absurd ⟨_, rfl⟩ w2
        rw [e]
        exact hE fun ⟨t, b, _, e2, _⟩ => w2 ⟨b, e2⟩
    · have e : isWholeT th1 = false := by
        cases th1 with
        | o => rfl
        | d d => cases d <;> first | rfl | exact absurd ⟨_, rfl⟩ w1
      rw [e]
      exact hE fun ⟨t, b, e1, _, _⟩ => w1 ⟨t, e1⟩
/-- value(a, b) -/
theorem d_value2 (T : Txt K mg) : Dn P w K mg base (L2.CX P w) 2 "value" (spValue K) := by
  obtain ⟨fd, F, G⟩ := ok_value (P := P) (w := w) (base := base) T
  obtain ⟨ds, hd, hb⟩ := FunD.binds1 (ps := ["top", "bottom"]) F 2 1 (by simp) rfl fun _ _ _ _ _ _ _ us its h1 h2 => match us, its, h1, h2 with | [_, _], [_], _, _ => ⟨_, rfl, rfl⟩
  cases hd
  exact ⟨T.g_value, F.kp, (G.raw hb .nil).imp fun vs H Q E h => by rw [List.append_nil]; exact h⟩
/-- value(a) -/
theorem d_value1 (T : Txt K mg) : Dn P w K mg base (L2.CX P w) 2 "value" (fun vs H Q E => spValue K (vs ++ [.int 1]) H Q E) := by
  obtain ⟨fd, F, G⟩ := ok_value (P := P) (w := w) (base := base) T
  obtain ⟨ds, hd, hb⟩ := FunD.binds1 (ps := ["top", "bottom"]) F 1 0 (by simp) rfl fun _ _ _ _ _ _ _ us its h1 h2 => match us, its, h1, h2 with | [_], [_], _, _ => ⟨_, rfl, rfl⟩
  exact ⟨T.g_value, F.kp, G.raw hb hd⟩
def swap2 {α : Type} (_ _ ws : List α) : List α := match ws with
  | [b, t] => [t, b]
  | _ => []
/-- value(bottom = b, top = t) -/
theorem kb_value {fd : FuncData} (F : FunD K "value" "value" (defArgs s_value) (defBody s_value) (defScope s_value) ([.int 1] : List V) [] (ga K "value") fd) :
    ∃ its : List Value, KBn K fd ["top", "bottom"] 0 ["bottom", "top"] (fun us ws => swap2 us its ws) (fun vs zs => swap2 vs [.int 1] zs) := by
  refine kbinds1 F 0 ["bottom", "top"] swap2 (by simp) (fun _ _ r => ?_) fun _ _ _ _ _ _ _ us its ws h1 h2 h3 => match us, its, ws, h1, h2, h3 with | [], [_], [_, _], _, _, _ => ⟨_, rfl, rfl⟩
  cases r with
  | nil => exact .nil
  | cons r1 r =>
    cases r with
    | nil => exact .nil
    | cons r2 r =>
      cases r with
      | nil => exact .cons r2 (.cons r1 .nil)
      | cons _ _ => exact .nil
end
end K01
namespace K01
open PySem PySem.Spec PyProof.Rows L2 He TL EL
section
variable {P : Program} {w : World} {K : PySem.W.Frag} {mg : Str → Option Value} {base : Heap}
/-! read_digits -/
def spReadDigits : Sp := fun vs H Q _ => ∃ z : Str, vs = [.str z] ∧ z.length ≤ 100000 ∧ Q (optV (rdD (tl z))) H
theorem d_read_digits (T : Txt K mg) : Dn P w K mg base CX0 1 "read_digits" spReadDigits := by
  obtain ⟨fd, F⟩ := T.f_read_digits
  refine dnN T.g_read_digits F (fun _ _ _ _ _ _ us hl => match us, hl with | [_], _ => rfl) sc_read_digits (fun vs H Q E h => ?_) (fun cdv A outer s H vs Q E hr h => ?_)
  · obtain ⟨z, rfl, _⟩ := h
    rfl
  · obtain ⟨z, rfl, hz, q⟩ := h
    have hz' : z.length ≤ sizeLine := small40 hz
    refine ⟨_, PSs.nox (pss_cons (ps_if (pt_not (pt_chain op_le op_le pe_int (pe_callB call_len_str (by rfl) T.z_len (by decide +kernel) (pa_cons (pv 0) pa_nil)) (pe_gv T.g_MOST_DIGITS))) (pss_one (ps_ret pe_non)) pss_nil)
      (pss_cons (ps_for PassesOwn.never rfl (pi_str (pv 0)) (pg_name (i := 1) sc_read_digits.nd rfl (.inl rfl))
      (pss_one (ps_if (pt_cmpR op_notIn_sign (pv 1) (pe_gv T.g_DIGITS) (by rfl)) (pss_one (ps_ret pe_non)) pss_nil)))
      (pss_cons (ps_if (PW.pt (pw_and (pt_cmpR op_gt (pe_callB call_len_str (by rfl) T.z_len (by decide +kernel) (pa_cons (pv 0) pa_nil)) pe_int (nomark _)) (pw_and1 (pt_cmpR op_eq (pe_ix ix_str (pv 0) pe_int (fun _ _ => rfl)) pe_str (nomark _))))) (pss_one (ps_ret pe_non)) pss_nil)
      (pss_one (ps_ret (pe_callTy call_int_str (by rfl) T.z_int (by decide +kernel) (pa_cons (pv 0) pa_nil))))))), ?_⟩
    have hlt := len_tl z
    by_cases hl : 1 ≤ (tl z).length ∧ (tl z).length ≤ 40
    · refine ⟨_, rfl, _, rfl, hz', _, _, rfl, rfl, _, rfl, if_pos_of (decide_eq_true (by omega)) ?_⟩
      refine ⟨_, _, rfl, rfl, _, rfl, ?_⟩
      rw [decide_eq_true (show ((z.length : Nat) : Int) ≤ 40 by omega)]
      refine iteF ?_
      refine ⟨_, rfl, _, rfl, for_it walk_str (fun i σ H' => ∃ v, σ = [some (.str z), v] ∧ H' = H ∧ ((tl z).take i).all isDig = true) ⟨none, rfl, rfl, rfl⟩ (fun _ _ _ _ _ => trivial) ?_ ?_⟩
      · rintro i x σ H1 H2 hi ⟨v, rfl, rfl, ha⟩ ⟨rfl, c, hc, rfl⟩
        have hc' : (tl z)[i]? = some c := by rw [← hc]; simp
        refine ⟨_, rfl, _, _, rfl, rfl, _, rfl, ?_⟩
        rw [mem_digits]
        cases hd : isDig c with
        | true =>
          refine iteF ⟨_, rfl, rfl, ?_⟩
          rw [List.take_add_one, hc', List.all_append, ha]
          simp [hd]
        | false =>
          refine iteT ?_
          have e : rdD (tl z) = none := by
            unfold rdD
            refine if_neg fun h => ?_
            have := List.all_eq_true.mp h.2.1 c (List.mem_of_getElem? hc')
            rw [hd] at this
            cases this
          rw [e] at q
          exact q
      · rintro σ H1 ⟨v, rfl, rfl, ha⟩
        have ha' : (tl z).all isDig = true := by
          have e : z.cps.size = (tl z).length := by simp
          rw [e, List.take_length] at ha
          exact ha
        have hh : (tl z)[0]? = some ((tl z)[0]'(by omega)) := List.getElem?_eq_getElem (by omega)
        have fin : ¬ (1 < (tl z).length ∧ (tl z).head? = some 48) → ∃ (a : Str) (n : Int), [V.str z] = [V.str a] ∧ PySem.intText? a = some n ∧ a.length ≤ 640 ∧ Q (.int n) H1 := fun hn => by
          have e : rdD (tl z) = some (NumText.digitsVal (tl z)) := by
            unfold rdD
            exact if_pos ⟨hl, ha', hn⟩
          rw [e] at q
          exact ⟨z, _, rfl, PySem.intText_digits (allDigits_of ha') (fun e => by rw [show tl z = [] from e] at hl; exact absurd hl.1 (by decide)) (by omega), by omega, q⟩
        refine ⟨_, rfl, _, rfl, hz', _, _, rfl, rfl, _, rfl, ie (fun c => ?_) (fun c => ?_)⟩
        · have c1 := of_decide_eq_true c
          refine ⟨_, rfl, z, 0, _, rfl, rfl, hz', atI_nat (j := 0) hh, rfl, _, rfl, ?_⟩
          rw [str_one (d := 48) (by decide +kernel)]
          refine ie (fun c2 => ?_) (fun c2 => ?_)
          · have c2 := of_decide_eq_true c2
            have e : rdD (tl z) = none := by
              unfold rdD
              refine if_neg fun h => h.2.2 ⟨by omega, ?_⟩
              rw [List.head?_eq_getElem?, hh, c2]
            rw [e] at q
            exact q
          · have c2 := of_decide_eq_false c2
            refine ⟨_, rfl, fin fun h => c2 ?_⟩
            rw [List.head?_eq_getElem?, hh] at h
            exact Option.some.inj h.2
        · have c1 := of_decide_eq_false c
          exact ⟨_, rfl, fin fun h => c1 (by omega)⟩
    · have e : rdD (tl z) = none := by
        unfold rdD
        exact if_neg fun h => hl h.1
      rw [e] at q
      refine ⟨_, rfl, _, rfl, hz', _, _, rfl, rfl, _, rfl, ie (fun c => ?_) (fun c => ?_)⟩
      · have c1 := of_decide_eq_true c
        refine ⟨_, _, rfl, rfl, _, rfl, ?_⟩
        rw [decide_eq_false (show ¬ ((z.length : Nat) : Int) ≤ 40 by omega)]
        exact q
      · exact ⟨_, rfl, q⟩
/-! read_value -/
def spReadValue (K : PySem.W.Frag) : Sp := fun vs H Q E => ∃ v th, vs = [v] ∧ ThOk K H v th ∧ ((¬ ∃ z, th = .d (.str z)) → E (.ref (ga K "NoValue")) none H) ∧
  ∀ z : Str, th = .d (.str z) → z.length ≤ 100000 ∧ (rdV (tl z) = none → ∀ H', Same H H' → E (.ref (ga K "NoValue")) none H') ∧ ∀ a b : Int, rdV (tl z) = some (a, b) → ∀ p H', H p = none → Same H H' → H' p = some (.tup [.int a, .int b]) → Q (.ref p) H'
theorem len_mk (l : List Nat) : (⟨l.toArray⟩ : Str).length = l.length := by rw [len_tl]
theorem d_read_value (T : Txt K mg) : Dn P w K mg base (L2.CX P w) 2 "read_value" (spReadValue K) := by
  obtain ⟨fd, F⟩ := T.f_read_value
  have D_read_digits := d_read_digits (P := P) (w := w) (base := base) T
  have D_common_divisor := d_common_divisor (P := P) (w := w) (base := base) T
  refine dnN T.g_read_value F (fun _ _ _ _ _ _ us hl => match us, hl with | [_], _ => rfl) sc_read_value (fun vs H Q E h => ?_) (fun cdv A outer s H vs Q E hr h => ?_)
  · obtain ⟨v, th, rfl, _⟩ := h
    rfl
  · obtain ⟨v, th, rfl, ht, hE, hz⟩ := h
    obtain ⟨t, ty, ki⟩ := ht.ty
    refine ⟨_, (pss_cons (ps_if (pt_not (pt_val (pe_callB call_isi (by rfl) T.z_isinstance (by decide +kernel) (pa_cons (pv 0) (pa_cons (pe_bltn (v := .ty "str") (by rfl) T.z_str (by decide +kernel) rfl) pa_nil))))) (pss_one (rs (by rfl) (takes_of rfl rfl rfl rfl) T.x_NoValue (by rfl))) pss_nil)
      (pss_cons (ps_set (i := 1) sc_read_value.nd rfl (.inl rfl) (pe_cmpR op_eq (pe_slice sl_str (pv 0) po_none (po_some pe_int)) pe_str (nomark _)))
      (pss_cons (ps_asg (pe_partition (pe_slice sl_str (pv 0) (po_some (pe_callTy call_int1 (by rfl) T.z_int (by decide +kernel) (pa_cons (pv 1) pa_nil))) po_none) pe_str) (pg_tup rfl (pgs_cons (pg_name (i := 2) sc_read_value.nd rfl (.inl rfl)) (pgs_cons (pg_name (i := 3) sc_read_value.nd rfl (.inl rfl)) (pgs_cons (pg_name (i := 4) sc_read_value.nd rfl (.inl rfl)) pgs_nil)))))
      (pss_cons (ps_set (i := 5) sc_read_value.nd rfl (.inl rfl) (cl D_read_digits (hr.mono (by decide)) (pa_cons (pv 2) pa_nil)))
      (pss_cons (ps_set (i := 6) sc_read_value.nd rfl (.inl rfl) pe_int)
      (pss_mid (ps_if (pt_cmpR op_eq (pv 3) pe_str (nomark _)) (pss_cons (ps_set (i := 6) sc_read_value.nd rfl (.inl rfl) (cl D_read_digits (hr.mono (by decide)) (pa_cons (pv 4) pa_nil)))
      (pss_one (ps_if (PW.pt (pw_or (pt_cmpR op_isN (pv 6) pe_non (nomark _)) (pw_or1 (pt_cmpR op_lt (pv 6) pe_int (nomark _))))) (pss_one (rs (by rfl) (takes_of rfl rfl rfl rfl) T.x_NoValue (by rfl))) pss_nil))) pss_nil)
      (pss_cons (ps_if (PW.pt (pw_or (pt_cmpR op_isN (pv 5) pe_non (nomark _)) (pw_or1 (PW.pt (pw_and (pt_val (pv 1)) (pw_and1 (pt_cmpR op_eq (pv 5) pe_int (nomark _)))))))) (pss_one (rs (by rfl) (takes_of rfl rfl rfl rfl) T.x_NoValue (by rfl))) pss_nil)
      (pss_cons (ps_if (pt_cmpR op_ne (cl D_common_divisor (hr.mono (by decide)) (pa_cons (pv 5) (pa_cons (pv 6) pa_nil))) pe_int (nomark _)) (pss_one (rs (by rfl) (takes_of rfl rfl rfl rfl) T.x_NoValue (by rfl))) pss_nil)
      (pss_cons (ps_if (pt_val (pv 1)) (pss_one (ps_set (i := 5) sc_read_value.nd rfl (.inl rfl) (pe_un un_neg (pv 5)))) pss_nil)
      (pss_one (ps_ret (pe_tup (pa_cons (pv 5) (pa_cons (pv 6) pa_nil)))))))))))))), ?_⟩
    refine ⟨_, rfl, _, _, t, _, _, rfl, .ty _, ty, ki .str, _, rfl, ?_⟩
    by_cases hn : ∃ z, th = .d (.str z)
    · obtain ⟨z, rfl⟩ := hn
      obtain ⟨hl, hN, hS⟩ := hz z rfl
      cases ht
      refine iteF ?_
      have hl' : z.length ≤ sizeLine := small40 hl
      have hbel : decide (V.str (cutS z none (some 1)) = V.str "-") = decide ((tl z).take 1 = [45]) := by
        rw [str_eq_tl, show tl (cutS z none (some 1)) = (tl z).take 1 from tl_cut_to z 1, show tl ("-" : Str) = [45] by decide +kernel]
      -- below = text[:1] == '-'
      refine ⟨_, rfl, _, rfl, _, rfl, hl', rfl, ?_⟩
      generalize hbe : decide (V.str (cutS z none (some 1)) = V.str "-") = below at *
      have hb' : decide ((tl z).take 1 = [45]) = below := hbel.symm
      -- text[int(below):].partition('/')
      refine ⟨_, rfl, _, rfl, .inr ⟨_, rfl, _, rfl, z, rfl, hl', ⟨_, rfl⟩, _, _, rfl, rfl, (by decide +kernel), Nat.le_trans (cutS_length _ _ _) hl', fun pt hp1 => ?_⟩⟩
      generalize eH1 : upd H pt _ = H1
      have s1 : Same H H1 := eH1 ▸ same_upd hp1
      have h1 : H1 pt = some _ := eH1 ▸ upd_same
      have hcut : tl (cutS z (some (if below = true then (1 : Int) else 0)) none) = if below = true then (tl z).drop 1 else tl z := by
        cases below with
        | true => exact tl_cut_from z 1
        | false => exact (tl_cut_from z 0).trans (List.drop_zero ..)
      generalize hw : cutS z (some (if below = true then (1 : Int) else 0)) none = bd at *
      have hbl : bd.length ≤ 100000 := by rw [← hw]; exact Nat.le_trans (cutS_length _ _ _) hl
      have hpart := partition_par bd "/" (by decide +kernel)
      rw [show tl ("/" : Str) = [47] by decide +kernel] at hpart
      refine ⟨pt, _, rfl, SqT.of h1, rfl, _, _, rfl, _, _, rfl, _, _, rfl, rfl, ?_⟩
      -- the two readings
      have key : rdV (tl z) = rdF below (rdB (rdP (tl bd)).2) (rdD (rdP (tl bd)).1) := by
        unfold rdV
        rw [hb', hcut]
      generalize hpp : Txt.partition bd "/" = pp at *
      have hpl : pp.1.length ≤ 100000 ∧ tl pp.1 = (rdP (tl bd)).1 := by
        rw [hpart]
        unfold rdP
        cases hpar : par [47] [] (tl bd) with
        | none => exact ⟨hbl, rfl⟩
        | some ab =>
          obtain ⟨a, b⟩ := ab
          have e := par_split _ _ _ _ hpar
          refine ⟨?_, rfl⟩
          have e2 := congrArg List.length e
          rw [List.nil_append, List.length_append] at e2
          rw [len_tl] at hbl
          show (⟨a.toArray⟩ : Str).length ≤ 100000
          rw [len_mk]
          omega
      refine ⟨_, rfl, _, rfl, hpl.1, ?_⟩
      rw [hpl.2]
      -- if line == '/'
      refine ⟨fun σ' H' => H' = H1 ∧ ∃ b : Nat, rdB (rdP (tl bd)).2 = some b ∧
        σ' = [some (.str z), some (.bl below), some (.str pp.1), some (.str pp.2.1), some (.str pp.2.2), some (optV (rdD (rdP (tl bd)).1)), some (.int b)], ?_, ?_⟩
      · cases hpar : par [47] [] (tl bd) with
        | none =>
          rw [hpar] at hpart
          have e1 : pp.2.1 = Str.empty := by rw [hpart]
          have e2 : (rdP (tl bd)).2 = none := by unfold rdP; rw [hpar]
          refine ⟨_, rfl, rfl, _, rfl, ?_⟩
          rw [e1]
          refine if_neg_of (by decide +kernel) ⟨rfl, 1, ?_, rfl⟩
          rw [e2]
          rfl
        | some ab =>
          obtain ⟨a, b⟩ := ab
          rw [hpar] at hpart
          have e1 : pp.2.1 = "/" := by rw [hpart]
          have e2 : (rdP (tl bd)).2 = some b := by unfold rdP; rw [hpar]
          have e3 : tl pp.2.2 = b := by rw [hpart]
          rw [e2] at key ⊢
          refine ⟨_, rfl, rfl, _, rfl, ?_⟩
          rw [e1]
          refine if_pos_of (by decide +kernel) ?_
          have hbl2 : pp.2.2.length ≤ 100000 := by
            have e2 := congrArg List.length (par_split _ _ _ _ hpar)
            rw [List.nil_append, List.length_append, List.length_cons] at e2
            rw [len_tl] at hbl
            rw [len_tl, e3]
            omega
          refine ⟨_, rfl, _, rfl, hbl2, ?_⟩
          rw [e3]
          cases hd : rdD b with
          | none =>
            have e4 : rdB (some b) = none := by simp only [rdB, hd]
            rw [e4] at key
            refine ⟨_, rfl, rfl, _, rfl, iteT ?_⟩
            exact hN key H1 s1
          | some n =>
            have e4 : rdB (some b) = if 2 ≤ n then some n else none := by simp only [rdB, hd]
            rw [e4] at key ⊢
            refine ⟨_, rfl, rfl, _, rfl, iteF ?_⟩
            refine ⟨_, rfl, _, _, rfl, rfl, _, rfl, ie (fun c => ?_) (fun c => ?_)⟩
            · have c := of_decide_eq_true c
              rw [if_neg (by omega)] at key
              exact hN key H1 s1
            · have c := of_decide_eq_false c
              exact ⟨rfl, n, if_pos (by omega), rfl⟩
      · rintro σ' H' ⟨rfl, b, eb, rfl⟩
        rw [eb] at key
        cases hd : rdD (rdP (tl bd)).1 with
        | none =>
          rw [hd] at key
          refine ⟨_, rfl, rfl, _, rfl, iteT ?_⟩
          exact hN key _ s1
        | some n =>
          rw [hd] at key
          refine ⟨_, rfl, rfl, _, rfl, iteF ?_⟩
          refine ⟨_, rfl, _, rfl, ?_⟩
          have hcd : cd (n : Int) (b : Int) = ((Nat.gcd n b : Nat) : Int) := rfl
          -- what follows the two tests
          have fin : (below && decide (n = 0)) = false → Nat.gcd n b = 1 → ∀ (p : Addr) (H2 : Hp), H' p = none → Same H' H2 → H2 p = some (.tup [.int (if below then -(n : Int) else (n : Int)), .int (b : Int)]) → Q (.ref p) H2 := fun c1 c2 p H2 hp s2 h2 => by
            refine hS _ _ ?_ p H2 (s1.free hp) (s1.trans s2) h2
            rw [key]
            show (if (below && decide (n = 0) || decide (Nat.gcd n b ≠ 1)) = true then none else some (if below then -(n : Int) else (n : Int), (b : Int))) = _
            rw [c1, if_neg]
            rw [Bool.false_or]
            exact fun z => of_decide_eq_true z c2
          have bad : ((below && decide (n = 0)) || decide (Nat.gcd n b ≠ 1)) = true → E (.ref (ga K "NoValue")) none H' := fun c => by
            refine hN ?_ _ s1
            rw [key]
            show (if (below && decide (n = 0) || decide (Nat.gcd n b ≠ 1)) = true then none else some (if below then -(n : Int) else (n : Int), (b : Int))) = _
            rw [if_pos c]
          have e0 : decide (optV (some n) = V.int 0) = decide (n = 0) := decide_eq_decide.mpr ⟨fun e => by have e' : V.int (n : Int) = V.int 0 := e; injection e'; omega, fun e => by rw [e]; rfl⟩
          have e1 : decide (V.int (cd (n : Int) (b : Int)) = V.int 1) = decide (Nat.gcd n b = 1) := decide_eq_decide.mpr ⟨fun e => by injection e with e; rw [hcd] at e; omega, fun e => by rw [hcd, e]; rfl⟩
          cases hbb : below with
          | true =>
            rw [hbb] at fin bad
            refine iteT ⟨_, rfl, rfl, _, rfl, ?_⟩
            refine ie (fun c => bad (by rw [e0] at c; rw [c]; rfl)) (fun c => ?_)
            rw [e0] at c
            refine ⟨_, rfl, _, rfl, _, _, rfl, rfl, _, rfl, ?_⟩
            refine ie (fun c2 => bad ?_) (fun c2 => ?_) <;> rw [e1] at c2
            · rw [c]
              simpa using c2
            · have c3 : Nat.gcd n b = 1 := by simpa using c2
              refine ⟨_, rfl, _, rfl, iteT ?_⟩
              refine ⟨_, rfl, _, rfl, _, rfl, _, rfl, (by show 2 ≤ sizeLine; decide), fun p hp => ?_⟩
              exact fin (by rw [c]; rfl) c3 p _ hp (same_upd hp) upd_same
          | false =>
            rw [hbb] at fin bad
            refine iteF ?_
            refine iteF ?_
            refine ⟨_, rfl, _, rfl, _, _, rfl, rfl, _, rfl, ?_⟩
            refine ie (fun c2 => bad ?_) (fun c2 => ?_) <;> rw [e1] at c2
            · simpa using c2
            · have c3 : Nat.gcd n b = 1 := by simpa using c2
              refine ⟨_, rfl, _, rfl, iteF ?_⟩
              refine ⟨_, rfl, _, rfl, (by show 2 ≤ sizeLine; decide), fun p hp => ?_⟩
              exact fin rfl c3 p _ hp (same_upd hp) upd_same
    · have e1 : th.is .str = false := by
        cases th with
        | o => rfl
        | d d => cases d <;> first | rfl | exact absurd ⟨_, rfl⟩ hn
      rw [e1]
      exact hE hn
end
end K01
namespace K01
open PySem PySem.Spec PyProof.Rows L2 He TL EL
section
variable {P : Program} {w : World} {K : PySem.W.Frag} {mg : Str → Option Value} {base : Heap}
/-! _law_begin -/
def spBegin (K : PySem.W.Frag) : Sp := fun vs H Q _ => ∃ (a : Addr) (ns : List Int), vs = [.ref a] ∧ SqL K H a (ns.map V.int) ∧ ∀ p l H', H p = none → H l = none → Same H H' → Src H' p l → Q (.ref p) H'
theorem cut_map (ns : List Int) (lo hi : Option Int) : ∃ ms : List Int, cutV (ns.map V.int) lo hi = ms.map V.int := by
  unfold cutV
  rw [← List.map_drop, ← List.map_take]
  exact ⟨_, rfl⟩
theorem d_begin (T : Txt K mg) : Dn P w K mg base CX0 1 "_law_begin" (spBegin K) := by
  obtain ⟨fd, F⟩ := T.f__law_begin
  refine dnN T.g__law_begin F (fun _ _ _ _ _ _ us hl => match us, hl with | [_], _ => rfl) sc__law_begin (fun vs H Q E h => ?_) (fun cdv A outer s H vs Q E hr h => ?_)
  · obtain ⟨a, ns, rfl, _⟩ := h
    rfl
  · obtain ⟨a, ns, rfl, hS, q⟩ := h
    refine ⟨_, PSs.nox (pss_one (ps_ret (pe_lst (pa_cons (pe_callTy call_list_of (by rfl) T.z_list (by decide +kernel) (pa_cons (pe_slice sl_list (pv 0) po_none (po_some pe_int)) pa_nil)) (pa_cons pe_int (pa_cons pe_int (pa_cons pe_int pa_nil))))))), ?_⟩
    obtain ⟨ms, hm⟩ := cut_map ns none (some 63)
    refine ⟨_, rfl, _, rfl, _, _, rfl, hS, fun c nc => ?_⟩
    rw [hm]
    generalize eH1 : upd H c _ = H1
    have s1 : Same H H1 := eH1 ▸ same_upd nc
    have h1 : H1 c = some _ := eH1 ▸ upd_same
    refine ⟨_, _, rfl, .inl (SqL.of h1), fun l nl => ?_⟩
    generalize eH2 : upd H1 l _ = H2
    have s2 : Same H1 H2 := eH2 ▸ same_upd nl
    have h2 : H2 l = some _ := eH2 ▸ upd_same
    refine ⟨(by show 4 ≤ sizeLine; decide), fun p np => ?_⟩
    generalize eH3 : upd H2 p _ = H3
    have s3 : Same H2 H3 := eH3 ▸ same_upd np
    have h3 : H3 p = some _ := eH3 ▸ upd_same
    exact q p l H3 (s1.free (s2.free np)) (s1.free nl) (s1.trans (s2.trans s3)) ⟨ms, 0, 0, 7, h3, s3 _ _ h2, by omega, by omega, by omega⟩
/-! _law_draw -/
def spDraw : Sp := fun vs H Q _ => ∃ (p l : Addr) (L : Int), vs = [.ref p, .int L] ∧ 0 < L ∧ L ≤ 1000000000000000000 ∧ Src H p l ∧ ∀ (n : Int) (H' : Hp), 0 ≤ n → n < L → Src H' p l → But p H H' → Q (.int n) H'
theorem mulok {i j : Int} {a : Nat} (h1 : i.natAbs < 2 ^ 70) (h2 : j.natAbs < 2 ^ 70) : CMulW i j := wide_mul h1 h2 (by decide) (by decide) (by decide)
theorem pow18 : ((10 : Int) ^ (18 : Int).toNat) = 1000000000000000000 := by decide +kernel
theorem d_draw (T : Txt K mg) : Dn P w K mg base CX0 1 "_law_draw" spDraw := by
  obtain ⟨fd, F⟩ := T.f__law_draw
  refine dnN T.g__law_draw F (fun _ _ _ _ _ _ us hl => match us, hl with | [_, _], _ => rfl) sc__law_draw (fun vs H Q E h => ?_) (fun cdv A outer s H vs Q E hr h => ?_)
  · obtain ⟨p, l, L, rfl, _⟩ := h
    rfl
  · obtain ⟨p, l, L, rfl, hL0, hL1, hS, q⟩ := h
    obtain ⟨ns, i, c, r, h1, h2, hc, hr0, hr1⟩ := id hS
    have npl : l ≠ p := hS.ne
    have hpw : CPow 10 18 := ⟨by decide, by decide, by decide⟩
    refine ⟨_, PSs.nox (pss_mid (ps_if (PW.pt (pw_and (pt_cmpR op_lt (pe_ix ix_list (pv 0) pe_int (fun _ _ => rfl)) (pe_op op_pow pe_int pe_int) (nomark _)) (pw_and1 (pt_cmpR op_lt (pe_ix ix_list (pv 0) pe_int (fun _ _ => rfl)) (pe_callB call_len_seq (by rfl) T.z_len (by decide +kernel) (pa_cons (pe_ix ix_list (pv 0) pe_int (fun _ _ => rfl)) pa_nil)) (nomark _))))) (pss_cons (ps_set (i := 2) sc__law_draw.nd rfl (.inl rfl) (pe_callTy call_int1 (by rfl) T.z_int (by decide +kernel) (pa_cons (pe_ix ix_list (pe_ix ix_list (pv 0) pe_int (fun _ _ => rfl)) (pe_ix ix_list (pv 0) pe_int (fun _ _ => rfl)) (fun _ _ => rfl)) pa_nil)))
      (pss_cons (ps_asg (pe_op op_add (pe_ix ix_list (pv 0) pe_int (fun _ _ => rfl)) pe_int) (pg_sub (pv 0) pe_int set_list))
      (pss_cons (ps_asg pe_int (pg_sub (pv 0) pe_int set_list))
      (pss_mid (ps_if (pt_cmpR op_ge (pv 2) (pe_op op_pow pe_int pe_int) (nomark _)) (pss_one (ps_asg (pv 2) (pg_sub (pv 0) pe_int set_list))) pss_nil)
      (pss_one (ps_asg (pe_op op_mod (pe_op op_add (pe_op op_add (pe_op op_mulW (pe_ix ix_list (pv 0) pe_int (fun _ _ => rfl)) pe_int) (pe_op op_mod (pv 2) pe_int)) pe_int) pe_int) (pg_sub (pv 0) pe_int set_list))))))) pss_nil)
      (pss_cons (ps_if (pt_cmpR op_ge (pe_ix ix_list (pv 0) pe_int (fun _ _ => rfl)) (pe_op op_pow pe_int pe_int) (nomark _)) (pss_cons (ps_set (i := 3) sc__law_draw.nd rfl (.inl rfl) (pe_op op_mod (pe_ix ix_list (pv 0) pe_int (fun _ _ => rfl)) (pv 1)))
      (pss_cons (ps_asg (pe_op op_fdivW (pe_ix ix_list (pv 0) pe_int (fun _ _ => rfl)) (pv 1)) (pg_sub (pv 0) pe_int set_list))
      (pss_one (ps_ret (pv 3))))) pss_nil)
      (pss_cons (ps_asg (pe_op op_mod (pe_op op_add (pe_op op_mulW (pe_ix ix_list (pv 0) pe_int (fun _ _ => rfl)) pe_int) pe_int) pe_int) (pg_sub (pv 0) pe_int set_list))
      (pss_one (ps_ret (pe_op op_mod (pe_op op_fdivW (pe_ix ix_list (pv 0) pe_int (fun _ _ => rfl)) pe_int) (pv 1))))))), ?_⟩
    refine ⟨fun σ' H' => ∃ v2, σ' = [some (.ref p), some (.int L), v2, none] ∧ Src H' p l ∧ But p H H', ?_, ?_⟩
    · -- the first test
      refine ⟨_, rfl, _, _, 2, _, rfl, rfl, SqL.of h1, atI_nat (j := 2) rfl, _, _, rfl, rfl, hpw, _, _, rfl, rfl, _, rfl, ie (fun c1 => ?_) (fun c1 => ?_)⟩
      · refine ⟨_, rfl, _, _, 1, _, rfl, rfl, SqL.of h1, atI_nat (j := 1) rfl, _, rfl, _, _, 0, _, rfl, rfl, SqL.of h1, atI_nat (j := 0) rfl, _, _, rfl, .inl (SqL.of h2), _, _, rfl, rfl, _, rfl, ie (fun c2 => ?_) (fun c2 => ?_)⟩
        · have c2 := of_decide_eq_true c2
          rw [List.length_map] at c2
          have hi : i < ns.length := by omega
          have hg : (ns.map V.int)[i]? = some (.int ns[i]) := by
            rw [List.getElem?_map, List.getElem?_eq_getElem hi]
            rfl
          generalize ns[i] = z at hg
          -- _law_cell = int(_law_source[0][_law_source[1]])
          refine ⟨_, rfl, _, _, 0, _, rfl, rfl, SqL.of h1, atI_nat (j := 0) rfl, _, rfl, _, _, 1, _, rfl, rfl, SqL.of h1, atI_nat (j := 1) rfl, _, _, _, _, rfl, rfl, SqL.of h2, atI_nat hg, .inl ⟨_, rfl, ?_⟩⟩
          -- _law_source[1] = _law_source[1] + 1
          refine ⟨_, rfl, _, _, 1, _, rfl, rfl, SqL.of h1, atI_nat (j := 1) rfl, _, _, rfl, rfl, _, rfl, p, _, 1, 1, rfl, rfl, h1, rfl, ?_⟩
          generalize e3 : upd H p _ = H3
          have b3 : But p H H3 := e3 ▸ but_upd
          have h3 : H3 p = some (.lst [.ref l, .int (i + 1), .int c, .int r]) := e3 ▸ upd_same
          -- _law_source[2] = 0
          refine ⟨_, rfl, p, _, 2, 2, rfl, rfl, h3, rfl, ?_⟩
          generalize e4 : upd H3 p _ = H4
          have b4 : But p H3 H4 := e4 ▸ but_upd
          have h4 : H4 p = some (.lst [.ref l, .int (i + 1), .int 0, .int r]) := e4 ▸ upd_same
          -- if _law_cell >= 10 ** 18: _law_source[2] = _law_cell
          refine ⟨fun σ' H' => ∃ c' : Int, 0 ≤ c' ∧ σ' = [some (.ref p), some (.int L), some (.int z), none] ∧ But p H H' ∧ H' p = some (.lst [.ref l, .int (i + 1), .int c', .int r]), ?_, ?_⟩
          · refine ⟨_, rfl, _, _, rfl, rfl, hpw, _, _, rfl, rfl, _, rfl, ie (fun c3 => ?_) (fun c3 => ?_)⟩
            · have c3 := of_decide_eq_true c3
              rw [pow18] at c3
              refine ⟨_, rfl, _, rfl, p, _, 2, 2, rfl, rfl, h4, rfl, ?_⟩
              exact ⟨z, by omega, rfl, b3.trans (b4.trans but_upd), upd_same⟩
            · exact ⟨0, by omega, rfl, b3.trans b4, h4⟩
          · rintro σ' H5 ⟨c', hc', rfl, b5, h5⟩
            have hm : CMulW r 48271 := mulok (a := 0) (by omega) (by decide)
            have hmod : 0 ≤ (r * 48271 + z % 2147483629 + 11) % 2147483647 ∧ (r * 48271 + z % 2147483629 + 11) % 2147483647 < 2147483647 := ⟨Int.emod_nonneg _ (by decide), Int.emod_lt_of_pos _ (by decide)⟩
            refine ⟨_, rfl, _, _, 3, _, rfl, rfl, SqL.of h5, atI_nat (j := 3) rfl, _, _, rfl, rfl, hm, _, rfl, _, _, rfl, rfl, (by show (0 : Int) < 2147483629; decide), _, _, rfl, rfl, _, _, rfl, rfl, _, _, rfl, rfl, (by show (0 : Int) < 2147483647; decide), _, rfl, p, _, 3, 3, rfl, rfl, h5, rfl, ?_⟩
            exact ⟨_, rfl, ⟨ns, i + 1, c', _, upd_same, by rw [upd_ne npl]; exact b5 _ _ h2 npl, hc', hmod.1, hmod.2⟩, b5.trans but_upd⟩
        · exact ⟨none, rfl, hS, .refl _ _⟩
      · exact ⟨none, rfl, hS, .refl _ _⟩
    · rintro σ' H1 ⟨v2, rfl, hS1, b1⟩
      clear h1 h2 hc hr0 hr1 npl
      obtain ⟨ns, i, c, r, h1, h2, hc, hr0, hr1⟩ := id hS1
      have npl : l ≠ p := hS1.ne
      refine ⟨_, rfl, _, _, 2, _, rfl, rfl, SqL.of h1, atI_nat (j := 2) rfl, _, _, rfl, rfl, hpw, _, _, rfl, rfl, _, rfl, ie (fun c1 => ?_) (fun c1 => ?_)⟩
      · refine ⟨_, rfl, _, _, 2, _, rfl, rfl, SqL.of h1, atI_nat (j := 2) rfl, _, rfl, _, _, rfl, rfl, hL0, ?_⟩
        have hdv : CDivW c L := wide_div hL0 (b := 64) (by omega) (by decide) (by decide)
        refine ⟨_, rfl, _, _, 2, _, rfl, rfl, SqL.of h1, atI_nat (j := 2) rfl, _, rfl, _, _, rfl, rfl, hdv, _, rfl, p, _, 2, 2, rfl, rfl, h1, rfl, ?_⟩
        refine ⟨_, rfl, ?_⟩
        refine q (c % L) _ (Int.emod_nonneg _ (by omega)) (Int.emod_lt_of_pos _ hL0) ⟨ns, i, c / L, r, upd_same, by rw [upd_ne npl]; exact h2, Int.ediv_nonneg hc (by omega), hr0, hr1⟩ (b1.trans but_upd)
      · have hm : CMulW r 39373 := mulok (a := 0) (by omega) (by decide)
        have hmod : 0 ≤ (r * 39373 + 12820163) % 2147483647 ∧ (r * 39373 + 12820163) % 2147483647 < 2147483647 := ⟨Int.emod_nonneg _ (by decide), Int.emod_lt_of_pos _ (by decide)⟩
        refine ⟨_, rfl, _, _, 3, _, rfl, rfl, SqL.of h1, atI_nat (j := 3) rfl, _, _, rfl, rfl, hm, _, _, rfl, rfl, _, _, rfl, rfl, (by show (0 : Int) < 2147483647; decide), _, rfl, p, _, 3, 3, rfl, rfl, h1, rfl, ?_⟩
        generalize e3 : upd H1 p _ = H3
        have b3 : But p H1 H3 := e3 ▸ but_upd
        have h3 : H3 p = some (.lst [.ref l, .int i, .int c, .int ((r * 39373 + 12820163) % 2147483647)]) := e3 ▸ upd_same
        generalize (r * 39373 + 12820163) % 2147483647 = r2 at *
        have hdv : CDivW r2 16 := ⟨by decide, by decide⟩
        refine ⟨_, rfl, _, _, 3, _, rfl, rfl, SqL.of h3, atI_nat (j := 3) rfl, _, _, rfl, rfl, hdv, _, rfl, _, _, rfl, rfl, hL0, ?_⟩
        exact q (r2 / 16 % L) _ (Int.emod_nonneg _ (by omega)) (Int.emod_lt_of_pos _ hL0) ⟨ns, i, c, r2, h3, b3 _ _ h2 npl, hc, hmod.1, hmod.2⟩ (b1.trans b3)
end
end K01
namespace K01
open PySem PySem.Spec PyProof.Rows L2 He TL EL
section
variable {P : Program} {w : World} {K : PySem.W.Frag} {mg : Str → Option Value} {base : Heap}
/-! _law_number -/
def spNumber : Sp := fun vs H Q _ => ∃ p l : Addr, vs = [.ref p] ∧ Src H p l ∧ ∀ (n : Int) (H' : Hp), n.natAbs < 2 ^ 120 → Src H' p l → But p H H' → Q (.int n) H'
theorem d_number (T : Txt K mg) : Dn P w K mg base CX0 2 "_law_number" spNumber := by
  obtain ⟨fd, F⟩ := T.f__law_number
  have D__law_draw := d_draw (P := P) (w := w) (base := base) T
  refine dnN T.g__law_number F (fun _ _ _ _ _ _ us hl => match us, hl with | [_], _ => rfl) sc__law_number (fun vs H Q E h => ?_) (fun cdv A outer s H vs Q E hr h => ?_)
  · obtain ⟨p, l, rfl, _⟩ := h
    rfl
  · obtain ⟨p, l, rfl, hS, q⟩ := h
    have hpw : CPow 10 18 := ⟨by decide, by decide, by decide⟩
    refine ⟨_, PSs.nox (pss_cons (ps_set (i := 1) sc__law_number.nd rfl (.inl rfl) (cl D__law_draw (hr.mono (by decide)) (pa_cons (pv 0) (pa_cons pe_int pa_nil))))
      (pss_cons (ps_if (pt_cmpR op_eq (pv 1) pe_int (nomark _)) (pss_one (ps_ret (pe_op op_sub (cl D__law_draw (hr.mono (by decide)) (pa_cons (pv 0) (pa_cons pe_int pa_nil))) pe_int))) pss_nil)
      (pss_cons (ps_if (pt_cmpR op_eq (pv 1) pe_int (nomark _)) (pss_one (ps_ret (pe_op op_sub (cl D__law_draw (hr.mono (by decide)) (pa_cons (pv 0) (pa_cons pe_int pa_nil))) pe_int))) pss_nil)
      (pss_cons (ps_set (i := 2) sc__law_number.nd rfl (.inl rfl) (pe_op op_add (pe_op op_mulW (cl D__law_draw (hr.mono (by decide)) (pa_cons (pv 0) (pa_cons (pe_op op_pow pe_int pe_int) pa_nil))) (pe_op op_pow pe_int pe_int)) (cl D__law_draw (hr.mono (by decide)) (pa_cons (pv 0) (pa_cons (pe_op op_pow pe_int pe_int) pa_nil)))))
      (pss_cons (ps_if (pt_cmpR op_eq (cl D__law_draw (hr.mono (by decide)) (pa_cons (pv 0) (pa_cons pe_int pa_nil))) pe_int (nomark _)) (pss_one (ps_ret (pe_un un_neg (pv 2)))) pss_nil)
      (pss_one (ps_ret (pv 2)))))))), ?_⟩
    refine ⟨_, rfl, p, l, 3, rfl, by decide, by decide, hS, fun k H1 k0 k1 S1 b1 => ?_⟩
    refine ⟨_, rfl, rfl, _, rfl, ie (fun c => ?_) (fun c => ?_)⟩
    · refine ⟨_, rfl, p, l, 7, rfl, by decide, by decide, S1, fun n H2 n0 n1 S2 b2 => ?_⟩
      exact ⟨_, _, rfl, rfl, q _ _ (Nat.lt_of_le_of_lt (m := 10) (by omega) (by decide)) S2 (b1.trans b2)⟩
    · refine ⟨_, rfl, rfl, _, rfl, ie (fun c => ?_) (fun c => ?_)⟩
      · refine ⟨_, rfl, p, l, 2001, rfl, by decide, by decide, S1, fun n H2 n0 n1 S2 b2 => ?_⟩
        exact ⟨_, _, rfl, rfl, q _ _ (Nat.lt_of_le_of_lt (m := 3000) (by omega) (by decide)) S2 (b1.trans b2)⟩
      · refine ⟨_, rfl, _, _, rfl, rfl, hpw, p, l, _, rfl, by decide +kernel, by decide +kernel, S1, fun x H2 x0 x1 S2 b2 => ?_⟩
        rw [pow18] at x1
        refine ⟨_, _, rfl, rfl, hpw, _, _, rfl, rfl, ?_, ?_⟩
        · rw [pow18]
          exact mulok (a := 0) (by omega) (by decide)
        · refine ⟨_, rfl, _, _, rfl, rfl, hpw, p, l, _, rfl, by decide +kernel, by decide +kernel, S2, fun y H3 y0 y1 S3 b3 => ?_⟩
          rw [pow18] at y1
          refine ⟨_, _, rfl, rfl, ?_⟩
          rw [pow18]
          refine ⟨_, rfl, p, l, 2, rfl, by decide, by decide, S3, fun k2 H4 _ _ S4 b4 => ?_⟩
          have hz : (x * 1000000000000000000 + y).natAbs < 2 ^ 120 := Nat.lt_of_le_of_lt (m := 1000000000000000000000000000000000000) (by omega) (by decide)
          have bb := b1.trans (b2.trans (b3.trans b4))
          refine ⟨rfl, _, rfl, ie (fun c => ?_) (fun c => ?_)⟩
          · exact ⟨_, rfl, _, rfl, q _ _ (by rw [Int.natAbs_neg]; exact hz) S4 bb⟩
          · exact ⟨_, rfl, q _ _ hz S4 bb⟩
/-! _law_divisor -/
theorem d_divisor (T : Txt K mg) : Dn P w K mg base CX0 1 "_law_divisor" spCD := by
  obtain ⟨fd, F⟩ := T.f__law_divisor
  refine dnN T.g__law_divisor F (fun _ _ _ _ _ _ us hl => match us, hl with | [_, _], _ => rfl) sc__law_divisor (fun vs H Q E h => ?_) (fun cdv A outer s H vs Q E hr h => ?_)
  · obtain ⟨a, b, rfl, _⟩ := h
    rfl
  · obtain ⟨a, b, rfl, q⟩ := h
    refine ⟨_, PSs.nox (pss_cons (ps_set (i := 0) sc__law_divisor.nd rfl (.inl rfl) (pe_callB call_abs (by rfl) T.z_abs (by decide +kernel) (pa_cons (pv 0) pa_nil)))
      (pss_cons (ps_set (i := 1) sc__law_divisor.nd rfl (.inl rfl) (pe_callB call_abs (by rfl) T.z_abs (by decide +kernel) (pa_cons (pv 1) pa_nil)))
      (pss_cons (ps_while PassesOwn.never (pt_cmpR op_gt (pv 1) pe_int (nomark _))
      (pss_cons (ps_set (i := 2) sc__law_divisor.nd rfl (.inl rfl) (pe_op op_mod (pv 0) (pv 1)))
      (pss_cons (ps_set (i := 0) sc__law_divisor.nd rfl (.inl rfl) (pv 1))
      (pss_one (ps_set (i := 1) sc__law_divisor.nd rfl (.inl rfl) (pv 2))))))
      (pss_one (ps_ret (pv 0)))))), ?_⟩
    refine ⟨_, rfl, _, rfl, _, rfl, _, rfl, ?_⟩
    refine ⟨fun m σ H' => ∃ (x y : Nat) (v : Option V), m = y ∧ σ = [some (.int x), some (.int y), v] ∧ H' = H ∧ Nat.gcd x y = Nat.gcd a.natAbs b.natAbs, ⟨b.natAbs, a.natAbs, b.natAbs, none, rfl, ?_, rfl, rfl⟩, ?_⟩
    · have e : ∀ z : Int, (if z < 0 then -z else z) = (z.natAbs : Int) := fun z => by split <;> omega
      show [some (V.int _), some (V.int _), none] = _
      rw [e, e]
    · rintro m σ H' ⟨x, y, v, em, rfl, rfl, hg⟩
      subst m
      refine ⟨_, rfl, _, _, rfl, rfl, _, rfl, ie (fun h1 => ?_) (fun h1 => ?_)⟩
      · have hy : 0 < y := by
          have := of_decide_eq_true h1
          omega
        refine ⟨_, fun σ' H2 hN => hN, _, rfl, _, rfl, _, _, rfl, rfl, (by show (0 : Int) < (y : Int); omega), _, rfl, _, rfl, ?_⟩
        exact ⟨x % y, Nat.mod_lt _ hy, y, x % y, _, rfl, rfl, rfl, by rw [← hg, Nat.gcd_comm x y, Nat.gcd_rec y x, Nat.gcd_comm]⟩
      · have hy : y = 0 := by
          have := of_decide_eq_false h1
          omega
        refine ⟨_, rfl, ?_⟩
        subst hy
        rw [Nat.gcd_zero_right] at hg
        unfold cd at q
        rw [← hg] at q
        exact q
/-! _law_is_integer -/
theorem d_is_integer (T : Txt K mg) : Dn P w K mg base CX0 1 "_law_is_integer" (spIsWhole K) := by
  obtain ⟨fd, F⟩ := T.f__law_is_integer
  refine dnN T.g__law_is_integer F (fun _ _ _ _ _ _ us hl => match us, hl with | [_], _ => rfl) sc__law_is_integer (fun vs H Q E h => ?_) (fun cdv A outer s H vs Q E hr h => ?_)
  · obtain ⟨v, th, rfl, _⟩ := h
    rfl
  · obtain ⟨v, th, rfl, ht, q⟩ := h
    obtain ⟨t, ty, ki⟩ := ht.ty
    refine ⟨_, PSs.nox (pss_one (ps_ret (pe_and (pe_callB call_isi (by rfl) T.z_isinstance (by decide +kernel) (pa_cons (pv 0) (pa_cons (pe_bltn (v := .ty "int") (by rfl) T.z_int (by decide +kernel) rfl) pa_nil))) (pe_one (pe_not (pe_callB call_isi (by rfl) T.z_isinstance (by decide +kernel) (pa_cons (pv 0) (pa_cons (pe_bltn (v := .ty "bool") (by rfl) T.z_bool (by decide +kernel) rfl) pa_nil)))))))), ?_⟩
    refine ⟨_, rfl, _, _, t, _, _, rfl, .ty _, ty, ki .int, _, rfl, ie (fun h1 => ?_) (fun h1 => ?_)⟩
    · refine ⟨_, rfl, _, _, t, _, _, rfl, .ty _, ty, ki .bl, _, rfl, ?_⟩
      have e : isWholeT th = !th.is .bl := by unfold isWholeT; rw [h1]; rfl
      rw [e] at q
      exact q
    · have e : isWholeT th = false := by unfold isWholeT; rw [h1]; rfl
      rw [e] at q
      exact q
/-! _law_is_lowest -/
def spLowest (K : PySem.W.Frag) : Sp := fun vs H Q _ => ∃ (p : Addr) (a b u l : Int), vs = [.ref p, .int u, .int l] ∧ SqT K H p [.int a, .int b] ∧ Low a b ∧ a * l = u * b ∧ CMulW a l ∧ CMulW u b ∧ Q (.bl true) H
theorem d_is_lowest (T : Txt K mg) : Dn P w K mg base CX0 2 "_law_is_lowest" (spLowest K) := by
  obtain ⟨fd, F⟩ := T.f__law_is_lowest
  have D__law_is_integer := d_is_integer (P := P) (w := w) (base := base) T
  have D__law_divisor := d_divisor (P := P) (w := w) (base := base) T
  refine dnN T.g__law_is_lowest F (fun _ _ _ _ _ _ us hl => match us, hl with | [_, _, _], _ => rfl) sc__law_is_lowest (fun vs H Q E h => ?_) (fun cdv A outer s H vs Q E hr h => ?_)
  · obtain ⟨p, a, b, u, l, rfl, _⟩ := h
    rfl
  · obtain ⟨p, a, b, u, l, rfl, hS, hL, he, m1, m2, q⟩ := h
    have hd : Dp K H (.ref p) (.tuple [.int a, .int b]) := .tup hS (.cons (.int _) (.cons (.int _) .nil))
    refine ⟨_, PSs.nox (pss_cons (ps_if (PW.pt (pw_or (pt_not (pt_val (pe_callB call_isi (by rfl) T.z_isinstance (by decide +kernel) (pa_cons (pv 0) (pa_cons (pe_bltn (v := .ty "tuple") (by rfl) T.z_tuple (by decide +kernel) rfl) pa_nil))))) (pw_or1 (pt_cmpR op_ne (pe_callB call_len_seq (by rfl) T.z_len (by decide +kernel) (pa_cons (pv 0) pa_nil)) pe_int (nomark _))))) (pss_one (ps_ret pe_bl)) pss_nil)
      (pss_cons (ps_if (PW.pt (pw_or (pt_not (pt_val (cl D__law_is_integer (hr.mono (by decide)) (pa_cons (pe_ix ix_tup (pv 0) pe_int (fun _ _ => rfl)) pa_nil)))) (pw_or (pt_not (pt_val (cl D__law_is_integer (hr.mono (by decide)) (pa_cons (pe_ix ix_tup (pv 0) pe_int (fun _ _ => rfl)) pa_nil)))) (pw_or1 (pt_cmpR op_lt (pe_ix ix_tup (pv 0) pe_int (fun _ _ => rfl)) pe_int (nomark _)))))) (pss_one (ps_ret pe_bl)) pss_nil)
      (pss_one (ps_ret (pe_and (pe_cmpR op_eq (pe_op op_mulW (pe_ix ix_tup (pv 0) pe_int (fun _ _ => rfl)) (pv 2)) (pe_op op_mulW (pv 1) (pe_ix ix_tup (pv 0) pe_int (fun _ _ => rfl))) (nomark _)) (pe_one (pe_cmpR op_eq (cl D__law_divisor (hr.mono (by decide)) (pa_cons (pe_ix ix_tup (pv 0) pe_int (fun _ _ => rfl)) (pa_cons (pe_ix ix_tup (pv 0) pe_int (fun _ _ => rfl)) pa_nil))) pe_int (nomark _)))))))), ?_⟩
    refine ⟨_, rfl, _, _, _, _, _, rfl, .ty _, Dp.ty hd, kit_d K .tup _, _, rfl, iteF ?_⟩
    refine ⟨_, rfl, _, _, rfl, .inr hS, rfl, _, rfl, iteF ?_⟩
    refine ⟨_, rfl, _, _, 0, _, rfl, rfl, hS, atI_nat (j := 0) rfl, _, .d (.int a), rfl, .int _, _, rfl, iteF ?_⟩
    refine ⟨_, rfl, _, _, 1, _, rfl, rfl, hS, atI_nat (j := 1) rfl, _, .d (.int b), rfl, .int _, _, rfl, iteF ?_⟩
    refine ⟨_, rfl, _, _, 1, _, rfl, rfl, hS, atI_nat (j := 1) rfl, _, _, rfl, rfl, _, rfl, if_neg_of (decide_eq_false (by have := hL.1; omega)) ?_⟩
    refine ⟨_, rfl, _, _, 0, _, rfl, rfl, hS, atI_nat (j := 0) rfl, _, rfl, _, _, rfl, rfl, m1, _, rfl, _, rfl, _, _, 1, _, rfl, rfl, hS, atI_nat (j := 1) rfl, _, _, rfl, rfl, m2, rfl, _, rfl, ?_⟩
    refine if_pos_of (decide_eq_true (by show V.int (a * l) = V.int (u * b); rw [he])) ?_
    refine ⟨_, rfl, _, _, 0, _, rfl, rfl, hS, atI_nat (j := 0) rfl, _, rfl, _, _, 1, _, rfl, rfl, hS, atI_nat (j := 1) rfl, _, _, rfl, rfl, ?_⟩
    rw [show (decide (V.int (cd a b) = V.int 1)) = true from decide_eq_true (by rw [hL.2])]
    exact q
/-! _law_written -/
def spWritten (K : PySem.W.Frag) : Sp := spTextOf K
theorem d_written (T : Txt K mg) : Dn P w K mg base CX0 1 "_law_written" (spTextOf K) := by
  obtain ⟨fd, F⟩ := T.f__law_written
  refine dnN T.g__law_written F (fun _ _ _ _ _ _ us hl => match us, hl with | [_], _ => rfl) sc__law_written (fun vs H Q E h => ?_) (fun cdv A outer s H vs Q E hr h => ?_)
  · obtain ⟨p, a, b, rfl, _⟩ := h
    rfl
  · obtain ⟨p, a, b, rfl, h1, ha, hb, hq⟩ := h
    refine ⟨_, PSs.nox (pss_cons (ps_if (pt_cmpR op_eq (pe_ix ix_tup (pv 0) pe_int (fun _ _ => rfl)) pe_int (nomark _)) (pss_one (ps_ret (pe_callTy call_str_int (by rfl) T.z_str (by decide +kernel) (pa_cons (pe_ix ix_tup (pv 0) pe_int (fun _ _ => rfl)) pa_nil)))) pss_nil)
      (pss_one (ps_ret (pe_op op_add_str (pe_op op_add_str (pe_callTy call_str_int (by rfl) T.z_str (by decide +kernel) (pa_cons (pe_ix ix_tup (pv 0) pe_int (fun _ _ => rfl)) pa_nil)) pe_str) (pe_callTy call_str_int (by rfl) T.z_str (by decide +kernel) (pa_cons (pe_ix ix_tup (pv 0) pe_int (fun _ _ => rfl)) pa_nil)))))), ?_⟩
    refine ⟨_, rfl, _, _, 1, _, rfl, rfl, h1, atI_nat (j := 1) rfl, rfl, _, rfl, ie (fun c => ?_) (fun c => ?_)⟩
    · have e : b = 1 := by
        have := of_decide_eq_true c
        injection this
      unfold txtV at hq
      rw [if_pos e] at hq
      exact ⟨_, rfl, _, _, 0, _, rfl, rfl, h1, atI_nat (j := 0) rfl, _, rfl, log_lt ha, hq⟩
    · have e : b ≠ 1 := fun z => by
        subst z
        exact absurd c (by decide)
      unfold txtV at hq
      rw [if_neg e] at hq
      have l1 := len_int ha
      have l2 := len_int hb
      refine ⟨_, rfl, _, _, 0, _, rfl, rfl, h1, atI_nat (j := 0) rfl, _, rfl, log_lt ha, _, _, rfl, rfl, ?_, _, rfl, _, _, 1, _, rfl, rfl, h1, atI_nat (j := 1) rfl, _, rfl, log_lt hb, _, _, rfl, rfl, ?_, hq⟩
      · show _ + 1 ≤ sizeLine
        exact small40 (by omega)
      · rw [len_tl (_ ++ _), tl_append, List.length_append, ← len_tl]
        show _ + 1 + _ ≤ sizeLine
        exact small40 (by omega)
end
end K01
namespace K01
open PySem PySem.Spec PyProof.Rows L2 He TL EL
section
variable {P : Program} {w : World} {K : PySem.W.Frag} {mg : Str → Option Value} {base : Heap}
/-! _law_refused: value of what is no fraction -/
def spRefused (K : PySem.W.Frag) : Sp := fun vs H Q _ => ∃ v1 v2 th1 th2, vs = [v1, v2] ∧ ThOk K H v1 th1 ∧ ThOk K H v2 th2 ∧ (¬ ∃ t b, th1 = .d (.int t) ∧ th2 = .d (.int b) ∧ b ≠ 0) ∧ ∀ H', Same H H' → Q (.bl true) H'
theorem d_refused (T : Txt K mg) : Dn P w K mg base CX0 4 "_law_refused" (spRefused K) := by
  obtain ⟨fd, F⟩ := T.f__law_refused
  have D_value := d_value2 (P := P) (w := w) (base := base) T
  refine dnN T.g__law_refused F (fun _ _ _ _ _ _ us hl => match us, hl with | [_, _], _ => rfl) sc__law_refused (fun vs H Q E h => ?_) (fun cdv A outer s H vs Q E hr h => ?_)
  · obtain ⟨v1, v2, th1, th2, rfl, _⟩ := h
    rfl
  · obtain ⟨v1, v2, th1, th2, rfl, h1, h2, hn, q⟩ := h
    refine ⟨_, PSs.nox (pss_cons (ps_try_as (i := 2) (by rfl) (by rfl) sc__law_refused.nd rfl (by rfl) ⟨rfl, by decide, .inl T.x_NoValue.g⟩ takes0 (fun W pn xe tk po => (pss_one (ps_expr (clx tk D_value (hr.mono (by decide)) (pa_cons (pv 0) (pa_cons (pv 1) pa_nil))))))
      (fun a oe cls d pn hz hf => (pss_one (ps_ret (pe_and (pe_callB (call_isX _ T.c_NoValue hz hf) (by rfl) T.z_isinstance (by decide +kernel) (pa_cons (pv 2) (pa_cons (pe_glob (v := .ref (ga K "AskError")) (by rfl) T.x_AskError.g rfl) pa_nil))) (pe_and (pe_callB (call_isX _ T.c_NoValue hz hf) (by rfl) T.z_isinstance (by decide +kernel) (pa_cons (pv 2) (pa_cons (pe_bltn (v := .ty "ValueError") (by rfl) T.z_ValueError (by decide +kernel) rfl) pa_nil))) (pe_one (pe_not (pe_callB (call_isX _ T.c_NoValue hz hf) (by rfl) T.z_isinstance (by decide +kernel) (pa_cons (pv 2) (pa_cons (pe_glob (v := .ref (ga K "NoCell")) (by rfl) T.x_NoCell.g rfl) pa_nil)))))))))))
      (pss_one (ps_ret pe_bl))), ?_⟩
    refine ⟨_, rfl, _, rfl, v1, v2, th1, th2, rfl, h1, h2, fun _ => ?_, fun t b e1 e2 hb => absurd ⟨t, b, e1, e2, hb⟩ hn⟩
    refine ⟨true, T.e_NoValue_NoValue, fun _ a _ => ?_, fun z => by cases z⟩
    refine ⟨_, rfl, rfl, rfl, _, _, _, rfl, fun u r => r, T.k_NoValue_AskError, _, rfl, iteT ?_⟩
    refine ⟨_, rfl, rfl, rfl, _, _, _, rfl, fun u r => r, T.k_NoValue_ValueError, _, rfl, iteT ?_⟩
    refine ⟨_, rfl, rfl, rfl, _, _, _, rfl, fun u r => r, T.k_NoValue_NoCell, _, rfl, ?_⟩
    exact q H (.refl _)
/-! _law_all_refused -/
def spAllRefused (K : PySem.W.Frag) : Sp := fun vs H Q _ => ∃ a b : Int, vs = [.int a, .int b] ∧ ∀ H', Same H H' → Q (.bl true) H'
theorem d_all_refused (T : Txt K mg) : Dn P w K mg base CX0 5 "_law_all_refused" (spAllRefused K) := by
  obtain ⟨fd, F⟩ := T.f__law_all_refused
  have D__law_refused := d_refused (P := P) (w := w) (base := base) T
  refine dnN T.g__law_all_refused F (fun _ _ _ _ _ _ us hl => match us, hl with | [_, _], _ => rfl) sc__law_all_refused (fun vs H Q E h => ?_) (fun cdv A outer s H vs Q E hr h => ?_)
  · obtain ⟨a, b, rfl, _⟩ := h
    rfl
  · obtain ⟨a, b, rfl, q⟩ := h
    refine ⟨_, PSs.nox (pss_cons (ps_for PassesOwn.never rfl (pi_list (pe_lst (pa_cons (pe_tup (pa_cons (pv 0) (pa_cons pe_int pa_nil))) (pa_cons (pe_tup (pa_cons pe_bl (pa_cons (pv 1) pa_nil))) (pa_cons (pe_tup (pa_cons (pv 0) (pa_cons pe_bl pa_nil))) (pa_cons (pe_tup (pa_cons pe_non (pa_cons (pv 1) pa_nil))) (pa_cons (pe_tup (pa_cons (pv 0) (pa_cons pe_str pa_nil))) (pa_cons (pe_tup (pa_cons (pe_tup (pa_cons (pv 0) (pa_cons pe_int pa_nil))) (pa_cons (pv 1) pa_nil))) pa_nil)))))))) (pg_name (i := 2) sc__law_all_refused.nd rfl (.inl rfl))
      (pss_one (ps_if (pt_not (pt_val (cl D__law_refused (hr.mono (by decide)) (pa_cons (pe_ix ix_tup (pv 2) pe_int (fun _ _ => rfl)) (pa_cons (pe_ix ix_tup (pv 2) pe_int (fun _ _ => rfl)) pa_nil))))) (pss_one (ps_ret pe_bl)) pss_nil)))
      (pss_one (ps_ret pe_bl))), ?_⟩
    refine ⟨_, rfl, (by show 2 ≤ sizeLine; decide), fun p1 n1 => ?_⟩
    generalize eH1 : upd H p1 _ = H1
    have s1 : Same H H1 := eH1 ▸ same_upd n1
    have h1 : H1 p1 = some _ := eH1 ▸ upd_same
    refine ⟨_, rfl, (by show 2 ≤ sizeLine; decide), fun p2 n2 => ?_⟩
    generalize eH2 : upd H1 p2 _ = H2
    have s2 : Same H1 H2 := eH2 ▸ same_upd n2
    have h2 : H2 p2 = some _ := eH2 ▸ upd_same
    refine ⟨_, rfl, (by show 2 ≤ sizeLine; decide), fun p3 n3 => ?_⟩
    generalize eH3 : upd H2 p3 _ = H3
    have s3 : Same H2 H3 := eH3 ▸ same_upd n3
    have h3 : H3 p3 = some _ := eH3 ▸ upd_same
    refine ⟨_, rfl, (by show 2 ≤ sizeLine; decide), fun p4 n4 => ?_⟩
    generalize eH4 : upd H3 p4 _ = H4
    have s4 : Same H3 H4 := eH4 ▸ same_upd n4
    have h4 : H4 p4 = some _ := eH4 ▸ upd_same
    refine ⟨_, rfl, (by show 2 ≤ sizeLine; decide), fun p5 n5 => ?_⟩
    generalize eH5 : upd H4 p5 _ = H5
    have s5 : Same H4 H5 := eH5 ▸ same_upd n5
    have h5 : H5 p5 = some _ := eH5 ▸ upd_same
    refine ⟨_, rfl, (by show 2 ≤ sizeLine; decide), fun p6 n6 => ?_⟩
    generalize eH6 : upd H5 p6 _ = H6
    have s6 : Same H5 H6 := eH6 ▸ same_upd n6
    have h6 : H6 p6 = some _ := eH6 ▸ upd_same
    refine ⟨_, rfl, (by show 2 ≤ sizeLine; decide), fun p7 n7 => ?_⟩
    generalize eH7 : upd H6 p7 _ = H7
    have s7 : Same H6 H7 := eH7 ▸ same_upd n7
    have h7 : H7 p7 = some _ := eH7 ▸ upd_same
    refine ⟨(by show 6 ≤ sizeLine; decide), fun l nl => ?_⟩
    generalize eH8 : upd H7 l _ = H8
    have s8 : Same H7 H8 := eH8 ▸ same_upd nl
    have h8 : H8 l = some _ := eH8 ▸ upd_same
    have h1' := s8 _ _ (s7 _ _ (s6 _ _ (s5 _ _ (s4 _ _ (s3 _ _ (s2 _ _ h1))))))
    have h2' := s8 _ _ (s7 _ _ (s6 _ _ (s5 _ _ (s4 _ _ (s3 _ _ h2)))))
    have h3' := s8 _ _ (s7 _ _ (s6 _ _ (s5 _ _ (s4 _ _ h3))))
    have h4' := s8 _ _ (s7 _ _ (s6 _ _ (s5 _ _ h4)))
    have h5' := s8 _ _ (s7 _ _ (s6 _ _ h5))
    have h6' := s8 _ _ (s7 _ _ h6)
    have h7' := s8 _ _ h7
    have s0 : Same H H8 := s1.trans (s2.trans (s3.trans (s4.trans (s5.trans (s6.trans (s7.trans s8))))))
    refine ⟨l, rfl, ⟨_, SqL.of h8⟩, for_list (K := K) (a := l) (xs := [.ref p1, .ref p2, .ref p3, .ref p4, .ref p5, .ref p7]) (fun i σ H' => ∃ v, σ = [some (.int a), some (.int b), v] ∧ Same H8 H')
      ⟨none, rfl, .refl _⟩ (fun i σ H' _ ⟨_, _, s⟩ => s.seq (SqL.of h8)) ?_ ?_⟩
    · rintro i y σ H' hi ⟨v, rfl, s⟩
      suffices turn : ∃ (p : Addr) (x1 x2 : V) (t1 t2 : Th), y = .ref p ∧ H' p = some (.tup [x1, x2]) ∧ ThOk K H' x1 t1 ∧ ThOk K H' x2 t2 ∧ (¬ ∃ t b, t1 = .d (.int t) ∧ t2 = .d (.int b) ∧ b ≠ 0) by
        obtain ⟨p, x1, x2, t1, t2, ey, hp, k1, k2, kn⟩ := turn
        subst ey
        refine ⟨_, rfl, _, _, 0, _, rfl, rfl, SqT.of hp, atI_nat (j := 0) rfl, _, rfl, _, _, 1, _, rfl, rfl, SqT.of hp, atI_nat (j := 1) rfl, x1, x2, t1, t2, rfl, k1, k2, kn, fun H2 s2 => ⟨_, rfl, iteF ?_⟩⟩
        exact ⟨_, rfl, s.trans s2⟩
      match i, hi with
      | 0, hi =>
        refine ⟨p1, _, _, (.d (.int a)), (.d (.int 0)), (Option.some.inj hi).symm, (s _ _ h1'), .int _, .int _, ?_⟩
        rintro ⟨t, b, _, e, h⟩
        injection e with e
        injection e with e
        exact h e.symm
      | 1, hi =>
        refine ⟨p2, _, _, (.d (.bool true)), (.d (.int b)), (Option.some.inj hi).symm, (s _ _ h2'), .bl _, .int _, ?_⟩
        rintro ⟨t, b, e, _⟩
        cases e
      | 2, hi =>
        refine ⟨p3, _, _, (.d (.int a)), (.d (.bool true)), (Option.some.inj hi).symm, (s _ _ h3'), .int _, .bl _, ?_⟩
        rintro ⟨t, b, _, e, _⟩
        cases e
      | 3, hi =>
        refine ⟨p4, _, _, (.d .none), (.d (.int b)), (Option.some.inj hi).symm, (s _ _ h4'), .non, .int _, ?_⟩
        rintro ⟨t, b, e, _⟩
        cases e
      | 4, hi =>
        refine ⟨p5, _, _, (.d (.int a)), (.d (.str "1")), (Option.some.inj hi).symm, (s _ _ h5'), .int _, .str _, ?_⟩
        rintro ⟨t, b, _, e, _⟩
        cases e
      | 5, hi =>
        refine ⟨p7, _, _, (.d (.tuple [.int a, .int 1])), (.d (.int b)), (Option.some.inj hi).symm, (s _ _ h7'), (.tup (SqT.of (s _ _ h6')) (.cons (.int _) (.cons (.int _) .nil))), .int _, ?_⟩
        rintro ⟨t, b, e, _⟩
        cases e
      | n + 6, hi => cases hi
    · rintro σ H' ⟨v, rfl, s⟩
      exact q _ (s0.trans s)
end
end K01
namespace K01
open PySem PySem.Spec PyProof.Rows L2 He TL EL
section
variable {P : Program} {w : World} {K : PySem.W.Frag} {mg : Str → Option Value} {base : Heap}
theorem cd_scale (a b f : Int) : cd (a * f) (b * f) = cd a b * (f.natAbs : Int) := by
  unfold cd
  rw [Int.natAbs_mul, Int.natAbs_mul, Nat.gcd_mul_right]
  exact Int.natCast_mul _ _
/-! _law_changed_are_none -/
def spChanged (K : PySem.W.Frag) : Sp := fun vs H Q _ => ∃ (p : Addr) (a b f : Int), vs = [.ref p, .int f] ∧ SqT K H p [.int a, .int b] ∧ Low a b ∧ 2 ≤ f ∧ f ≤ 100 ∧ ∀ H', Same H H' → Q (.bl true) H'
theorem d_changed (T : Txt K mg) : Dn P w K mg base CX0 3 "_law_changed_are_none" (spChanged K) := by
  obtain ⟨fd, F⟩ := T.f__law_changed_are_none
  have D_is_value := d_is_value (P := P) (w := w) (base := base) T
  refine dnN T.g__law_changed_are_none F (fun _ _ _ _ _ _ us hl => match us, hl with | [_, _], _ => rfl) sc__law_changed_are_none (fun vs H Q E h => ?_) (fun cdv A outer s H vs Q E hr h => ?_)
  · obtain ⟨p, a, b, f, rfl, _⟩ := h
    rfl
  · obtain ⟨p, a, b, f, rfl, hS, hL, hf2, hf3, q⟩ := h
    have mf : ∀ x : Int, rI CMul (fun i j => V.int (i * j)) (.int x) (.int f) = fun H Q => rI CMul (fun i j => V.int (i * j)) (.int x) (.int f) H Q := fun _ => rfl
    have hm : ∀ x : Int, CMul x f := fun x => .inr ⟨by omega, by omega⟩
    refine ⟨_, PSs.nox (pss_cons (ps_set (i := 2) sc__law_changed_are_none.nd rfl (.inl rfl) (pe_lst (pa_cons (pe_tup (pa_cons (pe_op op_mul (pe_ix ix_tup (pv 0) pe_int (fun _ _ => rfl)) (pv 1)) (pa_cons (pe_op op_mul (pe_ix ix_tup (pv 0) pe_int (fun _ _ => rfl)) (pv 1)) pa_nil))) (pa_cons (pe_tup (pa_cons (pe_ix ix_tup (pv 0) pe_int (fun _ _ => rfl)) (pa_cons (pe_un un_neg (pe_ix ix_tup (pv 0) pe_int (fun _ _ => rfl))) pa_nil))) (pa_cons (pe_tup (pa_cons (pe_ix ix_tup (pv 0) pe_int (fun _ _ => rfl)) (pa_cons pe_int pa_nil))) pa_nil)))))
      (pss_cons (ps_set (i := 2) sc__law_changed_are_none.nd rfl (.inl rfl) (pe_op op_cat (pv 2) (pe_lst (pa_cons (pe_lst (pa_cons (pe_ix ix_tup (pv 0) pe_int (fun _ _ => rfl)) (pa_cons (pe_ix ix_tup (pv 0) pe_int (fun _ _ => rfl)) pa_nil))) (pa_cons (pe_tup (pa_cons (pe_ix ix_tup (pv 0) pe_int (fun _ _ => rfl)) pa_nil)) (pa_cons (pe_tup (pa_cons (pe_ix ix_tup (pv 0) pe_int (fun _ _ => rfl)) (pa_cons (pe_ix ix_tup (pv 0) pe_int (fun _ _ => rfl)) (pa_cons pe_int pa_nil)))) (pa_cons (pe_tup (pa_cons pe_bl (pa_cons (pe_ix ix_tup (pv 0) pe_int (fun _ _ => rfl)) pa_nil))) (pa_cons (pe_ix ix_tup (pv 0) pe_int (fun _ _ => rfl)) pa_nil))))))))
      (pss_cons (ps_for PassesOwn.never rfl (pi_list (pv 2)) (pg_name (i := 3) sc__law_changed_are_none.nd rfl (.inl rfl))
      (pss_one (ps_if (pt_cmpR op_isnot_bl (cl D_is_value (hr.mono (by decide)) (pa_cons (pv 3) pa_nil)) pe_bl (nomark _)) (pss_one (ps_ret pe_bl)) pss_nil)))
      (pss_one (ps_ret pe_bl))))), ?_⟩
    -- the first three
    refine ⟨_, rfl, _, _, 0, _, rfl, rfl, hS, atI_nat (j := 0) rfl, _, rfl, _, _, rfl, rfl, hm _, _, rfl, _, _, 1, _, rfl, rfl, hS, atI_nat (j := 1) rfl, _, rfl, _, _, rfl, rfl, hm _, (by show 2 ≤ sizeLine; decide), fun p1 n1 => ?_⟩
    generalize eH1 : upd H p1 _ = H1
    have s1 : Same H H1 := eH1 ▸ same_upd n1
    have h1 : H1 p1 = some _ := eH1 ▸ upd_same
    have t1 := Same.seqT s1 hS
    refine ⟨_, rfl, _, _, 0, _, rfl, rfl, t1, atI_nat (j := 0) rfl, _, rfl, _, _, 1, _, rfl, rfl, t1, atI_nat (j := 1) rfl, _, rfl, (by show 2 ≤ sizeLine; decide), fun p2 n2 => ?_⟩
    generalize eH2 : upd H1 p2 _ = H2
    have s2 : Same H1 H2 := eH2 ▸ same_upd n2
    have h2 : H2 p2 = some _ := eH2 ▸ upd_same
    have t2 := Same.seqT s2 t1
    refine ⟨_, rfl, _, _, 0, _, rfl, rfl, t2, atI_nat (j := 0) rfl, (by show 2 ≤ sizeLine; decide), fun p3 n3 => ?_⟩
    generalize eH3 : upd H2 p3 _ = H3
    have s3 : Same H2 H3 := eH3 ▸ same_upd n3
    have h3 : H3 p3 = some _ := eH3 ▸ upd_same
    have t3 := Same.seqT s3 t2
    refine ⟨(by show 3 ≤ sizeLine; decide), fun l1 nl1 => ?_⟩
    generalize eH4 : upd H3 l1 _ = H4
    have s4 : Same H3 H4 := eH4 ▸ same_upd nl1
    have h4 : H4 l1 = some _ := eH4 ▸ upd_same
    have t4 := Same.seqT s4 t3
    -- the other five
    refine ⟨_, rfl, _, rfl, _, _, 0, _, rfl, rfl, t4, atI_nat (j := 0) rfl, _, rfl, _, _, 1, _, rfl, rfl, t4, atI_nat (j := 1) rfl, (by show 2 ≤ sizeLine; decide), fun p5 n5 => ?_⟩
    generalize eH5 : upd H4 p5 _ = H5
    have s5 : Same H4 H5 := eH5 ▸ same_upd n5
    have h5 : H5 p5 = some _ := eH5 ▸ upd_same
    have t5 := Same.seqT s5 t4
    refine ⟨_, rfl, _, _, 0, _, rfl, rfl, t5, atI_nat (j := 0) rfl, (by show 1 ≤ sizeLine; decide), fun p6 n6 => ?_⟩
    generalize eH6 : upd H5 p6 _ = H6
    have s6 : Same H5 H6 := eH6 ▸ same_upd n6
    have h6 : H6 p6 = some _ := eH6 ▸ upd_same
    have t6 := Same.seqT s6 t5
    refine ⟨_, rfl, _, _, 0, _, rfl, rfl, t6, atI_nat (j := 0) rfl, _, rfl, _, _, 1, _, rfl, rfl, t6, atI_nat (j := 1) rfl, (by show 3 ≤ sizeLine; decide), fun p7 n7 => ?_⟩
    generalize eH7 : upd H6 p7 _ = H7
    have s7 : Same H6 H7 := eH7 ▸ same_upd n7
    have h7 : H7 p7 = some _ := eH7 ▸ upd_same
    have t7 := Same.seqT s7 t6
    refine ⟨_, rfl, _, _, 1, _, rfl, rfl, t7, atI_nat (j := 1) rfl, (by show 2 ≤ sizeLine; decide), fun p8 n8 => ?_⟩
    generalize eH8 : upd H7 p8 _ = H8
    have s8 : Same H7 H8 := eH8 ▸ same_upd n8
    have h8 : H8 p8 = some _ := eH8 ▸ upd_same
    have t8 := Same.seqT s8 t7
    refine ⟨_, rfl, _, _, 0, _, rfl, rfl, t8, atI_nat (j := 0) rfl, (by show 5 ≤ sizeLine; decide), fun l2 nl2 => ?_⟩
    generalize eH9 : upd H8 l2 _ = H9
    have s9 : Same H8 H9 := eH9 ▸ same_upd nl2
    have h9 : H9 l2 = some _ := eH9 ▸ upd_same
    have s49 : Same H4 H9 := s5.trans (s6.trans (s7.trans (s8.trans s9)))
    refine ⟨l1, l2, _, _, rfl, rfl, s49 _ _ h4, h9, (by show 8 ≤ sizeLine; decide), fun l nl => ?_⟩
    generalize eHA : upd H9 l _ = HA
    have sA : Same H9 HA := eHA ▸ same_upd nl
    have hA : HA l = some _ := eHA ▸ upd_same
    have s4A : Same H4 HA := s49.trans sA
    have h1' := s4A _ _ (s4 _ _ (s3 _ _ (s2 _ _ h1)))
    have h2' := s4A _ _ (s4 _ _ (s3 _ _ h2))
    have h3' := s4A _ _ (s4 _ _ h3)
    have h5' := sA _ _ (s9 _ _ (s8 _ _ (s7 _ _ (s6 _ _ h5))))
    have h6' := sA _ _ (s9 _ _ (s8 _ _ (s7 _ _ h6)))
    have h7' := sA _ _ (s9 _ _ (s8 _ _ h7))
    have h8' := sA _ _ (s9 _ _ h8)
    have s0 : Same H HA := s1.trans (s2.trans (s3.trans (s4.trans s4A)))
    have hlo := hL.1
    refine ⟨_, rfl, l, rfl, ⟨_, SqL.of hA⟩, for_list (K := K) (a := l) (xs := [.ref p1, .ref p2, .ref p3, .ref p5, .ref p6, .ref p7, .ref p8, .int a]) (fun i σ H' => ∃ v, σ = [some (.ref p), some (.int f), some (.ref l), v] ∧ Same HA H')
      ⟨none, rfl, .refl _⟩ (fun i σ H' _ ⟨_, _, s⟩ => s.seq (SqL.of hA)) ?_ ?_⟩
    · rintro i y σ H' hi ⟨v, rfl, s⟩
      suffices turn : ∃ d, Dp K H' y d ∧ isValD d = false by
        obtain ⟨d, hd, hv⟩ := turn
        refine ⟨_, rfl, _, .d d, rfl, hd, _, _, rfl, rfl, _, rfl, ?_⟩
        rw [show isValT (.d d) = false from hv]
        exact ⟨_, rfl, s⟩
      match i, hi with
      | 0, hi =>
        obtain rfl := (Option.some.inj hi).symm
        refine ⟨.tuple [.int (a * f), .int (b * f)], .tup (SqT.of (s _ _ h1')) (.cons (.int _) (.cons (.int _) .nil)), ?_⟩
        show (!decide (b * f < 1) && decide (cd (a * f) (b * f) = 1)) = false
        rw [cd_scale, hL.2, decide_eq_false (show ¬ 1 * (f.natAbs : Int) = 1 by omega), Bool.and_false]
      | 1, hi =>
        obtain rfl := (Option.some.inj hi).symm
        refine ⟨.tuple [.int a, .int (-b)], .tup (SqT.of (s _ _ h2')) (.cons (.int _) (.cons (.int _) .nil)), ?_⟩
        show (!decide (-b < 1) && decide (cd a (-b) = 1)) = false
        rw [decide_eq_true (show -b < 1 by omega)]
        rfl
      | 2, hi =>
        obtain rfl := (Option.some.inj hi).symm
        exact ⟨.tuple [.int a, .int 0], .tup (SqT.of (s _ _ h3')) (.cons (.int _) (.cons (.int _) .nil)), rfl⟩
      | 3, hi =>
        obtain rfl := (Option.some.inj hi).symm
        exact ⟨.list [.int a, .int b], .lst (SqL.of (s _ _ h5')) (.cons (.int _) (.cons (.int _) .nil)), rfl⟩
      | 4, hi =>
        obtain rfl := (Option.some.inj hi).symm
        exact ⟨.tuple [.int a], .tup (SqT.of (s _ _ h6')) (.cons (.int _) .nil), rfl⟩
      | 5, hi =>
        obtain rfl := (Option.some.inj hi).symm
        exact ⟨.tuple [.int a, .int b, .int 1], .tup (SqT.of (s _ _ h7')) (.cons (.int _) (.cons (.int _) (.cons (.int _) .nil))), rfl⟩
      | 6, hi =>
        obtain rfl := (Option.some.inj hi).symm
        exact ⟨.tuple [.bool true, .int b], .tup (SqT.of (s _ _ h8')) (.cons (.bl _) (.cons (.int _) .nil)), rfl⟩
      | 7, hi =>
        obtain rfl := (Option.some.inj hi).symm
        exact ⟨.int a, .int _, rfl⟩
      | n + 8, hi => cases hi
    · rintro σ H' ⟨v, rfl, s⟩
      exact q _ (s0.trans s)
/-! _law_in_order -/
def spInOrder (K : PySem.W.Frag) : Sp := fun vs H Q _ => ∃ (l r o t : Addr) (lu ll ru rl : Int), vs = [.ref l, .ref r, .ref o, .ref t] ∧ SqT K H l [.int lu, .int ll] ∧ SqT K H r [.int ru, .int rl] ∧
  SqT K H o [.int (nrm lu ll).1, .int (nrm lu ll).2] ∧ SqT K H t [.int (nrm ru rl).1, .int (nrm ru rl).2] ∧ 0 < ll ∧ 0 < rl ∧ lu.natAbs < 2 ^ 130 ∧ ll.natAbs < 2 ^ 130 ∧ ru.natAbs < 2 ^ 130 ∧ rl.natAbs < 2 ^ 130 ∧ Q (.bl true) H
theorem nrm_lt {t b c d : Int} (hb : 0 < b) (hd : 0 < d) : decide ((nrm t b).1 * (nrm c d).2 < (nrm c d).1 * (nrm t b).2) = decide (t * d < c * b) := by
  have l1 := nrm_low (t := t) (b := b) (by omega)
  have l2 := nrm_low (t := c) (b := d) (by omega)
  have e1 := nrm_eq (t := t) (b := b) (by omega)
  have e2 := nrm_eq (t := c) (b := d) (by omega)
  have p1 := l1.1
  have p2 := l2.1
  generalize (nrm t b).1 = p at *
  generalize (nrm t b).2 = q at *
  generalize (nrm c d).1 = r at *
  generalize (nrm c d).2 = s at *
  -- p b = t q, r d = c s; p s < r q iff t d < c b
  have k1 : (p * s) * (b * d) = (t * d) * (q * s) := by
    calc (p * s) * (b * d) = (p * b) * (s * d) := by rw [Int.mul_assoc, Int.mul_left_comm s b d, ← Int.mul_assoc]
      _ = (t * q) * (s * d) := by rw [e1]
      _ = (t * d) * (q * s) := by rw [Int.mul_assoc, Int.mul_assoc, Int.mul_left_comm q s d, Int.mul_comm q d, Int.mul_left_comm s d q, Int.mul_comm s q]
  have k2 : (r * q) * (b * d) = (c * b) * (q * s) := by
    calc (r * q) * (b * d) = (r * d) * (q * b) := by rw [Int.mul_assoc, Int.mul_left_comm q b d, Int.mul_comm q d, Int.mul_left_comm b d q, ← Int.mul_assoc, Int.mul_comm b q]
      _ = (c * s) * (q * b) := by rw [e2]
      _ = (c * b) * (q * s) := by rw [Int.mul_assoc, Int.mul_assoc, Int.mul_left_comm s q b, Int.mul_comm s b, Int.mul_left_comm q b s]
  have hbd : 0 < b * d := Int.mul_pos hb hd
  have hqs : 0 < q * s := Int.mul_pos p1 p2
  refine decide_eq_decide.mpr ⟨fun h => ?_, fun h => ?_⟩
  · have h2 := Int.mul_lt_mul_of_pos_right h hbd
    rw [k1, k2] at h2
    exact Int.lt_of_mul_lt_mul_right h2 (Int.le_of_lt hqs)
  · have h2 := Int.mul_lt_mul_of_pos_right h hqs
    rw [← k1, ← k2] at h2
    exact Int.lt_of_mul_lt_mul_right h2 (Int.le_of_lt hbd)
theorem eqv2 (a b c d : Int) : PyData.eqv (.tuple [.int a, .int b]) (.tuple [.int c, .int d]) = decide (a = c ∧ b = d) := by
  simp [PyData.eqv, PyData.eqvAll, Bool.decide_and, Bool.beq_eq_decide_eq]
theorem dp2 {H : Hp} {p : Addr} {a b : Int} (h : SqT K H p [.int a, .int b]) : Dp K H (.ref p) (.tuple [.int a, .int b]) := .tup h (.cons (.int _) (.cons (.int _) .nil))
theorem d_in_order (T : Txt K mg) : Dn P w K mg base CX0 2 "_law_in_order" (spInOrder K) := by
  obtain ⟨fd, F⟩ := T.f__law_in_order
  have D_less := d_less (P := P) (w := w) (base := base) T
  refine dnN T.g__law_in_order F (fun _ _ _ _ _ _ us hl => match us, hl with | [_, _, _, _], _ => rfl) sc__law_in_order (fun vs H Q E h => ?_) (fun cdv A outer s H vs Q E hr h => ?_)
  · obtain ⟨l, r, o, t, lu, ll, ru, rl, rfl, _⟩ := h
    rfl
  · obtain ⟨l, r, o, t, lu, ll, ru, rl, rfl, h1, h2, h3, h4, p1, p2, b1, b2, b3, b4, q⟩ := h
    have mk : ∀ {x y : Int}, x.natAbs < 2 ^ 130 → y.natAbs < 2 ^ 130 → CMulW x y := fun h1 h2 => wide_mul h1 h2 (by decide) (by decide) (by decide)
    have a1 := nrm_abs lu ll
    have a2 := nrm_abs ru rl
    have c1 : (nrm lu ll).1.natAbs < 2 ^ 130 := Nat.lt_of_le_of_lt a1.1 b1
    have c2 : (nrm lu ll).2.natAbs < 2 ^ 130 := Nat.lt_of_le_of_lt a1.2 b2
    have c3 : (nrm ru rl).1.natAbs < 2 ^ 130 := Nat.lt_of_le_of_lt a2.1 b3
    have c4 : (nrm ru rl).2.natAbs < 2 ^ 130 := Nat.lt_of_le_of_lt a2.2 b4
    refine ⟨_, PSs.nox (pss_cons (ps_set (i := 4) sc__law_in_order.nd rfl (.inl rfl) (pe_cmpR op_lt (pe_op op_mulW (pe_ix ix_tup (pv 0) pe_int (fun _ _ => rfl)) (pe_ix ix_tup (pv 1) pe_int (fun _ _ => rfl))) (pe_op op_mulW (pe_ix ix_tup (pv 1) pe_int (fun _ _ => rfl)) (pe_ix ix_tup (pv 0) pe_int (fun _ _ => rfl))) (nomark _)))
      (pss_cons (ps_set (i := 5) sc__law_in_order.nd rfl (.inl rfl) (cl D_less (hr.mono (by decide)) (pa_cons (pv 2) (pa_cons (pv 3) pa_nil))))
      (pss_cons (ps_if (PW.pt (pw_or (pt_not (pt_val (pe_callB call_isi (by rfl) T.z_isinstance (by decide +kernel) (pa_cons (pv 5) (pa_cons (pe_bltn (v := .ty "bool") (by rfl) T.z_bool (by decide +kernel) rfl) pa_nil))))) (pw_or1 (pt_cmpR op_ne (pv 5) (pv 4) (nomark _))))) (pss_one (ps_ret pe_bl)) pss_nil)
      (pss_cons (ps_set (i := 6) sc__law_in_order.nd rfl (.inl rfl) (pe_and (pe_not (pv 4)) (pe_one (pe_not (cl D_less (hr.mono (by decide)) (pa_cons (pv 3) (pa_cons (pv 2) pa_nil)))))))
      (pss_one (ps_ret (pe_cmpR op_eq (pv 6) (pe_cmpR (op_eqD hr.units) (pv 2) (pv 3) (nomark _)) (nomark _)))))))), ?_⟩
    refine ⟨_, rfl, _, _, 0, _, rfl, rfl, h1, atI_nat (j := 0) rfl, _, rfl, _, _, 1, _, rfl, rfl, h2, atI_nat (j := 1) rfl, _, _, rfl, rfl, mk b1 b4, _, rfl, _, _, 0, _, rfl, rfl, h2, atI_nat (j := 0) rfl, _, rfl, _, _, 1, _, rfl, rfl, h1, atI_nat (j := 1) rfl, _, _, rfl, rfl, mk b3 b2, _, _, rfl, rfl, ?_⟩
    refine ⟨_, rfl, _, rfl, _, _, _, _, _, _, rfl, h3, h4, mk c1 c4, mk c3 c2, ?_⟩
    have e1 := nrm_lt (t := lu) (b := ll) (c := ru) (d := rl) p1 p2
    have e2 := nrm_lt (t := ru) (b := rl) (c := lu) (d := ll) p2 p1
    rw [e1]
    refine ⟨_, rfl, _, _, _, _, _, rfl, .ty _, .base (.bl _), kit_ty (kit_k .bl .bl), _, rfl, iteF ?_⟩
    refine ⟨_, rfl, _, rfl, rfl, _, rfl, if_neg_of (by rw [decide_eq_true rfl]; rfl) ?_⟩
    -- beside
    have fin : ∀ x : Bool, x = (!decide (lu * rl < ru * ll) && !decide (ru * ll < lu * rl)) → ∃ d e, Dp K H (.ref o) d ∧ Dp K H (.ref t) e ∧ SeqAt.shaped d = true ∧ SeqAt.shaped e = true ∧ (scal (.bl x) (.bl (PyData.eqv d e)) = true ∧ Q (.bl (decide (V.bl x = V.bl (PyData.eqv d e)))) H) := fun x hx => by
      refine ⟨_, _, dp2 h3, dp2 h4, rfl, rfl, rfl, ?_⟩
      have e3 : x = PyData.eqv (.tuple [.int (nrm lu ll).1, .int (nrm lu ll).2]) (.tuple [.int (nrm ru rl).1, .int (nrm ru rl).2]) := by
        rw [hx, eqv2, ← e1, ← e2]
        have l1 := nrm_low (t := lu) (b := ll) (by omega)
        have l2 := nrm_low (t := ru) (b := rl) (by omega)
        have iff : ((nrm lu ll).1 = (nrm ru rl).1 ∧ (nrm lu ll).2 = (nrm ru rl).2) ↔ ¬ ((nrm lu ll).1 * (nrm ru rl).2 < (nrm ru rl).1 * (nrm lu ll).2) ∧ ¬ ((nrm ru rl).1 * (nrm lu ll).2 < (nrm lu ll).1 * (nrm ru rl).2) := by
          refine ⟨fun ⟨z1, z2⟩ => ?_, fun ⟨z1, z2⟩ => low_unique l1 l2 (by omega)⟩
          rw [z1, z2]
          exact ⟨Int.lt_irrefl _, Int.lt_irrefl _⟩
        rw [decide_eq_decide.mpr iff, Bool.decide_and, decide_not, decide_not]
      rw [← e3, decide_eq_true rfl]
      exact q
    refine ⟨_, rfl, _, rfl, _, rfl, ie (fun c => ?_) (fun c => ?_)⟩
    · refine ⟨_, rfl, _, rfl, _, _, _, _, _, _, rfl, h4, h3, mk c3 c2, mk c1 c4, ?_⟩
      rw [e2]
      refine ⟨_, rfl, ?_⟩
      exact ⟨_, rfl, _, rfl, _, rfl, fin _ (by rw [c]; rfl)⟩
    · exact ⟨_, rfl, _, rfl, _, rfl, fin _ (by rw [c]; rfl)⟩
end
end K01
namespace K01
open PySem PySem.Spec PyProof.Rows L2 He TL EL
section
variable {P : Program} {w : World} {K : PySem.W.Frag} {mg : Str → Option Value} {base : Heap}
/-- one fraction that was made: its value at m, its pair at y -/
structure One where
  m : Addr
  y : Addr
  u : Int
  l : Int
structure OneOk (K : PySem.W.Frag) (H : Hp) (e : One) : Prop where
  l0 : 0 < e.l
  bu : e.u.natAbs < 2 ^ 120
  bl : e.l.natAbs < 2 ^ 120
  hm : SqT K H e.m [.int (nrm e.u e.l).1, .int (nrm e.u e.l).2]
  hy : SqT K H e.y [.int e.u, .int e.l]
/-- what stands between two turns: the source at p, the lists at a and b -/
structure G (K : PySem.W.Frag) (p c a b : Addr) (L : List One) (H : Hp) : Prop where
  src : Src H p c
  ha : H a = some (.lst (L.map fun e => .ref e.m))
  hb : H b = some (.lst (L.map fun e => .ref e.y))
  ok : ∀ e ∈ L, OneOk K H e
  na : a ≠ p
  nb : b ≠ p
  ab : a ≠ b
  ca : c ≠ a
  cb : c ≠ b
theorem G.but {p c a b : Addr} {L : List One} {H H' : Hp} (g : G K p c a b L H) (s : Src H' p c) (h : But p H H') : G K p c a b L H' :=
  ⟨s, h _ _ g.ha g.na, h _ _ g.hb g.nb, fun e he => ⟨(g.ok e he).l0, (g.ok e he).bu, (g.ok e he).bl, h.seqT g.src.lst (g.ok e he).hm, h.seqT g.src.lst (g.ok e he).hy⟩, g.na, g.nb, g.ab, g.ca, g.cb⟩
theorem G.same {p c a b : Addr} {L : List One} {H H' : Hp} (g : G K p c a b L H) (h : Same H H') : G K p c a b L H' :=
  ⟨g.src.same h, h _ _ g.ha, h _ _ g.hb, fun e he => ⟨(g.ok e he).l0, (g.ok e he).bu, (g.ok e he).bl, Same.seqT h (g.ok e he).hm, Same.seqT h (g.ok e he).hy⟩, g.na, g.nb, g.ab, g.ca, g.cb⟩
theorem vinj {t b t' b' : Int} (e1 : Th.d (.int t) = .d (.int t')) (e2 : Th.d (.int b) = .d (.int b')) : t = t' ∧ b = b' := by
  injection e1 with e1
  injection e1 with e1
  injection e2 with e2
  injection e2 with e2
  exact ⟨e1, e2⟩
theorem up (n : Nat) (h : n < 2 ^ 130) : n < 2 ^ 8000 := Nat.lt_of_lt_of_le h (Nat.pow_le_pow_right (by decide) (by decide))
theorem up2 {n : Nat} (h : n < 2 ^ 120) : n < 2 ^ 130 := Nat.lt_of_lt_of_le h (Nat.pow_le_pow_right (by decide) (by decide))
theorem up3 {n : Nat} (h : n < 2 ^ 120) : n < 2 ^ 1000 := Nat.lt_of_lt_of_le h (Nat.pow_le_pow_right (by decide) (by decide))
theorem up4 {n : Nat} (h : n < 2 ^ 120) : n < 10 ^ 40 := Nat.lt_of_lt_of_le h (by decide)
def spLaw (K : PySem.W.Frag) : Sp := fun vs H Q _ => ∃ (a : Addr) (ns : List Int), vs = [.ref a] ∧ SqL K H a (ns.map V.int) ∧ ∀ H', Q (.bl true) H'
theorem ok_law {fd : FuncData} (T : Txt K mg) (F : FunD K "law" "law" (defArgs s_law) (defBody s_law) (defScope s_law) ([] : List V) [] (ga K "law") fd) : FnOk P w K mg base CX0 6 (ga K "law") fd ["_law_script"] (spLaw K) := by
  have D__law_begin := d_begin (P := P) (w := w) (base := base) T
  have D__law_number := d_number (P := P) (w := w) (base := base) T
  have D__law_draw := d_draw (P := P) (w := w) (base := base) T
  have D_value := d_value2 (P := P) (w := w) (base := base) T
  have D_value1 := d_value1 (P := P) (w := w) (base := base) T
  obtain ⟨fdv, Fv, Gv⟩ := ok_value (P := P) (w := w) (base := base) T
  obtain ⟨its, KB⟩ := kb_value Fv
  have D_is_value := d_is_value (P := P) (w := w) (base := base) T
  have D__law_is_lowest := d_is_lowest (P := P) (w := w) (base := base) T
  have D__law_changed_are_none := d_changed (P := P) (w := w) (base := base) T
  have D_text_of := d_text_of (P := P) (w := w) (base := base) T
  have D__law_written := d_written (P := P) (w := w) (base := base) T
  have D_read_value := d_read_value (P := P) (w := w) (base := base) T
  have D__law_all_refused := d_all_refused (P := P) (w := w) (base := base) T
  have D__law_in_order := d_in_order (P := P) (w := w) (base := base) T
  refine F.ok sc_law (fun vs H Q E h => ?_) (fun cdv A outer s H vs Q E hr h => ?_)
  · obtain ⟨a, ns, rfl, _⟩ := h
    rfl
  · obtain ⟨a, ns, rfl, hS, q⟩ := h
    refine ⟨_, PSs.nox (pss_cons (ps_set (i := 1) sc_law.nd rfl (.inl rfl) (cl D__law_begin (hr.mono (by decide)) (pa_cons (pv 0) pa_nil)))
      (pss_cons (ps_set (i := 2) sc_law.nd rfl (.inl rfl) (pe_lst pa_nil))
      (pss_cons (ps_set (i := 3) sc_law.nd rfl (.inl rfl) (pe_lst pa_nil))
      (pss_mid (ps_for PassesOwn.never rfl (pi_range1 (by rfl) T.z_range (pa_cons pe_int pa_nil)) (pg_name (i := 4) sc_law.nd rfl (.inl rfl))
      (pss_cons (ps_set (i := 5) sc_law.nd rfl (.inl rfl) (cl D__law_number (hr.mono (by decide)) (pa_cons (pv 1) pa_nil)))
      (pss_cons (ps_set (i := 6) sc_law.nd rfl (.inl rfl) (cl D__law_number (hr.mono (by decide)) (pa_cons (pv 1) pa_nil)))
      (pss_mid (ps_if (pt_cmpR op_eq (pv 6) pe_int (nomark _)) (pss_one (ps_set (i := 6) sc_law.nd rfl (.inl rfl) pe_int)) pss_nil)
      (pss_cons (ps_set (i := 7) sc_law.nd rfl (.inl rfl) (pe_op op_add pe_int (cl D__law_draw (hr.mono (by decide)) (pa_cons (pv 1) (pa_cons pe_int pa_nil)))))
      (pss_cons (ps_set (i := 8) sc_law.nd rfl (.inl rfl) (cl0 D_value (hr.mono (by decide)) (pa_cons (pv 5) (pa_cons (pv 6) pa_nil))))
      (pss_cons (ps_if (pt_not (pt_val (cl D__law_is_lowest (hr.mono (by decide)) (pa_cons (pv 8) (pa_cons (pv 5) (pa_cons (pv 6) pa_nil)))))) (pss_one (ps_ret pe_bl)) pss_nil)
      (pss_cons (ps_if (pt_cmpR (op_neD hr.units) (pe_callN0 Gv (hr.mono (by decide)) (by rfl) T.g_value Fv.kp KB passL (pk_cons (pe_op op_mul (pv 6) (pv 7)) (pk_cons (pe_op op_mul (pv 5) (pv 7)) pk_nil))) (pv 8) (nomark _)) (pss_one (ps_ret pe_bl)) pss_nil)
      (pss_cons (ps_if (PW.pt (pw_or (pt_cmpR (op_neD hr.units) (cl0 D_value1 (hr.mono (by decide)) (pa_cons (pv 5) pa_nil)) (pe_tup (pa_cons (pv 5) (pa_cons pe_int pa_nil))) (nomark _)) (pw_or1 (pt_cmpR op_isnot_bl (cl D_is_value (hr.mono (by decide)) (pa_cons (pv 8) pa_nil)) pe_bl (nomark _))))) (pss_one (ps_ret pe_bl)) pss_nil)
      (pss_cons (ps_if (pt_not (pt_val (cl D__law_changed_are_none (hr.mono (by decide)) (pa_cons (pv 8) (pa_cons (pv 7) pa_nil))))) (pss_one (ps_ret pe_bl)) pss_nil)
      (pss_cons (ps_set (i := 9) sc_law.nd rfl (.inl rfl) (cl D_text_of (hr.mono (by decide)) (pa_cons (pv 8) pa_nil)))
      (pss_cons (ps_if (PW.pt (pw_or (pt_not (pt_val (pe_callB call_isi (by rfl) T.z_isinstance (by decide +kernel) (pa_cons (pv 9) (pa_cons (pe_bltn (v := .ty "str") (by rfl) T.z_str (by decide +kernel) rfl) pa_nil))))) (pw_or (pt_cmpR op_ne (pv 9) (cl D__law_written (hr.mono (by decide)) (pa_cons (pv 8) pa_nil)) (nomark _)) (pw_or1 (pt_cmpR (op_neD hr.units) (cl0 D_read_value (hr.mono (by decide)) (pa_cons (pv 9) pa_nil)) (pv 8) (nomark _)))))) (pss_one (ps_ret pe_bl)) pss_nil)
      (pss_cons (ps_if (pt_not (pt_val (cl D__law_all_refused (hr.mono (by decide)) (pa_cons (pv 5) (pa_cons (pv 6) pa_nil))))) (pss_one (ps_ret pe_bl)) pss_nil)
      (pss_cons (ps_expr (pe_bm PySem.F.plainAttrs_list PySem.F.slot_list_append PySem.F.type_list_append mt_append (pv 2) (pa_cons (pv 8) pa_nil)))
      (pss_mid (ps_if (pt_cmpR op_lt (pv 6) pe_int (nomark _)) (pss_cons (ps_set (i := 5) sc_law.nd rfl (.inl rfl) (pe_un un_neg (pv 5)))
      (pss_one (ps_set (i := 6) sc_law.nd rfl (.inl rfl) (pe_un un_neg (pv 6))))) pss_nil)
      (pss_one (ps_expr (pe_bm PySem.F.plainAttrs_list PySem.F.slot_list_append PySem.F.type_list_append mt_append (pv 3) (pa_cons (pe_tup (pa_cons (pv 5) (pa_cons (pv 6) pa_nil))) pa_nil)))))))))))))))))))
      (pss_cons (ps_for PassesOwn.never rfl (pi_range1 (by rfl) T.z_range (pa_cons pe_int pa_nil)) (pg_name (i := 10) sc_law.nd rfl (.inl rfl))
      (pss_one (ps_for PassesOwn.never rfl (pi_range1 (by rfl) T.z_range (pa_cons pe_int pa_nil)) (pg_name (i := 11) sc_law.nd rfl (.inl rfl))
      (pss_one (ps_if (pt_not (pt_val (cl D__law_in_order (hr.mono (by decide)) (pa_cons (pe_ix ix_list (pv 3) (pv 10) (fun _ _ => rfl)) (pa_cons (pe_ix ix_list (pv 3) (pv 11) (fun _ _ => rfl)) (pa_cons (pe_ix ix_list (pv 2) (pv 10) (fun _ _ => rfl)) (pa_cons (pe_ix ix_list (pv 2) (pv 11) (fun _ _ => rfl)) pa_nil))))))) (pss_one (ps_ret pe_bl)) pss_nil)))))
      (pss_one (ps_ret pe_bl))))))), ?_⟩
    refine ⟨_, rfl, a, ns, rfl, hS, fun p cl H1 np ncl s1 S1 => ?_⟩
    refine ⟨Nat.zero_le _, fun ma nma => ?_⟩
    generalize eH2 : upd H1 ma _ = H2
    have s2 : Same H1 H2 := eH2 ▸ same_upd nma
    have h2 : H2 ma = some _ := eH2 ▸ upd_same
    refine ⟨Nat.zero_le _, fun pb npb => ?_⟩
    generalize eH3 : upd H2 pb _ = H3
    have s3 : Same H2 H3 := eH3 ▸ same_upd npb
    have h3 : H3 pb = some _ := eH3 ▸ upd_same
    have g0 : G K p cl ma pb [] H3 := ⟨S1.same (s2.trans s3), s3 _ _ h2, h3, fun e he => (nomatch he), (fun e => by
      obtain ⟨xs, hx⟩ := S1.lst
      rw [e, hx] at nma
      cases nma), (fun e => by
      obtain ⟨xs, hx⟩ := (S1.same s2).lst
      rw [e, hx] at npb
      cases npb), ne_of_none h2 npb, (fun e => by
      obtain ⟨xs, hx⟩ := S1.lst2
      rw [← e, hx] at nma
      cases nma), (fun e => by
      obtain ⟨xs, hx⟩ := (S1.same s2).lst2
      rw [← e, hx] at npb
      cases npb)⟩
    refine ⟨fun σ' H' => ∃ (L : List One) (v4 v5 v6 v7 v8 v9 : Option V), σ' = [some (.ref a), some (.ref p), some (.ref ma), some (.ref pb), v4, v5, v6, v7, v8, v9, none, none] ∧ L.length = 3 ∧ G K p cl ma pb L H', ?_, ?_⟩
    · refine ⟨3, rfl, by decide, by decide, for_range (n := 3) (fun i σ' H' => ∃ (L : List One) (v4 v5 v6 v7 v8 v9 : Option V), σ' = [some (.ref a), some (.ref p), some (.ref ma), some (.ref pb), v4, v5, v6, v7, v8, v9, none, none] ∧ L.length = i ∧ G K p cl ma pb L H')
        ⟨[], none, none, none, none, none, none, rfl, rfl, g0⟩ ?_ (fun σ' H' h => h)⟩
      rintro i σ' H4 hi ⟨L, v4, v5, v6, v7, v8, v9, rfl, hL, g⟩
      -- upper, lower
      refine ⟨_, rfl, p, cl, rfl, g.src, fun u H5 hu S5 b5 => ?_⟩
      have g5 := g.but S5 b5
      refine ⟨_, rfl, p, cl, rfl, g5.src, fun l' H6 hl' S6 b6 => ?_⟩
      have g6 := g5.but S6 b6
      refine ⟨fun σ' H' => H' = H6 ∧ ∃ l : Int, l ≠ 0 ∧ l.natAbs < 2 ^ 120 ∧ σ' = [some (.ref a), some (.ref p), some (.ref ma), some (.ref pb), some (.int (0 + (i : Int))), some (.int u), some (.int l), v7, v8, v9, none, none], ?_, ?_⟩
      · refine ⟨_, rfl, rfl, _, rfl, ie (fun c => ⟨rfl, 1, by decide, by decide, rfl⟩) (fun c => ⟨rfl, l', ?_, hl', rfl⟩)⟩
        intro z
        subst z
        exact absurd c (by decide)
      · rintro σ'' H' ⟨rfl, l, hl0, hl, rfl⟩
        -- factor
        refine ⟨_, rfl, p, cl, 11, rfl, by decide, by decide, g6.src, fun k H7 k0 k1 S7 b7 => ⟨_, _, rfl, rfl, ?_⟩⟩
        have g7 := g6.but S7 b7
        have hf2 : 2 ≤ 2 + k := by omega
        have hf3 : 2 + k ≤ 100 := by omega
        generalize ef : 2 + k = f at hf2 hf3
        show tSeq _ _ _ [some (.ref a), some (.ref p), some (.ref ma), some (.ref pb), some (.int (0 + (i : Int))), some (.int u), some (.int l), some (.int (2 + k)), v8, v9, none, none] _
        rw [ef]
        -- one = value(upper, lower)
        have hlow := nrm_low (t := u) hl0
        have habs := nrm_abs u l
        have ba : (nrm u l).1.natAbs < 2 ^ 120 := Nat.lt_of_le_of_lt habs.1 hu
        have bb : (nrm u l).2.natAbs < 2 ^ 120 := Nat.lt_of_le_of_lt habs.2 hl
        have mk : ∀ {x y : Int}, x.natAbs < 2 ^ 120 → y.natAbs < 2 ^ 120 → CMulW x y := fun h1 h2 => wide_mul h1 h2 (by decide) (by decide) (by decide)
        refine ⟨_, rfl, _, rfl, _, _, .d (.int _), .d (.int _), rfl, .int _, .int _, fun hn => absurd ⟨_, _, rfl, rfl, hl0⟩ hn, fun t' b' e1 e2 _ => ?_⟩
        obtain ⟨rfl, rfl⟩ := vinj e1 e2
        refine ⟨(up _ (up2 hl)), fun o H8 no s8 h8 => ?_⟩
        have g8 := g7.same s8
        -- is it lowest
        refine ⟨_, rfl, _, rfl, _, rfl, o, _, _, _, _, rfl, SqT.of h8, hlow, nrm_eq hl0, mk ba hl, mk hu bb, _, rfl, iteF ?_⟩
        -- the multiplied one
        have hm : ∀ x : Int, CMul x f := fun x => .inr ⟨by omega, by omega⟩
        have hlf : l * f ≠ 0 := Int.mul_ne_zero hl0 (by omega)
        have blf : (l * f).natAbs < 2 ^ 130 := by
          rw [Int.natAbs_mul]
          have h1 : f.natAbs ≤ 100 := by omega
          calc l.natAbs * f.natAbs ≤ l.natAbs * 100 := Nat.mul_le_mul_left _ h1
            _ < 2 ^ 120 * 2 ^ 10 := by omega
            _ = 2 ^ 130 := by decide +kernel
        refine ⟨_, rfl, _, rfl, _, _, rfl, rfl, hm _, _, rfl, _, rfl, _, _, rfl, rfl, hm _, rfl, rfl, _, _, .d (.int _), .d (.int _), rfl, .int _, .int _, fun hn => absurd ⟨_, _, rfl, rfl, hlf⟩ hn, fun t' b' e1 e2 _ => ?_⟩
        obtain ⟨rfl, rfl⟩ := vinj e1 e2
        refine ⟨(up _ blf), fun o2 H9 no2 s9 h9 => ?_⟩
        rw [nrm_scale hl0 (by omega)] at h9
        have g9 := g8.same s9
        refine ⟨_, rfl, _, _, dp2 (SqT.of h9), dp2 (SqT.of (s9 _ _ h8)), rfl, rfl, _, rfl, ?_⟩
        rw [eqv2, decide_eq_true ⟨rfl, rfl⟩]
        refine iteF ?_
        -- value(upper), is_value
        refine ⟨_, rfl, _, _, .d (.int _), .d (.int _), rfl, .int _, .int _, fun hn => absurd ⟨_, _, rfl, rfl, (by decide)⟩ hn, fun t' b' e1 e2 _ => ?_⟩
        obtain ⟨rfl, rfl⟩ := vinj e1 e2
        refine ⟨(by decide +kernel), fun o3 HA no3 sA hA => ?_⟩
        rw [nrm_one] at hA
        refine ⟨_, rfl, (by show 2 ≤ sizeLine; decide), fun o4 no4 => ?_⟩
        generalize eHB : upd HA o4 _ = HB
        have sB : Same HA HB := eHB ▸ same_upd no4
        have hB : HB o4 = some _ := eHB ▸ upd_same
        have gB := (g9.same sA).same sB
        have h8B := sB _ _ (sA _ _ (s9 _ _ h8))
        refine ⟨_, _, dp2 (SqT.of (sB _ _ hA)), dp2 (SqT.of hB), rfl, rfl, _, rfl, ?_⟩
        rw [eqv2, decide_eq_true ⟨rfl, rfl⟩]
        refine iteF ?_
        refine ⟨_, rfl, _, .d (.tuple [.int (nrm u l).1, .int (nrm u l).2]), rfl, dp2 (SqT.of h8B), _, _, rfl, rfl, _, rfl, ?_⟩
        have ev : isValT (.d (.tuple [.int (nrm u l).1, .int (nrm u l).2])) = true := by
          show (!decide ((nrm u l).2 < 1) && decide (cd (nrm u l).1 (nrm u l).2 = 1)) = true
          rw [decide_eq_false (show ¬ (nrm u l).2 < 1 by have := hlow.1; omega), decide_eq_true hlow.2]
          rfl
        rw [ev]
        refine iteF ?_
        -- changed ones
        refine ⟨_, rfl, _, rfl, o, _, _, f, rfl, SqT.of h8B, hlow, hf2, hf3, fun HC sC => ⟨_, rfl, iteF ?_⟩⟩
        have gC := gB.same sC
        have h8C := sC _ _ h8B
        -- text
        refine ⟨_, rfl, o, _, _, rfl, SqT.of h8C, up3 ba, up3 bb, ?_⟩
        refine ⟨_, rfl, _, _, _, _, _, rfl, .ty _, .base (.str _), kit_ty (kit_k .str .str), _, rfl, iteF ?_⟩
        refine ⟨_, rfl, _, rfl, o, _, _, rfl, SqT.of h8C, up3 ba, up3 bb, rfl, _, rfl, if_neg_of (by rw [decide_eq_true rfl]; rfl) ?_⟩
        have hlen : (txtV (nrm u l).1 (nrm u l).2).length ≤ 100000 := by
          rw [len_tl, tl_txtV]
          have l1 := len_int (up3 ba)
          have l2 := len_int (up3 bb)
          rw [len_tl, tl_int] at l1 l2
          split
          · omega
          · rw [List.length_append, List.length_cons]
            omega
        refine ⟨_, rfl, _, .d (.str (txtV (nrm u l).1 (nrm u l).2)), rfl, .str _, fun hn => absurd ⟨_, rfl⟩ hn, fun z ez => ?_⟩
        injection ez with ez
        injection ez with ez
        subst ez
        refine ⟨hlen, fun hn => ?_, fun x y exy o5 HD no5 sD hD => ?_⟩
        · rw [rdV_txt hlow (up4 ba) (up4 bb)] at hn
          cases hn
        rw [rdV_txt hlow (up4 ba) (up4 bb)] at exy
        injection exy with exy
        injection exy with ex ey
        subst ex ey
        have gD := gC.same sD
        refine ⟨_, rfl, _, _, dp2 (SqT.of hD), dp2 (SqT.of (sD _ _ h8C)), rfl, rfl, _, rfl, ?_⟩
        rw [eqv2, decide_eq_true ⟨rfl, rfl⟩]
        refine iteF ?_
        -- refused ones
        refine ⟨_, rfl, _, rfl, u, l, rfl, fun HE sE => ⟨_, rfl, iteF ?_⟩⟩
        have gE := gD.same sE
        have h8E := sE _ _ (sD _ _ h8C)
        -- made.append(one)
        have hlen3 : L.length < 3 := by omega
        refine ⟨_, rfl, .inl ⟨rfl, _, SqL.of gE.ha⟩, _, rfl, ma, _, _, rfl, rfl, gE.ha, (by rw [List.length_map]; exact small1000 (by omega)), ?_⟩
        have mo : o ≠ ma := ne_of h8E gE.ha (by intro z; cases z)
        generalize eF : upd HE ma _ = HF
        have bF : But ma HE HF := eF ▸ but_upd
        have hF : HF ma = some (.lst (L.map (fun e => .ref e.m) ++ [.ref o])) := eF ▸ upd_same
        have tF : ∀ {x : Addr} {xs : List V}, SqT K HE x xs → SqT K HF x xs := fun h => bF.seqT ⟨_, gE.ha⟩ h
        have hoF : SqT K HF o [.int (nrm u l).1, .int (nrm u l).2] := tF (SqT.of h8E)
        -- if lower < 0
        refine ⟨fun σ' H' => H' = HF ∧ ∃ u' l' : Int, 0 < l' ∧ u'.natAbs < 2 ^ 120 ∧ l'.natAbs < 2 ^ 120 ∧ nrm u' l' = nrm u l ∧ ∃ v9, σ' = [some (.ref a), some (.ref p), some (.ref ma), some (.ref pb), some (.int (0 + (i : Int))), some (.int u'), some (.int l'), some (.int f), some (.ref o), v9, none, none], ?_, ?_⟩
        · refine ⟨_, rfl, _, _, rfl, rfl, _, rfl, ie (fun c => ?_) (fun c => ?_)⟩
          · have c := of_decide_eq_true c
            refine ⟨_, rfl, _, rfl, _, rfl, _, rfl, rfl, -u, -l, by omega, by rw [Int.natAbs_neg]; exact hu, by rw [Int.natAbs_neg]; exact hl, nrm_neg c, _, rfl⟩
          · have c := of_decide_eq_false c
            exact ⟨rfl, u, l, by omega, hu, hl, rfl, _, rfl⟩
        · rintro σ3 H' ⟨rfl, u', l', hl0', hu', hl', hn', v9', rfl⟩
          have hbF : H' pb = some (.lst (L.map fun e => .ref e.y)) := bF _ _ gE.hb gE.ab.symm
          refine ⟨_, rfl, .inl ⟨rfl, _, SqL.of hbF⟩, _, rfl, _, rfl, (by show 2 ≤ sizeLine; decide), fun y ny => ?_⟩
          generalize eHG : upd H' y _ = HG
          have sG : Same H' HG := eHG ▸ same_upd ny
          have hG : HG y = some _ := eHG ▸ upd_same
          have hbG := sG _ _ hbF
          refine ⟨pb, _, _, rfl, rfl, hbG, (by rw [List.length_map]; exact small1000 (by omega)), ?_⟩
          generalize eI : upd HG pb _ = HI
          have bI : But pb HG HI := eI ▸ but_upd
          have hI : HI pb = some (.lst (L.map (fun e => .ref e.y) ++ [.ref y])) := eI ▸ upd_same
          have tI : ∀ {x : Addr} {xs : List V}, SqT K HG x xs → SqT K HI x xs := fun h => bI.seqT ⟨_, hbG⟩ h
          refine ⟨L ++ [⟨o, y, u', l'⟩], _, _, _, _, _, _, rfl, by rw [List.length_append, hL]; rfl, ?_⟩
          have srcI : Src HI p cl := ((gE.src.but bF gE.na.symm gE.ca).same sG).but bI gE.nb.symm gE.cb
          refine ⟨srcI, ?_, ?_, fun e he => ?_, gE.na, gE.nb, gE.ab, gE.ca, gE.cb⟩
          · rw [List.map_append]
            exact bI _ _ (sG _ _ hF) gE.ab
          · rw [List.map_append]
            exact hI
          · rcases List.mem_append.mp he with he | he
            · have k := gE.ok e he
              exact ⟨k.l0, k.bu, k.bl, tI (Same.seqT sG (tF k.hm)), tI (Same.seqT sG (tF k.hy))⟩
            · rw [List.mem_singleton.mp he]
              refine ⟨hl0', hu', hl', ?_, tI (SqT.of hG)⟩
              show SqT K HI o [.int (nrm u' l').1, .int (nrm u' l').2]
              rw [hn']
              exact tI (Same.seqT sG hoF)
    · rintro σ' H' ⟨L, v4, v5, v6, v7, v8, v9, rfl, hL, g⟩
      refine ⟨3, rfl, by decide, by decide, for_range (n := 3) (fun i σ2 H2 => H2 = H' ∧ ∃ v10 v11 : Option V, σ2 = [some (.ref a), some (.ref p), some (.ref ma), some (.ref pb), v4, v5, v6, v7, v8, v9, v10, v11]) ⟨rfl, none, none, rfl⟩ ?_ ?_⟩
      · rintro i σ2 H2 hi ⟨rfl, v10, v11, rfl⟩
        refine ⟨3, rfl, by decide, by decide, for_range (n := 3) (fun j σ3 H3 => H3 = H2 ∧ ∃ v11 : Option V, σ3 = [some (.ref a), some (.ref p), some (.ref ma), some (.ref pb), v4, v5, v6, v7, v8, v9, some (.int (0 + (i : Int))), v11]) ⟨rfl, _, rfl⟩ ?_ ?_⟩
        · rintro j σ3 H3 hj ⟨rfl, v11', rfl⟩
          have at_ : ∀ (k : Nat) (f : One → V) (hk : k < L.length), atI (L.map f) (0 + (k : Int)) = some (f L[k]) := fun k f hk => by
            rw [Int.zero_add]
            refine atI_nat ?_
            rw [List.getElem?_map, List.getElem?_eq_getElem hk]
            rfl
          have hi' : i < L.length := by omega
          have hj' : j < L.length := by omega
          have ki := g.ok L[i] (List.getElem_mem hi')
          have kj := g.ok L[j] (List.getElem_mem hj')
          refine ⟨_, rfl, _, rfl, _, _, _, _, rfl, rfl, SqL.of g.hb, at_ i _ hi', _, rfl, _, rfl, _, _, _, _, rfl, rfl, SqL.of g.hb, at_ j _ hj', _, rfl, _, rfl, _, _, _, _, rfl, rfl, SqL.of g.ha, at_ i _ hi', _, rfl, _, rfl, _, _, _, _, rfl, rfl, SqL.of g.ha, at_ j _ hj', ?_⟩
          refine ⟨_, _, _, _, _, _, _, _, rfl, ki.hy, kj.hy, ki.hm, kj.hm, ki.l0, kj.l0, up2 ki.bu, up2 ki.bl, up2 kj.bu, up2 kj.bl, _, rfl, iteF ?_⟩
          exact ⟨rfl, _, rfl⟩
        · rintro σ3 H3 ⟨rfl, v11', rfl⟩
          exact ⟨rfl, _, _, rfl⟩
      · rintro σ2 H2 ⟨rfl, v10, v11, rfl⟩
        exact q _
end
end K01
namespace K01
open PySem PySem.Spec PyProof.Rows L2 He TL EL
def dd_is_whole : He.DefD := ⟨("is_whole", none), "is_whole", "is_whole", defArgs s_is_whole, defBody s_is_whole, defScope s_is_whole, [], []⟩
def dd_common_divisor : He.DefD := ⟨("common_divisor", none), "common_divisor", "common_divisor", defArgs s_common_divisor, defBody s_common_divisor, defScope s_common_divisor, [], []⟩
def dd_value : He.DefD := ⟨("value", none), "value", "value", defArgs s_value, defBody s_value, defScope s_value, [.int 1], []⟩
def dd_is_value : He.DefD := ⟨("is_value", none), "is_value", "is_value", defArgs s_is_value, defBody s_is_value, defScope s_is_value, [], []⟩
def dd_less : He.DefD := ⟨("less", none), "less", "less", defArgs s_less, defBody s_less, defScope s_less, [], []⟩
def dd_text_of : He.DefD := ⟨("text_of", none), "text_of", "text_of", defArgs s_text_of, defBody s_text_of, defScope s_text_of, [], []⟩
def dd_read_digits : He.DefD := ⟨("read_digits", none), "read_digits", "read_digits", defArgs s_read_digits, defBody s_read_digits, defScope s_read_digits, [], []⟩
def dd_read_value : He.DefD := ⟨("read_value", none), "read_value", "read_value", defArgs s_read_value, defBody s_read_value, defScope s_read_value, [], []⟩
def dd__law_begin : He.DefD := ⟨("_law_begin", none), "_law_begin", "_law_begin", defArgs s__law_begin, defBody s__law_begin, defScope s__law_begin, [], []⟩
def dd__law_draw : He.DefD := ⟨("_law_draw", none), "_law_draw", "_law_draw", defArgs s__law_draw, defBody s__law_draw, defScope s__law_draw, [], []⟩
def dd__law_number : He.DefD := ⟨("_law_number", none), "_law_number", "_law_number", defArgs s__law_number, defBody s__law_number, defScope s__law_number, [], []⟩
def dd__law_divisor : He.DefD := ⟨("_law_divisor", none), "_law_divisor", "_law_divisor", defArgs s__law_divisor, defBody s__law_divisor, defScope s__law_divisor, [], []⟩
def dd__law_is_integer : He.DefD := ⟨("_law_is_integer", none), "_law_is_integer", "_law_is_integer", defArgs s__law_is_integer, defBody s__law_is_integer, defScope s__law_is_integer, [], []⟩
def dd__law_is_lowest : He.DefD := ⟨("_law_is_lowest", none), "_law_is_lowest", "_law_is_lowest", defArgs s__law_is_lowest, defBody s__law_is_lowest, defScope s__law_is_lowest, [], []⟩
def dd__law_refused : He.DefD := ⟨("_law_refused", none), "_law_refused", "_law_refused", defArgs s__law_refused, defBody s__law_refused, defScope s__law_refused, [], []⟩
def dd__law_all_refused : He.DefD := ⟨("_law_all_refused", none), "_law_all_refused", "_law_all_refused", defArgs s__law_all_refused, defBody s__law_all_refused, defScope s__law_all_refused, [], []⟩
def dd__law_written : He.DefD := ⟨("_law_written", none), "_law_written", "_law_written", defArgs s__law_written, defBody s__law_written, defScope s__law_written, [], []⟩
def dd__law_changed_are_none : He.DefD := ⟨("_law_changed_are_none", none), "_law_changed_are_none", "_law_changed_are_none", defArgs s__law_changed_are_none, defBody s__law_changed_are_none, defScope s__law_changed_are_none, [], []⟩
def dd__law_in_order : He.DefD := ⟨("_law_in_order", none), "_law_in_order", "_law_in_order", defArgs s__law_in_order, defBody s__law_in_order, defScope s__law_in_order, [], []⟩
def dd_law : He.DefD := ⟨("law", none), "law", "law", defArgs s_law, defBody s_law, defScope s_law, [], []⟩
def fn : List He.DefD := [dd_is_whole, dd_common_divisor, dd_value, dd_is_value, dd_less, dd_text_of, dd_read_digits, dd_read_value, dd__law_begin, dd__law_draw, dd__law_number, dd__law_divisor, dd__law_is_integer, dd__law_is_lowest, dd__law_refused, dd__law_all_refused, dd__law_written, dd__law_changed_are_none, dd__law_in_order, dd_law]
def fa : List He.Fa := [.glo "is_whole", .glo "common_divisor", .glo "value", .glo "is_value", .glo "less", .glo "text_of", .glo "read_digits", .glo "read_value", .glo "_law_begin", .glo "_law_draw", .glo "_law_number", .glo "_law_divisor", .glo "_law_is_integer", .glo "_law_is_lowest", .glo "_law_refused", .glo "_law_all_refused", .glo "_law_written", .glo "_law_changed_are_none", .glo "_law_in_order", .glo "law", .glo "AskError", .exc "AskError", .glo "NoValue", .exc "NoValue", .glo "NoCell", .exc "NoCell", .int "MOST_DIGITS" 40, .str "DIGITS" "0123456789", .free "ValueError", .free "isinstance", .free "int", .free "bool", .free "abs", .free "tuple", .free "len", .free "str", .free "list", .free "range", .exm "NoValue" "NoValue" true]
def exL (K : PySem.W.Frag) : List Bool := [excCB K (ga K "NoValue"), decide (PySem.W.kitOne K (.ref (ga K "NoValue")) (.ref (ga K "AskError")) = some true), decide (PySem.W.kitOne K (.ref (ga K "NoValue")) (.type "ValueError") = some true), decide (PySem.W.kitOne K (.ref (ga K "NoValue")) (.ref (ga K "NoCell")) = some false)]
def ex (K : PySem.W.Frag) : Bool := (exL K).all id
theorem txt_of {K : PySem.W.Frag} {h : Heap} {mg : Str → Option Value} (X : K.In h) (G : h.Ns mainGlobals mg) (c : He.SaysD fa fn K) (m : ex K = true) : Txt K mg := by
  exact ⟨He.glo_ok X G (c.fact 0 (by rfl)),
    He.glo_ok X G (c.fact 1 (by rfl)),
    He.glo_ok X G (c.fact 2 (by rfl)),
    He.glo_ok X G (c.fact 3 (by rfl)),
    He.glo_ok X G (c.fact 4 (by rfl)),
    He.glo_ok X G (c.fact 5 (by rfl)),
    He.glo_ok X G (c.fact 6 (by rfl)),
    He.glo_ok X G (c.fact 7 (by rfl)),
    He.glo_ok X G (c.fact 8 (by rfl)),
    He.glo_ok X G (c.fact 9 (by rfl)),
    He.glo_ok X G (c.fact 10 (by rfl)),
    He.glo_ok X G (c.fact 11 (by rfl)),
    He.glo_ok X G (c.fact 12 (by rfl)),
    He.glo_ok X G (c.fact 13 (by rfl)),
    He.glo_ok X G (c.fact 14 (by rfl)),
    He.glo_ok X G (c.fact 15 (by rfl)),
    He.glo_ok X G (c.fact 16 (by rfl)),
    He.glo_ok X G (c.fact 17 (by rfl)),
    He.glo_ok X G (c.fact 18 (by rfl)),
    He.glo_ok X G (c.fact 19 (by rfl)),
    xc_of (He.glo_ok X G (c.fact 20 (by rfl))) (He.exc_ok (c.fact 21 (by rfl))),
    xc_of (He.glo_ok X G (c.fact 22 (by rfl))) (He.exc_ok (c.fact 23 (by rfl))),
    xc_of (He.glo_ok X G (c.fact 24 (by rfl))) (He.exc_ok (c.fact 25 (by rfl))),
    gv_int (He.int_ok X G (c.fact 26 (by rfl))),
    gv_str (He.str_ok X G (c.fact 27 (by rfl))),
    He.free_ok X G (c.fact 28 (by rfl)),
    He.free_ok X G (c.fact 29 (by rfl)),
    He.free_ok X G (c.fact 30 (by rfl)),
    He.free_ok X G (c.fact 31 (by rfl)),
    He.free_ok X G (c.fact 32 (by rfl)),
    He.free_ok X G (c.fact 33 (by rfl)),
    He.free_ok X G (c.fact 34 (by rfl)),
    He.free_ok X G (c.fact 35 (by rfl)),
    He.free_ok X G (c.fact 36 (by rfl)),
    He.free_ok X G (c.fact 37 (by rfl)),
    He.exm_ok (c.fact 38 (by rfl)),
    c.def_ 0 (d := dd_is_whole) rfl,
    c.def_ 1 (d := dd_common_divisor) rfl,
    c.def_ 2 (d := dd_value) rfl,
    c.def_ 3 (d := dd_is_value) rfl,
    c.def_ 4 (d := dd_less) rfl,
    c.def_ 5 (d := dd_text_of) rfl,
    c.def_ 6 (d := dd_read_digits) rfl,
    c.def_ 7 (d := dd_read_value) rfl,
    c.def_ 8 (d := dd__law_begin) rfl,
    c.def_ 9 (d := dd__law_draw) rfl,
    c.def_ 10 (d := dd__law_number) rfl,
    c.def_ 11 (d := dd__law_divisor) rfl,
    c.def_ 12 (d := dd__law_is_integer) rfl,
    c.def_ 13 (d := dd__law_is_lowest) rfl,
    c.def_ 14 (d := dd__law_refused) rfl,
    c.def_ 15 (d := dd__law_all_refused) rfl,
    c.def_ 16 (d := dd__law_written) rfl,
    c.def_ 17 (d := dd__law_changed_are_none) rfl,
    c.def_ 18 (d := dd__law_in_order) rfl,
    c.def_ 19 (d := dd_law) rfl,
    excCB_ok (exG m 0 (by rfl)),
    of_decide_eq_true (exG m 1 (by rfl)),
    of_decide_eq_true (exG m 2 (by rfl)),
    of_decide_eq_true (exG m 3 (by rfl))⟩
def loose : List Str := ["AskError", "NoValue", "NoCell", "MOST_DIGITS", "DIGITS", "is_whole", "common_divisor", "value", "is_value", "less", "text_of", "read_digits", "read_value", "_law_begin", "_law_draw", "_law_number", "_law_divisor", "_law_is_integer", "_law_is_lowest", "_law_refused", "_law_all_refused", "_law_written", "_law_changed_are_none", "_law_in_order"]
abbrev R : PySem.W.OpenRow := PySem.W.OpenLaw.row PySem.Challenge.rw_endlessasks_k01_values
abbrev hk : PySem.W.Hook := hookM 5 fa fn ex
def ob (s : PySem.W.SharedT) : AlM := obsMG 5 fa fn ex (HandSHeadRun.getT s)
theorem ob_eq (s : PySem.W.SharedT) : ob s = hk.obs s.abs := obsMG_eq (HandSHeadRun.getT_eq s)
theorem run (w : World) : HandSHeadRun.RunEq R (PySem.W.view R.prog [27]) hk ob 4000 loose w := by
  intro os
  kernel_rfl
end K01
namespace K01
open PySem PySem.Spec PyProof.Rows L2 He TL EL
theorem facts {P : Program} {w : World} {K : PySem.W.Frag} {mg : Str → Option Value} {f : Addr} (T : Txt K mg) (hfa : mg ("law" : Str) = some (.ref f)) :
    ∃ fd : FuncData, (∀ (s : Shared) (v : Value), BindsTo s fd ⟨[v], []⟩ [("_law_script", v)]) ∧ ∀ base : Heap, FnOk P w K mg base CX0 6 f fd ["_law_script"] (spLaw K) := by
  obtain ⟨fd, F⟩ := T.f_law
  have e := hfa.symm.trans T.g_law
  cases e
  have b := FunD.bindsA (ps := ["_law_script"]) F (fun _ _ _ _ _ _ us hl => match us, hl with | [_], _ => rfl)
  exact ⟨fd, fun s v => b s [v] rfl, fun base => ok_law T F⟩
end K01
open PySem PySem.W PySem.Calls PyProof.Rows
set_option maxHeartbeats 0 in
theorem PySem.Challenge.cw_endlessasks_k01_values_holds : PySem.Challenge.rw_endlessasks_k01_values.Holds := by
  w_on; o_law
  refine HandSHeadRun.head_any (r := OpenLaw.row PySem.Challenge.rw_endlessasks_k01_values) (q := view (OpenLaw.row PySem.Challenge.rw_endlessasks_k01_values).prog [27]) (H := K01.hk) (ob := K01.ob) (M := 4000) (loose := K01.loose) (d := HandSHeadRun.topDef (OpenLaw.row PySem.Challenge.rw_endlessasks_k01_values).prog 27) (kwd := []) K01.ob_eq
    (by kernel_rfl) (fun s => by kernel_rfl) K01.run (by kernel_rfl) (by kernel_rfl) (by kernel_rfl) (by rfl) (by first | assumption | decide +kernel) (by decide +kernel) ⟨rfl, rfl, rfl, rfl, rfl, by decide +kernel⟩ ?hw ?hc
  case hw => w_witness2
  case hc =>
    refine L2.walk_ofE (l := PySem.Challenge.rw_endlessasks_k01_values) (n := 63) (k := 6) (x := "_law_script") (CX := L2.CX0) rfl (by decide) (by kernel_rfl) ⟨rfl, by decide, by decide⟩ ?F (fun _ _ _ _ z => z)
    intro w mg fa h Y G hmg0
    obtain ⟨K, KX, c, m⟩ := Y
    have hmg : mg ("law" : PySem.Str) = some (.ref fa) := by
      have e : (HandSHeadRun.topDef (OpenLaw.row PySem.Challenge.rw_endlessasks_k01_values).prog 27).name = ("law" : PySem.Str) := by kernel_rfl
      rw [← e]
      exact hmg0
    obtain ⟨fd, hb, hF⟩ := K01.facts (P := (PySem.Challenge.rw_endlessasks_k01_values).prog) (w := w) (K01.txt_of KX G c m) hmg
    exact ⟨K, fd, K01.spLaw K, KX, hb, fun H a ns hl _ hS => ⟨a, ns, rfl, hS, fun _ => rfl⟩, fun base _ _ => hF base⟩
