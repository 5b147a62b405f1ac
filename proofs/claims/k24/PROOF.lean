import PyProof.Rows.All
import Wide.All
import OpenK.AllK
import Wide.FinOn
import KE.KStateDown
import HandS.ForMost
import HandS.ForExc
import HandS.More
import HandS.Wide
import HandS.IsInst
import HandS.ExcIs
import HandS.FStr
import HandS.Defaults
import HandS.TupAny
import HandS.TupLe
import HandS.Deep
import HandS.Flow
import HandS.Walk
import HandS.Head0
import HandS.Head1
import HandS.Head2
import HandS.HeadEnd
import HandS.HeadHook1
import HandS.HeadHook2
import HandS.HeadNt
import HandS.ExcField
import KE.KExcSuper
import HandS.SlotsOwn
import KE.KOpsOwn
import HandS.Star
import HandS.DictComp
import HandS.Conv
import HandS.HeadHook3
import HandS.WrittenGet
import HandS.Style
import KE.KExcIs
import KE.KEqDict
import HandS.Zip
import KE.KDictCopyH
import HandS.HotCalls
import HandS.SuiteRaise
import KE.KDictZip
import KE.KDictItemsList
import HandS.ListItems
import HandS.DictTup
import KE.GoesEnum
import HandS.TupSets
import HandS.TupAny
import HandS.SortInts
import Wide.All
import OpenK.AllK
import Wide.FinOn
import KE.KDictList
import PySem.Challenge.RW_endlessasks_k24_all_shapes
set_option Elab.async false
set_option linter.all false
set_option maxRecDepth 100000
namespace EL
/-- the greatest common divisor, as the loop leaves it -/
def cd (a b : Int) : Int := ((Nat.gcd a.natAbs b.natAbs : Nat) : Int)
def nrm (t b : Int) : Int × Int := if b < 0 then ((-t) / cd (-t) (-b), (-b) / cd (-t) (-b)) else (t / cd t b, b / cd t b)
theorem cd_pos {a b : Int} (h : b ≠ 0) : 0 < cd a b := by
  unfold cd
  have := Nat.gcd_pos_of_pos_right a.natAbs (n := b.natAbs) (by omega)
  omega
theorem cd_dvd_l (a b : Int) : cd a b ∣ a := by
  unfold cd
  exact Int.ofNat_dvd_left.mpr (Nat.gcd_dvd_left _ _)
theorem cd_dvd_r (a b : Int) : cd a b ∣ b := by
  unfold cd
  exact Int.ofNat_dvd_left.mpr (Nat.gcd_dvd_right _ _)
theorem cd_neg_l (a b : Int) : cd (-a) b = cd a b := by unfold cd; rw [Int.natAbs_neg]
theorem cd_neg_r (a b : Int) : cd a (-b) = cd a b := by unfold cd; rw [Int.natAbs_neg]
/-- a value in lowest terms -/
def Low (a b : Int) : Prop := 0 < b ∧ cd a b = 1
theorem cd_div {a b : Int} (hb : b ≠ 0) : cd (a / cd a b) (b / cd a b) = 1 := by
  have hp := cd_pos (a := a) hb
  have e : ∀ x : Int, cd a b ∣ x → (x / cd a b).natAbs = x.natAbs / Nat.gcd a.natAbs b.natAbs := fun x hx => by
    rw [Int.natAbs_ediv_of_dvd hx]
    rfl
  show ((Nat.gcd (a / cd a b).natAbs (b / cd a b).natAbs : Nat) : Int) = 1
  rw [e a (cd_dvd_l a b), e b (cd_dvd_r a b), Nat.gcd_div (Nat.gcd_dvd_left _ _) (Nat.gcd_dvd_right _ _), Nat.div_self (Nat.gcd_pos_of_pos_right _ (by omega))]
  rfl
theorem nrm_low {t b : Int} (hb : b ≠ 0) : Low (nrm t b).1 (nrm t b).2 := by
  unfold nrm
  by_cases h : b < 0
  · rw [if_pos h]
    have hp := cd_pos (a := -t) (b := -b) (by omega)
    refine ⟨?_, cd_div (by omega)⟩
    exact Int.ediv_pos_of_pos_of_dvd (by omega) (Int.le_of_lt hp) (cd_dvd_r _ _)
  · rw [if_neg h]
    have hp := cd_pos (a := t) (b := b) hb
    refine ⟨?_, cd_div hb⟩
    exact Int.ediv_pos_of_pos_of_dvd (by omega) (Int.le_of_lt hp) (cd_dvd_r _ _)
theorem nrm_eq {t b : Int} (hb : b ≠ 0) : (nrm t b).1 * b = t * (nrm t b).2 := by
  unfold nrm
  by_cases h : b < 0
  · rw [if_pos h]
    have hp := cd_pos (a := -t) (b := -b) (by omega)
    obtain ⟨u, hu⟩ := cd_dvd_l (-t) (-b)
    obtain ⟨v, hv⟩ := cd_dvd_r (-t) (-b)
    generalize cd (-t) (-b) = g at *
    have e1 : -t / g = u := by rw [hu, Int.mul_ediv_cancel_left _ (by omega)]
    have e2 : -b / g = v := by rw [hv, Int.mul_ediv_cancel_left _ (by omega)]
    show -t / g * b = t * (-b / g)
    rw [e1, e2]
    have ht : t = -(g * u) := by omega
    have hb' : b = -(g * v) := by omega
    rw [ht, hb', Int.mul_neg, Int.neg_mul, Int.mul_left_comm, Int.mul_comm g u, Int.mul_assoc, Int.mul_left_comm u g v]
  · rw [if_neg h]
    have hp := cd_pos (a := t) (b := b) hb
    obtain ⟨u, hu⟩ := cd_dvd_l t b
    obtain ⟨v, hv⟩ := cd_dvd_r t b
    generalize cd t b = g at *
    have e1 : t / g = u := by rw [hu, Int.mul_ediv_cancel_left _ (by omega)]
    have e2 : b / g = v := by rw [hv, Int.mul_ediv_cancel_left _ (by omega)]
    show t / g * b = t * (b / g)
    rw [e1, e2, hu, hv, Int.mul_left_comm, Int.mul_assoc]
/-- two values in lowest terms that stand for one fraction are one -/
theorem low_unique {a b c d : Int} (h1 : Low a b) (h2 : Low c d) (h : a * d = c * b) : a = c ∧ b = d := by
  obtain ⟨hb, g1⟩ := h1
  obtain ⟨hd, g2⟩ := h2
  have c1 : Nat.gcd a.natAbs b.natAbs = 1 := by unfold cd at g1; omega
  have c2 : Nat.gcd c.natAbs d.natAbs = 1 := by unfold cd at g2; omega
  have hn : a.natAbs * d.natAbs = c.natAbs * b.natAbs := by rw [← Int.natAbs_mul, ← Int.natAbs_mul, h]
  have d1 : b.natAbs ∣ d.natAbs := by
    have : b.natAbs ∣ a.natAbs * d.natAbs := by rw [hn]; exact Nat.dvd_mul_left _ _
    exact (Nat.Coprime.symm (show Nat.Coprime a.natAbs b.natAbs from c1)).dvd_of_dvd_mul_left this
  have d2 : d.natAbs ∣ b.natAbs := by
    have : d.natAbs ∣ c.natAbs * b.natAbs := by rw [← hn]; exact Nat.dvd_mul_left _ _
    exact (Nat.Coprime.symm (show Nat.Coprime c.natAbs d.natAbs from c2)).dvd_of_dvd_mul_left this
  have e : b = d := by
    have := Nat.dvd_antisymm d1 d2
    omega
  subst e
  exact ⟨Int.eq_of_mul_eq_mul_right (by omega) h, rfl⟩
theorem nrm_scale {t b f : Int} (hb : b ≠ 0) (hf : f ≠ 0) : nrm (t * f) (b * f) = nrm t b := by
  have hbf : b * f ≠ 0 := Int.mul_ne_zero hb hf
  have l1 := nrm_low (t := t * f) hbf
  have l2 := nrm_low (t := t) hb
  have e1 := nrm_eq (t := t * f) hbf
  have e2 := nrm_eq (t := t) hb
  have u := low_unique l1 l2 (by
    generalize (nrm (t * f) (b * f)).1 = p at *
    generalize (nrm (t * f) (b * f)).2 = q at *
    generalize (nrm t b).1 = r at *
    generalize (nrm t b).2 = s at *
    -- p * (b f) = (t f) q ; r b = t s ; want p s = r q
    have hbf2 : p * b = t * q := by
      refine Int.eq_of_mul_eq_mul_right hf ?_
      rw [Int.mul_assoc, e1, Int.mul_assoc, Int.mul_comm f q, Int.mul_assoc]
    refine Int.eq_of_mul_eq_mul_right hb ?_
    calc p * s * b = (p * b) * s := by rw [Int.mul_assoc, Int.mul_comm s b, Int.mul_assoc]
      _ = (t * q) * s := by rw [hbf2]
      _ = (t * s) * q := by rw [Int.mul_assoc, Int.mul_comm q s, Int.mul_assoc]
      _ = r * b * q := by rw [e2]
      _ = r * q * b := by rw [Int.mul_assoc, Int.mul_comm b q, Int.mul_assoc])
  exact Prod.ext u.1 u.2
theorem nrm_one (t : Int) : nrm t 1 = (t, 1) := by
  have e : cd t 1 = 1 := by unfold cd; simp
  unfold nrm
  rw [if_neg (by omega), e]
  simp
end EL
namespace EL
open PySem PySem.Spec PyProof.Rows L2 He
/-! ### a def by its name -/
structure Dn (P : Program) (w : World) (K : PySem.W.Frag) (mg : Str → Option Value) (base : Heap) (CX : CXT) (k : Nat) (x : Str) (sp : Sp) : Prop where
  g : mg x = some (.ref (ga K x))
  kp : PySem.W.keepIn K (.ref (ga K x)) = true
  r : FnR P w K mg base CX k (ga K x) sp
section
variable {X : Cx} {CX : CXT} {k : Nat} {f : Addr} {sp : Sp} {E : L2.St → XK} {x : Str} {p pos : Pos} {e : Expr} {es : List Expr} {t : TA}
theorem run_fnRS {pins : List (Addr × Obj)} {σ : L2.St} {H : Hp} {s : Shared} {Q : VK} {us : List Value} {vs : List V} (F : FnR X.prog X.w X.K X.mg X.base CX k f sp) (hr : Room k X.A) (hx : PassesAt CX X σ (E σ))
    (I : Inv X pins σ H s) (r : Vals vs us) (h : sp vs H Q (E σ)) : wpAny (model X.prog X.w) X.A (call (.ref f) us) (EP X pins σ Q) X.xe s := by
  refine wpAny_call (codeAny_mono (F X.A X.stack s H us vs Q (E σ) hr I.env0 r h) fun r s' hq => ?_)
  cases r with
  | error e => exact hx pins H s e s' I hq
  | ok fl =>
    cases fl with
    | ret u => exact I.after hq
    | next => exact False.elim hq
    | brk => exact False.elim hq
    | cont => exact False.elim hq
theorem pe_fn (F : FnR X.prog X.w X.K X.mg X.base CX k f sp) (hr : Room k X.A) (hg : Gl X x) (hm : X.mg x = some (.ref f)) (hk : PySem.W.keepIn X.K (.ref f) = true) (hx : ∀ σ, PassesAt CX X σ (E σ))
    (ha : PA X (e :: es) t) (hdb : (x == ("__debug__" : Str)) = false := by decide) (he : starEach (e :: es) X.env = (false, eval e X.env) :: starEach es X.env := by rfl) (hpl : (backTo pos (starEach es X.env)).any (·.1) = false := by rfl) :
    PE X (.Call (.Name x p) (e :: es) [] pos) (tCallS sp E t) := by
  refine ⟨fun pins s σ H Q I h => ?_⟩
  refine wpAny_Call_Name_kw (ld_glob I hg hm ?_ hdb)
  refine PySem.W.callWith_K (h₀ := X.base) I.ok.mod.kin hk (thn (ha.run pos pins s σ H _ I h) fun us s1 ⟨vs, H1, I1, r, q⟩ => ⟨I1.kIn, ?_⟩) he hpl
  exact run_fnRS F hr (hx σ) I1 r q
/-- a call of a def that lets nothing out -/
theorem cl (D : Dn X.prog X.w X.K X.mg X.base CX0 k x sp) (hr : Room k X.A) (ha : PA X (e :: es) t) (hg : Gl X x := by rfl)
    (hdb : (x == ("__debug__" : Str)) = false := by decide) (he : starEach (e :: es) X.env = (false, eval e X.env) :: starEach es X.env := by rfl) (hpl : (backTo pos (starEach es X.env)).any (·.1) = false := by rfl) :
    PE X (.Call (.Name x p) (e :: es) [] pos) (tCallS sp (fun _ => E0) t) := pe_fn D.r hr hg D.g D.kp (fun _ _ _ _ _ _ _ h => h.elim) ha hdb he hpl
/-- a call of a def that may raise, where it raises nothing -/
theorem cl0 (D : Dn X.prog X.w X.K X.mg X.base (L2.CX X.prog X.w) k x sp) (hr : Room k X.A) (ha : PA X (e :: es) t) (hg : Gl X x := by rfl)
    (hdb : (x == ("__debug__" : Str)) = false := by decide) (he : starEach (e :: es) X.env = (false, eval e X.env) :: starEach es X.env := by rfl) (hpl : (backTo pos (starEach es X.env)).any (·.1) = false := by rfl) :
    PE X (.Call (.Name x p) (e :: es) [] pos) (tCallS sp (fun _ => E0) t) := pe_fn D.r hr hg D.g D.kp (fun σ pins H s e s' I h => passL pins σ H s e s' I h) ha hdb he hpl
/-- a call of a def that may raise -/
theorem clx {W : WX} (tk : Takes X W) (D : Dn X.prog X.w X.K X.mg X.base (L2.CX X.prog X.w) k x sp) (hr : Room k X.A) (ha : PA X (e :: es) t) (hg : Gl X x := by rfl)
    (hdb : (x == ("__debug__" : Str)) = false := by decide) (he : starEach (e :: es) X.env = (false, eval e X.env) :: starEach es X.env := by rfl) (hpl : (backTo pos (starEach es X.env)).any (·.1) = false := by rfl) :
    PE X (.Call (.Name x p) (e :: es) [] pos) (tCallS sp (WE W) t) := pe_fn D.r hr hg D.g D.kp (fun σ => passAt tk σ) ha hdb he hpl
/-- a module's name that holds a plain value -/
theorem pe_gv {v : V} {pos : Pos} (h : ∃ u, X.mg x = some u ∧ RelV v u) (hg : Gl X x := by rfl) (hd : (x == ("__debug__" : Str)) = false := by decide) : PE X (.Name x pos) (tC v) := by
  obtain ⟨u, h1, h2⟩ := h
  exact pe_glob hg h1 h2 hd
end
/-! ### own errors without an __init__ -/
structure XC (K : PySem.W.Frag) (mg : Str → Option Value) (x : Str) : Prop where
  g : mg x = some (.ref (ga K x))
  q : PySem.W.excIn K (ga K x) veBase "ValueError.__new__" = true
  k : PySem.W.keepIn K (.ref (ga K x)) = true
  b : PySem.W.subIn K (.ref (ga K x)) (.type "BaseException") = some true
  t : PySem.W.typeIn K (.ref (ga K x)) = some (.type "type")
/-- raise C('..') -/
theorem rs {X : Cx} {W : WX} {c m : Str} {j : Nat} {p p2 pos pos2 : Pos} (hc : X.calm = true) (tk : Takes X W) (x : XC X.K X.mg c) (hg : Gl X c) (hdb : (c == ("__debug__" : Str)) = false := by decide) :
    PS X (.Raise (some (.Call (.Name c p) [.Constant (.str m) j p2] [] pos)) none pos2) (fun _ σ H => W (.ref (ga X.K c)) none σ H) :=
  ps_raise hc tk (pmk_own PySem.F.excBase_ValueError x.q x.g x.k (raises_own x.b x.t) hg hdb)
/-! ### heaps -/
theorem same_upd {H : Hp} {p : Addr} {o : HO} (h : H p = none) : Same H (upd H p o) := fun b x e => by
  rw [upd_ne (ne_of_none e h)]
  exact e
theorem Same.seqT {K : PySem.W.Frag} {H H' : Hp} {a : Addr} {xs : List V} (e : Same H H') (h : SqT K H a xs) : SqT K H' a xs := by
  rcases h with (h | ⟨o, h⟩) | h
  · exact .inl (.inl (e _ _ h))
  · exact .inl (.inr ⟨o, e _ _ h⟩)
  · exact .inr h
/-- a new object: the heap behind is a letter -/
theorem newO {H : Hp} {o : HO} {Q : Addr → Hp → Prop} (h : ∀ p H', H p = none → Same H H' → H' p = some o → Q p H') : ∀ p, H p = none → Q p (upd H p o) := fun p hp => h p _ hp (same_upd hp) upd_same
theorem newV {H : Hp} {o : HO} {Q : V → Hp → Prop} (h : ∀ p H', H p = none → Same H H' → H' p = some o → Q (.ref p) H') : ∀ p, H p = none → Q (.ref p) (upd H p o) := fun p hp => h p _ hp (same_upd hp) upd_same
theorem ie {b : Bool} {A B : Prop} (h1 : b = true → A) (h2 : b = false → B) : if b = true then A else B := by
  cases b with
  | true => rw [if_pos rfl]; exact h1 rfl
  | false => rw [if_neg Bool.false_ne_true]; exact h2 rfl
theorem if_pos_of {b : Bool} {A B : Prop} (h : b = true) (a : A) : if b = true then A else B := by rw [if_pos h]; exact a
theorem if_neg_of {b : Bool} {A B : Prop} (h : b = false) (a : B) : if b = true then A else B := by rw [h, if_neg Bool.false_ne_true]; exact a
theorem small40 {n : Nat} (h : n ≤ 100000) : n ≤ sizeLine := Nat.le_trans h (by decide)
end EL
namespace EL
open PySem PySem.Spec PyProof.Rows L2 He
/-! ### the head: facts, defs and one more Bool -/
theorem xc_of {K : PySem.W.Frag} {mg : Str → Option Value} {x : Str} (g : mg x = some (.ref (ga K x))) (h : PySem.W.excIn K (ga K x) veBase "ValueError.__new__" = true ∧ PySem.W.keepIn K (.ref (ga K x)) = true ∧ PySem.W.subIn K (.ref (ga K x)) (.type "BaseException") = some true ∧
    PySem.W.typeIn K (.ref (ga K x)) = some (.type "type")) : XC K mg x := ⟨g, h.1, h.2.1, h.2.2.1, h.2.2.2⟩
theorem gv_int {mg : Str → Option Value} {x : Str} {i : Int} (h : ∃ t, mg x = some (.int i t)) : ∃ u, mg x = some u ∧ RelV (.int i) u := by
  obtain ⟨t, e⟩ := h
  exact ⟨_, e, t, rfl⟩
theorem gv_str {mg : Str → Option Value} {x z : Str} (h : ∃ t, mg x = some (.str z t)) : ∃ u, mg x = some u ∧ RelV (.str z) u := by
  obtain ⟨t, e⟩ := h
  exact ⟨_, e, t, rfl⟩
abbrev AlM : Type := AlD × Bool
def obsM (fa : List Fa) (fn : List DefD) (ex : PySem.W.Frag → Bool) (K : PySem.W.Frag) : AlM := (obsD fa fn K, ex K)
def obsMG (n : Nat) (fa : List Fa) (fn : List DefD) (ex : PySem.W.Frag → Bool) (g : Addr → Option Obj) : AlM := obsM fa fn ex (frG g (asD g n))
def valM (fn : List DefD) : AlM := (valD fn, true)
def hookM (n : Nat) (fa : List Fa) (fn : List DefD) (ex : PySem.W.Frag → Bool) : PySem.W.Hook where
  α := AlM
  obs := fun s => obsMG n fa fn ex s.heap.get?
  val := fun _ => valM fn
  says := fun _ h => ∃ K : PySem.W.Frag, K.In h ∧ SaysD fa fn K ∧ ex K = true
  of := fun _ _ e => ⟨_, frG_in, congrArg (fun z : AlM => z.1) e, congrArg (fun z : AlM => z.2) e⟩
  keeps := fun _ _ _ ⟨K, hK, c⟩ k => ⟨K, PySem.W.Frag.In.keeps hK k, c⟩
theorem obsMG_eq {n : Nat} {fa : List Fa} {fn : List DefD} {ex : PySem.W.Frag → Bool} {g : Addr → Option Obj} {s : Shared} (h : ∀ a, g a = s.heap.get? a) : obsMG n fa fn ex g = (hookM n fa fn ex).obs s := by
  have e : g = s.heap.get? := funext h
  rw [e] <;> rfl
end EL
namespace EL
open PySem PySem.Spec PyProof.Rows L2 He
/-! ### from a def's body to its Dn -/
section
variable {P : Program} {w : World} {K : PySem.W.Frag} {mg : Str → Option Value} {base : Heap} {CX : CXT} {k : Nat} {x : Str} {sp : Sp} {params : Arguments} {body : List Stmt} {scope : Scope} {dvs : List V} {fd : FuncData} {ps N : List Str}
theorem dnN (g : mg x = some (.ref (ga K x))) (F : FunD K x x params body scope [] [] (ga K x) fd)
    (hb : ∀ (kV doc pm : Value) (an : Option Addr) (cdv ct : Value) (us : List Value), us.length = ps.length → bindArgs (PySem.W.fnOf x x params body scope .none kV doc pm an cdv ct) ⟨us, []⟩ = pure (ps.zip us))
    (S : FnScope N ps scope) (len : ∀ vs H Q E, sp vs H Q E → vs.length = ps.length)
    (hbody : ∀ (cdv : Value) (A : Around) (outer : List Env) (s : Shared) (H : Hp) (vs : List V) (Q : VK) (E : XK), Room k (A.deeper (envOfC x scope s.heap.objs.size (ga K x) cdv)) → sp vs H Q E →
      ∃ t, PSs (cxOf CX P w K mg base N x scope (ga K x) cdv A outer s H E) body t ∧ t { nx := fun _ H' => Q .non H', rt := Q } (start N vs) H) : Dn P w K mg base CX (k + 1) x sp :=
  ⟨g, F.kp, ((F.ok S len hbody).raw (F.bindsN hb) .nil).imp fun vs H Q E h => by rw [List.append_nil]; exact h⟩
theorem Dn.mono {j : Nat} (D : Dn P w K mg base CX j x sp) (h : j ≤ k) : Dn P w K mg base CX k x sp := ⟨D.g, D.kp, D.r.mono h⟩
end
/-! ### data -/
inductive Kd where
  | non | bl | int | str | lst | tup | dct
  deriving DecidableEq
def kdN : Kd → String
  | .non => "NoneType"
  | .bl => "bool"
  | .int => "int"
  | .str => "str"
  | .lst => "list"
  | .tup => "tuple"
  | .dct => "dict"
def kd : PyData → Kd
  | .none => .non
  | .bool _ => .bl
  | .int _ => .int
  | .str _ => .str
  | .list _ => .lst
  | .tuple _ => .tup
  | .dict _ => .dct
def tyn (d : PyData) : String := kdN (kd d)
theorem SqL.ty {K : PySem.W.Frag} {H : Hp} {a : Addr} {xs : List V} (h : SqL K H a xs) : TyX K H (.ref a) (.type "list") := by
  rcases h with (h | ⟨o, h⟩) | ⟨o, its, n, h1, h2, _⟩
  · exact .base (.lst h)
  · exact .base (.frz h)
  · exact .kList h1 h2
theorem SqT.ty {K : PySem.W.Frag} {H : Hp} {a : Addr} {xs : List V} (h : SqT K H a xs) : TyX K H (.ref a) (.type "tuple") := by
  rcases h with (h | ⟨o, h⟩) | ⟨o, its, n, h1, h2, _⟩
  · exact .base (.tup h)
  · exact .fTuple h
  · exact .kTuple h1 h2
theorem Dp.ty {K : PySem.W.Frag} {H : Hp} {v : V} {d : PyData} (h : Dp K H v d) : TyX K H v (.type (tyn d)) := by
  cases h with
  | non => exact .base .non
  | bl b => exact .base (.bl b)
  | int i => exact .base (.int i)
  | str x => exact .base (.str x)
  | lst h _ => exact SqL.ty h
  | tup h _ => exact SqT.ty h
mutual
theorem Dp.same {K : PySem.W.Frag} {H H' : Hp} (s : Same H H') : ∀ {d : PyData} {v : V}, Dp K H v d → Dp K H' v d
  | _, _, .non => .non
  | _, _, .bl b => .bl b
  | _, _, .int i => .int i
  | _, _, .str x => .str x
  | _, _, .lst h a => .lst (s.seq h) (DpAll.same s a)
  | _, _, .tup h a => .tup (Same.seqT s h) (DpAll.same s a)
theorem DpAll.same {K : PySem.W.Frag} {H H' : Hp} (s : Same H H') : ∀ {ds : List PyData} {vs : List V}, DpAll K H vs ds → DpAll K H' vs ds
  | _, _, .nil => .nil
  | _, _, .cons a b => .cons (Dp.same s a) (DpAll.same s b)
end
theorem DpAll.length {K : PySem.W.Frag} {H : Hp} : ∀ {ds : List PyData} {vs : List V}, DpAll K H vs ds → vs.length = ds.length
  | _, _, .nil => rfl
  | _, _, .cons _ b => congrArg Nat.succ (DpAll.length b)
/-- isinstance's answers of data -/
def kIs (T k : Kd) : Bool := decide (k = T) || (decide (T = .int) && decide (k = .bl))
def isTy (T : Kd) (d : PyData) : Bool := kIs T (kd d)
theorem kit_k : ∀ T k : Kd, kitB (kdN k) (kdN T) = some (kIs T k) := by
  intro T k
  cases T <;> cases k <;> decide +kernel
theorem kit_d (K : PySem.W.Frag) (T : Kd) (d : PyData) : PySem.W.kitOne K (.type (tyn d)) (.type (kdN T)) = some (isTy T d) := kit_ty (kit_k T (kd d))
/-- a thing: data, or some object that is none of the five -/
inductive Th where
  | d (d : PyData)
  | o
def ThOk (K : PySem.W.Frag) (H : Hp) (v : V) : Th → Prop
  | .d d => Dp K H v d
  | .o => ∃ t, TyX K H v t ∧ ∀ T : Kd, PySem.W.kitOne K t (.type (kdN T)) = some false
def Th.is (T : Kd) : Th → Bool
  | Th.d x => isTy T x
  | Th.o => false
/-- its type and isinstance's answers -/
theorem ThOk.ty {K : PySem.W.Frag} {H : Hp} {v : V} {th : Th} (h : ThOk K H v th) : ∃ t, TyX K H v t ∧ ∀ T : Kd, PySem.W.kitOne K t (.type (kdN T)) = some (th.is T) := by
  cases th with
  | d d => exact ⟨_, Dp.ty h, fun T => kit_d K T d⟩
  | o => exact h
def isWholeT (th : Th) : Bool := th.is .int && !th.is .bl
def isWholeD : PyData → Bool
  | .int _ => true
  | _ => false
theorem isWholeT_d (d : PyData) : isWholeT (.d d) = isWholeD d := by cases d <;> rfl
def isValD : PyData → Bool
  | .tuple [.int a, .int b] => !decide (b < 1) && decide (cd a b = 1)
  | _ => false
def isValT : Th → Bool
  | Th.d x => isValD x
  | Th.o => false
end EL
namespace EL
open PySem PySem.Spec PyProof.Rows L2 He TL
/-! ### keywords alone -/
section
variable {K : PySem.W.Frag} {x qual : Str} {params : Arguments} {body : List Stmt} {scope : Scope} {dvs : List V} {kws : List (Str × V)} {f : Addr} {fd : FuncData} {ps : List Str}
theorem kbinds1 (F : FunD K x qual params body scope dvs kws f fd) (n : Nat) (ks : List Str) (g : {α : Type} → List α → List α → List α → List α) (hd : dvs ≠ [])
    (hrel : ∀ {vs ds zs : List V} {us its ws : List Value}, Vals vs us → Vals ds its → Vals zs ws → Vals (g vs ds zs) (g us its ws))
    (h : ∀ (T : Addr) (kV doc pm : Value) (an : Option Addr) (cdv ct : Value) (us its ws : List Value), us.length = n → its.length = dvs.length → ws.length = ks.length →
      ∃ k, bindArgs (PySem.W.fnOf x qual params body scope (.ref T) kV doc pm an cdv ct) ⟨us, ks.zip ws⟩ = seqItems? (.ref T) >>= k ∧ k (some its.toArray) = pure (ps.zip (g us its ws))) :
    ∃ its : List Value, KBn K fd ps n ks (fun us ws => g us its ws) (fun vs zs => g vs dvs zs) := by
  obtain ⟨oc, od, dV, kV, doc, pm, an, cdv, ct, osl, rfl, lk, hcd, hD, hK⟩ := F.ex
  rcases hD with ⟨e, _⟩ | ⟨_, T, o, its, m, rfl, lT, oT, rT⟩
  · exact absurd e hd
  · refine ⟨its, ⟨fun s us ws X h1 h2 => ?_, fun r rz => hrel r rT rz⟩⟩
    obtain ⟨k, e1, e2⟩ := h T kV doc pm an cdv ct us its ws h1 rT.length.symm h2
    refine BindsTo.of_looks fun M => ?_
    rw [e1]
    exact looks_items X lT oT (.of_pure e2)
end
section
variable {X : Cx} {CX : CXT} {k : Nat} {f : Addr} {fd : FuncData} {ps ks : List Str} {sp : Sp} {E : XK} {x : Str} {p pos : Pos} {kws : List Keyword} {tk : TA} {g : List Value → List Value → List Value} {gV : List V → List V → List V}
/-- f(k = v, ..) -/
theorem pe_callN0 (F : FnOk X.prog X.w X.K X.mg X.base CX k f fd ps sp) (hr : Room k X.A) (hg : Gl X x) (hm : X.mg x = some (.ref f)) (hk : PySem.W.keepIn X.K (.ref f) = true) (hb : KBn X.K fd ps 0 ks g gV) (hx : Passes CX X E)
    (hkw : PK X kws tk) (hall : (backToKw pos (keywordEach kws X.env)).all (·.1.isSome) = true := by rfl) (hks : (backToKw pos (keywordEach kws X.env)).filterMap (·.1) = ks := by rfl)
    (hdb : (x == ("__debug__" : Str)) = false := by decide) (hpl : ((backTo pos (starEach [] X.env)).any (·.1) || (backToKw pos (keywordEach kws X.env)).any (·.1.isNone)) = false := by rfl) :
    PE X (.Call (.Name x p) [] kws pos) (tCallN 0 ks.length sp gV E tNil tk) := by
  refine ⟨fun pins s σ H Q I h => ?_⟩
  refine wpAny_Call_Name_kw (ld_glob I hg hm ?_ hdb)
  refine PySem.W.callWith_KW0 (h₀ := X.base) I.ok.mod.kin hk hall ?_ hpl
  refine thn (hkw.run pos pins s σ H _ I h) fun ws s2 ⟨zs, H2, I2, rz, l1, l2, q2⟩ => ⟨I2.kIn, ?_⟩
  rw [hks]
  exact run_fnN (us := []) (vs := []) F hr hb hx I2 .nil rz rfl l2 q2
end
/-! ### texts of numbers -/
theorem str_nil (x : Str) : Str.empty ++ x = x := ext_tl (by rw [tl_append]; rfl)
theorem natDigits_len {n k : Nat} (hk : 0 < k) (h : n < 10 ^ k) : (numL n).length ≤ k := numL_len hk h
/-- the signs of an int -/
def intL (a : Int) : List Nat := if a < 0 then 45 :: numL a.natAbs else numL a.natAbs
theorem tl_int (a : Int) : tl (Str.ofString (toString a)) = intL a := by
  cases a with
  | ofNat n => exact tl_num n
  | negSucc n =>
    unfold intL
    rw [if_pos (by omega), tl_ofString]
    show ("-" ++ Nat.repr (n + 1)).toList.map Char.toNat = 45 :: numL (n + 1)
    rw [String.toList_append, List.map_append, Nat.toList_repr]
    rfl
theorem numL_len1000 {n : Nat} (h : n < 2 ^ 1000) : (numL n).length ≤ 1000 := numL_len (by decide) (Nat.lt_of_lt_of_le h (Nat.pow_le_pow_left (by decide) _))
theorem len_int {a : Int} (h : a.natAbs < 2 ^ 1000) : (Str.ofString (toString a)).length ≤ 1001 := by
  rw [len_tl, tl_int]
  have := numL_len1000 h
  unfold intL
  split
  · rw [List.length_cons]
    omega
  · omega
/-- what a text of digits is worth -/
def isDig (c : Nat) : Bool := decide (48 ≤ c) && decide (c ≤ 57)
def rdD (cs : List Nat) : Option Nat := if (1 ≤ cs.length ∧ cs.length ≤ 40) ∧ cs.all isDig = true ∧ ¬ (1 < cs.length ∧ cs.head? = some 48) then some (NumText.digitsVal cs) else none
def optV : Option Nat → V
  | none => .non
  | some n => .int n
/-- a text as value reads it -/
def rdP (cs : List Nat) : List Nat × Option (List Nat) := match par [47] [] cs with
  | none => (cs, none)
  | some (a, b) => (a, some b)
def rdB : Option (List Nat) → Option Nat
  | none => some 1
  | some u => match rdD u with
    | some b => if 2 ≤ b then some b else none
    | none => none
def rdF (below : Bool) : Option Nat → Option Nat → Option (Int × Int)
  | some b, some t => if (below && decide (t = 0)) || decide (Nat.gcd t b ≠ 1) then none else some (if below then -(t : Int) else (t : Int), (b : Int))
  | _, _ => none
def rdV (cs : List Nat) : Option (Int × Int) :=
  rdF (decide (cs.take 1 = [45])) (rdB (rdP (if decide (cs.take 1 = [45]) = true then cs.drop 1 else cs)).2) (rdD (rdP (if decide (cs.take 1 = [45]) = true then cs.drop 1 else cs)).1)
theorem par_split {s : Nat} : ∀ (cs acc a b : List Nat), par [s] acc cs = some (a, b) → acc ++ cs = a ++ s :: b
  | [], acc, a, b, h => by simp [par] at h
  | c :: r, acc, a, b, h => by
    by_cases e : c = s
    · subst e
      rw [par_hit (by simp [pre])] at h
      injection h with h
      injection h with h1 h2
      rw [← h1, ← h2]
      rfl
    · rw [par_miss (pre_of_head [] r e)] at h
      have := par_split r (acc ++ [c]) a b h
      rw [← this]
      simp
end EL
namespace EL
open PySem PySem.Spec PyProof.Rows L2 He TL
theorem tl_cut_to (z : Str) (k : Nat) : tl (cutS z none (some (k : Int))) = (tl z).take k := by
  show ((tl z).drop (HT.sIx z.length 0 none)).take (HT.sIx z.length z.length (some (k : Int)) - HT.sIx z.length 0 none) = (tl z).take k
  rw [HT.sIx_none, HT.sIx_nat, List.drop_zero, Nat.sub_zero, len_tl]
  by_cases h : k ≤ (tl z).length
  · rw [Nat.min_eq_left h]
  · rw [Nat.min_eq_right (by omega), List.take_length, List.take_of_length_le (by omega)]
theorem tl_cut_from (z : Str) (k : Nat) : tl (cutS z (some (k : Int)) none) = (tl z).drop k := by
  show ((tl z).drop (HT.sIx z.length 0 (some (k : Int)))).take (HT.sIx z.length z.length none - HT.sIx z.length 0 (some (k : Int))) = (tl z).drop k
  rw [HT.sIx_none, HT.sIx_nat, len_tl]
  by_cases h : k ≤ (tl z).length
  · rw [Nat.min_eq_left h, List.take_of_length_le (by rw [List.length_drop]; omega)]
  · rw [Nat.min_eq_right (by omega), List.drop_length, List.drop_of_length_le (by omega), List.take_nil]
theorem tl_digits : tl ("0123456789" : Str) = [48, 49, 50, 51, 52, 53, 54, 55, 56, 57] := by decide +kernel
theorem mem_digits (c : Nat) : decide (c ∈ tl ("0123456789" : Str)) = isDig c := by
  rw [tl_digits]
  unfold isDig
  rw [← Bool.decide_and]
  refine decide_eq_decide.mpr ?_
  simp only [List.mem_cons, List.not_mem_nil, or_false]
  omega
theorem str_one {c : Nat} {y : Str} {d : Nat} (hy : tl y = [d]) : decide (V.str ⟨#[c]⟩ = V.str y) = decide (c = d) := by
  refine decide_eq_decide.mpr ⟨fun e => ?_, fun e => ?_⟩
  · have e1 : (⟨#[c]⟩ : Str) = y := by injection e
    rw [← e1] at hy
    have h2 : [c] = [d] := hy
    injection h2
  · have e1 : (⟨#[c]⟩ : Str) = y := ext_tl (by rw [hy, e])
    rw [e1]
theorem allDigits_of {cs : List Nat} (h : cs.all isDig = true) : NumText.AllDigits cs := fun c hc => by
  have := List.all_eq_true.mp h c hc
  unfold isDig at this
  rw [Bool.and_eq_true, decide_eq_true_eq, decide_eq_true_eq] at this
  exact this
theorem str_eq_tl {x y : Str} : decide (V.str x = V.str y) = decide (tl x = tl y) := decide_eq_decide.mpr ⟨fun e => by injection e with e; rw [e], fun e => by rw [ext_tl e]⟩
/-- a statement, then the rest, with a word between them -/
def tMid (t u : TS) : TS := fun D σ H => ∃ Mid : L2.St → Hp → Prop, t { D with nx := Mid } σ H ∧ ∀ σ' H', Mid σ' H' → u D σ' H'
theorem pss_mid {X : Cx} {st : Stmt} {rest : List Stmt} {t u : TS} (h1 : PS X st t) (h2 : PSs X rest u) : PSs X (st :: rest) (tMid t u) := by
  refine ⟨fun pins s σ H D I h => ?_⟩
  obtain ⟨Mid, hm, hu⟩ := h
  refine wpAny_execs_cons (thn (h1.run pins s σ H { D with nx := Mid } I hm) fun f s1 q => ?_)
  cases f with
  | next =>
    obtain ⟨σ', H', I', q⟩ := q
    exact h2.run pins s1 σ' H' D I' (hu σ' H' q)
  | ret v => exact q
  | brk => exact q
  | cont => exact q
end EL
namespace EL
open PySem PySem.Spec PyProof.Rows L2 He TL
/-! ### more facts of K, as Bools -/
theorem exG {l : List Bool} {b : Bool} (m : l.all id = true) (i : Nat) (h : l[i]? = some b) : b = true := List.all_eq_true.mp m b (List.mem_of_getElem? h)
def excCB (K : PySem.W.Frag) (D : Addr) : Bool := eqO (PySem.W.findIn K (.ref D) "__getattribute__") (some (some (.builtin "BaseException.__getattribute__"))) && (eqO (PySem.W.findIn K (.ref D) "__getattr__") (some none) &&
  (decide (PySem.W.subIn K (.ref D) (.type "BaseException") = some true) && (PySem.W.hasDictIn K D && (eqO (PySem.W.findIn K (.ref D) "__class__") (some (some (.builtin "object.__class__"))) &&
  (eqO (PySem.W.specialIn K (.builtin "object.__class__") "__get__") (some (some (.builtin "getset_descriptor.__get__"))) && (decide (PySem.W.takesIn K (.builtin "object.__class__") = some true) && decide (PySem.W.mroIn K D (.type "object") = some true)))))))
theorem excCB_ok {K : PySem.W.Frag} {D : Addr} (h : excCB K D = true) : ExcC K D := by
  obtain ⟨h1, h⟩ := ba h
  obtain ⟨h2, h⟩ := ba h
  obtain ⟨h3, h⟩ := ba h
  obtain ⟨h4, h⟩ := ba h
  obtain ⟨h5, h⟩ := ba h
  obtain ⟨h6, h⟩ := ba h
  obtain ⟨h7, h8⟩ := ba h
  exact ⟨eqO_ok h1, eqO_ok h2, of_decide_eq_true h3, h4, eqO_ok h5, eqO_ok h6, of_decide_eq_true h7, of_decide_eq_true h8⟩
/-- isinstance(e, c), e the exception of the class at D that the suite holds -/
theorem call_isX {X : Cx} {a : Addr} {oe : Obj} {pn : List (Addr × Obj)} {cls : Value} {d : Option Addr} (D : Addr) (C : ExcC X.K D) (hz : Zc cls d oe) (hf : ∃ vs, oe.data = .fields vs) :
    CallR (X.suite a ((a, oe) :: pn)) (.builtin "isinstance") (fun xs H Q => cls = .ref D ∧ d = none ∧ rIsE X.K D a xs H Q) := by
  intro pins s σ H xs us Q I r h
  obtain ⟨rfl, rfl, h⟩ := h
  exact call_isE C hz hf pins s σ H xs us Q I r h
/-! ### the law's source of draws -/
/-- the list [cells, place, digits, state] -/
def Src (H : Hp) (p l : Addr) : Prop := ∃ (ns : List Int) (i : Nat) (c r : Int), H p = some (.lst [.ref l, .int i, .int c, .int r]) ∧ H l = some (.lst (ns.map V.int)) ∧ 0 ≤ c ∧ 0 ≤ r ∧ r < 2147483647
/-- all but p is as it was -/
def But (p : Addr) (H H' : Hp) : Prop := ∀ b o, H b = some o → b ≠ p → H' b = some o
theorem But.refl (p : Addr) (H : Hp) : But p H H := fun _ _ h _ => h
theorem But.trans {p : Addr} {H H1 H2 : Hp} (a : But p H H1) (b : But p H1 H2) : But p H H2 := fun c o h n => b c o (a c o h n) n
theorem But.of {p : Addr} {H H' : Hp} (s : Same H H') : But p H H' := fun b o h _ => s b o h
theorem but_upd {p : Addr} {H : Hp} {o : HO} : But p H (upd H p o) := fun b x h n => by rw [upd_ne n]; exact h
theorem Src.same {H H' : Hp} {p l : Addr} (s : Same H H') (h : Src H p l) : Src H' p l := by
  obtain ⟨ns, i, c, r, h1, h2, h3⟩ := h
  exact ⟨ns, i, c, r, s _ _ h1, s _ _ h2, h3⟩
theorem Src.lst {H : Hp} {p l : Addr} (h : Src H p l) : ∃ xs, H p = some (.lst xs) := by
  obtain ⟨ns, i, c, r, h1, _⟩ := h
  exact ⟨_, h1⟩
theorem Src.lst2 {H : Hp} {p l : Addr} (h : Src H p l) : ∃ xs, H l = some (.lst xs) := by
  obtain ⟨ns, i, c, r, h1, h2, _⟩ := h
  exact ⟨_, h2⟩
theorem Src.ne {H : Hp} {p l : Addr} (h : Src H p l) : l ≠ p := fun e => by
  obtain ⟨ns, i, c, r, h1, h2, _⟩ := h
  subst e
  rw [h1] at h2
  injection h2 with h2
  injection h2 with h2
  cases ns with
  | nil => cases h2
  | cons x r => injection h2 with h2; cases h2
/-- another thing changes -/
theorem Src.but {H H' : Hp} {p l x : Addr} (s : But x H H') (h : Src H p l) (h1 : p ≠ x) (h2 : l ≠ x) : Src H' p l := by
  obtain ⟨ns, i, c, r, k1, k2, h3⟩ := h
  exact ⟨ns, i, c, r, s _ _ k1 h1, s _ _ k2 h2, h3⟩
theorem But.seqT {K : PySem.W.Frag} {p a : Addr} {H H' : Hp} {xs : List V} (s : But p H H') (hp : ∃ ys, H p = some (.lst ys)) (h : SqT K H a xs) : SqT K H' a xs := by
  obtain ⟨ys, hp⟩ := hp
  rcases h with (h | ⟨o, h⟩) | h
  · exact .inl (.inl (s _ _ h (ne_of h hp (by intro z; cases z))))
  · exact .inl (.inr ⟨o, s _ _ h (ne_of h hp (by intro z; cases z))⟩)
  · exact .inr h
end EL
namespace EL
open PySem PySem.Spec PyProof.Rows L2 He TL
/-! ### a written value is read back -/
def txtV (a b : Int) : Str := if b = 1 then (toString a : String) else ((toString a : String) : Str) ++ "/" ++ ((toString b : String) : Str)
theorem numL_head {n : Nat} (h : 1 ≤ n) : (numL n).head? ≠ some 48 := by
  induction n using Nat.strongRecOn with
  | _ n ih =>
    by_cases h10 : n < 10
    · rw [numL_lt h10]
      intro e
      have e2 : 48 + n = 48 := Option.some.inj e
      omega
    · rw [numL_step (by omega)]
      have hh := ih (n / 10) (by omega) (by omega)
      cases hc : numL (n / 10) with
      | nil => exact absurd hc (numL_ne _)
      | cons x r =>
        rw [hc] at hh
        exact hh
theorem rdD_num {n : Nat} (h : n < 10 ^ 40) : rdD (numL n) = some n := by
  unfold rdD
  have hl : (numL n).length ≤ 40 := numL_len (by decide) h
  have h1 : 1 ≤ (numL n).length := by
    cases hc : numL n with
    | nil => exact absurd hc (numL_ne _)
    | cons x r => simp
  rw [if_pos, numL_val]
  refine ⟨⟨h1, hl⟩, ?_, ?_⟩
  · refine List.all_eq_true.mpr fun c hc => ?_
    have := numL_digits n c hc
    unfold isDig
    rw [Bool.and_eq_true, decide_eq_true_eq, decide_eq_true_eq]
    exact this
  · rintro ⟨h2, h3⟩
    by_cases h0 : n < 10
    · rw [numL_lt h0] at h2
      exact absurd h2 (Nat.lt_irrefl 1)
    · exact numL_head (by omega) h3
theorem tl_txtV (a b : Int) : tl (txtV a b) = if b = 1 then intL a else intL a ++ 47 :: intL b := by
  unfold txtV
  by_cases h : b = 1
  · rw [if_pos h, if_pos h]
    exact tl_int a
  · rw [if_neg h, if_neg h, tl_append, tl_append, tl_int, tl_int, show tl ("/" : Str) = [47] by decide +kernel, List.append_assoc]
    rfl
theorem numL_first (n : Nat) : (numL n).take 1 ≠ [45] := fun e => by
  have : (45 : Nat) ∈ (numL n).take 1 := by rw [e]; simp
  exact numL_free (n := n) (s := 45) (.inl (by decide)) (List.mem_of_mem_take this)
theorem numL_app_first (n : Nat) (r : List Nat) : (numL n ++ r).take 1 ≠ [45] := fun e => by
  cases hc : numL n with
  | nil => exact absurd hc (numL_ne _)
  | cons x q =>
    rw [hc] at e
    have := numL_first n
    rw [hc] at this
    exact this e
theorem rdP_num (n : Nat) : rdP (numL n) = (numL n, none) := by
  unfold rdP
  rw [par_none1 (numL_free (.inl (by decide)))]
theorem rdP_two (n m : Nat) : rdP (numL n ++ 47 :: numL m) = (numL n, some (numL m)) := by
  unfold rdP
  rw [show numL n ++ 47 :: numL m = numL n ++ ([47] ++ numL m) from rfl, par_part1 (numL_free (.inl (by decide)))]
  rfl
theorem rdV_txt {a b : Int} (h : Low a b) (ha : a.natAbs < 10 ^ 40) (hb : b.natAbs < 10 ^ 40) : rdV (tl (txtV a b)) = some (a, b) := by
  obtain ⟨hb0, hg⟩ := h
  have hg' : Nat.gcd a.natAbs b.natAbs = 1 := by unfold cd at hg; omega
  have hbL : intL b = numL b.natAbs := by
    unfold intL
    rw [if_neg (by omega)]
  -- the body behind the sign, by its parts
  have body : ∀ cs : List Nat, cs = (if b = 1 then numL a.natAbs else numL a.natAbs ++ 47 :: numL b.natAbs) → rdB (rdP cs).2 = some b.natAbs ∧ rdD (rdP cs).1 = some a.natAbs := by
    intro cs hcs
    by_cases h1 : b = 1
    · rw [if_pos h1] at hcs
      rw [hcs, rdP_num]
      refine ⟨?_, rdD_num ha⟩
      rw [h1]
      rfl
    · rw [if_neg h1] at hcs
      rw [hcs, rdP_two]
      refine ⟨?_, rdD_num ha⟩
      simp only [rdB, rdD_num hb]
      exact if_pos (by omega)
  rw [tl_txtV]
  unfold rdV
  by_cases hn : a < 0
  · have e : (if b = 1 then intL a else intL a ++ 47 :: intL b) = 45 :: (if b = 1 then numL a.natAbs else numL a.natAbs ++ 47 :: numL b.natAbs) := by
      unfold intL
      rw [if_pos hn, if_neg (show ¬ b < 0 by omega)]
      split <;> rfl
    rw [e]
    obtain ⟨e1, e2⟩ := body _ rfl
    rw [show decide ((45 :: (if b = 1 then numL a.natAbs else numL a.natAbs ++ 47 :: numL b.natAbs)).take 1 = [45]) = true from rfl, if_pos rfl, List.drop_one, List.tail_cons, e1, e2]
    show (if (true && decide (a.natAbs = 0) || decide (Nat.gcd a.natAbs b.natAbs ≠ 1)) = true then none else some (-(a.natAbs : Int), (b.natAbs : Int))) = _
    rw [if_neg]
    · rw [show -(a.natAbs : Int) = a by omega, show (b.natAbs : Int) = b by omega]
    · rw [decide_eq_false (show ¬ a.natAbs = 0 by omega), Bool.and_false, Bool.false_or]
      exact fun z => of_decide_eq_true z hg'
  · have e : (if b = 1 then intL a else intL a ++ 47 :: intL b) = (if b = 1 then numL a.natAbs else numL a.natAbs ++ 47 :: numL b.natAbs) := by
      unfold intL
      rw [if_neg hn, if_neg (show ¬ b < 0 by omega)]
    rw [e]
    have hf : (if b = 1 then numL a.natAbs else numL a.natAbs ++ 47 :: numL b.natAbs).take 1 ≠ [45] := by
      split
      · exact numL_first _
      · exact numL_app_first _ _
    obtain ⟨e1, e2⟩ := body _ rfl
    rw [decide_eq_false hf, if_neg Bool.false_ne_true, e1, e2]
    show (if (false && decide (a.natAbs = 0) || decide (Nat.gcd a.natAbs b.natAbs ≠ 1)) = true then none else some ((a.natAbs : Int), (b.natAbs : Int))) = _
    rw [if_neg]
    · rw [show (a.natAbs : Int) = a by omega, show (b.natAbs : Int) = b by omega]
    · rw [Bool.false_and, Bool.false_or]
      exact fun z => of_decide_eq_true z hg'
theorem nrm_abs (t b : Int) : (nrm t b).1.natAbs ≤ t.natAbs ∧ (nrm t b).2.natAbs ≤ b.natAbs := by
  have k : ∀ x g : Int, g ∣ x → (x / g).natAbs ≤ x.natAbs := fun x g h => by
    rw [Int.natAbs_ediv_of_dvd h]
    exact Nat.div_le_self _ _
  unfold nrm
  split
  · have h1 := k (-t) _ (cd_dvd_l (-t) (-b))
    have h2 := k (-b) _ (cd_dvd_r (-t) (-b))
    rw [Int.natAbs_neg] at h1 h2
    exact ⟨h1, h2⟩
  · exact ⟨k t _ (cd_dvd_l t b), k b _ (cd_dvd_r t b)⟩
theorem nrm_neg {t b : Int} (h : b < 0) : nrm (-t) (-b) = nrm t b := by
  unfold nrm
  rw [if_pos h, if_neg (by omega)]
end EL
namespace EL
open PySem PySem.Spec PyProof.Rows L2 He TL
/-! ### texts of values, the other way about -/
theorem digitsVal_snoc' (cs : List Nat) (d : Nat) : NumText.digitsVal (cs ++ [d]) = NumText.digitsVal cs * 10 + (d - 48) := by
  unfold NumText.digitsVal
  rw [List.foldl_append]
  rfl
theorem snoc_of {cs : List Nat} (h : cs ≠ []) : ∃ i d, cs = i ++ [d] := ⟨cs.dropLast, cs.getLast h, (List.dropLast_concat_getLast h).symm⟩
theorem numL_back : ∀ (k : Nat) (cs : List Nat), cs.length = k → cs ≠ [] → cs.all isDig = true → ¬ (1 < cs.length ∧ cs.head? = some 48) → numL (NumText.digitsVal cs) = cs ∧ (cs.head? ≠ some 48 → 1 ≤ NumText.digitsVal cs)
  | 0, cs, hk, hne, _, _ => absurd (List.length_eq_zero_iff.mp hk) hne
  | k + 1, cs, hk, hne, ha, hz => by
    obtain ⟨i, d, rfl⟩ := snoc_of hne
    rw [List.all_append, Bool.and_eq_true] at ha
    have hd : 48 ≤ d ∧ d ≤ 57 := by
      have := ha.2
      simp only [List.all_cons, List.all_nil, Bool.and_true, isDig, Bool.and_eq_true, decide_eq_true_eq] at this
      exact this
    rw [digitsVal_snoc']
    cases hi : i with
    | nil =>
      have e : NumText.digitsVal [] = 0 := rfl
      rw [e, Nat.zero_mul, Nat.zero_add, numL_lt (by omega)]
      refine ⟨?_, fun hh => ?_⟩
      · show [48 + (d - 48)] = [d]
        rw [show 48 + (d - 48) = d by omega]
      · have : d ≠ 48 := fun z => hh (by rw [z]; rfl)
        omega
    | cons x r =>
      have hl : i.length = k := by
        rw [List.length_append, List.length_singleton] at hk
        omega
      have hh : (i ++ [d]).head? = i.head? := by rw [hi]; rfl
      have h48 : i.head? ≠ some 48 := fun z => hz ⟨by rw [List.length_append, hi]; simp, by rw [hh]; exact z⟩
      obtain ⟨e1, e2⟩ := numL_back k i hl (by rw [hi]; simp) ha.1 (fun z => h48 z.2)
      have e3 := e2 h48
      rw [← hi]
      refine ⟨?_, fun _ => by omega⟩
      rw [numL_step (by omega), show (NumText.digitsVal i * 10 + (d - 48)) / 10 = NumText.digitsVal i by omega, show (NumText.digitsVal i * 10 + (d - 48)) % 10 = d - 48 by omega, e1, show 48 + (d - 48) = d by omega]
theorem rdD_inv {cs : List Nat} {n : Nat} (h : rdD cs = some n) : cs = numL n ∧ n < 10 ^ 40 := by
  unfold rdD at h
  split at h
  · rename_i c
    injection h with h
    have hne : cs ≠ [] := fun e => by rw [e] at c; exact absurd c.1.1 (by decide)
    have e := (numL_back cs.length cs rfl hne c.2.1 c.2.2).1
    rw [h] at e
    refine ⟨e.symm, ?_⟩
    have hl : (numL n).length ≤ 40 := by rw [e]; exact c.1.2
    exact Nat.lt_of_not_le fun hge => by
      have : ∀ (k m : Nat), 10 ^ k ≤ m → k + 1 ≤ (numL m).length := by
        intro k
        induction k with
        | zero =>
          intro m _
          cases hm : numL m with
          | nil => exact absurd hm (numL_ne _)
          | cons x r => simp
        | succ k ih =>
          intro m hm
          have h10 : 10 ≤ m := Nat.le_trans (by rw [Nat.pow_succ]; have : 0 < 10 ^ k := Nat.pow_pos (by decide); omega) hm
          rw [numL_step h10, List.length_append]
          have := ih (m / 10) ((Nat.le_div_iff_mul_le (by decide)).mpr (by rw [Nat.pow_succ] at hm; exact hm))
          simp only [List.length_singleton]
          omega
      have := this 40 n hge
      omega
  · cases h
theorem spl_par {s : Nat} : ∀ (cs acc : List Nat), spl [s] 0 acc cs = (match par [s] acc cs with | none => [acc ++ cs] | some (a, b) => a :: spl [s] 0 [] b)
  | [], acc => by
    rw [spl_nil]
    simp [par]
  | c :: r, acc => by
    by_cases e : c = s
    · subst e
      rw [spl_hit (by simp [pre]), par_hit (by simp [pre])]
      rfl
    · rw [spl_miss (pre_of_head [] r e), par_miss (pre_of_head [] r e), spl_par r (acc ++ [c])]
      cases par [s] (acc ++ [c]) r with
      | none => simp
      | some ab => rfl
theorem par_some {s : Nat} : ∀ (cs acc : List Nat), s ∈ cs → ∃ a b, par [s] acc cs = some (a, b)
  | [], _, h => by cases h
  | c :: r, acc, h => by
    by_cases e : c = s
    · subst e
      exact ⟨acc, r, by rw [par_hit (by simp [pre])]; rfl⟩
    · rw [par_miss (pre_of_head [] r e)]
      exact par_some r _ (by
        rcases List.mem_cons.mp h with z | z
        · exact absurd z.symm e
        · exact z)
theorem rdD_free {cs : List Nat} (h : 47 ∈ cs) : rdD cs = none := by
  unfold rdD
  refine if_neg fun c => ?_
  have := List.all_eq_true.mp c.2.1 47 h
  exact absurd this (by decide)
/-- what read_value takes, text_of writes -/
theorem rdV_inv {cs : List Nat} {a b : Int} (h : rdV cs = some (a, b)) : tl (txtV a b) = cs ∧ Low a b ∧ a.natAbs < 10 ^ 40 ∧ b.natAbs < 10 ^ 40 := by
  unfold rdV at h
  generalize hbd : (if decide (cs.take 1 = [45]) = true then cs.drop 1 else cs) = bd at h
  cases hB : rdB (rdP bd).2 with
  | none =>
    rw [hB] at h
    cases h
  | some n =>
    cases hD : rdD (rdP bd).1 with
    | none =>
      rw [hB, hD] at h
      cases h
    | some m =>
      rw [hB, hD] at h
      generalize hbl : decide (cs.take 1 = [45]) = below at *
      have h' : (if (below && decide (m = 0) || decide (Nat.gcd m n ≠ 1)) = true then none else some (if below then -(m : Int) else (m : Int), (n : Int))) = some (a, b) := h
      split at h'
      · cases h'
      · rename_i c
        injection h' with h'
        injection h' with ea eb
        have hg : Nat.gcd m n = 1 := by
          cases hd : decide (Nat.gcd m n ≠ 1) with
          | true => rw [hd, Bool.or_true] at c; exact absurd rfl c
          | false => exact Decidable.not_not.mp (of_decide_eq_false hd)
        have hbz : below = true → m ≠ 0 := fun hb z => by
          rw [hb, z] at c
          exact c rfl
        obtain ⟨e1, m40⟩ := rdD_inv hD
        -- the body
        have body : bd = (if n = 1 then numL m else numL m ++ 47 :: numL n) ∧ 1 ≤ n ∧ n < 10 ^ 40 := by
          unfold rdP at hB e1
          cases hp : par [47] [] bd with
          | none =>
            rw [hp] at hB e1
            have en : 1 = n := Option.some.inj hB
            rw [if_pos en.symm]
            exact ⟨e1, by omega, by rw [← en]; decide⟩
          | some xy =>
            obtain ⟨x, y⟩ := xy
            rw [hp] at hB e1
            have hB' : (match rdD y with | some b => if 2 ≤ b then some b else none | none => none) = some n := hB
            cases hy : rdD y with
            | none =>
              rw [hy] at hB'
              cases hB'
            | some k =>
              rw [hy] at hB'
              have hB2 : (if 2 ≤ k then some k else none) = some n := hB'
              split at hB2
              · injection hB2 with hk
                subst hk
                obtain ⟨e2, k40⟩ := rdD_inv hy
                rw [if_neg (by omega)]
                have e3 : x = numL m := e1
                refine ⟨?_, by omega, k40⟩
                rw [← e3, ← e2]
                exact (par_split _ _ _ _ hp)
              · cases hB2
        obtain ⟨hbody, hn1, n40⟩ := body
        have hcs : cs = if below = true then 45 :: bd else bd := by
          cases below with
          | true =>
            have ht := of_decide_eq_true hbl
            rw [if_pos rfl] at hbd ⊢
            rw [← hbd, ← List.singleton_append, ← ht, List.take_append_drop]
          | false =>
            rw [if_neg Bool.false_ne_true] at hbd ⊢
            exact hbd
        have ebn : b.natAbs = n := by omega
        have eam : a.natAbs = m := by
          rw [← ea]
          split <;> omega
        refine ⟨?_, ⟨by omega, ?_⟩, by omega, by omega⟩
        · rw [tl_txtV, hcs, hbody]
          have hb1 : (b = 1) ↔ (n = 1) := by omega
          have hib : intL b = numL n := by
            unfold intL
            rw [if_neg (by omega), ebn]
          have hia : intL a = if below = true then 45 :: numL m else numL m := by
            unfold intL
            rw [eam]
            cases hbe : below with
            | true =>
              rw [hbe] at ea hbz
              have hm := hbz rfl
              rw [if_pos rfl] at ea ⊢
              rw [if_pos (by omega)]
            | false =>
              rw [hbe] at ea
              rw [if_neg Bool.false_ne_true] at ea ⊢
              rw [if_neg (by omega)]
          rw [hia, hib]
          by_cases h1 : n = 1
          · rw [if_pos h1, if_pos (hb1.mpr h1)]
          · rw [if_neg h1, if_neg (fun z => h1 (hb1.mp z))]
            cases below <;> rfl
        · unfold cd
          rw [eam, ebn, hg]
          rfl
theorem call_str_bool {X : Cx} : CallR X (.type "str") (fun xs H Q => ∃ b : Bool, xs = [.bl b] ∧ Q (.str (if b then "True" else "False")) H) := by
  intro pins s σ H xs us Q I r h
  obtain ⟨b, rfl, q⟩ := h
  obtain ⟨u, rfl, ru⟩ := vals1 r
  cases ru
  exact PySem.P.str_of_bool ⟨.str _, H, I.tok _, ⟨_, rfl⟩, q⟩
end EL
namespace EL
open PySem PySem.Spec PyProof.Rows L2 He TL ClX
/-! ### the head with defs at any address -/
def fnWA (K : PySem.W.Frag) (a : Addr) : FnW := match K.lookup a with
  | some ⟨_, _, .func fd, _⟩ => some (fd.name, fd.qualname, fd.params, fd.body, fd.scope, fd.globals, fd.closure, fd.builtins)
  | _ => none
structure DefE where
  ad : PySem.W.Frag → Addr
  name : Str
  qual : Str
  params : Arguments
  body : List Stmt
  scope : Scope
  dfl : List Dv := []
  kwd : List (Str × Dv) := []
def DefE.kws (K : PySem.W.Frag) (d : DefE) : List (Str × V) := d.kwd.map fun q => (q.1, q.2.v K)
def DefE.val (d : DefE) : FnW := some (d.name, d.qual, d.params, .stmts d.body, d.scope, mainGlobals, [], builtinsNs)
def DefE.dvs (K : PySem.W.Frag) (d : DefE) : List V := d.dfl.map (Dv.v K)
def DefE.ok (K : PySem.W.Frag) (d : DefE) : Bool := PySem.W.keepIn K (.ref (d.ad K)) && (match K.lookup (d.ad K) with
  | some ⟨_, _, .func fd, _⟩ => PySem.W.codeIn K fd.code d.qual && (dflB K fd.defaults (d.dvs K) && kwdB K fd.kwdefaults (d.kws K))
  | _ => false)
theorem DefE.funD {K : PySem.W.Frag} {d : DefE} (e : fnWA K (d.ad K) = d.val) (c : d.ok K = true) : ∃ fd, FunD K d.name d.qual d.params d.body d.scope (d.dvs K) (d.kws K) (d.ad K) fd := by
  obtain ⟨kp, c2⟩ := ba c
  unfold fnWA at e
  cases q : K.lookup (d.ad K) with
  | none =>
    rw [q] at c2
    cases c2
  | some o =>
    obtain ⟨oc, od, dt, osl⟩ := o
    rw [q] at c2 e
    cases dt with
    | func fd =>
      obtain ⟨n1, n2, n3, n4, n5, n6, n7, n8, n9, n10, n11, n12, n13, n14, n15⟩ := fd
      have e2 : (some (n1, n2, n3, n4, n5, n6, n7, n15) : FnW) = some (d.name, d.qual, d.params, .stmts d.body, d.scope, mainGlobals, [], builtinsNs) := e
      simp only [Option.some.injEq, Prod.mk.injEq] at e2
      obtain ⟨h1, h2, h3, h4, h5, h6, h7, h8⟩ := e2
      subst h1 h2 h3 h4 h5 h6 h7 h8
      have c3 : (PySem.W.codeIn K n13 d.qual && (dflB K n8 (d.dvs K) && kwdB K n9 (d.kws K))) = true := c2
      obtain ⟨k1, k2⟩ := ba c3
      obtain ⟨k3, k4⟩ := ba k2
      exact ⟨_, ⟨oc, od, n8, n9, n10, n11, n12, n13, n14, osl, rfl, q, k1, dflB_ok k3, kwdB_ok k4⟩, kp⟩
    | _ => cases c2
def obsE (fa : List Fa) (fn : List DefE) (ex : PySem.W.Frag → Bool) (K : PySem.W.Frag) : AlM := (((fa.all fun f => f.ok K) && fn.all fun d => d.ok K, fn.map fun d => fnWA K (d.ad K)), ex K)
def obsEG (n : Nat) (fa : List Fa) (fn : List DefE) (ex : PySem.W.Frag → Bool) (g : Addr → Option Obj) : AlM := obsE fa fn ex (frG g (He5.asA g n))
def valE (fn : List DefE) : AlM := ((true, fn.map DefE.val), true)
def SaysE (fa : List Fa) (fn : List DefE) (ex : PySem.W.Frag → Bool) (K : PySem.W.Frag) : Prop := obsE fa fn ex K = valE fn
def hookE (n : Nat) (fa : List Fa) (fn : List DefE) (ex : PySem.W.Frag → Bool) : PySem.W.Hook where
  α := AlM
  obs := fun s => obsEG n fa fn ex s.heap.get?
  val := fun _ => valE fn
  says := fun _ h => ∃ K : PySem.W.Frag, K.In h ∧ SaysE fa fn ex K
  of := fun _ _ e => ⟨_, frG_in, e⟩
  keeps := fun _ _ _ ⟨K, hK, c⟩ k => ⟨K, PySem.W.Frag.In.keeps hK k, c⟩
theorem obsEG_eq {n : Nat} {fa : List Fa} {fn : List DefE} {ex : PySem.W.Frag → Bool} {g : Addr → Option Obj} {s : Shared} (h : ∀ a, g a = s.heap.get? a) : obsEG n fa fn ex g = (hookE n fa fn ex).obs s := by
  have e : g = s.heap.get? := funext h
  rw [e] <;> rfl
section
variable {fa : List Fa} {fn : List DefE} {ex : PySem.W.Frag → Bool} {K : PySem.W.Frag}
theorem SaysE.fact (c : SaysE fa fn ex K) (i : Nat) {f : Fa} (h : fa[i]? = some f := by rfl) : f.ok K = true := by
  have c1 := (ba (show ((fa.all fun f => f.ok K) && fn.all fun d => d.ok K) = true from congrArg (fun z : AlM => z.1.1) c)).1
  exact List.all_eq_true.mp c1 f (List.mem_of_getElem? h)
theorem SaysE.ex_ (c : SaysE fa fn ex K) : ex K = true := congrArg (fun z : AlM => z.2) c
theorem SaysE.def_ (c : SaysE fa fn ex K) (i : Nat) {d : DefE} (h : fn[i]? = some d := by rfl) : ∃ fd, FunD K d.name d.qual d.params d.body d.scope (d.dvs K) (d.kws K) (d.ad K) fd := by
  have c2 := (ba (show ((fa.all fun f => f.ok K) && fn.all fun d => d.ok K) = true from congrArg (fun z : AlM => z.1.1) c)).2
  have e : fn.map (fun d => fnWA K (d.ad K)) = fn.map DefE.val := congrArg (fun z : AlM => z.1.2) c
  have e2 : (fn.map fun d => fnWA K (d.ad K))[i]? = (fn.map DefE.val)[i]? := by rw [e]
  rw [List.getElem?_map, List.getElem?_map, h] at e2
  exact DefE.funD (Option.some.inj e2) (List.all_eq_true.mp c2 d (List.mem_of_getElem? h))
end
/-! ### own classes -/
def kdL : List Kd := [.non, .bl, .int, .str, .lst, .tup, .dct]
theorem kdL_all (T : Kd) : T ∈ kdL := by cases T <;> decide
/-- what of the text an own class has -/
structure OC (K : PySem.W.Frag) (C : Addr) : Prop where
  cl : Cls K C
  ca : PySem.W.findIn K (.ref C) "__class__" = some (some (.builtin "object.__class__"))
  hn : PySem.W.specialIn K (.builtin "object.__class__") "__get__" = some (some (.builtin "getset_descriptor.__get__"))
  tk : PySem.W.takesIn K (.builtin "object.__class__") = some true
  ob : PySem.W.mroIn K C (.type "object") = some true
  to : ∀ T : Kd, PySem.W.kitOne K (.ref C) (.type (kdN T)) = some false
  of : ∀ T : Kd, PySem.W.kitOne K (.type (kdN T)) (.ref C) = some false
  self : PySem.W.kitOne K (.ref C) (.ref C) = some true
def ocB (K : PySem.W.Frag) (C : Addr) : Bool := (PySem.W.plainGet K C Str.empty && (PySem.W.hasDictIn K C && (PySem.W.plainOver K C && eqO (PySem.W.findIn K (.ref C) "__setattr__") (some (some (.builtin "object.__setattr__")))))) &&
  (eqO (PySem.W.findIn K (.ref C) "__class__") (some (some (.builtin "object.__class__"))) && (eqO (PySem.W.specialIn K (.builtin "object.__class__") "__get__") (some (some (.builtin "getset_descriptor.__get__"))) &&
  (decide (PySem.W.takesIn K (.builtin "object.__class__") = some true) && (decide (PySem.W.mroIn K C (.type "object") = some true) && ((kdL.all fun T => decide (PySem.W.kitOne K (.ref C) (.type (kdN T)) = some false)) &&
  ((kdL.all fun T => decide (PySem.W.kitOne K (.type (kdN T)) (.ref C) = some false)) && decide (PySem.W.kitOne K (.ref C) (.ref C) = some true)))))))
theorem ocB_ok {K : PySem.W.Frag} {C : Addr} (h : ocB K C = true) : OC K C := by
  obtain ⟨h1, h⟩ := ba h
  obtain ⟨a1, h1⟩ := ba h1
  obtain ⟨a2, h1⟩ := ba h1
  obtain ⟨a3, a4⟩ := ba h1
  obtain ⟨h2, h⟩ := ba h
  obtain ⟨h3, h⟩ := ba h
  obtain ⟨h4, h⟩ := ba h
  obtain ⟨h5, h⟩ := ba h
  obtain ⟨h6, h⟩ := ba h
  obtain ⟨h7, h8⟩ := ba h
  exact ⟨⟨a1, a2, a3, eqO_ok a4⟩, eqO_ok h2, eqO_ok h3, of_decide_eq_true h4, of_decide_eq_true h5, fun T => of_decide_eq_true (List.all_eq_true.mp h6 T (kdL_all T)), fun T => of_decide_eq_true (List.all_eq_true.mp h7 T (kdL_all T)), of_decide_eq_true h8⟩
theorem OC.ty {K : PySem.W.Frag} {C : Addr} (c : OC K C) {H : Hp} {a dx : Addr} {fs : List (Str × V)} (h : H a = some (.ins C dx fs)) : TyX K H (.ref a) (.ref C) := .base (.ins h c.cl c.ca c.hn c.tk c.ob)
/-- an instance as a thing -/
theorem OC.th {K : PySem.W.Frag} {C : Addr} (c : OC K C) {H : Hp} {a dx : Addr} {fs : List (Str × V)} (h : H a = some (.ins C dx fs)) : ThOk K H (.ref a) .o := ⟨.ref C, c.ty h, c.to⟩
theorem OC.isD {K : PySem.W.Frag} {C : Addr} (c : OC K C) (d : PyData) : PySem.W.kitOne K (.type (tyn d)) (.ref C) = some false := c.of (kd d)
/-! ### calls of methods, of static methods; making -/
def tMethE (C : Addr) (m : Str) (sp : Sp) (E : L2.St → XK) (ta : TE) (t : TA) : TE := fun σ H Q => ta σ H fun x H1 => ∃ a dx fs, x = .ref a ∧ H1 a = some (.ins C dx fs) ∧ fs.lookup m = none ∧ t σ H1 fun vs H2 => sp (x :: vs) H2 Q (E σ)
def tMakeE (C : Addr) (sp : Sp) (E : L2.St → XK) (t : TA) : TE := fun σ H Q => t σ H fun vs H1 => ∀ x dx, H1 x = Option.none → H1 dx = Option.none → dx ≠ x →
  sp (V.ref x :: vs) (upd (upd H1 dx (.own x)) x (.ins C dx [])) (fun v H2 => v = .non ∧ Q (.ref x) H2) (E σ)
def tSm (C : Addr) (sp : Sp) (E : L2.St → XK) (ta : TE) (t : TA) : TE := fun σ H Q => ta σ H fun x H1 => x = .ref C ∧ t σ H1 fun vs H2 => sp vs H2 Q (E σ)
structure Sm (K : PySem.W.Frag) (C : Addr) (m : Str) (f : Addr) : Prop where
  rd : CRead K C (.type "type")
  at_ : ∃ p, PySem.W.findCls K (.ref C) (.type "type") m = some (.get (.builtin "staticmethod.__get__") (.ref p) .none (.ref C)) ∧ ∃ rest, PySem.W.recIn K p "staticmethod" = some (.ref f :: rest)
  kp : PySem.W.keepIn K (.ref f) = true
def smB (K : PySem.W.Frag) (C : Addr) (m : Str) : Bool := PySem.W.readsIn K C (.type "type") && (eqO (PySem.W.specialIn K (.ref C) "__getattribute__") (some (some (.builtin "type.__getattribute__"))) &&
  (He5.wrapB K C "staticmethod" "staticmethod.__get__" m && PySem.W.keepIn K (.ref (He5.wf K C "staticmethod" m))))
theorem smB_ok {K : PySem.W.Frag} {C : Addr} {m : Str} (h : smB K C m = true) : Sm K C m (He5.wf K C "staticmethod" m) := by
  obtain ⟨h1, h⟩ := ba h
  obtain ⟨h2, h⟩ := ba h
  obtain ⟨h3, h4⟩ := ba h
  obtain ⟨k1, k2⟩ := He5.wrapB_ok h3
  exact ⟨⟨h1, eqO_ok h2⟩, ⟨_, k1, k2⟩, h4⟩
section
variable {X : Cx} {CX : CXT} {k : Nat} {C f : Addr} {m x : Str} {sp : Sp} {E : L2.St → XK} {o e : Expr} {es : List Expr} {ta : TE} {t : TA} {p apos pos : Pos} {pl : Sem Bool}
theorem pe_methE (he : PE X o ta) (c : Cls X.K C) (hm : Meth X.K C m f) (F : FnR X.prog X.w X.K X.mg X.base CX k f sp) (hr : Room k X.A) (hx : ∀ σ, PassesAt CX X σ (E σ)) (ha : PA X (e :: es) t)
    (hst : starEach (e :: es) X.env = (false, eval e X.env) :: starEach es X.env := by rfl) (hpl : (backTo pos (starEach es X.env)).any (·.1) = false := by rfl)
    (ht : eval (.Call (.Attribute o m apos) (e :: es) [] pos) X.env = (do
      let ov ← eval o X.env
      standAt apos.atName
      let (f, first) ← holding [ov] (getMethod ov m pl)
      callWith pos f first (backTo pos (starEach (e :: es) X.env)) (backToKw pos (keywordEach [] X.env))) := by rfl) :
    PE X (.Call (.Attribute o m apos) (e :: es) [] pos) (tMethE C m sp E ta t) := by
  refine ⟨fun pins s σ H Q I h => ?_⟩
  refine PySem.W.methodCall_KW (pl := pl) (thn (he.run pins s σ H _ I h) fun u s1 ⟨x, H1, I1, rx, a, dx, fs, ex, ea, l, q⟩ => ?_) ht
  subst ex
  obtain rfl : u = Value.ref a := rx
  refine getmeth_ok I1 ea c hm l ?_
  refine PySem.W.callWith_K (first := [.ref a]) (h₀ := X.base) I.ok.mod.kin hm.kp (thn (ha.run pos pins s1 σ H1 _ I1 q) fun us s2 ⟨vs, H2, I2, r, q2⟩ => ⟨I2.kIn, ?_⟩) hst hpl
  exact run_fnRS (us := .ref a :: us) (vs := .ref a :: vs) F hr (hx σ) I2 (.cons rfl r) q2
theorem pe_methE0 (he : PE X o ta) (c : Cls X.K C) (hm : Meth X.K C m f) (F : FnR X.prog X.w X.K X.mg X.base CX k f sp) (hr : Room k X.A) (hx : ∀ σ, PassesAt CX X σ (E σ))
    (ht : eval (.Call (.Attribute o m apos) [] [] pos) X.env = (do
      let ov ← eval o X.env
      standAt apos.atName
      let (f, first) ← holding [ov] (getMethod ov m pl)
      callWith pos f first (backTo pos (starEach [] X.env)) (backToKw pos (keywordEach [] X.env))) := by rfl) :
    PE X (.Call (.Attribute o m apos) [] [] pos) (tMethE C m sp E ta tNil) := by
  refine ⟨fun pins s σ H Q I h => ?_⟩
  refine PySem.W.methodCall_KW (pl := pl) (thn (he.run pins s σ H _ I h) fun u s1 ⟨x, H1, I1, rx, a, dx, fs, ex, ea, l, q⟩ => ?_) ht
  subst ex
  obtain rfl : u = Value.ref a := rx
  refine getmeth_ok I1 ea c hm l ?_
  exact PySem.W.callWith_K0 (first := [.ref a]) I1.kIn hm.kp (run_fnRS (us := [.ref a]) (vs := [.ref a]) F hr (hx σ) I1 (.cons rfl .nil) q)
theorem pe_smE (he : PE X o ta) (c : Sm X.K C m f) (F : FnR X.prog X.w X.K X.mg X.base CX k f sp) (hr : Room k X.A) (hx : ∀ σ, PassesAt CX X σ (E σ)) (ha : PA X (e :: es) t)
    (hst : starEach (e :: es) X.env = (false, eval e X.env) :: starEach es X.env := by rfl) (hpl : (backTo pos (starEach es X.env)).any (·.1) = false := by rfl)
    (ht : eval (.Call (.Attribute o m apos) (e :: es) [] pos) X.env = (do
      let ov ← eval o X.env
      standAt apos.atName
      let (f, first) ← holding [ov] (getMethod ov m pl)
      callWith pos f first (backTo pos (starEach (e :: es) X.env)) (backToKw pos (keywordEach [] X.env))) := by rfl) :
    PE X (.Call (.Attribute o m apos) (e :: es) [] pos) (tSm C sp E ta t) := by
  refine ⟨fun pins s σ H Q I h => ?_⟩
  refine PySem.W.methodCall_KW (pl := pl) (thn (he.run pins s σ H _ I h) fun u s1 ⟨x, H1, I1, rx, ex, q⟩ => ?_) ht
  subst ex
  obtain rfl : u = Value.ref C := rx
  obtain ⟨pa, h1, rest, h2⟩ := c.at_
  refine PySem.W.method_cls I1.kIn c.rd.ga (PySem.W.cls_bind I1.kIn c.rd.rd h1 ?_)
  refine wpAny_call (PySem.W.sm_get (s := { s1 with toks := s1.toks + 1 }) I1.kIn h2 (PySem.W.handed_on rfl ?_))
  have I2 := I1.tok (s1.toks + 1)
  refine PySem.W.callWith_K (first := []) (h₀ := X.base) I.ok.mod.kin c.kp (thn (ha.run pos pins _ σ H1 _ I2 q) fun us s2 ⟨vs, H2, I3, r, q2⟩ => ⟨I3.kIn, ?_⟩) hst hpl
  exact run_fnRS (us := us) (vs := vs) F hr (hx σ) I3 r q2
theorem run_makeE {pins : List (Addr × Obj)} {σ : L2.St} {H : Hp} {s : Shared} {Q : VK} {us : List Value} {vs : List V} (M : Mk X.K C f) (F : FnR X.prog X.w X.K X.mg X.base CX k f sp) (hr : Room (k + 1) X.A) (hx : PassesAt CX X σ (E σ)) (I : Inv X pins σ H s) (r : Vals vs us)
    (h : ∀ x dx, H x = Option.none → H dx = Option.none → dx ≠ x → sp (V.ref x :: vs) (upd (upd H dx (.own x)) x (.ins C dx [])) (fun v H2 => v = .non ∧ Q (.ref x) H2) (E σ)) :
    wpAny (model X.prog X.w) X.A (call (.ref C) us) (EP X pins σ Q) X.xe s := by
  have hq := h (s.heap.objs.size + 1) s.heap.objs.size (I.hok.fresh (Nat.le_succ _)) (I.hok.fresh (Nat.le_refl _)) (Nat.ne_of_lt (Nat.lt_succ_self _))
  have I2 := Inv.made (C := C) I
  have r2 : Vals (V.ref (s.heap.objs.size + 1) :: vs) (Value.ref (s.heap.objs.size + 1) :: us) := .cons rfl r
  refine wpAny_call (make_map (f := f) I.kIn M.makes M.init (beq_iff_eq.mp M.fn) (codeAny_mono (F _ X.stack _ _ (Value.ref (s.heap.objs.size + 1) :: us) _ _ (E σ) (hr.make C us []) (I2.env0.make C us []) r2 hq) fun r s' hq' => ?_))
  cases r with
  | error e => exact hx pins _ _ e s' I2 hq'
  | ok fl =>
    cases fl with
    | ret u =>
      obtain ⟨v, H', I3, rv, ev, q3⟩ := I2.after hq'
      subst ev
      exact ⟨rv, ⟨V.ref (s.heap.objs.size + 1), H', I3, rfl, q3⟩⟩
    | next => exact False.elim hq'
    | brk => exact False.elim hq'
    | cont => exact False.elim hq'
theorem pe_makeE (M : Mk X.K C f) (F : FnR X.prog X.w X.K X.mg X.base CX k f sp) (hr : Room (k + 1) X.A) (hm : X.mg x = some (.ref C)) (hx : ∀ σ, PassesAt CX X σ (E σ)) (ha : PA X (e :: es) t) (hg : Gl X x := by rfl) (hdb : (x == ("__debug__" : Str)) = false := by decide)
    (he : starEach (e :: es) X.env = (false, eval e X.env) :: starEach es X.env := by rfl) (hpl : (backTo pos (starEach es X.env)).any (·.1) = false := by rfl) : PE X (.Call (.Name x p) (e :: es) [] pos) (tMakeE C sp E t) := by
  refine ⟨fun pins s σ H Q I h => ?_⟩
  refine wpAny_Call_Name_kw (ld_glob I hg hm ?_ hdb)
  refine PySem.W.callWith_K (h₀ := X.base) I.ok.mod.kin M.kp (thn (ha.run pos pins s σ H _ I h) fun us s1 ⟨vs, H1, I1, r, q⟩ => ⟨I1.kIn, ?_⟩) he hpl
  exact run_makeE M F hr (hx σ) I1 r q
end
/-- nothing is let out -/
theorem px0 {X : Cx} : ∀ σ, PassesAt CX0 X σ ((fun _ => E0) σ) := fun _ _ _ _ _ _ _ h => h.elim
theorem pxq {X : Cx} : ∀ σ, PassesAt (L2.CX X.prog X.w) X σ ((fun _ => E0) σ) := fun σ pins H s e s' I h => passL pins σ H s e s' I h
theorem pxx {X : Cx} {W : WX} (tk : Takes X W) : ∀ σ, PassesAt (L2.CX X.prog X.w) X σ (WE W σ) := fun σ => passAt tk σ
/-! from a def's body to its promise, wherever it stands -/
section
variable {P : Program} {w : World} {K : PySem.W.Frag} {mg : Str → Option Value} {base : Heap} {CX : CXT} {k : Nat} {x qual : Str} {sp : Sp} {params : Arguments} {body : List Stmt} {scope : Scope} {f : Addr} {fd : FuncData} {ps N : List Str}
theorem fnN (F : FunD K x qual params body scope [] [] f fd)
    (hb : ∀ (kV doc pm : Value) (an : Option Addr) (cdv ct : Value) (us : List Value), us.length = ps.length → bindArgs (PySem.W.fnOf x qual params body scope .none kV doc pm an cdv ct) ⟨us, []⟩ = pure (ps.zip us))
    (S : FnScope N ps scope) (len : ∀ vs H Q E, sp vs H Q E → vs.length = ps.length)
    (hbody : ∀ (cdv : Value) (A : Around) (outer : List Env) (s : Shared) (H : Hp) (vs : List V) (Q : VK) (E : XK), Room k (A.deeper (envOfC qual scope s.heap.objs.size f cdv)) → sp vs H Q E →
      ∃ t, PSs (cxOf CX P w K mg base N qual scope f cdv A outer s H E) body t ∧ t { nx := fun _ H' => Q .non H', rt := Q } (start N vs) H) : FnR P w K mg base CX (k + 1) f sp :=
  ((F.ok S len hbody).raw (F.bindsN hb) .nil).imp fun vs H Q E h => by rw [List.append_nil]; exact h
end
end EL
namespace EX
open PySem PySem.W PySem.Calls PyProof.Rows PySem.HandSPX
/-! ### an own error with a field: super().__init__('..'); self.f = f -/
def xiB (fl : Str) (me : Expr) (p0 p1 p2 p4 p5 q1 q2 q3 q4 : Pos) : List Stmt :=
  [.Expr (.Call (.Attribute (.Call (.Name "super" p0) [] [] p1) "__init__" p2) [me] [] p4) p5, .Assign [.Attribute (.Name "self" q1) fl q2] (.Name fl q3) q4]
/-- the message: a text, or (fs) f'..{fl}' -/
def MsgOk (fl : Str) (me : Expr) : Bool → Prop
  | false => ∃ (msg : Str) (j : Nat) (p : Pos), me = .Constant (.str msg) j p
  | true => ∃ (msg : Str) (j : Nat) (p p1 p2 p3 : Pos), me = .JoinedStr [.Constant (.str msg) j p, .FormattedValue (.Name fl p1) (-1) none p2] p3 ∧ msg.length ≤ 1000
def XvOk (v : Value) : Bool → Prop
  | false => True
  | true => ∃ z t, v = .str z t ∧ z.length ≤ 1000
/-- its head and its scope -/
structure XSc (params : Arguments) (scope : Scope) (fl : Str) : Prop where
  bind : ∀ (name q : Str) (body : List Stmt) (doc pm : Value) (an : Option Addr) (cdv ct : Value) (cc : Addr) (u v : Value), bindArgs (ksFn name q params body scope .none .none doc pm an cdv ct cc) ⟨[u, v], []⟩ = pure [(("self" : Str), u), (fl, v)]
  head : ∃ ar : Arg, (params.posonlyargs ++ params.args).head? = some ar ∧ ar.arg = "self"
  ks : scope.names.lookup ("super" : Str) = some .globalImplicit
  kc : scope.names.lookup ("__class__" : Str) = some .free
  kself : scope.names.lookup ("self" : Str) = some .local
  kf : scope.names.lookup fl = some .local
  kind : scope.kind = .function
  ncell : ∀ x ∈ scope.names, x.2 ≠ .cell
  co : scope.isCoroutine = false
  gen : scope.isGenerator = false
  ne : fl ≠ "self"
  dbg : (fl == ("__debug__" : Str)) = false
/-- what the written part says of the class at C and of its __init__ at fI -/
structure XTxt (K : Frag) (C fI cc cda : Addr) (fl file : Str) (fs : Bool) : Prop where
  cls : ∃ nm q N bs bm sn sub ab col dd k0 k1 k2 k3 k5, K.lookup C = some (excClassObj nm q C N bs bm true sn sub ab col dd k0 k1 k2 k3 k5 "ValueError.__new__") ∧ refsVE bm = true
  sa : findIn K (.ref C) "__setattr__" = some (some (.builtin "object.__setattr__"))
  noN : findIn K (.ref C) fl = some none
  iC : findIn K (.ref C) "__init__" = some (some (.ref fI))
  tC : typeIn K (.ref fI) = some (.type "function")
  ve : subIn K (.ref C) (.type "ValueError") = some true
  self : mroIn K C (.ref C) = some true
  sup : ks_superIn K C C "__init__" = some (some (.builtin "ValueError.__init__"))
  tp : nsIn K cStatics "thirdparty.any" = some none
  cell : ∃ cl cld csl, K.lookup cc = some ⟨cl, cld, .cell (some (.ref C)), csl⟩
  code : ∃ ccl cdd vs ccs tf, K.lookup cda = some ⟨ccl, cdd, .fields vs, ccs⟩ ∧ vs[2]? = some (.str file tf)
  fn : ∃ (oc : Value) (od : Option Addr) (doc pm : Value) (an : Option Addr) (ct : Value) (osl : Array (Option Value)) (q : Str) (params : Arguments) (scope : Scope) (me : Expr) (p0 p1 p2 p4 p5 q1 q2 q3 q4 : Pos),
    K.lookup fI = some ⟨oc, od, .func (ksFn "__init__" q params (xiB fl me p0 p1 p2 p4 p5 q1 q2 q3 q4) scope .none .none doc pm an (.ref cda) ct cc), osl⟩ ∧ codeIn K (.ref cda) q = true ∧ XSc params scope fl ∧ (p2.endLine == p4.line) = true ∧ MsgOk fl me fs
/-- what __init__ leaves of a fresh exception at x -/
structure InitEnd (h h' : Heap) (x C dx t1 : Addr) (fl : Str) (v : Value) : Prop where
  keep : ∀ b o, b ≠ x → h.get? b = some o → h'.get? b = some o
  obj : h'.get? x = some { cls := .ref C, dict := some dx, data := .fields #[.ref t1, .none, .none, .none, .bool false, .none] }
  dbig : h.objs.size ≤ dx
  dne : dx ≠ x
  ns : h'.Ns1 dx (fun y => if y = fl then some v else none)
structure OwnMade (h h' : Heap) (e C d : Addr) (fl : Str) (v : Value) : Prop where
  keep : ∀ b o, h.get? b = some o → h'.get? b = some o
  new : h.objs.size ≤ e
  obj : ∃ oe vs, h'.get? e = some oe ∧ oe.cls = .ref C ∧ oe.dict = some d ∧ oe.data = .fields vs ∧ vs[1]? = some .none
  dbig : h.objs.size ≤ d
  dne : d ≠ e
  ns : h'.Ns1 d (fun y => if y = fl then some v else none)
theorem meth_eq {o e : Expr} {name : Str} {p2 p4 : Pos} {env : Env} (hl : (p2.endLine == p4.line) = true) : eval (.Call (.Attribute o name p2) [e] [] p4) env = (do
      let ov ← attributeBase o name env (eval o env)
      standAt p2.atName
      let (f, first) ← holding [ov] (calleeOf (methodCallForm 1 (backTo p4 (starEach [e] env)) []) o env ov name)
      callWith p4 f first (backTo p4 (starEach [e] env)) []) := by
  show (attributeBase o name env (eval o env) >>= fun ov => standAt p2.atName >>= fun _ => methodCall o name p2 p4 env ov 1 (backTo p4 (starEach [e] env)) []) = _
  have x : ∀ ov, methodCall o name p2 p4 env ov 1 (backTo p4 (starEach [e] env)) [] = (holding [ov] (calleeOf (methodCallForm 1 (backTo p4 (starEach [e] env)) []) o env ov name) >>= fun z => callWith p4 z.1 z.2 (backTo p4 (starEach [e] env)) []) := fun ov => by
    unfold methodCall methodCallPos
    simp only [hl, Bool.or_true, if_true, pure_bind]
  simp only [x]
theorem meth_msg {o me : Expr} {name fl : Str} {fs : Bool} {p2 p4 : Pos} {env : Env} (hm : MsgOk fl me fs) (hl : (p2.endLine == p4.line) = true) : starEach [me] env = [(false, eval me env)] ∧ eval (.Call (.Attribute o name p2) [me] [] p4) env = (do
      let ov ← attributeBase o name env (eval o env)
      standAt p2.atName
      let (f, first) ← holding [ov] (getMethod ov name (do return (← importBound o env).getD true))
      callWith p4 f first (backTo p4 (starEach [me] env)) []) := by
  cases fs with
  | false =>
    obtain ⟨msg, j, p, rfl⟩ := hm
    exact ⟨rfl, meth_eq hl⟩
  | true =>
    obtain ⟨msg, j, p, p1, pp, p3, rfl, _⟩ := hm
    exact ⟨rfl, meth_eq hl⟩
section
variable {prog : Program} {w : World} {A : Around} {E : Value → Shared → Prop} {R : Result → Shared → Prop} {s : Shared} {K : Frag} {C fI cc cda : Addr} {fl file : Str} {mg mb : Str → Option Value}
/-- the wrapper of ValueError.__init__ called -/
theorem call_mw {h : Heap} {g : Array GenState} {d : Drawn} {t : Nat} {os : OsState} {u e t0 : Addr} {rest : List Value} {Q : Value → Shared → Prop}
    (hC : ∃ nm q N bs bm sn sub ab col dd k0 k1 k2 k3 k5, h.get? C = some (excClassObj nm q C N bs bm true sn sub ab col dd k0 k1 k2 k3 k5 "ValueError.__new__")) (he : h.get? e = some (excO C t0)) (hu : h.get? u = some (kxs_mw "ValueError.__init__" e)) (hrest : rest.length ≤ sizeLine)
    (hq : ∀ h' t1, (∀ b o, b ≠ e → h.get? b = some o → h'.get? b = some o) → h'.get? e = some (excO C t1) → Q .none ⟨h', g, d, t, os⟩) :
    wpAny (model prog w) A (call (.ref u) rest) Q E ⟨h, g, d, t, os⟩ := by
  obtain ⟨nm, q, N, bs, bm, sn, sub, ab, col, dd, k0, k1, k2, k3, k5, hC⟩ := hC
  refine wpAny_call (codeAny_of_tree ?_)
  show wpAny _ A.in1 (callAny (.ref u) ⟨rest, []⟩) _ _ _
  simp only [callAny]
  refine wpAny_bind (wpAny_load hu ?_)
  simp only [kxs_mw, show (Value.type "method-wrapper" == Value.type "method" || Value.type "method-wrapper" == Value.type "builtin_function_or_method" || Value.type "method-wrapper" == Value.type "method-wrapper") = true by decide, if_true]
  refine KFB.if_so (by decide) ?_
  refine wpAny_bind (check_bound_init F.excBase_ValueError.toExcCallFacts hC he rfl ?_)
  refine wpAny_bind (wpAny_pure (wpAny_pure ?_))
  refine ⟨plainId_quiet F.excBase_ValueError.init.plain _, codeAny_builtin F.excBase_ValueError.initEntry ?_⟩
  exact exc_init_tree (cls := .ref C) (t0 := t0) (dv := none) (c2 := .none) (c3 := .none) (b4 := .bool false) he hrest fun h' k e' _ => hq h' _ k e'
theorem msg_run {h : Heap} {g : Array GenState} {d : Drawn} {t : Nat} {os : OsState} {env : Env} {fs : Bool} {me : Expr} {v : Value} {m : Str → Option Value} {Q : Value → Shared → Prop} (hm : MsgOk fl me fs) (hv : XvOk v fs) (hk : env.scope.kind = .function) (hf : env.scope.names.lookup fl = some .local)
    (hdb : (fl == ("__debug__" : Str)) = false) (hn : h.Ns env.locals m) (hmv : m fl = some v) (hq : ∀ z tz t', Q (.str z tz) ⟨h, g, d, t', os⟩) : wpAny (model prog w) A (eval me env) Q E ⟨h, g, d, t, os⟩ := by
  cases fs with
  | false =>
    obtain ⟨msg, j, p, rfl⟩ := hm
    exact wpAny_Constant_str (hq _ _ _)
  | true =>
    obtain ⟨msg, j, p, p1, p2, p3, rfl, hl⟩ := hm
    obtain ⟨z, tz, rfl, hz⟩ := hv
    refine wpAny_JoinedStr ?_
    have e0 : evalEach [.Constant (.str msg) j p, .FormattedValue (.Name fl p1) (-1) none p2] env = [eval (.Constant (.str msg) j p) env, eval (.FormattedValue (.Name fl p1) (-1) none p2) env] := by first | rfl | simp [evalEach]
    rw [e0]
    have l1 : (Str.empty ++ msg).length ≤ 1000 := by rw [EL.str_nil]; exact hl
    have l2 : ((Str.empty ++ msg) ++ z).length ≤ sizeLine := by
      rw [EL.str_nil, TL.len_tl, TL.tl_append, List.length_append, ← TL.len_tl, ← TL.len_tl]
      exact Nat.le_trans (Nat.add_le_add hl hz) (by decide)
    refine wpAny_Constant_str ⟨msg, _, rfl, Nat.le_trans l1 (by decide), ?_⟩
    refine wpAny_FormattedValue_plain ?_
    refine wpAny_Name (wpAny_loadName_local hk hf hn hmv ?_) hdb
    exact wpAny_formatField_str ⟨z, _, rfl, l2, l2, hq _ _ _⟩ ⟨z, _, rfl, l2, l2, hq _ _ _⟩ (Nat.le_trans hz (by decide))
theorem kept_but {h h' : Heap} {x : Addr} (X : K.In h) (hx : K.lookup x = none) (k : ∀ b o, b ≠ x → h.get? b = some o → h'.get? b = some o) : K.In h' := fun a o e =>
  k a o (fun z => by rw [z, hx] at e; cases e) (X a o e)
theorem xf_init {fs : Bool} (T : XTxt K C fI cc cda fl file fs) {x t0 : Addr} {v : Value} (hv : XvOk v fs) (X : K.In s.heap) (hlim : s.heap.NoLimit) (hx : s.heap.get? x = some (excO C t0)) (hnx : K.lookup x = none) (hroom : A.depth < recursionLimit)
    (G : s.heap.Ns mainGlobals mg) (hsu : mg "super" = none) (Bn : s.heap.Ns builtinsNs mb) (hb : mb "super" = some (.type "super")) (hfile : ((prog.main.file : Str) == file) = true) (htop : (prog.main.scope.names.lookup ("super" : Str)).isSome = false)
    (hq : ∀ h' tk dx t1, InitEnd s.heap h' x C dx t1 fl v → R (.ok (.ret .none)) { s with heap := h', toks := tk }) :
    codeAny (model prog w) A (.call (.ref fI) ⟨[.ref x, v], []⟩) R s := by
  obtain ⟨oc, od, doc, pm, an, ct, osl, q, params, scope, me, p0, p1, p2, p4, p5, q1, q2, q3, q4, ho, hcd, S, hl, hm⟩ := T.fn
  obtain ⟨nm, cq, N, bs, bm, sn, sub, ab, col, dd, k0, k1, k2, k3, k5, hC, hbm⟩ := T.cls
  obtain ⟨cl, cld, csl, hcell⟩ := T.cell
  obtain ⟨ccl, cdd, vs, ccs, tf, hcode, hvs⟩ := T.code
  obtain ⟨ar, har, hara⟩ := S.head
  have hcl : clsIn K C = some { name := nm, bases := bs, mro := .ref C :: bm, ns := N, qualname := cq, hasDict := true, slotNames := sn, subclasses := sub, abstract := ab, collection := col, hasDel := false } := by unfold clsIn; rw [hC] <;> rfl
  refine ks_codeAny_call_defAt (fd := ksFn "__init__" q params (xiB fl me p0 p1 p2 p4 p5 q1 q2 q3 q4) scope .none .none doc pm an (.ref cda) ct cc) (binds := [(("self" : Str), .ref x), (fl, v)]) hroom (X _ _ ho) rfl hlim (codeRec_of X hcd) rfl (BindsTo.of_eq (S.bind ..)) S.ncell ?_ (fun h₁ hn k => ?_) S.co S.gen S.kind
  · intro y hy
    rcases List.mem_cons.mp hy with rfl | hy
    · exact S.kself
    · rcases List.mem_cons.mp hy with rfl | hy
      · exact S.kf
      · cases hy
  have vself : ([(("self" : Str), Value.ref x), (fl, v)] : List (Str × Value)).reverse.lookup ("self" : Str) = some (.ref x) := by
    show List.lookup ("self" : Str) [(fl, v), (("self" : Str), Value.ref x)] = _
    have e : (("self" : Str) == fl) = false := by simpa using Ne.symm S.ne
    simp [List.lookup, e]
  have vfl : ([(("self" : Str), Value.ref x), (fl, v)] : List (Str × Value)).reverse.lookup fl = some v := by
    show List.lookup fl [(fl, v), (("self" : Str), Value.ref x)] = _
    simp [List.lookup]
  obtain ⟨hh, g, d, t, os⟩ := s
  dsimp only at hn k X hlim hx G Bn
  have X₁ : K.In h₁ := X.keeps k
  have hx₁ := k _ _ hx
  show _root_.PySem.wpAt _ _ (.func _ (ksEnv q scope hh.objs.size fI (.ref cda) cc)) (execs (xiB fl me p0 p1 p2 p4 p5 q1 q2 q3 q4) (ksEnv q scope hh.objs.size fI (.ref cda) cc)) _ _ _
  refine ks_wpAt_execs_cons (ks_wpAt_Expr_any (ks_wpAt_MethodCall ?_ (meth_msg hm hl).2) (by unfold interactive; simp [S.kind]))
  refine ks_wpAt_super_base (env := ksEnv q scope hh.objs.size fI (.ref cda) cc) S.ks S.kc (by decide) rfl (X₁ _ _ ho) rfl har rfl (X₁ _ _ hcode) rfl hvs hfile htop ?_
  refine ks_loadName_global S.kind S.ks (loadGlobal_builtin (env := ksEnv q scope hh.objs.size fI (.ref cda) cc) (G.keeps k) hsu (Bn.keeps k) hb ⟨rfl, ?_⟩)
  refine wpAny_loadName_free S.kind S.kc rfl ⟨_, X₁ _ _ hcell, rfl⟩ ?_
  rw [hara]
  refine wpAny_loadName_local S.kind S.kself hn vself ?_
  refine ks_wpAny_isType_cls (X₁ _ _ hC) rfl ⟨rfl, ?_⟩
  refine ks_wpAny_call_super (X₁ _ _ hC) rfl hx₁ rfl (fun c e => by cases e) (looks_mroIn X₁ T.self) (fun h₂ e₂ k₂ => ?_)
  have X₂ : K.In h₂ := X₁.keeps k₂
  have hx₂ := k₂ _ _ hx₁
  have I₂ : InstAt h₂ x (excO C t0) C none := ⟨hx₂, rfl, rfl, trivial⟩
  have hI : Looks (model prog w) h₂ (isInstance (.ref x) (.type "ValueError")) true := I₂.type.andThen (looks_subIn X₂ T.ve)
  have hsp := T.sup
  unfold ks_superIn at hsp
  rw [hcl] at hsp
  refine kxs_getMethod kxs_ValueError e₂ (looks_opaque X₂ T.tp) (l₀ := .ref C :: bm) (fun A Q E s k q => wpAny_bind ((looks_clsIn X₂ hcl) A _ E s k (wpAny_pure q))) rfl X₂ hsp hI (ks_ne X₂ I₂ hcl) (by decide) ?_
  have hu₃ : (h₂.push (kxs_mw "ValueError.__init__" x)).get? h₂.objs.size = some (kxs_mw "ValueError.__init__" x) := Heap.get?_push_at rfl rfl
  have k₃ : ∀ b o, h₂.get? b = some o → (h₂.push (kxs_mw "ValueError.__init__" x)).get? b = some o := fun b o e => Heap.get?_push_of_some _ e
  have k₃n : h₁.Ns hh.objs.size (fun x_1 => ([(("self" : Str), Value.ref x), (fl, v)] : List (Str × Value)).reverse.lookup x_1) → (h₂.push (kxs_mw "ValueError.__init__" x)).Ns hh.objs.size (fun x_1 => ([(("self" : Str), Value.ref x), (fl, v)] : List (Str × Value)).reverse.lookup x_1) := fun q => q.keeps fun b o e => k₃ _ _ (k₂ _ _ e)
  dsimp only
  rw [(meth_msg (o := .Name "self" p0) (name := "x") (env := ksEnv q scope hh.objs.size fI (.ref cda) cc) hm hl).1]
  refine kxs_callWith (i := "ValueError.__init__") (x := x) rfl ?_
  refine evalArgs_plain (spliced_cons (msg_run hm hv S.kind S.kf S.dbg (k₃n hn) vfl fun z tz t' => spliced_nil ⟨hu₃, ?_⟩))
  have hxL : hh.objs.size ≠ x := Nat.ne_of_gt (Heap.lt_size hx)
  refine call_mw (C := C) (e := x) (t0 := t0) ⟨nm, cq, N, bs, bm, sn, sub, ab, col, dd, k0, k1, k2, k3, k5, k₃ _ _ (X₂ _ _ hC)⟩ (k₃ _ _ hx₂) hu₃ (by show 1 ≤ sizeLine; decide) fun h₄ t1 k₄ hx₄ => ?_
  have X₄ : K.In h₄ := kept_but (X₂.keeps k₃) hnx k₄
  have k04 : ∀ b o, b ≠ x → hh.get? b = some o → h₄.get? b = some o := fun b o hbx e => k₄ b o hbx (k₃ b o (k₂ b o (k b o e)))
  obtain ⟨oL, es, ep, hL, rr⟩ := hn
  have hn₄ : h₄.Ns hh.objs.size (fun x_1 => ([(("self" : Str), Value.ref x), (fl, v)] : List (Str × Value)).reverse.lookup x_1) := ⟨oL, es, ep, k₄ _ _ hxL (k₃ _ _ (k₂ _ _ hL)), rr⟩
  have z1 : hh.objs.size < h₄.objs.size := hn₄.lt
  refine ks_wpAt_execs_cons (wpAt_of_wpAny (plainObj_wpAny_Assign_Attribute ?_))
  refine wpAny_Name (wpAny_loadName_local S.kind S.kf hn₄ vfl ?_) S.dbg
  refine wpAny_Name (wpAny_loadName_local S.kind S.kself hn₄ vself ?_) (by decide)
  refine set_plain X₄ (ox := excO C t1) (od := none) ⟨hx₄, rfl, rfl, trivial⟩ T.sa ?_
  refine exc_osa X₄ hx₄ hcl (show refsVE (.ref C :: bm) = true from hbm) rfl T.noN (fun h₅ tk₅ dx k₅ dn dne hx₅ hn₅ => ?_)
  refine wpAt_of_wpAny (wpAny_execs_nil ?_)
  exact hq h₅ tk₅ dx t1 ⟨fun b o hbx e => k₅ b o hbx (k04 b o hbx e), hx₅, Nat.le_of_lt (Nat.lt_of_lt_of_le z1 dn), dne, hn₅⟩
theorem xf_made {fs : Bool} (T : XTxt K C fI cc cda fl file fs) {v : Value} (hv : XvOk v fs) (X : K.In s.heap) (hlim : s.heap.NoLimit) (hroom : A.depth + 1 < recursionLimit)
    (G : s.heap.Ns mainGlobals mg) (hsu : mg "super" = none) (Bn : s.heap.Ns builtinsNs mb) (hb : mb "super" = some (.type "super")) (hfile : ((prog.main.file : Str) == file) = true) (htop : (prog.main.scope.names.lookup ("super" : Str)).isSome = false)
    (hq : ∀ h' tk e d, OwnMade s.heap h' e C d fl v → R (.ok (.ret (.ref e))) { s with heap := h', toks := tk }) :
    codeAny (model prog w) A (.call (.ref C) ⟨[v], []⟩) R s := by
  obtain ⟨nm, q, N, bs, bm, sn, sub, ab, col, dd, k0, k1, k2, k3, k5, hC, hbm⟩ := T.cls
  obtain ⟨hp, g, dr, tk, os⟩ := s
  have k : ∀ b o, hp.get? b = some o → ((hp.push (kdv_tup [v])).push (excO C hp.objs.size)).get? b = some o := fun b o e => Heap.get?_push_of_some _ (Heap.get?_push_of_some _ e)
  have hget : ((hp.push (kdv_tup [v])).push (excO C hp.objs.size)).get? (hp.objs.size + 1) = some (excO C hp.objs.size) := by heap_get
  have hnx : K.lookup (hp.objs.size + 1) = none := by
    cases e : K.lookup (hp.objs.size + 1) with
    | none => rfl
    | some o =>
      have z : hp.get? (hp.objs.size + 1) = some o := X _ _ e
      exact absurd (Nat.lt_of_succ_lt (Heap.lt_size z)) (Nat.lt_irrefl _)
  refine call_own F.excBase_ValueError (fun X => refsVE_contains X bm hbm) (X _ _ hC) (looks_findIn X T.iC) (fun self => bind_fn X self T.tC) (by show 1 ≤ sizeLine; decide) ?_
  refine xf_init (s := ⟨(hp.push (kdv_tup [v])).push (excO C hp.objs.size), g, dr, tk, os⟩) T hv (X.keeps k) (hlim.keeps k) hget hnx ?_ (G.keeps k) hsu (Bn.keeps k) hb hfile htop fun h' tk' dx t1 ⟨k', hx, dn, dne, hns⟩ => ?_
  · show A.depth + 1 < recursionLimit
    exact hroom
  · have old : ∀ b o, hp.get? b = some o → h'.get? b = some o := fun b o e => k' b o (Nat.ne_of_lt (Nat.lt_succ_of_lt (Heap.lt_size e))) (k b o e)
    have z : hp.objs.size + 1 + 1 ≤ dx := by
      first
        | (simpa only [Heap.size_push] using dn)
        | exact dn
        | (have q := dn; rw [Heap.size_push, Heap.size_push] at q; exact q)
    exact ⟨rfl, hq h' tk' (hp.objs.size + 1) dx ⟨old, Nat.le_succ _, ⟨_, _, hx, rfl, rfl, rfl, rfl⟩, Nat.le_trans (Nat.le_trans (Nat.le_succ _) (Nat.le_succ _)) z, dne, hns⟩⟩
end
end EX
namespace EL
open PySem PySem.Spec PyProof.Rows L2 He TL
/-- the program's file, no own super -/
structure PF (P : Program) (file : Str) : Prop where
  file : ((P.main.file : Str) == file) = true
  top : (P.main.scope.names.lookup ("super" : Str)).isSome = false
/-- an own error with the field fl -/
structure XT0 (K : PySem.W.Frag) (mg : Str → Option Value) (x fl file : Str) (fs : Bool) : Prop where
  t : ∃ cc cda, EX.XTxt K (ga K x) (ma K (ga K x) "__init__") cc cda fl file fs
  g : mg x = some (.ref (ga K x))
  su : mg "super" = none
  kp : PySem.W.keepIn K (.ref (ga K x)) = true
  ex : PySem.W.subIn K (.ref (ga K x)) (.type "BaseException") = some true
  ty : PySem.W.typeIn K (.ref (ga K x)) = some (.type "type")
abbrev XT (K : PySem.W.Frag) (mg : Str → Option Value) (x fl file : Str) : Prop := XT0 K mg x fl file false
abbrev XTf (K : PySem.W.Frag) (mg : Str → Option Value) (x fl file : Str) : Prop := XT0 K mg x fl file true
theorem relO_one {fl : Str} {v : V} {v' : Value} (r : RelV v v') (f : Str) : RelO (List.lookup f [(fl, v)]) (if f = fl then some v' else none) := by
  by_cases hw : f = fl
  · subst hw
    rw [if_pos rfl]
    have q : List.lookup f [(f, v)] = some v := by simp [List.lookup]
    rw [q]
    exact r
  · rw [if_neg hw]
    have qw : (f == fl) = false := by simpa using hw
    have q2 : List.lookup f [(fl, v)] = none := by simp [List.lookup, qw]
    rw [q2]
    trivial
section
variable {X : Cx} {x fl file : Str}
def tMkX (C : Addr) (fl : Str) (ta : TA) : L2.St → Hp → XK → Prop := fun σ H Q => ta σ H fun vs H1 => ∃ v, vs = [v] ∧ ∀ d, H1 d = none → Q (.ref C) (some d) (upd H1 d (.xd [(fl, v)]))
/-- the same, the field a text (that the message shows) -/
def tMkF (C : Addr) (fl : Str) (ta : TA) : L2.St → Hp → XK → Prop := fun σ H Q => ta σ H fun vs H1 => ∃ z : Str, vs = [.str z] ∧ z.length ≤ 1000 ∧ ∀ d, H1 d = none → Q (.ref C) (some d) (upd H1 d (.xd [(fl, .str z)]))
def xvOk (v : V) : Bool → Prop
  | false => True
  | true => ∃ z : Str, v = .str z ∧ z.length ≤ 1000
theorem xvOk.to {v : V} {u : Value} {fs : Bool} (h : xvOk v fs) (r : RelV v u) : EX.XvOk u fs := by
  cases fs with
  | false => trivial
  | true =>
    obtain ⟨z, rfl, hz⟩ := h
    obtain ⟨t, rfl⟩ := r
    exact ⟨z, t, rfl, hz⟩
theorem pmk_xf0 {fs : Bool} {a : Expr} {ta : TA} {p pos : Pos} {k : Nat} {R : List V → Hp → XK → Prop} (hR : ∀ vs H1 Q, R vs H1 Q → ∃ v, vs = [v] ∧ xvOk v fs ∧ ∀ d, H1 d = none → Q (.ref (ga X.K x)) (some d) (upd H1 d (.xd [(fl, v)]))) (hP : PF X.prog file) (T : XT0 X.K X.mg x fl file fs) (hr : Room k X.A) (ha : PA X [a] ta) (hg : Gl X x := by rfl) (hdb : (x == ("__debug__" : Str)) = false := by decide)
    (he : starEach (a :: []) X.env = (false, eval a X.env) :: starEach [] X.env := by rfl) (hpl : (backTo pos (starEach [] X.env)).any (·.1) = false := by rfl) :
    PMk X (.Call (.Name x p) [a] [] pos) (fun σ H Q => ta σ H fun vs H1 => R vs H1 Q) := by
  intro pins s σ H Q I h
  refine wpAny_Call_Name_kw (ld_glob I hg T.g ?_ hdb)
  refine PySem.W.callWith_K (h₀ := X.base) I.ok.mod.kin T.kp (thn (ha.run pos pins s σ H _ I h) fun us s1 hh => ?_) he hpl
  obtain ⟨vs, H1, I1, r1, q0⟩ := hh
  obtain ⟨v, ev, xo, q1⟩ := hR _ _ _ q0
  subst ev
  refine ⟨I1.kIn, ?_⟩
  cases r1 with
  | cons rv rn =>
    rename_i v' us'
    cases rn
    show wpAny _ _ (call (.ref (ga X.K x)) [v']) _ _ _
    have hlim := I1.nolimit
    obtain ⟨cc, cda, TT⟩ := T.t
    obtain ⟨mb, hmb, hmb2⟩ := I1.mod.blt
    have G1 : s1.heap.Ns mainGlobals X.mg := I1.mod.glob.keeps I1.bk
    have B1 : s1.heap.Ns builtinsNs mb := hmb.keeps I1.bk
    have hsu : mb "super" = some (.type "super") := (hmb2 _ (by decide +kernel)).trans (by decide +kernel)
    obtain ⟨hp, g, dr, tk, os⟩ := s1
    refine wpAny_call (EX.xf_made TT (xo.to rv) I1.kIn hlim (by have := hr.dp; omega) G1 T.su B1 hsu hP.file hP.top fun h' tk' e d M => ?_)
    show MkP X pins σ Q (.ref e) ⟨h', g, dr, tk', os⟩
    obtain ⟨oe, fv, hoe, hc, hd, hdat, h1⟩ := M.obj
    have hns := M.ns
    obtain ⟨G', g1, g2⟩ := restrict h' fun b => decide (b ≠ e)
    have gk : ∀ b, b ≠ e → G'.get? b = h'.get? b := fun b hb => g1 b (decide_eq_true hb)
    have ge : G'.get? e = none := g2 e (by simp)
    have old : ∀ b o, hp.get? b = some o → G'.get? b = some o := fun b o q => (gk b (Nat.ne_of_lt (Nat.lt_of_lt_of_le (Heap.lt_size q) M.new))).trans (M.keep b o q)
    have ob : ObjOk X.prog X.w (upd H1 d (.xd [(fl, v)])) G' d (.xd [(fl, v)]) :=
      ⟨_, hns.at (fun o q => (gk d M.dne).trans q), fun f => relO_one rv f⟩
    have J : Inv X pins σ (upd H1 d (.xd [(fl, v)])) ⟨G', g, dr, tk', os⟩ := I1.laid (t' := tk') old M.dbig ob
    refine ⟨e, oe, fv, ⟨G', g, dr, tk', os⟩, _, .ref (ga X.K x), some d, rfl, J, fun b o q => ?_, ge, hoe, ⟨hc, hd⟩, hdat, h1, ?_, rfl, I1.bare, raises_own T.ex T.ty, q1 d (I1.hok.fresh M.dbig)⟩
    · by_cases hb : b = e
      · have q' : G'.get? b = some o := q
        rw [hb, ge] at q'; cases q'
      · exact (gk b hb).symm.trans q
    · rw [upd_ne (Ne.symm M.dne)]
      exact I1.hok.fresh M.new
theorem pmk_xf {a : Expr} {ta : TA} {p pos : Pos} {k : Nat} (hP : PF X.prog file) (T : XT X.K X.mg x fl file) (hr : Room k X.A) (ha : PA X [a] ta) (hg : Gl X x := by rfl) (hdb : (x == ("__debug__" : Str)) = false := by decide)
    (he : starEach (a :: []) X.env = (false, eval a X.env) :: starEach [] X.env := by rfl) (hpl : (backTo pos (starEach [] X.env)).any (·.1) = false := by rfl) :
    PMk X (.Call (.Name x p) [a] [] pos) (tMkX (ga X.K x) fl ta) :=
  pmk_xf0 (fs := false) (R := fun vs H1 Q => ∃ v, vs = [v] ∧ ∀ d, H1 d = none → Q (.ref (ga X.K x)) (some d) (upd H1 d (.xd [(fl, v)]))) (fun vs H1 Q ⟨v, e, q⟩ => ⟨v, e, trivial, q⟩) hP T hr ha hg hdb he hpl
theorem pmk_xff {a : Expr} {ta : TA} {p pos : Pos} {k : Nat} (hP : PF X.prog file) (T : XTf X.K X.mg x fl file) (hr : Room k X.A) (ha : PA X [a] ta) (hg : Gl X x := by rfl) (hdb : (x == ("__debug__" : Str)) = false := by decide)
    (he : starEach (a :: []) X.env = (false, eval a X.env) :: starEach [] X.env := by rfl) (hpl : (backTo pos (starEach [] X.env)).any (·.1) = false := by rfl) :
    PMk X (.Call (.Name x p) [a] [] pos) (tMkF (ga X.K x) fl ta) :=
  pmk_xf0 (fs := true) (R := fun vs H1 Q => ∃ z : Str, vs = [.str z] ∧ z.length ≤ 1000 ∧ ∀ d, H1 d = none → Q (.ref (ga X.K x)) (some d) (upd H1 d (.xd [(fl, .str z)]))) (fun vs H1 Q ⟨z, e, hz, q⟩ => ⟨_, e, ⟨z, rfl, hz⟩, q⟩) hP T hr ha hg hdb he hpl
/-- raise C(e), C an own error whose message shows its field -/
theorem rsxf {a : Expr} {ta : TA} {W : WX} {p pos pos2 : Pos} {k : Nat} (hc : X.calm = true) (tk : Takes X W) (hP : PF X.prog file) (T : XTf X.K X.mg x fl file) (hr : Room k X.A) (ha : PA X [a] ta) (hg : Gl X x := by rfl) (hdb : (x == ("__debug__" : Str)) = false := by decide)
    (he : starEach (a :: []) X.env = (false, eval a X.env) :: starEach [] X.env := by rfl) (hpl : (backTo pos (starEach [] X.env)).any (·.1) = false := by rfl) :
    PS X (.Raise (some (.Call (.Name x p) [a] [] pos)) none pos2) (fun _ σ H => tMkF (ga X.K x) fl ta σ H fun cls d H' => W cls d σ H') := ps_raise hc tk (pmk_xff hP T hr ha hg hdb he hpl)
/-- raise C(e), C an own error with a field -/
theorem rsx {a : Expr} {ta : TA} {W : WX} {p pos pos2 : Pos} {k : Nat} (hc : X.calm = true) (tk : Takes X W) (hP : PF X.prog file) (T : XT X.K X.mg x fl file) (hr : Room k X.A) (ha : PA X [a] ta) (hg : Gl X x := by rfl) (hdb : (x == ("__debug__" : Str)) = false := by decide)
    (he : starEach (a :: []) X.env = (false, eval a X.env) :: starEach [] X.env := by rfl) (hpl : (backTo pos (starEach [] X.env)).any (·.1) = false := by rfl) :
    PS X (.Raise (some (.Call (.Name x p) [a] [] pos)) none pos2) (fun _ σ H => tMkX (ga X.K x) fl ta σ H fun cls d H' => W cls d σ H') := ps_raise hc tk (pmk_xf hP T hr ha hg hdb he hpl)
end
end EL
namespace EL
open PySem PySem.W PySem.Spec PyProof.Rows He
/-! ### the facts of such an error, from the head -/
def xclB (K : Frag) (C : Addr) : Bool := match K.lookup C with
  | some ⟨.type "type", _, .cls cd, sl⟩ => (match cd.mro, sl.toList with
    | .ref C' :: bm, [_, _, _, _, some (.builtin n), _] => C' == C && n == "ValueError.__new__" && !cd.hasDel && cd.hasDict && HandSPX.refsVE bm
    | _, _ => false)
  | _ => false
theorem xclB_ok {K : Frag} {C : Addr} (q : xclB K C = true) : ∃ nm q N bs bm sn sub ab col dd k0 k1 k2 k3 k5, K.lookup C = some (excClassObj nm q C N bs bm true sn sub ab col dd k0 k1 k2 k3 k5 "ValueError.__new__") ∧ HandSPX.refsVE bm = true := by
  unfold xclB at q
  split at q
  · rename_i dd cd sl ho
    split at q
    · rename_i C' bm k0 k1 k2 k3 n k5 hm hs
      simp only [Bool.and_eq_true, beq_iff_eq, Bool.not_eq_true'] at q
      obtain ⟨⟨⟨⟨rfl, rfl⟩, hdel⟩, hdi⟩, ht⟩ := q
      obtain ⟨nm, bs, mro, ns, qn, hd, sn, sub, ab, col, del⟩ := cd
      dsimp only at hm hdel hdi
      subst hm hdel hdi
      have hsl : sl = #[k0, k1, k2, k3, some (.builtin "ValueError.__new__"), k5] := by
        obtain ⟨l⟩ := sl
        simp only at hs
        rw [hs]
      subst hsl
      exact ⟨nm, qn, ns, bs, bm, sn, sub, ab, col, dd, k0, k1, k2, k3, k5, ho, ht⟩
    · cases q
  · cases q
/-- closure, code, defaults of its __init__ -/
def xfnB (K : Frag) (C f : Addr) (q file : Str) : Bool := match K.lookup f with
  | some ⟨_, _, .func fd, _⟩ => (match fd.closure, fd.code, fd.defaults, fd.kwdefaults with
    | [(_, cc)], .ref cda, .none, .none => (match K.lookup cc with
      | some ⟨_, _, .cell (some (.ref D)), _⟩ => decide (D = C)
      | _ => false) && ((match K.lookup cda with
      | some ⟨_, _, .fields vs, _⟩ => (match (vs[2]? : Option Value) with
        | some (Value.str fi _) => decide (fi = file)
        | _ => false)
      | _ => false) && codeIn K (.ref cda) q)
    | _, _, _, _ => false)
  | _ => false
def xtB (K : Frag) (x fl file : Str) : Bool := xclB K (ga K x) && (eqO (findIn K (.ref (ga K x)) "__setattr__") (some (some (.builtin "object.__setattr__"))) && (eqO (findIn K (.ref (ga K x)) fl) (some none) &&
  (eqO (findIn K (.ref (ga K x)) "__init__") (some (some (.ref (ma K (ga K x) "__init__")))) && (decide (typeIn K (.ref (ma K (ga K x) "__init__")) = some (.type "function")) && (decide (subIn K (.ref (ga K x)) (.type "ValueError") = some true) &&
  (decide (mroIn K (ga K x) (.ref (ga K x)) = some true) && (eqO (ks_superIn K (ga K x) (ga K x) "__init__") (some (some (.builtin "ValueError.__init__"))) && (eqO (nsIn K cStatics "thirdparty.any") (some none) &&
  (keepIn K (.ref (ga K x)) && (decide (subIn K (.ref (ga K x)) (.type "BaseException") = some true) && (decide (typeIn K (.ref (ga K x)) = some (.type "type")) && (L2.xfB K (ga K x) && xfnB K (ga K x) (ma K (ga K x) "__init__") (x ++ ".__init__") file))))))))))))
/-- what of a def with a closure is looked at (the cells' places not) -/
def fnWX (K : Frag) (a : Addr) : FnW := match K.lookup a with
  | some ⟨_, _, .func fd, _⟩ => some (fd.name, fd.qualname, fd.params, fd.body, fd.scope, fd.globals, fd.closure.map fun z => (z.1, 0), fd.builtins)
  | _ => none
structure DefX where
  cls : Str
  fl : Str
  st : Stmt
  fs : Bool
def DefX.val (d : DefX) : FnW := some ("__init__", d.cls ++ ".__init__", L2.defArgs d.st, .stmts (L2.defBody d.st), L2.defScope d.st, mainGlobals, [("__class__", 0)], builtinsNs)
def DefX.ad (K : Frag) (d : DefX) : Addr := ma K (ga K d.cls) "__init__"
/-- its text, as it was written -/
structure XW (d : DefX) : Prop where
  sc : EX.XSc (L2.defArgs d.st) (L2.defScope d.st) d.fl
  body : ∃ (me : Expr) (p0 p1 p2 p4 p5 q1 q2 q3 q4 : Pos), L2.defBody d.st = EX.xiB d.fl me p0 p1 p2 p4 p5 q1 q2 q3 q4 ∧ (p2.endLine == p4.line) = true ∧ EX.MsgOk d.fl me d.fs
theorem xt_of {K : Frag} {mg : Str → Option Value} {file : Str} {d : DefX} (W : XW d) (e : fnWX K (d.ad K) = d.val) (g : mg d.cls = some (.ref (ga K d.cls))) (su : mg "super" = none) (h : xtB K d.cls d.fl file = true) : XT0 K mg d.cls d.fl file d.fs ∧ L2.XfC K (ga K d.cls) ∧ findIn K (.ref (ga K d.cls)) d.fl = some none := by
  obtain ⟨h1, h⟩ := ba h
  obtain ⟨h2, h⟩ := ba h
  obtain ⟨h3, h⟩ := ba h
  obtain ⟨h4, h⟩ := ba h
  obtain ⟨h5, h⟩ := ba h
  obtain ⟨h6, h⟩ := ba h
  obtain ⟨h7, h⟩ := ba h
  obtain ⟨h8, h⟩ := ba h
  obtain ⟨h9, h⟩ := ba h
  obtain ⟨h10, h⟩ := ba h
  obtain ⟨h11, h⟩ := ba h
  obtain ⟨h12, h⟩ := ba h
  obtain ⟨h13, h14⟩ := ba h
  refine ⟨⟨?_, g, su, h10, of_decide_eq_true h11, of_decide_eq_true h12⟩, L2.xfB_ok h13, eqO_ok h3⟩
  unfold xfnB at h14
  unfold fnWX at e
  unfold DefX.ad at e
  split at h14
  · rename_i oc od fd osl lk
    rw [lk] at e
    obtain ⟨n1, n2, n3, n4, n5, n6, n7, n8, n9, n10, n11, n12, n13, n14, n15⟩ := fd
    have e2 : (some (n1, n2, n3, n4, n5, n6, n7.map (fun z => (z.1, (0 : Addr))), n15) : FnW) = (some (("__init__" : Str), d.cls ++ ".__init__", L2.defArgs d.st, FuncBody.stmts (L2.defBody d.st), L2.defScope d.st, mainGlobals, [(("__class__" : Str), (0 : Addr))], builtinsNs) : FnW) := e
    simp only [Option.some.injEq, Prod.mk.injEq] at e2
    obtain ⟨z1, z2, z3, z4, z5, z6, z7, z8⟩ := e2
    dsimp only at h14
    split at h14
    · rename_i nm cc cda
      obtain ⟨k1, k⟩ := ba h14
      obtain ⟨k2, k3⟩ := ba k
      subst z1 z2 z3 z4 z5 z6 z8
      have hnm : nm = "__class__" := by
        simp only [List.map_cons, List.map_nil, List.cons.injEq, Prod.mk.injEq] at z7
        exact z7.1.1
      subst hnm
      refine ⟨cc, cda, xclB_ok h1, eqO_ok h2, eqO_ok h3, eqO_ok h4, of_decide_eq_true h5, of_decide_eq_true h6, of_decide_eq_true h7, eqO_ok h8, eqO_ok h9, ?_, ?_, ?_⟩
      · split at k1
        · rename_i cl cld D csl lc
          rw [of_decide_eq_true k1] at lc
          exact ⟨_, _, _, lc⟩
        · cases k1
      · split at k2
        · rename_i ccl cdd vs ccs lc
          split at k2
          · rename_i fi tf hv
            rw [of_decide_eq_true k2] at hv
            exact ⟨_, _, _, _, _, lc, hv⟩
          · cases k2
        · cases k2
      · obtain ⟨me, p0, p1, p2, p4, p5, q1, q2, q3, q4, hb, hl, hm⟩ := W.body
        rw [hb] at lk
        exact ⟨oc, od, _, _, _, _, osl, _, _, _, me, p0, p1, p2, p4, p5, q1, q2, q3, q4, lk, k3, W.sc, hl, hm⟩
    · cases h14
  · cases h14
end EL
namespace EL
open PySem PySem.Spec PyProof.Rows L2 He TL
/-! ### the head with such errors -/
abbrev AlX : Type := AlM × List FnW
def obsX (fa : List Fa) (fn : List DefE) (xn : List DefX) (ex : PySem.W.Frag → Bool) (K : PySem.W.Frag) : AlX := (obsE fa fn ex K, xn.map fun d => fnWX K (d.ad K))
def obsXG (n : Nat) (fa : List Fa) (fn : List DefE) (xn : List DefX) (ex : PySem.W.Frag → Bool) (g : Addr → Option Obj) : AlX := obsX fa fn xn ex (frG g (He5.asA g n))
def valX (fn : List DefE) (xn : List DefX) : AlX := (valE fn, xn.map DefX.val)
def SaysX (fa : List Fa) (fn : List DefE) (xn : List DefX) (ex : PySem.W.Frag → Bool) (K : PySem.W.Frag) : Prop := obsX fa fn xn ex K = valX fn xn
def hookX (n : Nat) (fa : List Fa) (fn : List DefE) (xn : List DefX) (ex : PySem.W.Frag → Bool) : PySem.W.Hook where
  α := AlX
  obs := fun s => obsXG n fa fn xn ex s.heap.get?
  val := fun _ => valX fn xn
  says := fun _ h => ∃ K : PySem.W.Frag, K.In h ∧ SaysX fa fn xn ex K
  of := fun _ _ e => ⟨_, frG_in, e⟩
  keeps := fun _ _ _ ⟨K, hK, c⟩ k => ⟨K, PySem.W.Frag.In.keeps hK k, c⟩
theorem obsXG_eq {n : Nat} {fa : List Fa} {fn : List DefE} {xn : List DefX} {ex : PySem.W.Frag → Bool} {g : Addr → Option Obj} {s : Shared} (h : ∀ a, g a = s.heap.get? a) : obsXG n fa fn xn ex g = (hookX n fa fn xn ex).obs s := by
  have e : g = s.heap.get? := funext h
  rw [e] <;> rfl
section
variable {fa : List Fa} {fn : List DefE} {xn : List DefX} {ex : PySem.W.Frag → Bool} {K : PySem.W.Frag}
theorem SaysX.e (c : SaysX fa fn xn ex K) : SaysE fa fn ex K := congrArg (fun z : AlX => z.1) c
theorem SaysX.xd (c : SaysX fa fn xn ex K) (i : Nat) {d : DefX} (h : xn[i]? = some d := by rfl) : fnWX K (d.ad K) = d.val := by
  have e : xn.map (fun d => fnWX K (d.ad K)) = xn.map DefX.val := congrArg (fun z : AlX => z.2) c
  have e2 : (xn.map fun d => fnWX K (d.ad K))[i]? = (xn.map DefX.val)[i]? := by rw [e]
  rw [List.getElem?_map, List.getElem?_map, h] at e2
  exact Option.some.inj e2
end
end EL
namespace EL
open PySem PySem.Spec PyProof.Rows L2 He TL
/-! ### own dunders of instances with a dict -/
section
variable {X : Cx} {CX : CXT} {k : Nat} {C g : Addr} {sp : Sp} {E : XK}
theorem ins_at {pins : List (Addr × Obj)} {σ : L2.St} {H : Hp} {s : Shared} {a dx : Addr} {fs : List (Str × V)} (I : Inv X pins σ H s) (h : H a = some (.ins C dx fs)) : ∃ ox od, PySem.W.InstAt s.heap a ox C od ∧ ox.data = .plain := by
  obtain ⟨mA, O, _⟩ := ins_get I.hok h
  obtain ⟨od, J, _⟩ := O.look
  exact ⟨_, _, J, rfl⟩
/-- len(x) of an instance -/
def rLenO (C : Addr) (sp : Sp) (E : XK) : List V → Hp → VK → Prop := fun xs H Q => ∃ a dx fs, xs = [V.ref a] ∧ H a = some (.ins C dx fs) ∧ sp [.ref a] H (fun z H' => ∃ n : Int, z = .int n ∧ (0 ≤ n ∧ n < 2 ^ 63) ∧ Q z H') E
theorem call_lenO (hm : Meth X.K C "__len__" g) (F : FnR X.prog X.w X.K X.mg X.base CX k g sp) (hr : Room (k + 1) X.A) (hx : Passes CX X E) : CallR X (.builtin "len") (rLenO C sp E) := by
  intro pins s σ H xs us Q I r h
  obtain ⟨a, dx, fs, rfl, ha, q⟩ := h
  obtain ⟨u, rfl, ru⟩ := r.one
  cases (show u = Value.ref a from ru)
  obtain ⟨ox, od, J, _⟩ := ins_at I ha
  obtain ⟨m, hF⟩ := I.fr
  refine PySem.W.len_K hF I.ok.mod.kin J hm.at_ hm.fn (wpAny_mono (wpAny_call (SlX.run_at (us := [.ref a]) (ws := [.ref a]) F (Room.in1 hr) I.env0.in1 hx I (.cons rfl .nil) q)) (fun w s' z => ?_) fun _ _ x => x)
  obtain ⟨z', H', I', rz, n, en, hn, qz⟩ := z
  subst en
  obtain ⟨t, e⟩ := (show ∃ t, w = Value.int n t from rz)
  cases e
  exact ⟨hn, .int n, H', I'.tok _, ⟨_, rfl⟩, qz⟩
/-- x op y, x an instance of the class at C whose def for op is at g; y a thing whose type has no say first -/
def rCmpO (K : PySem.W.Frag) (C : Addr) (sp : Sp) (E : XK) : R2 := fun x y H Q => ∃ a dx fs t, x = .ref a ∧ H a = some (.ins C dx fs) ∧ TyX K H y t ∧ PySem.W.notFirst K C t = true ∧ sp [x, y] H Q E
theorem op_cmpO {op : CmpOp} (hop : ∀ a b, compareOp op a b = richCompare op a b) (hs : PySem.W.findIn X.K (.ref C) (cmpInfo op).2.1 = some (some (.ref g))) (hf : PySem.W.isFn X.K (.ref g) = true) (F : FnR X.prog X.w X.K X.mg X.base CX k g sp)
    (hr : Room k X.A) (hx : Passes CX X E) : OpR X (compareOp op) (rCmpO X.K C sp E) := by
  intro pins s σ H x y v u Q I rx ry h
  obtain ⟨a, dx, fs, t, rfl, ha, ty, hn, q⟩ := h
  cases (show v = Value.ref a from rx)
  obtain ⟨ox, od, J, _⟩ := ins_at I ha
  obtain ⟨P, Z, p, _⟩ := kit_of I ry ty
  obtain ⟨m, hF⟩ := I.fr
  rw [hop]
  refine PySem.W.cmp_K (op := op) (tb := t) hr.units0 hF I.ok.mod.kin J (Z.ty _ _ I.kIn p) hn hs hf ?_
  refine wpAny_mono (run_fnR (us := [.ref a, u]) (vs := [.ref a, y]) F hr hx I (.cons rfl (.cons ry .nil)) q |> wpAny_call) (fun w s' z => ?_) fun _ _ x => x
  obtain ⟨z', H', I', rz, qz⟩ := z
  exact SlX.cmpback rz ⟨z', H', I', rz, qz⟩
/-- y in x, x an instance with an own __contains__ that answers a bool -/
def rInO (C : Addr) (sp : Sp) (E : XK) (neg : Bool) : R2 := fun y x H Q => ∃ a dx fs, x = .ref a ∧ H a = some (.ins C dx fs) ∧ sp [x, y] H (fun z H' => ∃ b : Bool, z = .bl b ∧ Q (.bl (if neg then !b else b)) H') E
theorem op_inO (hm : Meth X.K C "__contains__" g) (F : FnR X.prog X.w X.K X.mg X.base CX k g sp) (hr : Room k X.A) (hx : Passes CX X E) : OpR X (compareOp .In) (rInO C sp E false) := by
  intro pins s σ H y x u v Q I ry rx h
  obtain ⟨a, dx, fs, rfl, ha, q⟩ := h
  cases (show v = Value.ref a from rx)
  obtain ⟨ox, od, J, _⟩ := ins_at I ha
  obtain ⟨m, hF⟩ := I.fr
  refine PySem.W.in_K hF I.ok.mod.kin J hm.at_ hm.fn (wpAny_mono (wpAny_call (run_fnR (us := [.ref a, u]) (vs := [.ref a, y]) F hr hx I (.cons rfl (.cons ry .nil)) q)) (fun w s' z => ?_) fun _ _ x => x)
  obtain ⟨z', H', I', rz, b, eb, qz⟩ := z
  subst eb
  cases (show w = Value.bool b from rz)
  exact wpAny_truthy_bool ⟨.bl b, H', I', rfl, qz⟩
theorem op_notInO (hm : Meth X.K C "__contains__" g) (F : FnR X.prog X.w X.K X.mg X.base CX k g sp) (hr : Room k X.A) (hx : Passes CX X E) : OpR X (compareOp .NotIn) (rInO C sp E true) := by
  intro pins s σ H y x u v Q I ry rx h
  obtain ⟨a, dx, fs, rfl, ha, q⟩ := h
  cases (show v = Value.ref a from rx)
  obtain ⟨ox, od, J, _⟩ := ins_at I ha
  obtain ⟨m, hF⟩ := I.fr
  refine PySem.W.notIn_K hF I.ok.mod.kin J hm.at_ hm.fn (wpAny_mono (wpAny_call (run_fnR (us := [.ref a, u]) (vs := [.ref a, y]) F hr hx I (.cons rfl (.cons ry .nil)) q)) (fun w s' z => ?_) fun _ _ x => x)
  obtain ⟨z', H', I', rz, b, eb, qz⟩ := z
  subst eb
  cases (show w = Value.bool b from rz)
  exact wpAny_truthy_bool ⟨.bl (!b), H', I', rfl, qz⟩
/-- ~x -/
theorem un_invO (hm : Meth X.K C "__invert__" g) (F : FnR X.prog X.w X.K X.mg X.base CX k g sp) (hr : Room k X.A) (hx : Passes CX X E) : UnR X (unaryOp .Invert) (fun x H Q => ∃ a dx fs, x = .ref a ∧ H a = some (.ins C dx fs) ∧ sp [x] H Q E) := by
  intro pins s σ H x v Q I rx h
  obtain ⟨a, dx, fs, rfl, ha, q⟩ := h
  cases (show v = Value.ref a from rx)
  obtain ⟨ox, od, J, _⟩ := ins_at I ha
  obtain ⟨m, hF⟩ := I.fr
  exact PySem.W.ksp_inv hF I.ok.mod.kin J hm.at_ hm.fn (wpAny_call (run_fnR (us := [.ref a]) (vs := [.ref a]) F hr hx I (.cons rfl .nil) q))
/-- x op y, two instances of the class at C -/
def rBinO (C : Addr) (sp : Sp) (E : XK) : R2 := fun x y H Q => ∃ a dx fs b dy gs, x = .ref a ∧ y = .ref b ∧ H a = some (.ins C dx fs) ∧ H b = some (.ins C dy gs) ∧ sp [x, y] H Q E
theorem op_binO {op : Operator} (hc : PySem.W.selfFirst X.K C = true) (hs : PySem.W.findIn X.K (.ref C) (PySem.dunder op.info.2) = some (some (.ref g))) (hf : PySem.W.isFn X.K (.ref g) = true) (F : FnR X.prog X.w X.K X.mg X.base CX k g sp)
    (hr : Room k X.A) (hx : Passes CX X E) : OpR X (binaryOp op) (rBinO C sp E) := by
  intro pins s σ H x y v u Q I rx ry h
  obtain ⟨a, dx, fs, b, dy, gs, rfl, rfl, ha, hb, q⟩ := h
  cases (show v = Value.ref a from rx)
  cases (show u = Value.ref b from ry)
  obtain ⟨ox, od, J, _⟩ := ins_at I ha
  obtain ⟨ox', od', J', _⟩ := ins_at I hb
  obtain ⟨m, hF⟩ := I.fr
  refine PySem.W.binop_K hF I.ok.mod.kin J J'.type hc hs hf ?_
  refine wpAny_mono (wpAny_call (run_fnR (us := [.ref a, .ref b]) (vs := [.ref a, .ref b]) F hr hx I (.cons rfl (.cons rfl .nil)) q)) (fun w s' z => ?_) fun _ _ x => x
  obtain ⟨z', H', I', rz, qz⟩ := z
  exact SlX.cmpback rz ⟨z', H', I', rz, qz⟩
end
end EL
namespace EL
open PySem PySem.Spec PyProof.Rows L2 He TL
/-! ### several except clauses, each with a name (slot i) or without -/
/-- a clause: its class, the slot of its name, its suite's reading -/
abbrev Cl1 : Type := Value × Option Nat × (Addr → Value → Option Addr → TS)
def wMix (K : PySem.W.Frag) (Wout : WX) (D : Ends) : List Cl1 → WX
  | [] => Wout
  | (c, none, ts) :: r => fun cls d σ H => ∃ b, PySem.W.exmOne K cls c = some b ∧ (b = true → ∀ a, H a = none → ts a cls d D σ H) ∧ (b = false → wMix K Wout D r cls d σ H)
  | (c, some i, ts) :: r => fun cls d σ H => ∃ b, PySem.W.exmOne K cls c = some b ∧
      (b = true → ∀ a, H a = none → ts a cls d { nx := fun σ' H' => D.nx (σ'.set i none) H', rt := D.rt, bk := fun σ' H' => D.bk (σ'.set i none) H', ct := fun σ' H' => D.ct (σ'.set i none) H' } (σ.set i (some (.ref a))) H) ∧
      (b = false → wMix K Wout D r cls d σ H)
inductive HdsMix (X : Cx) : List ExceptHandler → List Cl1 → Prop
  | nil : HdsMix X [] []
  | one {x : Str} {c : Value} {ts : Addr → Value → Option Addr → TS} {b₀ : Stmt} {suite : List Stmt} {np pos' : Pos} {hds : List ExceptHandler} {l : List Cl1} (hc : Names X x c)
      (hsu : ∀ (a : Addr) (oe : Obj) (cls : Value) (d : Option Addr) (pn : List (Addr × Obj)), Zc cls d oe → (∃ vs, oe.data = .fields vs) → PSs (X.suite a ((a, oe) :: pn)) (b₀ :: suite) (ts a cls d)) (r : HdsMix X hds l) :
      HdsMix X (.ExceptHandler (some (.Name x np)) none (b₀ :: suite) pos' :: hds) ((c, none, ts) :: l)
  | as_ {x n : Str} {i : Nat} {c : Value} {ts : Addr → Value → Option Addr → TS} {b₀ : Stmt} {suite : List Stmt} {np pos' : Pos} {hds : List ExceptHandler} {l : List Cl1} (hi : X.N[i]? = some n) (hln : X.env.kindOf n = some .local) (hc : Names X x c)
      (hsu : ∀ (a : Addr) (oe : Obj) (cls : Value) (d : Option Addr) (pn : List (Addr × Obj)), Zc cls d oe → (∃ vs, oe.data = .fields vs) → PSs (X.suite a ((a, oe) :: pn)) (b₀ :: suite) (ts a cls d)) (r : HdsMix X hds l) :
      HdsMix X (.ExceptHandler (some (.Name x np)) (some n) (b₀ :: suite) pos' :: hds) ((c, some i, ts) :: l)
section
variable {X : Cx} {body : List Stmt} {h₀ : ExceptHandler} {hds : List ExceptHandler} {l : List Cl1} {pos : Pos} {tb : WX → TS} {Wout : WX}
theorem ps_try_mix (hs : X.stack = X.env :: X.outer) (hf : X.env.frame = some X.env.locals) (hN : X.N.Nodup) (tk : Takes X Wout)
    (hb : ∀ (W : WX) (pn : List (Addr × Obj)) (xe : Value → Shared → Prop), Takes (X.tr pn xe) W → PassesOwn (model X.prog X.w) X.A X.env xe → PSs (X.tr pn xe) body (tb W))
    (hh : HdsMix X (h₀ :: hds) l) : PS X (.Try body (h₀ :: hds) [] [] pos) (fun D σ H => tb (wMix X.K Wout D l) D σ H) := by
  refine ⟨fun pins s σ H D I h => ?_⟩
  have ok := I.ok
  have hfr : X.A.frames = some (X.env :: X.outer) := by rw [ok.frames, hs]
  refine wpAny_Try_except ?_
  refine wpAny_mono ((hb (wMix X.K Wout D l) (X.pn ++ pins) (fun e s₁ => wpAny (model X.prog X.w) X.A (noteFrame e X.env) (fun _ s₂ => wpAny (model X.prog X.w) X.A (setFlight e none) (fun _ s₃ =>
    wpAny (model X.prog X.w) X.A (handleBy e X.env (h₀ :: hds)) (SP X pins D) X.xe s₃) X.xe s₂) X.xe s₁) (fun u s' xx => ?_) PassesOwn.looking).run [] s σ H D (I.toTry _) h) (fun f s1 hsp => ?_) (fun e s1 he => he)
  · -- the catch
    obtain ⟨a, B, sI, pins', σ', H', cls, d, rfl, J', nb, up, sky, na, os, ag, w⟩ := xx
    have J : Inv X pins σ' H' sI := J'.ofTry ok
    have sky' : Sky B (X.env :: X.outer) a (Zc cls d) X.env.locals s'.heap := by rw [← hs]; exact sky
    show wpAny (model X.prog X.w) X.A (noteFrame (.ref a) X.env) _ _ _
    refine Sky.land Zc.steady hfr hf sky' fun h3 fl3 up3 => ?_
    have J3 : Inv X pins σ' H' { s' with heap := h3 } := J.landed nb fl3.1 (up.trans up3) os ag
    obtain ⟨oe3, vs3, he3, hz3, hd3⟩ := fl3.there
    have notFr : ∀ {h : Heap} {o : Obj} {vs : Array Value}, h.FunFrames B (X.env :: X.outer) → h.get? a = some o → o.data = .fields vs → a ∉ frs (X.env :: X.outer) := fun {h o vs} ff e dd hm => by
      obtain ⟨_, o', e', hnf⟩ := ff.mem hm
      rw [e] at e'; cases e'
      exact hnf _ dd
    have nfr := notFr fl3.2.2.1 he3 hd3
    have nL : a ≠ X.env.locals := fun z => nfr (List.mem_filterMap.mpr ⟨X.env, List.mem_cons_self, by rw [hf, z]⟩)
    have nF : a ∉ X.fs := fun hm => by
      obtain ⟨e, he, q⟩ := List.mem_filterMap.mp hm
      exact nfr (List.mem_filterMap.mpr ⟨e, List.mem_cons_of_mem _ he, q⟩)
    have S3 := J3.suite he3 hd3 na nL nF
    have test : ∀ {x : Str} {c : Value} {np : Pos} {Q : Value → Shared → Prop} {E : Value → Shared → Prop}, Names X x c → Q c { s' with heap := h3 } → wpAny (model X.prog X.w) (X.A.mark (some (.ref a))) (eval (.Name x np) X.env) Q E { s' with heap := h3 } := fun {x c np Q E} hc q => by
      obtain ⟨hg, hdbg, hm | ⟨hm, hv, hnn⟩⟩ := hc
      · exact ld_glob (X := X.suite a ((a, oe3) :: (X.pn ++ pins))) S3 hg hm q hdbg
      · exact ld_blt (X := X.suite a ((a, oe3) :: (X.pn ++ pins))) S3 hg hm hv q hnn hdbg
    have LT : PySem.W.Looks (model X.prog X.w) h3 (typeOf (.ref a)) cls := fun A Q E s k q => wpAny_typeOf_ref (k _ _ he3) (by rw [hz3.1]; exact q)
    have go : ∀ {hds' : List ExceptHandler} {l' : List Cl1}, HdsMix X hds' l' → wMix X.K Wout D l' cls d σ' H' →
        wpAny (model X.prog X.w) X.A (handleBy (.ref a) X.env hds') (SP X pins D) X.xe { s' with heap := h3 } := by
      intro hds' l' hk
      induction hk with
      | nil =>
        intro w
        refine wpAny_handleBy_nil ?_
        obtain ⟨k1, k2, k3, oe, vs, T, oT, ts', he, hz, hd, h1, hr⟩ := id fl3
        unfold PySem.passOn
        refine wpAny_bind (wpAny_field he hd h1 ?_)
        rw [if_neg (show ¬ ((Value.ref T == Value.none) = true) from by simp)]
        have fin : wpAny (model X.prog X.w) X.A (setFlight (.ref a) X.env.frame) (fun _ s4 => wpAny (model X.prog X.w) X.A (throw (.ref a) : Sem Flow) (SP X pins D) X.xe s4) X.xe { s' with heap := h3 } := by
          rw [hf]
          refine HandSPX.setFlight_upZ fl3 fun h4 hh4 up4 => wpAny_throw (tk _ _ ?_)
          exact ⟨a, B, sI, pins, σ', H', cls, d, rfl, J, nb, (up.trans up3).trans up4, .inr (.inr (by rw [hs]; exact hh4)), na, os, ag, w⟩
        first
          | exact wpAny_bind (wpAny_pure (wpAny_bind fin))
          | exact wpAny_bind fin
      | @one x c ts b₀ suite np pos' hds2 l2 hc hsu r ih =>
        intro w
        obtain ⟨b, hb1, hyes, hno⟩ := w
        refine wpAny_handleBy_cons (codeAny_handlers_test ?_) (by intro q; cases q)
        have LM := PySem.W.exm_one (M := model X.prog X.w) (J3.kIn) LT hb1
        refine test hc (LM.here ?_)
        cases b with
        | true =>
          refine codeAny_handlers_suite ?_
          refine HandSPX.lands_againZ fl3 fun h4 fl4 up4 => ?_
          have J4 : Inv X pins σ' H' { s' with heap := h4 } := J.landed nb fl4.1 ((up.trans up3).trans up4) os ag
          obtain ⟨oe4, vs4, he4, hz4, hd4⟩ := fl4.there
          have S4 := J4.suite he4 hd4 na nL nF
          refine wpAny_mono ((hsu a oe4 cls d (X.pn ++ pins) hz4 ⟨_, hd4⟩).run [] _ _ H' _ S4 (hyes rfl a na)) (fun f s6 hsp => ?_) (fun _ _ z => False.elim z)
          cases f with
          | next =>
            obtain ⟨σ6, H6, S6, q6⟩ := hsp
            exact ⟨_, _, S6.unsuite ok, q6⟩
          | brk =>
            obtain ⟨σ6, H6, S6, q6⟩ := hsp
            exact ⟨_, _, S6.unsuite ok, q6⟩
          | cont =>
            obtain ⟨σ6, H6, S6, q6⟩ := hsp
            exact ⟨_, _, S6.unsuite ok, q6⟩
          | ret u =>
            obtain ⟨v6, σ6, H6, S6, r6, q6⟩ := hsp
            exact ⟨_, _, _, S6.unsuite ok, r6, q6⟩
        | false =>
          show wpAny _ X.A (handleBy (.ref a) X.env hds2) _ _ _
          exact ih (hno rfl)
      | @as_ x n i c ts b₀ suite np pos' hds2 l2 hi hln hc hsu r ih =>
        intro w
        obtain ⟨b, hb1, hyes, hno⟩ := w
        have hloc : Loc X.env.scope n := .inl hln
        refine wpAny_handleBy_cons (codeAny_handlers_test ?_) (by intro q; cases q)
        have LM := PySem.W.exm_one (M := model X.prog X.w) (J3.kIn) LT hb1
        refine test hc (LM.here ?_)
        cases b with
        | true =>
          refine codeAny_handlers_suite_as ?_
          refine HandSPX.lands_againZ fl3 fun h4 fl4 up4 => ?_
          have J4 : Inv X pins σ' H' { s' with heap := h4 } := J.landed nb fl4.1 ((up.trans up3).trans up4) os ag
          obtain ⟨oe4, vs4, he4, hz4, hd4⟩ := fl4.there
          have S4 := J4.suite he4 hd4 na nL nF
          refine store_ok (X := X.suite a ((a, oe4) :: (X.pn ++ pins))) (v := .ref a) S4 hN hi hloc rfl (fun s5 S5 => ?_) (.inr hln)
          refine wpAny_mono ((hsu a oe4 cls d (X.pn ++ pins) hz4 ⟨_, hd4⟩).run [] s5 _ H' _ S5 (hyes rfl a na)) (fun f s6 hsp => ?_) (fun _ _ z => False.elim z)
          have end_ : ∀ {σ6 : L2.St} {H6 : Hp} {Q : Shared → Prop}, Inv (X.suite a ((a, oe4) :: (X.pn ++ pins))) [] σ6 H6 s6 → (∀ s7, Inv X pins (σ6.set i none) H6 s7 → Q s7) →
              wpAny (model X.prog X.w) X.A (do bindName X.env n .none; unbindBehindTheSuite X.env n pos') (fun _ s7 => Q s7) X.xe s6 := fun {σ6 H6 Q} S6 hq => gone_ok (S6.unsuite ok) hN hi hln hq
          cases f with
          | next =>
            obtain ⟨σ6, H6, S6, q6⟩ := hsp
            exact end_ S6 fun s7 J7 => ⟨_, _, J7, q6⟩
          | brk =>
            obtain ⟨σ6, H6, S6, q6⟩ := hsp
            exact end_ S6 fun s7 J7 => ⟨_, _, J7, q6⟩
          | cont =>
            obtain ⟨σ6, H6, S6, q6⟩ := hsp
            exact end_ S6 fun s7 J7 => ⟨_, _, J7, q6⟩
          | ret u =>
            obtain ⟨v6, σ6, H6, S6, r6, q6⟩ := hsp
            exact end_ S6 fun s7 J7 => ⟨_, _, _, J7, r6, q6⟩
        | false =>
          show wpAny _ X.A (handleBy (.ref a) X.env hds2) _ _ _
          exact ih (hno rfl)
    exact go hh w
  · cases f with
    | next =>
      obtain ⟨σ', H', J', q⟩ := hsp
      exact wpAny_execs_nil ⟨σ', H', J'.ofTry ok, q⟩
    | brk =>
      obtain ⟨σ', H', J', q⟩ := hsp
      exact ⟨σ', H', J'.ofTry ok, q⟩
    | cont =>
      obtain ⟨σ', H', J', q⟩ := hsp
      exact ⟨σ', H', J'.ofTry ok, q⟩
    | ret u =>
      obtain ⟨v, σ', H', J', r, q⟩ := hsp
      exact ⟨v, σ', H', J'.ofTry ok, r, q⟩
end
end EL
namespace EL
open PySem PySem.Spec PyProof.Rows L2 He TL
/-! ### dict comprehensions whose keys are ints, texts or tuples of them -/
/-- the empty dict, either way -/
inductive NilD : HO → Prop where
  | k : NilD (.dK [])
  | t : NilD (.dT [])
theorem NilD.ok {P : Program} {w : World} {H : Hp} {o : HO} (n : NilD o) (h : Heap) (hb : sysModules < h.objs.size) : ObjOk P w H (h.push { cls := .type "dict", data := .dict #[] }) h.objs.size o := by
  cases n with
  | k => exact dk_empty h hb
  | t => exact dt_empty h hb
theorem put_by {X : Cx} {pins : List (Addr × Obj)} {σ : L2.St} {H H' : Hp} {s : Shared} {E : Value → Shared → Prop} {D : Addr} {y v : V} {u r : Value} {Q : Unit → Shared → Prop} (hu : X.A.units < cLine) (I : Inv X pins σ H s) (g : DPut H D y v H')
    (ry : RelV y u) (rv : RelV v r) (h : ∀ s', Inv X pins σ H' s' → Q () s') : wpAny (model X.prog X.w) X.A (dictSet D u r) Q E s := by
  rcases g with ⟨kvs, k, e, ey, l, eH⟩ | ⟨kvs, k, b, e, ey, eb, l, eH⟩
  · subst ey
    subst eH
    exact d_dictSet I e l ry rv h
  · subst ey
    subst eH
    obtain rfl : u = Value.ref b := ry
    obtain ⟨z, hd, xs, rel, dd⟩ := dt_of I.hok e
    refine wpAny_dictSet_heap (hsz := by rw [← Paired.length rel]; exact z) (show (tupleKind (mixKind X.prog X.w)).room X.A from hu) (key_of I.hok eb) dd fun h' dd' hs => h _ ?_
    obtain ⟨q, es, ep, hq, c2, c3, c4, _, c5⟩ := dd'
    have lz : (putK kvs k v).length ≤ sizeLine := by have := length_putK kvs k v; omega
    exact d_write I (by rw [e]; trivial) hs ⟨q, hq⟩ ⟨lz, hd, _, (rel.put k eb rv).keeps fun c ys ec => (upd_ne (ne_of ec e (fun z => nomatch z))).trans ec, q, es, ep, hq, c2, c3, c4, c5⟩
section
variable {X : Cx}
abbrev DcStep (g : TG) (tt : TT) (tk tv : TE) (vs : List Nat) (σ : L2.St) (D : Addr) (Nx : Hp → Prop) (x : V) (H : Hp) : Prop := g x (wipe σ vs) H fun σ2 H2 => wipe σ2 vs = wipe σ vs ∧ tt σ2 H2 fun b H3 =>
  if b = true then tk σ2 H3 fun y H4 => tv σ2 H4 fun z H5 => ∃ H6, DPut H5 D y z H6 ∧ Nx H6 else Nx H3
def tDcG (o0 : HO) (wi : TI) (g : TG) (tt : TT) (tk tv : TE) (vs : List Nat) : TE := fun σ H Q => wi σ H fun J H1 => ∀ D, H1 D = none → ∃ W : Nat → Nat → Hp → Prop, (∃ m, W 0 m (upd H1 D o0)) ∧ ∀ i m H, W i m H →
  (J.stop i H ∧ Q (.ref D) H) ∨ (J.go i H ∧ ∃ Nx : Hp → Prop, (∀ H', Nx H' → ∃ m', m' < m ∧ W (i + 1) m' H') ∧ ∀ x H', J.yld i H x H' → DcStep g tt tk tv vs σ D Nx x H')
theorem pe_dcG {o0 : HO} {kx vx tg iter : Expr} {ifs : List Expr} {scope : Scope} {own : List (Str × Nat)} {pos : Pos} {wi : TI} {g : TG} {tt : TT} {tk tv : TE} (n0 : NilD o0) (hu : X.A.units < cLine) (hc : X.calm = true) (hN : X.N.Nodup) (hi : PI X tg iter wi) (ok : BlkOk X.N X.env.scope scope own)
    (hg : ∀ (s : Shared) (H : Hp) (C : Addr) (cl : List (Str × Addr)) (fp : List Addr), PG (X.blk s H scope (compEnvC scope cl C X.env) fp) tg g) (ht : ∀ (s : Shared) (H : Hp) (C : Addr) (cl : List (Str × Addr)) (fp : List Addr), PTs (X.blk s H scope (compEnvC scope cl C X.env) fp) ifs tt)
    (hk : ∀ (s : Shared) (H : Hp) (C : Addr) (cl : List (Str × Addr)) (fp : List Addr), PE (X.blk s H scope (compEnvC scope cl C X.env) fp) kx tk)
    (hv : ∀ (s : Shared) (H : Hp) (C : Addr) (cl : List (Str × Addr)) (fp : List Addr), PE (X.blk s H scope (compEnvC scope cl C X.env) fp) vx tv) (hs : ∀ x, foldedSetIterable iter X.env x = pure x := by intro _; rfl) :
    PE X (.DictComp kx vx [⟨tg, iter, ifs, 0⟩] scope pos) (tDcG o0 wi g tt tk tv (own.map (·.2))) := by
  refine ⟨fun pins s σ H Q I h => ?_⟩
  rw [arm_eval_DictComp]
  have cl : ∀ y ∈ scope.names, y.2 = .free → ∃ c, X.env.cells.lookup y.1 = some c := fun y hy e => (ok.free y hy e).elim (fun k => I.ok.has _ (.inl k)) (fun k => I.ok.has _ (.inr k))
  refine wpAny_comprehension_free (use := none) rfl hs (closure_ok cl) ok.kind (fun y hy e => by rw [ok.uniq y hy, e]) (thn (hi.run pins s σ H _ I h) fun xv s1 hx => thn hx fun itv s2 h2 => ?_)
  obtain ⟨it, fp, tn, J, H2, e, I2, T, st2, f2, q⟩ := h2
  subst e
  refine wpAny_newObj_type (newEnv_comp ?_)
  generalize hD : s2.heap.objs.size = D
  obtain ⟨W, ⟨m0, w0⟩, turn⟩ := q D (I2.hok.fresh (Nat.le_of_eq hD))
  -- the new dict
  have h3 : ∃ s3 : Shared, ({ s2 with heap := s2.heap.push { cls := .type "dict", data := .dict #[] } } : Shared) = s3 := ⟨_, rfl⟩
  obtain ⟨s3, hs3⟩ := h3
  have hh3 : s3.heap = s2.heap.push { cls := .type "dict", data := .dict #[] } := by rw [← hs3]
  have h4 : ∃ H3, upd H2 D o0 = H3 := ⟨_, rfl⟩
  obtain ⟨H3, hH3⟩ := h4
  have I3 : Inv X pins σ H3 s3 := by
    rw [← hs3, ← hH3]
    refine I2.laid (t' := s2.toks) (fun b o e => Heap.get?_push_of_some _ e) (Nat.le_of_eq hD) ?_
    rw [← hD]
    exact n0.ok s2.heap I2.big
  rw [hH3] at w0
  have lt2 : ∀ b ∈ fp, b < s2.heap.objs.size := fun b hb => let ⟨o, e, _⟩ := T.obj _ _ st2 b hb; Heap.lt_size e
  have f3 : ∀ b ∈ fp, FpOk X pins H3 b ∧ b < s3.heap.objs.size := fun b hb => by
    refine ⟨⟨?_, (f2 b hb).2⟩, by rw [hh3, Heap.size_push]; exact Nat.lt_succ_of_lt (lt2 b hb)⟩
    rw [← hH3, upd_ne (by rw [← hD]; exact Nat.ne_of_lt (lt2 b hb))]
    exact (f2 b hb).1
  have I4 := block_start I3 ok hN f3
  rw [hs3]
  show codeAny _ _ (.compStart (.DictComp kx vx [⟨tg, iter, ifs, 0⟩] scope pos) 0 (.ref it) (.ref D) (compEnvC scope (cellsFrom (s3.heap.objs.size + 1) scope.names (cloFrom X.env.cells scope.names [])) s3.heap.objs.size X.env)) (compPost (model X.prog X.w) X.A X.xe none _ (.ref D) s3.heap.objs.size) { s3 with heap := pushCells (s3.heap.push { cls := .type "dict", data := .dict #[] }) scope.names }
  have pg := hg s3 H3 s3.heap.objs.size (cellsFrom (s3.heap.objs.size + 1) scope.names (cloFrom X.env.cells scope.names [])) fp
  have pt := ht s3 H3 s3.heap.objs.size (cellsFrom (s3.heap.objs.size + 1) scope.names (cloFrom X.env.cells scope.names [])) fp
  have pk := hk s3 H3 s3.heap.objs.size (cellsFrom (s3.heap.objs.size + 1) scope.names (cloFrom X.env.cells scope.names [])) fp
  have pv := hv s3 H3 s3.heap.objs.size (cellsFrom (s3.heap.objs.size + 1) scope.names (cloFrom X.env.cells scope.names [])) fp
  generalize hce : compEnvC scope (cellsFrom (s3.heap.objs.size + 1) scope.names (cloFrom X.env.cells scope.names [])) s3.heap.objs.size X.env = ce at I4 pg pt pk pv ⊢
  have cL : ce.locals = s3.heap.objs.size := by rw [← hce]; rfl
  have st4 : tn 0 (pushCells (s3.heap.push { cls := .type "dict", data := .dict #[] }) scope.names) := T.keep _ _ _ st2 fun b _ o e => pushCells_keeps _ _ _ _ (Heap.get?_push_of_some _ (by rw [hh3]; exact Heap.get?_push_of_some _ e))
  generalize hs4 : ({ s3 with heap := pushCells (s3.heap.push { cls := .type "dict", data := .dict #[] }) scope.names } : Shared) = s4 at I4 ⊢
  have st4' : tn 0 s4.heap := by rw [← hs4]; exact st4
  have stat : ∀ {σ' : L2.St} {H' : Hp} {s' : Shared}, Inv (X.blk s3 H3 scope ce fp) [] σ' H' s' → (∀ b ∈ fp, H' b = none) → ∀ b ∈ fp, FpOk (X.blk s3 H3 scope ce fp) [] H' b := fun I' hn b hb =>
    ⟨hn b hb, (I'.ok.exf b hb).1, I'.ok.exfs b hb, .inl hb, fun x c e => (I'.ok.exf b hb).2 x c e, fun p hp => by cases hp⟩
  have loop : codeAny (model X.prog X.w) X.A (.compLoop (.DictComp kx vx [⟨tg, iter, ifs, 0⟩] scope pos) 0 (.ref it) (.ref D) ce) (compPost (model X.prog X.w) X.A X.xe none (EP X pins σ Q) (.ref D) s3.heap.objs.size) s4 := by
    refine compLoop_anyD (fun n s' => ∃ i H', Inv (X.blk s3 H3 scope ce fp) [] (wipe σ (own.map (·.2))) H' s' ∧ tn i s'.heap ∧ (∀ b ∈ fp, H' b = none) ∧ W i n H') ?_ m0 ⟨0, H3, I4, st4', fun b hb => (f3 b hb).1.1, w0⟩
    rintro n s5 ⟨i, H5, I5, st5, n5, w5⟩
    rcases turn i n H5 w5 with ⟨stop, qq⟩ | ⟨go, Nx, hNx, step⟩
    · refine thnF (T.done (X.blk s3 H3 scope ce fp) rfl rfl rfl hc i [] s5 _ H5 (fun _ _ => False) I5 (stat I5 n5) st5 stop) fun r s6 ⟨hr, I6⟩ => ?_
      subst hr
      have I7 : Inv X pins σ H5 s6 := I3.call' (ch := fp) I6.os I6.base I6.hok I6.bare fun b hb => ⟨(f3 b hb).1.2.2.2.1, (f3 b hb).1.2.1, (f3 b hb).1.2.2.2.2.1, (f3 b hb).1.2.2.2.2.2⟩
      have nC : H5 s3.heap.objs.size = none := by rw [← cL]; exact I6.free
      obtain ⟨m, hn, _⟩ := I6.loc
      obtain ⟨a0, a1, a2, a3, a4, a5⟩ := I3.fpOk (Nat.le_refl _) nC
      refine ⟨m, by rw [← cL]; exact hn, fun h'' sb => ?_⟩
      exact ⟨.ref D, H5, I7.turned (t' := s6.toks) (fun b o hb e => (sb.2 b hb).trans e) a0 a1 a3 a4 a5, rfl, qq⟩
    · refine thnF (T.item (X.blk s3 H3 scope ce fp) rfl rfl rfl hc i [] s5 _ H5 (fun _ _ => False) I5 (stat I5 n5) st5 go) fun r s6 ⟨u, hr, h6⟩ => ?_
      subst hr
      refine thnF h6 fun _ s7 ⟨x, H7, I7, r7, y7, st7, n7⟩ => ?_
      refine thnF (pg.run _ s7 _ H7 x u _ (I7.pinned (stat I7 n7) (T.obj _ _ st7)) r7 (step x H7 y7)) fun _ s8 ⟨σ8, H8, I8, hw8, q8⟩ => ?_
      refine thnF (pt.run _ s8 σ8 H8 _ I8 q8) fun b s9 ⟨H9, I9, q9⟩ => ?_
      have fin : ∀ {s' : Shared} {H' : Hp}, Inv (X.blk s3 H3 scope ce fp) ([] ++ pinsAt fp s7.heap) σ8 H' s' → Nx H' → ∃ m, m < n ∧ ∃ i H', Inv (X.blk s3 H3 scope ce fp) [] (wipe σ (own.map (·.2))) H' s' ∧ tn i s'.heap ∧ (∀ b ∈ fp, H' b = none) ∧ W i m H' := fun {s' H'} I' nx => by
        obtain ⟨m', hm, w'⟩ := hNx H' nx
        have pin' : ∀ b ∈ fp, ∀ o, s7.heap.get? b = some o → s'.heap.get? b = some o ∧ H' b = none := fun b hb o e =>
          let z := I'.pin (b, o) (List.mem_append_right _ (List.mem_append_right _ (mem_pinsAt hb e)))
          ⟨z.1, z.2.1⟩
        refine ⟨m', hm, i + 1, H', (I'.unpinned (pins := [])).weak (by rw [← hw8, wipe_length]) (fun j v e => (wipe_some (by rw [hw8]; exact e)).1), T.keep _ _ _ st7 fun b hb o e => (pin' b hb o e).1, fun b hb => ?_, w'⟩
        obtain ⟨o, e, _⟩ := T.obj _ _ st7 b hb
        exact (pin' b hb o e).2
      cases b with
      | false => exact fin I9 q9
      | true =>
        refine thnF (pk.run _ s9 σ8 H9 _ I9 q9) fun z s10 ⟨yk, H10, I10, r10, q10⟩ => ?_
        refine thnF (pv.run _ s10 σ8 H10 _ I10 q10) fun z2 s11 ⟨yv, H11, I11, r11, H12, dp, nx⟩ => ?_
        exact put_by (X := X.blk s3 H3 scope ce fp) hu I11 dp r10 r11 fun s12 I12 => fin I12 nx
  exact codeAny_compStart_dict loop (T.self X.A 0 _ _ _ st4' loop)
/-- the turns of such a comprehension -/
theorem dcG_it {J : It} {n : Nat} {G : Hp → Prop} {Y : Nat → Hp → V → Hp → Prop} (w : L2.Walk J n G Y) {o0 : HO} {g : TG} {tt : TT} {tk tv : TE} {vs : List Nat} {σ : L2.St} {H1 : Hp} {D : Addr} {Qd : Hp → Prop} (Pv : Nat → Hp → Prop) (h0 : Pv 0 (upd H1 D o0)) (hG : ∀ i H, i ≤ n → Pv i H → G H)
    (hs : ∀ i x H H', i < n → Pv i H → Y i H x H' → DcStep g tt tk tv vs σ D (Pv (i + 1)) x H') (hd : ∀ H, Pv n H → Qd H) :
    ∃ W : Nat → Nat → Hp → Prop, (∃ m, W 0 m (upd H1 D o0)) ∧ ∀ i m H, W i m H → (J.stop i H ∧ Qd H) ∨ (J.go i H ∧ ∃ Nx : Hp → Prop, (∀ H', Nx H' → ∃ m', m' < m ∧ W (i + 1) m' H') ∧ ∀ x H', J.yld i H x H' → DcStep g tt tk tv vs σ D Nx x H') := by
  refine ⟨fun i m H => m + i = n ∧ Pv i H, ⟨n, rfl, h0⟩, fun i m H ⟨hm, p⟩ => ?_⟩
  have q := hG i H (by omega) p
  cases m with
  | zero =>
    have e : i = n := by omega
    subst e
    exact .inl ⟨w.stops H q, hd H p⟩
  | succ m => exact .inr ⟨w.goes i H (by omega) q, Pv (i + 1), fun H' p' => ⟨m, Nat.lt_succ_self m, by omega, p'⟩, fun x H' y => hs i x H H' (by omega) p (w.yields i H x H' (by omega) q y)⟩
end
end EL
namespace EL
open PySem PySem.Spec PyProof.Rows L2 He TL
/-! ### what may change: the objects in S; tuples never -/
def Rig : HO → Bool
  | .tup _ => true
  | .frz _ _ => true
  | _ => false
structure Md (S : List Addr) (H H' : Hp) : Prop where
  out : ∀ b o, H b = some o → b ∉ S → H' b = some o
  rig : ∀ b o, H b = some o → Rig o = true → H' b = some o
section
variable {S S' : List Addr} {H H1 H2 : Hp} {K : PySem.W.Frag} {a p : Addr} {o o' : HO}
theorem Md.refl (S : List Addr) (H : Hp) : Md S H H := ⟨fun _ _ h _ => h, fun _ _ h _ => h⟩
theorem Md.of (s : Same H H1) : Md S H H1 := ⟨fun b o h _ => s b o h, fun b o h _ => s b o h⟩
theorem Md.trans (x : Md S H H1) (y : Md S H1 H2) : Md S H H2 := ⟨fun b o h n => y.out b o (x.out b o h n) n, fun b o h r => y.rig b o (x.rig b o h r) r⟩
theorem Md.mono (x : Md S H H1) (h : ∀ b ∈ S, b ∈ S') : Md S' H H1 := ⟨fun b o e n => x.out b o e fun z => n (h b z), x.rig⟩
theorem Md.upd (e : H a = some o) (r : Rig o = false) (m : a ∈ S) : Md S H (upd H a o') :=
  ⟨fun b u h n => (upd_ne (fun z : b = a => n (by rw [z]; exact m))).trans h, fun b u h ru => (upd_ne (fun z : b = a => by rw [z, e] at h; cases h; rw [r] at ru; cases ru)).trans h⟩
/-- what is new is not seen from before -/
theorem Md.new (x : Md (p :: S) H1 H2) (s : Same H H1) (n : H p = none) : Md S H H2 :=
  ⟨fun b u h m => x.out b u (s b u h) (fun z => (List.mem_cons.mp z).elim (fun z => ne_of_none h n z) m), fun b u h r => x.rig b u (s b u h) r⟩
theorem Md.newM (x : Md (p :: S) H1 H2) (s : Md S H H1) (n : H p = none) : Md S H H2 :=
  ⟨fun b u h m => x.out b u (s.out b u h m) (fun z => (List.mem_cons.mp z).elim (fun z => ne_of_none h n z) m), fun b u h r => x.rig b u (s.rig b u h r) r⟩
theorem Md.same (x : Md [] H H1) : Same H H1 := fun b o h => x.out b o h (by simp)
theorem But.md (b : But p H H1) (e : H p = some o) (r : Rig o = false) : Md [p] H H1 :=
  ⟨fun c u h n => b c u h (fun z => n (by rw [z]; simp)), fun c u h ru => b c u h (fun z => by rw [z, e] at h; cases h; rw [r] at ru; cases ru)⟩
theorem Md.but (x : Md [p] H H1) : But p H H1 := fun b o h n => x.out b o h (by simp [n])
theorem Md.sqT (x : Md S H H1) {xs : List V} (h : SqT K H a xs) : SqT K H1 a xs := by
  rcases h with (h | ⟨o, h⟩) | h
  · exact .inl (.inl (x.rig _ _ h rfl))
  · exact .inl (.inr ⟨o, x.rig _ _ h rfl⟩)
  · exact .inr h
end
mutual
def noL : PyData → Bool
  | .list _ => false
  | .dict _ => false
  | .tuple xs => noLs xs
  | .none => true
  | .bool _ => true
  | .int _ => true
  | .str _ => true
def noLs : List PyData → Bool
  | [] => true
  | x :: r => noL x && noLs r
end
mutual
theorem Md.dp {S : List Addr} {K : PySem.W.Frag} {H H' : Hp} (s : Md S H H') : ∀ {d : PyData} {v : V}, noL d = true → Dp K H v d → Dp K H' v d
  | _, _, _, .non => .non
  | _, _, _, .bl b => .bl b
  | _, _, _, .int i => .int i
  | _, _, _, .str x => .str x
  | _, _, n, .lst h a => by cases n
  | _, _, n, .tup h a => .tup (s.sqT h) (Md.dpAll s n a)
theorem Md.dpAll {S : List Addr} {K : PySem.W.Frag} {H H' : Hp} (s : Md S H H') : ∀ {ds : List PyData} {vs : List V}, noLs ds = true → DpAll K H vs ds → DpAll K H' vs ds
  | _, _, _, .nil => .nil
  | _, _, n, .cons a b => .cons (Md.dp s (Bool.and_eq_true_iff.mp n).1 a) (Md.dpAll s (Bool.and_eq_true_iff.mp n).2 b)
end
/-- data without lists, laid and not deep -/
structure Pd (d : PyData) : Prop where
  nl : noL d = true
  cl : d.canLay0 = true
  dp : d.depth ≤ 16
theorem Pd.shaped {d : PyData} (h : Pd d) : SeqAt.shaped d = true := Bool.and_eq_true_iff.mpr ⟨h.cl, decide_eq_true (Nat.le_trans h.dp (by decide))⟩
def Pds (ds : List PyData) : Prop := ∀ d ∈ ds, Pd d
theorem Pds.nl : ∀ {ds : List PyData}, Pds ds → noLs ds = true
  | [], _ => rfl
  | d :: r, h => Bool.and_eq_true_iff.mpr ⟨(h d (by simp)).nl, Pds.nl fun x hx => h x (by simp [hx])⟩
theorem Pds.cl : ∀ {ds : List PyData}, Pds ds → PyData.canLayAll0 ds = true
  | [], _ => rfl
  | d :: r, h => Bool.and_eq_true_iff.mpr ⟨(h d (by simp)).cl, Pds.cl fun x hx => h x (by simp [hx])⟩
theorem Pds.dp : ∀ {ds : List PyData}, Pds ds → PyData.depthAll ds ≤ 16
  | [], _ => Nat.zero_le _
  | d :: r, h => Nat.max_le.mpr ⟨(h d (by simp)).dp, Pds.dp fun x hx => h x (by simp [hx])⟩
theorem Pds.shaped {ds : List PyData} (h : Pds ds) : SeqAt.shaped (.list ds) = true := Bool.and_eq_true_iff.mpr ⟨h.cl, decide_eq_true (by show PyData.depthAll ds + 1 ≤ 64; have := h.dp; omega)⟩
theorem Pds.snoc {ds : List PyData} {d : PyData} (h : Pds ds) (k : Pd d) : Pds (ds ++ [d]) := fun x hx => (List.mem_append.mp hx).elim (h x) fun z => by cases List.mem_singleton.mp z; exact k
theorem Pds.refl {ds : List PyData} (h : Pds ds) : PyData.eqv (.list ds) (.list ds) = true := SeqAt.eqv_refl _ h.cl
theorem DpAll.snoc {K : PySem.W.Frag} {H : Hp} {v : V} {d : PyData} (k : Dp K H v d) : ∀ {ds : List PyData} {vs : List V}, DpAll K H vs ds → DpAll K H (vs ++ [v]) (ds ++ [d])
  | _, _, .nil => .cons k .nil
  | _, _, .cons a b => .cons a (DpAll.snoc k b)
theorem DpAll.get {K : PySem.W.Frag} {H : Hp} : ∀ {ds : List PyData} {vs : List V} {i : Nat} {v : V}, DpAll K H vs ds → vs[i]? = some v → ∃ d, ds[i]? = some d ∧ Dp K H v d
  | _, _, 0, _, .cons a b, e => by cases e; exact ⟨_, rfl, a⟩
  | _, _, i + 1, _, .cons a b, e => DpAll.get (i := i) b e
/-! ### a caught error that has a dict: isinstance, where the answer is yes -/
theorem kit_yes {K : PySem.W.Frag} {x t c : Value} {Hq : Heap → Prop} (ty : ∀ (M : Model) (h : Heap), K.In h → Hq h → PySem.W.Looks M h (typeOf x) t) (e : PySem.W.kitOne K t c = some true) : Answers (fun s => K.In s.heap ∧ Hq s.heap) x c true := by
  intro dep tk prog w A R s hs
  obtain ⟨⟨X, p⟩, hq⟩ := hs
  obtain ⟨h0, g, d, tt, os⟩ := s
  have LT := ty (model prog w) h0 X p
  unfold PySem.W.kitOne at e
  unfold Builtin.«isinstance.nested»
  refine wpAny_bind (LT.at ?_)
  by_cases q : (t == c) = true
  · rw [if_pos q]
    first
      | exact wpAny_bind (wpAny_rule (hq tt))
      | exact wpAny_bind (wpAny_rule (wpAny_pure (hq tt)))
      | exact wpAny_pure (hq tt)
      | exact wpAny_bind (wpAny_pure (hq tt))
  · rw [if_neg q] at e
    rw [if_neg q]
    obtain ⟨k1, k2, k3⟩ := PySem.W.kit_cls (M := model prog w) X e
    refine wpAny_bind (k1.at ?_)
    rw [if_pos (by decide)]
    k_delta "plainIsInstance"
    refine wpAny_bind (wpAny_bind (k2.at ?_))
    simp only [Bool.not_true, Bool.false_eq_true, if_false]
    refine wpAny_bind ((LT.andThen k3).at ?_)
    first
      | exact wpAny_pure (wpAny_pure (hq tt))
      | (simp only [if_true]; first | exact wpAny_pure (wpAny_pure (hq tt)) | exact wpAny_pure (hq tt) | exact wpAny_bind (wpAny_pure (wpAny_pure (hq tt))))
def rIsY (K : PySem.W.Frag) (cls : Value) (a : Addr) : List V → Hp → VK → Prop := fun xs H Q => ∃ (c : V) (cv : Value), xs = [.ref a, c] ∧ (∀ u, RelV c u → u = cv) ∧ PySem.W.kitOne K cls cv = some true ∧ Q (.bl true) H
theorem call_isY {X : Cx} {a : Addr} {oe : Obj} {pn : List (Addr × Obj)} {cls : Value} {d : Option Addr} (hz : Zc cls d oe) : CallR (X.suite a ((a, oe) :: pn)) (.builtin "isinstance") (rIsY X.K cls a) := by
  intro pins s σ H xs us Q I r h
  obtain ⟨c, cv, rfl, hcv, e, q⟩ := h
  cases r with
  | cons rx rr =>
    cases rr with
    | cons rt rr =>
      cases rr
      cases rx
      cases hcv _ rt
      obtain ⟨hget, _⟩ := I.pin (a, oe) (List.mem_append.mpr (.inl List.mem_cons_self))
      refine call_isinstance (S := fun _ R s => (X.K.In s.heap ∧ s.heap.get? a = some oe) ∧ ∀ tk, R (.ok (.ret (.bool true))) { s with toks := tk })
        (fun prog w A R s hs => isinstance_outer (kit_yes (Hq := fun h => h.get? a = some oe) (t := cls) (fun M h _ e0 A Q E s k q => wpAny_typeOf_ref (k _ _ e0) (by rw [hz.1]; exact q)) e 0 _ prog w A R s hs) (fun z => nomatch z)) ⟨⟨I.kIn, hget⟩, fun tk => ?_⟩
      exact ⟨.bl true, H, I.kept (t' := tk) fun _ _ z => z, rfl, q⟩
/-! ### defs with defaults at any address -/
theorem fnD {P : Program} {w : World} {K : PySem.W.Frag} {mg : Str → Option Value} {base : Heap} {CX : CXT} {k : Nat} {x qual : Str} {sp : Sp} {params : Arguments} {body : List Stmt} {scope : Scope} {f : Addr} {fd : FuncData} {ps : List Str} {dvs : List V}
    (F : FunD K x qual params body scope dvs [] f fd) (ok : FnOk P w K mg base CX k f fd ps sp) (n j : Nat) (hd : dvs ≠ []) (hn : n + (dvs.length - j) = ps.length)
    (h : ∀ (T : Addr) (kV doc pm : Value) (an : Option Addr) (cdv ct : Value) (us its : List Value), us.length = n → its.length = dvs.length →
      ∃ k, bindArgs (PySem.W.fnOf x qual params body scope (.ref T) kV doc pm an cdv ct) ⟨us, []⟩ = seqItems? (.ref T) >>= k ∧ k (some its.toArray) = pure (ps.zip (us ++ its.drop j))) :
    FnR P w K mg base CX k f (fun vs H Q E => sp (vs ++ dvs.drop j) H Q E) := by
  obtain ⟨ds, h1, h2⟩ := F.binds1 n j hd hn h
  exact ok.raw h2 h1
/-- C() by an __init__ whose parameters all have defaults -/
theorem pe_makeE0 {X : Cx} {CX : CXT} {k : Nat} {C f : Addr} {x : Str} {sp : Sp} {E : L2.St → XK} {p pos : Pos} (M : Mk X.K C f) (F : FnR X.prog X.w X.K X.mg X.base CX k f sp) (hr : Room (k + 1) X.A) (hm : X.mg x = some (.ref C)) (hx : ∀ σ, PassesAt CX X σ (E σ)) (hg : Gl X x := by rfl) (hdb : (x == ("__debug__" : Str)) = false := by decide) :
    PE X (.Call (.Name x p) [] [] pos) (tMakeE C sp E tNil) := by
  refine ⟨fun pins s σ H Q I h => ?_⟩
  refine wpAny_Call_Name_kw (ld_glob I hg hm ?_ hdb)
  exact PySem.W.callWith_K0 (first := []) I.kIn M.kp (run_makeE (us := []) (vs := []) M F hr (hx σ) I .nil h)
def tupAB (K : PySem.W.Frag) (a : Addr) : Bool := match K.lookup a with
  | some ⟨.type c, _, .seq its _, _⟩ => decide (c = "tuple") && decide (its = #[])
  | _ => false
theorem tupAB_ok {K : PySem.W.Frag} {a : Addr} (h : tupAB K a = true) (H : Hp) : SqT K H a [] := by
  unfold tupAB at h
  split at h
  · rename_i c od its n osl q
    obtain ⟨h1, h2⟩ := ba h
    have e2 := of_decide_eq_true h2
    subst e2
    exact .inr ⟨_, #[], n, q, congrArg Value.type (of_decide_eq_true h1), rfl, by decide, .nil⟩
  · cases h
theorem tYes_of {σ : L2.St} {H : Hp} {F G : Hp → Prop} (h : F H) : tYes σ H fun b H3 => if b = true then F H3 else G H3 := by
  show if true = true then F H else G H
  rw [if_pos rfl]
  exact h
/-- try .. except X: with a name for its reading (a loop's body) -/
def tTryO (K : PySem.W.Frag) (c : Value) (ts : Addr → Value → Option Addr → TS) (Wout : WX) (tb : WX → TS) : TS := fun D σ H => tb (wOnly K c ts Wout D) D σ H
theorem ps_tryO {X : Cx} {x : Str} {c : Value} {body suite : List Stmt} {b₀ : Stmt} {np pos pos' : Pos} {tb : WX → TS} {ts : Addr → Value → Option Addr → TS} {Wout : WX} (hs : X.stack = X.env :: X.outer) (hf : X.env.frame = some X.env.locals) (hc : Names X x c) (tk : Takes X Wout)
    (hb : ∀ (W : WX) (pn : List (Addr × Obj)) (xe : Value → Shared → Prop), Takes (X.tr pn xe) W → PassesOwn (model X.prog X.w) X.A X.env xe → PSs (X.tr pn xe) body (tb W))
    (hsu : ∀ (a : Addr) (oe : Obj) (cls : Value) (d : Option Addr) (pn : List (Addr × Obj)), Zc cls d oe → (∃ vs, oe.data = .fields vs) → PSs (X.suite a ((a, oe) :: pn)) (b₀ :: suite) (ts a cls d)) :
    PS X (.Try body [.ExceptHandler (some (.Name x np)) none (b₀ :: suite) pos'] [] [] pos) (tTryO X.K c ts Wout tb) := ps_try_only hs hf hc tk hb hsu
end EL
namespace EL
open PySem PySem.Spec PyProof.Rows L2 He TL
/-! ### an exception that leaves a comprehension -/
theorem note_same {ce env : Env} (h : ce.frame = env.frame) (x : Value) : noteFrame x ce = noteFrame x env := by
  unfold noteFrame PySem.frameOf
  rw [h]
theorem comp_leave {X : Cx} {W : WX} (tk : Takes X W) (hs : X.stack = X.env :: X.outer) (hf : X.env.frame = some X.env.locals) {pins : List (Addr × Obj)} {σ : L2.St} {H : Hp} {s s' : Shared} (I : Inv X pins σ H s) {C : Addr} {m : Str → Option Value} (hn : s.heap.Ns C m) (hC : FpOk X pins H C)
    {E : XK} (hW : ∀ cls d H', E cls d H' → W cls d σ H') {e : Value} (c : L2.CX X.prog X.w X.stack H s E e s') {ce : Env} (hce : ce.frame = X.env.frame) {what : String} {E₁ : Value → Shared → Prop} :
    wpAny (model X.prog X.w) X.A (noteFrame e ce) (fun _ s1 => ∃ m, s1.heap.Ns C m ∧ ∀ h', Heap.SameBut C s1.heap h' → wpAny (model X.prog X.w) X.A (passOn what e ce : Sem Value) (fun _ _ => False) X.xe { s1 with heap := h' }) E₁ s' := by
  obtain ⟨a, B, H', cls, d, rfl, fl, hok, ub, na, os, ag, hE⟩ := c
  obtain ⟨oC, es, ep, gC, dC, rC⟩ := hn
  obtain ⟨f0, f1, f2, f3, f4, f5⟩ := hC
  have nfC : C ∉ frs X.stack := by
    rw [hs]
    intro z
    obtain ⟨env, he, q⟩ := List.mem_filterMap.mp z
    rcases List.mem_cons.mp he with rfl | he
    · rw [hf] at q
      exact f1 (Option.some.inj q).symm
    · exact f2 (List.mem_filterMap.mpr ⟨env, he, q⟩)
  have bC : B.get? C = some oC := ub.keep C oC gC f0 nfC
  obtain ⟨oe, vs, T, oT, ts, he, hz, hd, h1, hnT, hTe, hT, hdT, h3⟩ := fl.2.2.2
  have sC : s'.heap.get? C = some oC := fl.1 _ _ bC
  have aC : a ≠ C := fun z => by rw [z, sC] at he; cases he; rw [dC] at hd; cases hd
  have TC : T ≠ C := fun z => by rw [z, sC] at hT; cases hT; rw [dC] at hdT; cases hdT
  -- the three heaps without C
  obtain ⟨Gs, gs1, gs2⟩ := restrict s.heap fun b => decide (b ≠ C)
  obtain ⟨B', b1, b2⟩ := restrict B fun b => decide (b ≠ C)
  obtain ⟨Q', q1, q2⟩ := restrict s'.heap fun b => decide (b ≠ C)
  have gsS : ∀ b o, Gs.get? b = some o → b ≠ C ∧ s.heap.get? b = some o := fun b o h => by
    by_cases z : b = C
    · rw [gs2 b (by simp [z])] at h; cases h
    · exact ⟨z, (gs1 b (decide_eq_true z)).symm.trans h⟩
  have bS : ∀ b o, B'.get? b = some o → b ≠ C ∧ B.get? b = some o := fun b o h => by
    by_cases z : b = C
    · rw [b2 b (by simp [z])] at h; cases h
    · exact ⟨z, (b1 b (decide_eq_true z)).symm.trans h⟩
  have qS : ∀ b o, Q'.get? b = some o → b ≠ C ∧ s'.heap.get? b = some o := fun b o h => by
    by_cases z : b = C
    · rw [q2 b (by simp [z])] at h; cases h
    · exact ⟨z, (q1 b (decide_eq_true z)).symm.trans h⟩
  have IP : Inv X pins σ H { s with heap := Gs } := I.turned (t' := s.toks) (fun b o hb e => (gs1 b (decide_eq_true hb)).trans e) f0 f1 f3 f4 f5
  have hC' : H' C = none := ub.free C oC gC f0
  have stB : B'.StaysIn Q' := fun b o h => (q1 b (decide_eq_true (bS b o h).1)).trans (fl.1 b o (bS b o h).2)
  have ff : Q'.FunFrames B' X.stack := by
    have go : ∀ l : List Env, C ∉ frs l → s'.heap.FunFrames B l → Q'.FunFrames B' l := by
      intro l
      induction l with
      | nil => intro _ _; trivial
      | cons env r ih =>
        rintro hc ⟨k1, ⟨L, o, k2, k3, k4, k5⟩, k6⟩
        have LC : L ≠ C := fun z => hc (List.mem_filterMap.mpr ⟨env, List.mem_cons_self, by rw [k2, z]⟩)
        refine ⟨k1, ⟨L, o, k2, (b1 L (decide_eq_true LC)).trans k3, (q1 L (decide_eq_true LC)).trans k4, k5⟩, ih (fun z => hc ?_) k6⟩
        obtain ⟨env', h1, h2⟩ := List.mem_filterMap.mp z
        exact List.mem_filterMap.mpr ⟨env', List.mem_cons_of_mem _ h1, h2⟩
    exact go _ nfC fl.2.2.1
  have aB' : ∀ {b : Addr}, B.get? b = none → B'.get? b = none := fun {b} h => by
    cases q : B'.get? b with
    | none => rfl
    | some o => rw [(bS b o q).2] at h; cases h
  have fl' : HandSPX.FlyingZ B' X.stack a (Zc cls d) Q' := ⟨stB, aB' fl.2.1, ff, oe, vs, T, oT, ts, (q1 a (decide_eq_true aC)).trans he, hz, hd, h1, aB' hnT, hTe, (q1 T (decide_eq_true TC)).trans hT, hdT, h3⟩
  have hok' : HOk X.prog X.w H' B' := fun b o h => (hok b o h).stay (fun c u hc q => by
    have hcC : c ≠ C := fun z => by
      rcases hc with hc | hc
      · rw [hc] at z; rw [z, hC'] at h; cases h
      · rw [z, hC'] at hc; cases hc
    exact (b1 c (decide_eq_true hcC)).trans q) (fun _ q => q) (fun _ _ q => q)
  have ub' : UB (frs X.stack) H H' Gs B' Q' :=
    ⟨fun b o h1 h2 h3 => (b1 b (decide_eq_true (gsS b o h1).1)).trans (ub.keep b o (gsS b o h1).2 h2 h3), fun b o h1 h2 => by
      obtain ⟨sl, e⟩ := ub.slot b o (gsS b o h1).2 h2
      exact ⟨sl, (q1 b (decide_eq_true (gsS b o h1).1)).trans e⟩, fun b o h1 h2 => ub.free b o (gsS b o h1).2 h2, fun b o h1 h2 => by
      obtain ⟨o', e⟩ := ub.there b o (gsS b o h1).2 h2
      exact ⟨o', (b1 b (decide_eq_true (gsS b o h1).1)).trans e⟩, ub.tups, ub.frzs, ub.tbls⟩
  have xx : XE X W (.ref a) { s' with heap := Q' } := XE.of_call IP hW ⟨a, B', H', cls, d, rfl, fl', hok', ub', na, os, ag, hE⟩
  obtain ⟨a2, B0, sI, pins2, σ2, H2, cls2, d2, ea, I2, nb, up, sky, na2, os2, ag2, w2⟩ := xx
  obtain rfl : a = a2 := by injection ea
  have qa : Q'.get? a = some oe := (q1 a (decide_eq_true aC)).trans he
  have fl0 : HandSPX.FlyingZ B0 X.stack a (Zc cls2 d2) s'.heap := by
    rcases sky with ⟨_, _, _, oe', vs', he', _, hd', h1'⟩ | ⟨k1, k2, k3, oe', vs', T', oT', ts', he', hz', hd', h1', hnT', hTe', hT', hdT', h3'⟩ | ⟨_, _, _, oe', vs', T', oT', ts', he', _, hd', h1', _, _, hT', hdT', h3'⟩
    · have e1 : oe = oe' := Option.some.inj (qa.symm.trans he')
      subst e1
      rw [hd] at hd'
      cases hd'
      rw [h1] at h1'
      cases h1'
    · refine ⟨fun b o h => (qS b o (k1 b o h)).2, k2, k3.of_keeps (fun b o h _ => ⟨o, (qS b o h).2, rfl⟩), oe', vs', T', oT', ts', (qS _ _ he').2, hz', hd', h1', hnT', hTe', (qS _ _ hT').2, hdT', h3'⟩
    · have e1 : oe = oe' := Option.some.inj (qa.symm.trans he')
      subst e1
      rw [hd] at hd'
      cases hd'
      rw [h1] at h1'
      cases h1'
      have e2 : oT = oT' := Option.some.inj (((q1 T (decide_eq_true TC)).trans hT).symm.trans hT')
      subst e2
      rw [hdT] at hdT'
      cases hdT'
      rw [h3] at h3'
      cases h3'
  have B0C : B0.get? C = none := by
    cases q : B0.get? C with
    | none => rfl
    | some o =>
      have : B0.StaysIn Q' := by
        rcases sky with ⟨k, _⟩ | ⟨k, _⟩ | ⟨k, _⟩ <;> exact k
      exact absurd rfl (qS C o (this C o q)).1
  rw [note_same hce]
  have hfr : X.A.frames = some (X.env :: X.outer) := by rw [I.ok.frames, hs]
  rw [hs] at fl0
  refine HandSPX.looks_onZ Zc.steady hfr hf fl0 fun h1' held up1 => ?_
  obtain ⟨sl, eC⟩ := up1 C oC sC (fun vs z => by rw [dC] at z; cases z)
  refine ⟨m, ⟨_, es, ep, eC, dC, rC⟩, fun h2 sb => ?_⟩
  -- held, whatever became of C
  obtain ⟨j1, j2, j3, oe4, vs4, T4, oT4, ts4, he4, hz4, hd4, h14, hnT4, hTe4, hT4, hdT4, h34⟩ := held
  have a4 : a ≠ C := aC
  have T4C : T4 ≠ C := fun z => by rw [z, eC] at hT4; cases hT4; rw [dC] at hdT4; cases hdT4
  have k2 : ∀ b, b ≠ C → ∀ o, h1'.get? b = some o → h2.get? b = some o := fun b hb o h => (sb.2 b hb).trans h
  have ff2 : h2.FunFrames B0 (X.env :: X.outer) := by
    have go : ∀ l : List Env, C ∉ frs l → h1'.FunFrames B0 l → h2.FunFrames B0 l := by
      intro l
      induction l with
      | nil => intro _ _; trivial
      | cons env r ih =>
        rintro hc ⟨k1, ⟨L, o, l2, l3, l4, l5⟩, k6⟩
        have LC : L ≠ C := fun z => hc (List.mem_filterMap.mpr ⟨env, List.mem_cons_self, by rw [l2, z]⟩)
        refine ⟨k1, ⟨L, o, l2, l3, k2 _ LC _ l4, l5⟩, ih (fun z => hc ?_) k6⟩
        obtain ⟨env', h1, h2⟩ := List.mem_filterMap.mp z
        exact List.mem_filterMap.mpr ⟨env', List.mem_cons_of_mem _ h1, h2⟩
    exact go _ (by rw [← hs]; exact nfC) j3
  have held2 : HandSPX.HeldZ B0 (X.env :: X.outer) a (Zc cls2 d2) X.env.locals h2 :=
    ⟨fun b o h => k2 b (fun z => by rw [z, B0C] at h; cases h) o (j1 b o h), j2, ff2, oe4, vs4, T4, oT4, ts4, k2 _ a4 _ he4, hz4, hd4, h14, hnT4, hTe4, k2 _ T4C _ hT4, hdT4, h34⟩
  unfold PySem.passOn
  refine wpAny_bind (wpAny_field (k2 _ a4 _ he4) hd4 h14 ?_)
  rw [if_neg (show ¬ ((Value.ref T4 == Value.none) = true) from by simp)]
  have fin : wpAny (model X.prog X.w) X.A (setFlight (.ref a) ce.frame) (fun _ s4 => wpAny (model X.prog X.w) X.A (throw (.ref a) : Sem Value) (fun _ _ => False) X.xe s4) X.xe { s' with heap := h2 } := by
    rw [hce, hf]
    refine HandSPX.setFlight_onZ held2 fun h5 hh5 up5 => wpAny_throw (tk _ _ ?_)
    refine ⟨a, B0, sI, pins2, σ2, H2, cls2, d2, rfl, I2, nb, fun b o h hnf => ?_, .inr (.inr (by rw [hs]; exact hh5)), na2, os2, ag2, w2⟩
    obtain ⟨s1, u1⟩ := up b o h hnf
    obtain ⟨z, u1'⟩ := qS _ _ u1
    obtain ⟨s2, u2⟩ := up1 b _ u1' hnf
    obtain ⟨s3, u3⟩ := up5 b _ (k2 b z _ u2) hnf
    exact ⟨s3, u3⟩
  first
    | exact wpAny_bind (wpAny_pure (wpAny_bind fin))
    | exact wpAny_bind fin
/-- what is wanted behind a comprehension's block, its own environment known -/
def cpX (M : Model) (A : Around) (E : Value → Shared → Prop) (use : Option (Value → Sem Unit)) (Q : Value → Shared → Prop) (acc : Value) (ce : Env) (r : Result) (s' : Shared) : Prop :=
  match r with
  | .ok _ => compPost M A E use Q acc ce.locals r s'
  | .error x => ∃ m, s'.heap.Ns ce.locals m ∧ ∀ h', Heap.SameBut ce.locals s'.heap h' → wpAny M A (passOn "comprehension.variables-let-go" x ce : Sem Value) (fun _ _ => False) E { s' with heap := h' }
theorem comp_freeX {M : Model} {A : Around} {E : Value → Shared → Prop} {s : Shared} {env : Env} {e : Expr} {scope : Scope} {pos : Pos} {newAcc first : Sem Value} {g : Comprehension} {gs : List Comprehension} {cl : List (Str × Addr)} {use : Option (Value → Sem Unit)} {Q : Value → Shared → Prop}
    (hcl : clausesOf e = g :: gs) (hs : ∀ x, foldedSetIterable g.iter env x = pure x) (hclos : closureFor scope env = pure cl) (hkind : scope.kind = .function) (hnames : ∀ x ∈ scope.names, x.2 = .local → scope.names.lookup x.1 = some .local)
    (h : wpAny M A first (fun x s₁ => wpAny M A (pyIter x) (fun it s₂ => wpAny M A newAcc (fun acc s₃ => wpAny M A (newFunctionEnv scope env.globals cl [] env.qual none .none (some env)) (fun cenv s₄ =>
      codeAny M A (.compStart e 0 it acc { cenv with scope := relabel scope env }) (cpX M A E use Q acc { cenv with scope := relabel scope env }) s₄) E s₃) E s₂) E s₁) E s) :
    wpAny M A (comprehension e scope env pos newAcc false first use) Q E s := by
  unfold comprehension
  rw [hclos, hcl]
  have up : ∀ {α : Type} {t : Sem α} {P P' : α → Shared → Prop} {s : Shared}, wpAny M A t P E s → (∀ a s, P a s → P' a s) → wpAny M A t P' E s := fun h k => wpAny_mono h k fun _ _ z => z
  refine wpAny_bind (up h fun x s₁ h₁ => wpAny_bind (wpAny_standAt (wpAny_bind (wpAny_of_eq (hs x) (wpAny_bind (wpAny_holding (up h₁ fun it s₂ h₂ => wpAny_standIf (wpAny_bind (up h₂ fun acc s₃ h₃ => wpAny_bind (wpAny_pure (wpAny_bind (up h₃ fun cenv s₄ h₄ => ?_))))))))))))
  dsimp only
  have hv : ∀ x ∈ (scope.names.filter fun x => (x.2 == .local || x.2 == .cell) && x.1 != (".0" : Str)).reverse, x.2 = .local → Env.kindOf { cenv with scope := relabel scope env } x.1 = some .local := fun x hx hl => lookup_relabel_local (hnames x (List.mem_filter.mp (List.mem_reverse.mp hx)).1 hl)
  refine wpAny_holding (wpAny_bind (wpAny_attempt (wpAny_holding (wpAny_run (codeAny_mono h₄ fun r s' hr => ?_)))))
  cases r with
  | ok f =>
    cases use with
    | none =>
      obtain ⟨m, hn, hq⟩ := hr
      exact wpAny_bind (wpAny_holding (wpAny_comp_letGo (cenv := { cenv with scope := relabel scope env }) hkind _ s' m hv hn fun h' m' _ hs' => wpAny_pure (hq h' hs')))
    | some u =>
      refine wpAny_bind (wpAny_rule (wpAny_bind (wpAny_holding (up hr fun _ s2 hr' => ?_))))
      obtain ⟨m, hn, hq⟩ := hr'
      refine wpAny_bind (wpAny_comp_letGo (cenv := { cenv with scope := relabel scope env }) hkind _ s2 m (fun x hx hl => ?_) hn fun h' m' _ hs' => wpAny_pure (hq h' hs'))
      exact (List.mem_append.mp hx).elim (fun z => hv x (List.mem_of_mem_drop z) hl) (fun z => hv x (List.mem_of_mem_take z) hl)
  | error x =>
    obtain ⟨m, hn, hq⟩ := hr
    exact wpAny_bind (wpAny_holding (wpAny_comp_letGo (cenv := { cenv with scope := relabel scope env }) hkind _ s' m hv hn fun h' m' _ hs' => up (hq h' hs') (fun _ _ f => f.elim)))
/-- a block that lets exceptions out -/
abbrev blx (X : Cx) (s : Shared) (H : Hp) (scope : Scope) (cenv : Env) (fp : List Addr) (xe : Value → Shared → Prop) : Cx := { X.blk s H scope cenv fp with xe := xe }
theorem _root_.L2.Inv.toBlx {X : Cx} {s0 : Shared} {H0 : Hp} {scope : Scope} {ce : Env} {fp : List Addr} {xe : Value → Shared → Prop} {pins : List (Addr × Obj)} {σ : L2.St} {H : Hp} {s : Shared} (I : Inv (X.blk s0 H0 scope ce fp) pins σ H s) : Inv (EL.blx X s0 H0 scope ce fp xe) pins σ H s :=
  ⟨⟨I.ok.mod, I.ok.kind, I.ok.glob, I.ok.blt, I.ok.above, I.ok.inj, I.ok.has, I.ok.cab, I.ok.hd, I.ok.frames, I.ok.stk, I.ok.exf, I.ok.bs, I.ok.bsz, I.ok.noex, I.ok.exfs, I.ok.funs, I.ok.frf⟩, I.os, I.bare, I.base, I.loc, I.cell, I.free, I.freeC, I.pin, I.hok, I.len⟩
theorem _root_.L2.Inv.ofBlx {X : Cx} {s0 : Shared} {H0 : Hp} {scope : Scope} {ce : Env} {fp : List Addr} {xe : Value → Shared → Prop} {pins : List (Addr × Obj)} {σ : L2.St} {H : Hp} {s : Shared} (I : Inv (EL.blx X s0 H0 scope ce fp xe) pins σ H s) : Inv (X.blk s0 H0 scope ce fp) pins σ H s :=
  ⟨⟨I.ok.mod, I.ok.kind, I.ok.glob, I.ok.blt, I.ok.above, I.ok.inj, I.ok.has, I.ok.cab, I.ok.hd, I.ok.frames, I.ok.stk, I.ok.exf, I.ok.bs, I.ok.bsz, I.ok.noex, I.ok.exfs, I.ok.funs, I.ok.frf⟩, I.os, I.bare, I.base, I.loc, I.cell, I.free, I.freeC, I.pin, I.hok, I.len⟩
section
variable {X : Cx}
/-- [elt for target in iter if ..] whose elt may raise: te by what is let out -/
abbrev LcStep (g : TG) (tt : TT) (te : TE) (vs : List Nat) (σ : L2.St) (D : Addr) (Nx : Hp → Prop) (x : V) (H : Hp) : Prop := g x (wipe σ vs) H fun σ2 H2 => wipe σ2 vs = wipe σ vs ∧ tt σ2 H2 fun b H3 =>
  if b = true then te σ2 H3 fun y H4 => ∃ acc, H4 D = some (.lst acc) ∧ acc.length < sizeLine ∧ Nx (upd H4 D (.lst (acc ++ [y]))) else Nx H3
def tLcX (W : WX) (wi : TI) (g : TG) (tt : TT) (te : XK → TE) (vs : List Nat) : TE := fun σ H Q => wi σ H fun J H1 => ∀ D, H1 D = none → ∃ V : Nat → Nat → Hp → Prop, (∃ m, V 0 m (upd H1 D (.lst []))) ∧ ∀ i m H, V i m H →
  (J.stop i H ∧ Q (.ref D) H) ∨ (J.go i H ∧ ∃ Nx : Hp → Prop, (∀ H', Nx H' → ∃ m', m' < m ∧ V (i + 1) m' H') ∧ ∀ x H', J.yld i H x H' → LcStep g tt (te (WE W σ)) vs σ D Nx x H')
theorem lcX_core {pins : List (Addr × Obj)} {s : Shared} {σ : L2.St} {H : Hp} {Q : VK} {W : WX} {elt tg iter : Expr} {ifs : List Expr} {scope : Scope} {own : List (Str × Nat)} {pos pos' : Pos} {wi : TI} {g : TG} {tt : TT} {te : XK → TE} {use : Option (Value → Sem Unit)} {Qf : Value → Shared → Prop}
    (tk : Takes X W) (hst : X.stack = X.env :: X.outer) (hfm : X.env.frame = some X.env.locals) (hc : X.calm = true) (hN : X.N.Nodup) (I : Inv X pins σ H s) (hi : PI X tg iter wi) (ok : BlkOk X.N X.env.scope scope own)
    (hg : ∀ (s : Shared) (H : Hp) (C : Addr) (cl : List (Str × Addr)) (fp : List Addr), PG (X.blk s H scope (compEnvC scope cl C X.env) fp) tg g) (ht : ∀ (s : Shared) (H : Hp) (C : Addr) (cl : List (Str × Addr)) (fp : List Addr), PTs (X.blk s H scope (compEnvC scope cl C X.env) fp) ifs tt)
    (he : ∀ (s : Shared) (H : Hp) (C : Addr) (cl : List (Str × Addr)) (fp : List Addr) (xe : Value → Shared → Prop) (E : XK), (∀ σ', PassesAt (L2.CX X.prog X.w) (EL.blx X s H scope (compEnvC scope cl C X.env) fp xe) σ' E) → PE (EL.blx X s H scope (compEnvC scope cl C X.env) fp xe) elt (te E)) (hs : ∀ x, foldedSetIterable iter X.env x = pure x)
    (h : tLcX W wi g tt te (own.map (·.2)) σ H Q)
    (hRR : ∀ D C s' m H', Inv X pins σ H' s' → Q (.ref D) H' → s'.heap.Ns C m → FpOk X pins H' C → compPost (model X.prog X.w) X.A X.xe use Qf (.ref D) C (.ok .next) s') :
    wpAny (model X.prog X.w) X.A (comprehension (.ListComp elt [⟨tg, iter, ifs, 0⟩] scope pos) scope X.env pos' (newList []) false (eval iter X.env) use) Qf X.xe s := by
  have cl : ∀ y ∈ scope.names, y.2 = .free → ∃ c, X.env.cells.lookup y.1 = some c := fun y hy e => (ok.free y hy e).elim (fun k => I.ok.has _ (.inl k)) (fun k => I.ok.has _ (.inr k))
  refine comp_freeX (use := use) rfl hs (closure_ok cl) ok.kind (fun y hy e => by rw [ok.uniq y hy, e]) (thn (hi.run pins s σ H _ I h) fun xv s1 hx => thn hx fun itv s2 h2 => ?_)
  obtain ⟨it, fp, tn, J, H2, e, I2, T, st2, f2, q⟩ := h2
  subst e
  refine wpAny_newObj_type (newEnv_comp ?_)
  generalize hD : s2.heap.objs.size = D
  obtain ⟨V, ⟨m0, w0⟩, turn⟩ := q D (I2.hok.fresh (Nat.le_of_eq hD))
  obtain ⟨s3, hs3⟩ : ∃ s3 : Shared, ({ s2 with heap := s2.heap.push { cls := .type "list", data := .seq ([] : List Value).toArray } } : Shared) = s3 := ⟨_, rfl⟩
  have hh3 : s3.heap = s2.heap.push { cls := .type "list", data := .seq ([] : List Value).toArray } := by rw [← hs3]
  obtain ⟨H3, hH3⟩ : ∃ H3, upd H2 D (.lst []) = H3 := ⟨_, rfl⟩
  have I3 : Inv X pins σ H3 s3 := by
    rw [← hs3, ← hH3]
    refine I2.laid (t' := s2.toks) (fun b o e => Heap.get?_push_of_some _ e) (Nat.le_of_eq hD) ?_
    rw [← hD]
    exact ⟨Nat.zero_le _, [], 0, .nil, Heap.get?_push_size _ rfl⟩
  rw [hH3] at w0
  have lt2 : ∀ b ∈ fp, b < s2.heap.objs.size := fun b hb => let ⟨o, e, _⟩ := T.obj _ _ st2 b hb; Heap.lt_size e
  have f3 : ∀ b ∈ fp, FpOk X pins H3 b ∧ b < s3.heap.objs.size := fun b hb => by
    refine ⟨⟨?_, (f2 b hb).2⟩, by rw [hh3, Heap.size_push]; exact Nat.lt_succ_of_lt (lt2 b hb)⟩
    rw [← hH3, upd_ne (by rw [← hD]; exact Nat.ne_of_lt (lt2 b hb))]
    exact (f2 b hb).1
  have I4 := block_start I3 ok hN f3
  rw [hs3]
  show codeAny _ _ (.compStart (.ListComp elt [⟨tg, iter, ifs, 0⟩] scope pos) 0 (.ref it) (.ref D) (compEnvC scope (cellsFrom (s3.heap.objs.size + 1) scope.names (cloFrom X.env.cells scope.names [])) s3.heap.objs.size X.env)) (cpX (model X.prog X.w) X.A X.xe use Qf (.ref D) (compEnvC scope (cellsFrom (s3.heap.objs.size + 1) scope.names (cloFrom X.env.cells scope.names [])) s3.heap.objs.size X.env)) { s3 with heap := pushCells (s3.heap.push { cls := .type "dict", data := .dict #[] }) scope.names }
  have pg := hg s3 H3 s3.heap.objs.size (cellsFrom (s3.heap.objs.size + 1) scope.names (cloFrom X.env.cells scope.names [])) fp
  have pt := ht s3 H3 s3.heap.objs.size (cellsFrom (s3.heap.objs.size + 1) scope.names (cloFrom X.env.cells scope.names [])) fp
  have pe0 := he s3 H3 s3.heap.objs.size (cellsFrom (s3.heap.objs.size + 1) scope.names (cloFrom X.env.cells scope.names [])) fp
  have cF : (compEnvC scope (cellsFrom (s3.heap.objs.size + 1) scope.names (cloFrom X.env.cells scope.names [])) s3.heap.objs.size X.env).frame = X.env.frame := rfl
  generalize hce : compEnvC scope (cellsFrom (s3.heap.objs.size + 1) scope.names (cloFrom X.env.cells scope.names [])) s3.heap.objs.size X.env = ce at I4 pg pt pe0 cF ⊢
  have cL : ce.locals = s3.heap.objs.size := by rw [← hce]; rfl
  have st4 : tn 0 (pushCells (s3.heap.push { cls := .type "dict", data := .dict #[] }) scope.names) := T.keep _ _ _ st2 fun b _ o e => pushCells_keeps _ _ _ _ (Heap.get?_push_of_some _ (by rw [hh3]; exact Heap.get?_push_of_some _ e))
  generalize hs4 : ({ s3 with heap := pushCells (s3.heap.push { cls := .type "dict", data := .dict #[] }) scope.names } : Shared) = s4 at I4 ⊢
  have st4' : tn 0 s4.heap := by rw [← hs4]; exact st4
  have stat : ∀ {σ' : L2.St} {H' : Hp} {s' : Shared}, Inv (X.blk s3 H3 scope ce fp) [] σ' H' s' → (∀ b ∈ fp, H' b = none) → ∀ b ∈ fp, FpOk (X.blk s3 H3 scope ce fp) [] H' b := fun I' hn b hb =>
    ⟨hn b hb, (I'.ok.exf b hb).1, I'.ok.exfs b hb, .inl hb, fun x c e => (I'.ok.exf b hb).2 x c e, fun p hp => by cases hp⟩
  -- the def's own view of a state within the block
  have back : ∀ {pins' : List (Addr × Obj)} {σ' : L2.St} {H' : Hp} {s' : Shared}, Inv (X.blk s3 H3 scope ce fp) pins' σ' H' s' → Inv X pins σ H' s' ∧ (∃ m, s'.heap.Ns ce.locals m) ∧ FpOk X pins H' ce.locals := fun {pins' σ' H' s'} I6 => by
    have nC : H' s3.heap.objs.size = none := by rw [← cL]; exact I6.free
    obtain ⟨m, hn, _⟩ := I6.loc
    exact ⟨I3.call' (ch := fp) I6.os I6.base I6.hok I6.bare fun b hb => ⟨(f3 b hb).1.2.2.2.1, (f3 b hb).1.2.1, (f3 b hb).1.2.2.2.2.1, (f3 b hb).1.2.2.2.2.2⟩, ⟨m, hn⟩, by rw [cL]; exact I3.fpOk (Nat.le_refl _) nC⟩
  have pe := pe0 (notedBy (model X.prog X.w) X.A ce fun e s' => cpX (model X.prog X.w) X.A X.xe use Qf (.ref D) ce (.error e) s') (WE W σ) (fun σ' pins' H' s' e s2' I' c => by
    obtain ⟨J1, ⟨m, hn⟩, J2⟩ := back I'.ofBlx
    exact comp_leave tk hst hfm J1 hn J2 (fun _ _ _ z => z) c cF)
  have loop : codeAny (model X.prog X.w) X.A (.compLoop (.ListComp elt [⟨tg, iter, ifs, 0⟩] scope pos) 0 (.ref it) (.ref D) ce) (cpX (model X.prog X.w) X.A X.xe use Qf (.ref D) ce) s4 := by
    refine compLoop_any (fun n s' => ∃ i H', Inv (X.blk s3 H3 scope ce fp) [] (wipe σ (own.map (·.2))) H' s' ∧ tn i s'.heap ∧ (∀ b ∈ fp, H' b = none) ∧ V i n H') ?_ m0 ⟨0, H3, I4, st4', fun b hb => (f3 b hb).1.1, w0⟩
    rintro n s5 ⟨i, H5, I5, st5, n5, w5⟩
    rcases turn i n H5 w5 with ⟨stop, qq⟩ | ⟨go, Nx, hNx, step⟩
    · refine thnF (T.done (X.blk s3 H3 scope ce fp) rfl rfl rfl hc i [] s5 _ H5 (fun _ _ => False) I5 (stat I5 n5) st5 stop) fun r s6 ⟨hr, I6⟩ => ?_
      subst hr
      obtain ⟨J1, ⟨m, hn⟩, J2⟩ := back I6
      exact hRR D ce.locals s6 m H5 J1 qq hn J2
    · refine thnF (T.item (X.blk s3 H3 scope ce fp) rfl rfl rfl hc i [] s5 _ H5 (fun _ _ => False) I5 (stat I5 n5) st5 go) fun r s6 ⟨u, hr, h6⟩ => ?_
      subst hr
      refine thnF h6 fun _ s7 ⟨x, H7, I7, r7, y7, st7, n7⟩ => ?_
      refine thnF (pg.run _ s7 _ H7 x u _ (I7.pinned (stat I7 n7) (T.obj _ _ st7)) r7 (step x H7 y7)) fun _ s8 ⟨σ8, H8, I8, hw8, q8⟩ => ?_
      refine thnF (pt.run _ s8 σ8 H8 _ I8 q8) fun b s9 ⟨H9, I9, q9⟩ => ?_
      have fin : ∀ {s' : Shared} {H' : Hp}, Inv (X.blk s3 H3 scope ce fp) ([] ++ pinsAt fp s7.heap) σ8 H' s' → Nx H' → ∃ m, m < n ∧ ∃ i H', Inv (X.blk s3 H3 scope ce fp) [] (wipe σ (own.map (·.2))) H' s' ∧ tn i s'.heap ∧ (∀ b ∈ fp, H' b = none) ∧ V i m H' := fun {s' H'} I' nx => by
        obtain ⟨m', hm, w'⟩ := hNx H' nx
        have pin' : ∀ b ∈ fp, ∀ o, s7.heap.get? b = some o → s'.heap.get? b = some o ∧ H' b = none := fun b hb o e =>
          let z := I'.pin (b, o) (List.mem_append_right _ (List.mem_append_right _ (mem_pinsAt hb e)))
          ⟨z.1, z.2.1⟩
        refine ⟨m', hm, i + 1, H', (I'.unpinned (pins := [])).weak (by rw [← hw8, wipe_length]) (fun j v e => (wipe_some (by rw [hw8]; exact e)).1), T.keep _ _ _ st7 fun b hb o e => (pin' b hb o e).1, fun b hb => ?_, w'⟩
        obtain ⟨o, e, _⟩ := T.obj _ _ st7 b hb
        exact (pin' b hb o e).2
      cases b with
      | false => exact fin I9 q9
      | true =>
        refine thn (pe.run _ s9 σ8 H9 _ I9.toBlx q9) fun z s10 ⟨yv, H10, I10, r10, acc, hD10, hz10, nx⟩ => ?_
        exact app_ok (X := X.blk s3 H3 scope ce fp) I10.ofBlx hD10 hz10 r10 fun s11 I11 => fin I11 nx
  exact codeAny_compStart_list loop (T.self X.A 0 _ _ _ st4' loop)
theorem pe_lcX {W : WX} {elt tg iter : Expr} {ifs : List Expr} {scope : Scope} {own : List (Str × Nat)} {pos : Pos} {wi : TI} {g : TG} {tt : TT} {te : XK → TE} (tk : Takes X W) (hst : X.stack = X.env :: X.outer) (hfm : X.env.frame = some X.env.locals) (hc : X.calm = true) (hN : X.N.Nodup) (hi : PI X tg iter wi) (ok : BlkOk X.N X.env.scope scope own)
    (hg : ∀ (s : Shared) (H : Hp) (C : Addr) (cl : List (Str × Addr)) (fp : List Addr), PG (X.blk s H scope (compEnvC scope cl C X.env) fp) tg g) (ht : ∀ (s : Shared) (H : Hp) (C : Addr) (cl : List (Str × Addr)) (fp : List Addr), PTs (X.blk s H scope (compEnvC scope cl C X.env) fp) ifs tt)
    (he : ∀ (s : Shared) (H : Hp) (C : Addr) (cl : List (Str × Addr)) (fp : List Addr) (xe : Value → Shared → Prop) (E : XK), (∀ σ', PassesAt (L2.CX X.prog X.w) (EL.blx X s H scope (compEnvC scope cl C X.env) fp xe) σ' E) → PE (EL.blx X s H scope (compEnvC scope cl C X.env) fp xe) elt (te E)) (hs : ∀ x, foldedSetIterable iter X.env x = pure x := by intro _; rfl) :
    PE X (.ListComp elt [⟨tg, iter, ifs, 0⟩] scope pos) (tLcX W wi g tt te (own.map (·.2))) := by
  refine ⟨fun pins s σ H Q I h => ?_⟩
  rw [arm_eval_ListComp]
  refine lcX_core tk hst hfm hc hN I hi ok hg ht he hs h fun D C s' m H' I' q hn f => ⟨m, hn, fun h2 sb => ?_⟩
  obtain ⟨f0, f1, f2, f3, f4, f5⟩ := f
  exact ⟨.ref D, H', I'.turned (t' := s'.toks) (fun b o hb e => (sb.2 b hb).trans e) f0 f1 f3 f4 f5, rfl, q⟩
theorem ps_setLcX {W : WX} {i : Nat} {y : Str} {py : Pos} {elt tg iter : Expr} {ifs : List Expr} {scope : Scope} {own : List (Str × Nat)} {pos spos : Pos} {wi : TI} {g : TG} {tt : TT} {te : XK → TE} (tk : Takes X W) (hst : X.stack = X.env :: X.outer) (hfm : X.env.frame = some X.env.locals) (hc : X.calm = true) (hN : X.N.Nodup) (hy : X.N[i]? = some y) (hyl : X.env.scope.names.lookup y = some .local)
    (hsw : swapsWith (.ListComp elt [⟨tg, iter, ifs, 0⟩] scope pos) (some (.Name y py)) spos.line X.env = pure true) (hi : PI X tg iter wi) (ok : BlkOk X.N X.env.scope scope own)
    (hg : ∀ (s : Shared) (H : Hp) (C : Addr) (cl : List (Str × Addr)) (fp : List Addr), PG (X.blk s H scope (compEnvC scope cl C X.env) fp) tg g) (ht : ∀ (s : Shared) (H : Hp) (C : Addr) (cl : List (Str × Addr)) (fp : List Addr), PTs (X.blk s H scope (compEnvC scope cl C X.env) fp) ifs tt)
    (he : ∀ (s : Shared) (H : Hp) (C : Addr) (cl : List (Str × Addr)) (fp : List Addr) (xe : Value → Shared → Prop) (E : XK), (∀ σ', PassesAt (L2.CX X.prog X.w) (EL.blx X s H scope (compEnvC scope cl C X.env) fp xe) σ' E) → PE (EL.blx X s H scope (compEnvC scope cl C X.env) fp xe) elt (te E)) (hs : ∀ x, foldedSetIterable iter X.env x = pure x := by intro _; rfl) :
    PS X (.Assign [.Name y py] (.ListComp elt [⟨tg, iter, ifs, 0⟩] scope pos) spos) (tAsg (tLcX W wi g tt te (own.map (·.2))) (gName i)) := by
  refine ⟨fun pins s σ H D I h => ?_⟩
  rw [exec_Assign_Name_used _ _ _ _ hsw]
  refine wpAny_bind (wpAny_standAt (wpAny_bind ?_))
  show wpAny _ X.A (do let _ ← comprehension (.ListComp elt [⟨tg, iter, ifs, 0⟩] scope pos) scope X.env (firstIterPos [⟨tg, iter, ifs, 0⟩] pos) (newList []) false (eval iter X.env) (some (assign (.Name y py) X.env))) _ _ s
  have h' : tLcX W wi g tt te (own.map (·.2)) σ H (fun x H1 => gName i x σ H1 D.nx) := h
  refine wpAny_bind (thn (lcX_core (Qf := fun _ s' => SP X pins D .next s') tk hst hfm hc hN I hi ok hg ht he hs h' fun L C s' m H' I' q hn f => ?_) fun _ s' hq => wpAny_pure (wpAny_pure hq))
  obtain ⟨f0, f1, f2, f3, f4, f5⟩ := f
  refine wpAny_assign_Name (store_ok2 (v := V.ref L) I' hN hy (.inl hyl) rfl (fun s2 I2 ⟨a, sb, ha⟩ => ?_) (.inr hyl))
  have haC : C ≠ a := ha.elim (fun z => by rw [z]; exact f1) (fun z e => f4 y a z e.symm)
  exact ⟨m, hn.sameBut sb haC, fun h3 sb3 => ⟨_, H', I2.turned (t' := s2.toks) (fun b o hb e => (sb3.2 b hb).trans e) f0 f1 f3 f4 f5, q⟩⟩
theorem lcX_it {J : It} {n : Nat} {G : Hp → Prop} {Y : Nat → Hp → V → Hp → Prop} (w : L2.Walk J n G Y) {g : TG} {tt : TT} {te : TE} {vs : List Nat} {σ : L2.St} {H1 : Hp} {D : Addr} {Qd : Hp → Prop} (Pv : Nat → Hp → Prop) (h0 : Pv 0 (upd H1 D (.lst []))) (hG : ∀ i H, i ≤ n → Pv i H → G H)
    (hs : ∀ i x H H', i < n → Pv i H → Y i H x H' → LcStep g tt te vs σ D (Pv (i + 1)) x H') (hd : ∀ H, Pv n H → Qd H) :
    ∃ V : Nat → Nat → Hp → Prop, (∃ m, V 0 m (upd H1 D (.lst []))) ∧ ∀ i m H, V i m H → (J.stop i H ∧ Qd H) ∨ (J.go i H ∧ ∃ Nx : Hp → Prop, (∀ H', Nx H' → ∃ m', m' < m ∧ V (i + 1) m' H') ∧ ∀ x H', J.yld i H x H' → LcStep g tt te vs σ D Nx x H') := by
  refine ⟨fun i m H => m + i = n ∧ Pv i H, ⟨n, rfl, h0⟩, fun i m H ⟨hm, p⟩ => ?_⟩
  have q := hG i H (by omega) p
  cases m with
  | zero =>
    have e : i = n := by omega
    subst e
    exact .inl ⟨w.stops H q, hd H p⟩
  | succ m => exact .inr ⟨w.goes i H (by omega) q, Pv (i + 1), fun H' p' => ⟨m, Nat.lt_succ_self m, by omega, p'⟩, fun x H' y => hs i x H H' (by omega) p (w.yields i H x H' (by omega) q y)⟩
/-- a call of a def that may raise, what it lets out being taken as hx says -/
theorem clP {CX : CXT} {k : Nat} {x : Str} {sp : Sp} {E : XK} {e : Expr} {es : List Expr} {t : TA} {p pos : Pos} (hx : ∀ σ, PassesAt CX X σ E) (D : Dn X.prog X.w X.K X.mg X.base CX k x sp) (hr : Room k X.A) (ha : PA X (e :: es) t) (hg : Gl X x := by rfl)
    (hdb : (x == ("__debug__" : Str)) = false := by decide) (he : starEach (e :: es) X.env = (false, eval e X.env) :: starEach es X.env := by rfl) (hpl : (backTo pos (starEach es X.env)).any (·.1) = false := by rfl) :
    PE X (.Call (.Name x p) (e :: es) [] pos) (tCallS sp (fun _ => E) t) := pe_fn D.r hr hg D.g D.kp hx ha hdb he hpl
end
/-! ### an instance called, what it lets out by the caller's slots -/
def tCallOE (C : Addr) (sp : Sp) (E : L2.St → XK) (tf : TE) (t : TA) : TE := fun σ H Q => tf σ H fun y H1 => ∃ a, y = V.ref a ∧ t σ H1 fun vs H2 => (∃ dx fs, H2 a = some (.ins C dx fs)) ∧ sp (V.ref a :: vs) H2 Q (E σ)
theorem pe_callOE {X : Cx} {CX : CXT} {k : Nat} {C g : Addr} {sp : Sp} {E : L2.St → XK} {fe e : Expr} {es : List Expr} {tf : TE} {t : TA} {pos : Pos} (hf : PE X fe tf) (c : StX.CallO X.K C g) (F : FnR X.prog X.w X.K X.mg X.base CX k g sp) (hr : Room k X.A) (hx : ∀ σ, PassesAt CX X σ (E σ)) (ha : PA X (e :: es) t)
    (ht : eval (.Call fe (e :: es) [] pos) X.env = (do callWith pos (← eval fe X.env) [] (backTo pos (starEach (e :: es) X.env)) (backToKw pos (keywordEach [] X.env))) := by rfl)
    (he : starEach (e :: es) X.env = (false, eval e X.env) :: starEach es X.env := by rfl) (hpl : (backTo pos (starEach es X.env)).any (·.1) = false := by rfl) : PE X (.Call fe (e :: es) [] pos) (tCallOE C sp E tf t) := by
  refine ⟨fun pins s σ H Q I h => ?_⟩
  refine Call_ (thn (hf.run pins s σ H _ I h) fun u s1 ⟨y, H1, I1, ry, a, ey, q⟩ => ?_) ht
  subst ey
  cases (show u = Value.ref a from ry)
  refine StX.callO_with (thn (ha.run pos pins s1 σ H1 _ I1 q) fun us s2 ⟨vs, H2, I2, r, hi, q2⟩ => ?_) he hpl
  obtain ⟨ox, od, J, hd⟩ := StX.insC_at (C := C) I2 (.inr hi)
  refine ⟨⟨C, ox, od, J, hd⟩, wpAny_call (PySem.W.kco_code I2.kIn J hd c.at_ c.fn c.fi (codeAny_mono (F X.A X.stack s2 H2 (.ref a :: us) (.ref a :: vs) Q (E σ) hr I2.env0 (.cons rfl r) q2) fun r s' hq => ?_))⟩
  cases r with
  | error e => exact hx σ pins _ s2 e s' I2 hq
  | ok fl =>
    cases fl with
    | ret u => exact I2.after hq
    | next => exact False.elim hq
    | brk => exact False.elim hq
    | cont => exact False.elim hq
def callOB (K : PySem.W.Frag) (C : Addr) : Bool := eqO (PySem.W.findIn K (.ref C) "__call__") (some (some (.ref (ma K C "__call__")))) && (PySem.W.isFn K (.ref (ma K C "__call__")) && PySem.W.fnIn K (ma K C "__call__"))
theorem callOB_ok {K : PySem.W.Frag} {C : Addr} (h : callOB K C = true) : StX.CallO K C (ma K C "__call__") := by
  obtain ⟨h1, h⟩ := ba h
  obtain ⟨h2, h3⟩ := ba h
  exact ⟨eqO_ok h1, h2, h3⟩
/-! ### facts of dunders; the operators of two instances of one class -/
def dunB (K : PySem.W.Frag) (C : Addr) (m : Str) : Bool := eqO (PySem.W.findIn K (.ref C) m) (some (some (.ref (ma K C m)))) && PySem.W.isFn K (.ref (ma K C m))
theorem dunB_ok {K : PySem.W.Frag} {C : Addr} {m : Str} (h : dunB K C m = true) : PySem.W.findIn K (.ref C) m = some (some (.ref (ma K C m))) ∧ PySem.W.isFn K (.ref (ma K C m)) = true := by
  obtain ⟨h1, h2⟩ := ba h
  exact ⟨eqO_ok h1, h2⟩
/-! ### a dict of the top with text keys -/
def nsStrB (K : PySem.W.Frag) (d : Addr) (z y : Str) : Bool := match PySem.W.nsIn K d z with
  | some (some (.str x _)) => decide (x = y)
  | _ => false
theorem nsStrB_ok {K : PySem.W.Frag} {d : Addr} {z y : Str} (h : nsStrB K d z y = true) : ∃ u, PySem.W.nsIn K d z = some (some u) ∧ RelV (.str y) u := by
  unfold nsStrB at h
  split at h
  · rename_i x t q
    cases of_decide_eq_true h
    exact ⟨_, q, t, rfl⟩
  · cases h
theorem kdct {K : PySem.W.Frag} {w : World} {a : Addr} {z y : Str} (D : ∃ es n, KDict K w a es n) (h : ∃ u, PySem.W.nsIn K a z = some (some u) ∧ RelV (.str y) u) : KDct K w a z (.str y) := by
  obtain ⟨es, n, D⟩ := D
  obtain ⟨u, h1, h2⟩ := h
  exact ⟨es, n, u, D.at_, D.lit, h1, h2⟩
abbrev AlY : Type := AlX × List (Option (List (Option (Str × Int))))
def obsY (fa : List Fa) (fn : List DefE) (xn : List DefX) (ts : List Tab) (ex : PySem.W.Frag → Bool) (K : PySem.W.Frag) : AlY := (obsX fa fn xn ex K, ts.map fun t => dicW K (t.1 K))
def obsYG (n : Nat) (fa : List Fa) (fn : List DefE) (xn : List DefX) (ts : List Tab) (ex : PySem.W.Frag → Bool) (g : Addr → Option Obj) : AlY := obsY fa fn xn ts ex (frG g (He5.asA g n))
def valY (fn : List DefE) (xn : List DefX) (ts : List Tab) (w : World) : AlY := (valX fn xn, ts.map fun t => some (keysIn w.params t.2))
def SaysY (fa : List Fa) (fn : List DefE) (xn : List DefX) (ts : List Tab) (ex : PySem.W.Frag → Bool) (w : World) (K : PySem.W.Frag) : Prop := obsY fa fn xn ts ex K = valY fn xn ts w
def hookY (n : Nat) (fa : List Fa) (fn : List DefE) (xn : List DefX) (ts : List Tab) (ex : PySem.W.Frag → Bool) : PySem.W.Hook where
  α := AlY
  obs := fun s => obsYG n fa fn xn ts ex s.heap.get?
  val := fun w => valY fn xn ts w
  says := fun w h => ∃ K : PySem.W.Frag, K.In h ∧ SaysY fa fn xn ts ex w K
  of := fun _ _ e => ⟨_, frG_in, e⟩
  keeps := fun _ _ _ ⟨K, hK, c⟩ k => ⟨K, PySem.W.Frag.In.keeps hK k, c⟩
theorem obsYG_eq {n : Nat} {fa : List Fa} {fn : List DefE} {xn : List DefX} {ts : List Tab} {ex : PySem.W.Frag → Bool} {g : Addr → Option Obj} {s : Shared} (h : ∀ a, g a = s.heap.get? a) : obsYG n fa fn xn ts ex g = (hookY n fa fn xn ts ex).obs s := by
  have e : g = s.heap.get? := funext h
  rw [e] <;> rfl
section
variable {fa : List Fa} {fn : List DefE} {xn : List DefX} {ts : List Tab} {ex : PySem.W.Frag → Bool} {w : World} {K : PySem.W.Frag}
theorem SaysY.x (c : SaysY fa fn xn ts ex w K) : SaysX fa fn xn ex K := congrArg (fun z : AlY => z.1) c
theorem SaysY.tab (c : SaysY fa fn xn ts ex w K) (i : Nat) {t : Tab} (h : ts[i]? = some t := by rfl) : ∃ es n, KDict K w (t.1 K) es n := by
  have e2 : (ts.map fun t => dicW K (t.1 K))[i]? = (ts.map fun t => some (keysIn w.params t.2))[i]? := congrArg (fun z : AlY => z.2[i]?) c
  rw [List.getElem?_map, List.getElem?_map, h] at e2
  exact dicW_ok (Option.some.inj e2)
end
/-! ### lists or tuples -/
theorem PI.or_ {X : Cx} {tg e : Expr} {w1 w2 : TI} (h1 : PI X tg e w1) (h2 : PI X tg e w2) : PI X tg e (fun σ H R => w1 σ H R ∨ w2 σ H R) :=
  ⟨fun pins s σ H R I h => h.elim (fun z => h1.run pins s σ H R I z) (fun z => h2.run pins s σ H R I z)⟩
theorem PE.or_ {X : Cx} {e : Expr} {t1 t2 : TE} (h1 : PE X e t1) (h2 : PE X e t2) : PE X e (fun σ H Q => t1 σ H Q ∨ t2 σ H Q) :=
  ⟨fun pins s σ H Q I h => h.elim (fun z => h1.run pins s σ H Q I z) (fun z => h2.run pins s σ H Q I z)⟩
theorem SqL.new {K : PySem.W.Frag} {H H' : Hp} {S : List Addr} {a : Addr} {xs : List V} (h : SqL K H a xs) (m : Md S H H') (n : ∀ b ∈ S, H b = none) : SqL K H' a xs := by
  rcases h with (h | ⟨o, h⟩) | h
  · exact .inl (.inl (m.out _ _ h fun z => by rw [n a z] at h; cases h))
  · exact .inl (.inr ⟨o, m.out _ _ h fun z => by rw [n a z] at h; cases h⟩)
  · exact .inr h
theorem kit_any2 (K : PySem.W.Frag) (A B : Kd) (d : PyData) : PySem.W.kitAny K (.type (tyn d)) [.type (kdN A), .type (kdN B)] = some (isTy A d || isTy B d) := by
  unfold PySem.W.kitAny
  rw [kit_d K A d]
  cases isTy A d with
  | true => rfl
  | false =>
    show PySem.W.kitAny K (.type (tyn d)) [.type (kdN B)] = _
    unfold PySem.W.kitAny
    rw [kit_d K B d]
    cases isTy B d with
    | true => rfl
    | false => rfl
theorem u65 {k : Nat} {A : Around} (r : Room k A) : A.units + 65 < cLine := by have := r.un; omega
/-- x is True, x is False: x a truth value or None -/
def rIsBN : R2 := fun x y H Q => ∃ b : Bool, y = .bl b ∧ ((x = .non ∧ Q (.bl false) H) ∨ ∃ a : Bool, x = .bl a ∧ Q (.bl (decide (a = b))) H)
theorem op_isBN {X : Cx} : OpR X (compareOp .Is) rIsBN := by
  intro pins s σ H x y v u Q I rx ry h
  obtain ⟨b, rfl, ⟨rfl, q⟩ | ⟨a, rfl, q⟩⟩ := h
  · cases (show v = Value.none from rx)
    cases (show u = Value.bool b from ry)
    exact wpAny_is_other rfl (fun z => nomatch z) ⟨.bl false, H, I, rfl, q⟩
  · exact op_is_bl pins s σ H _ _ v u Q I rx ry ⟨a, b, rfl, rfl, q⟩
end EL
namespace EL
open PySem PySem.Spec PyProof.Rows L2 He TL
/-! ### isinstance of a caught error, with or without a dict, either answer -/
def rIsA (K : PySem.W.Frag) (D : Addr) (cls : Value) (d : Option Addr) (a : Addr) : List V → Hp → VK → Prop := fun xs H Q => cls = .ref D ∧ (d = none ∨ ∃ dd fs, d = some dd ∧ H dd = some (.xd fs)) ∧ rIsE K D a xs H Q
theorem call_isA {X : Cx} {a D : Addr} {oe : Obj} {pn : List (Addr × Obj)} {cls : Value} {d : Option Addr} (C : ExcC X.K D) (hz : Zc cls d oe) (hf : ∃ vs, oe.data = .fields vs) : CallR (X.suite a ((a, oe) :: pn)) (.builtin "isinstance") (rIsA X.K D cls d a) := by
  intro pins s σ H xs us Q I r h
  obtain ⟨rfl, hd, c, cv, b, rfl, hcv, e, q⟩ := h
  cases r with
  | cons rx rr =>
    cases rr with
    | cons rt rr =>
      cases rr
      cases rx
      cases hcv _ rt
      obtain ⟨hget, _⟩ := I.pin (a, oe) (List.mem_append.mpr (.inl List.mem_cons_self))
      obtain ⟨vs, hv⟩ := hf
      have hcl : (PySem.W.clsIn X.K D).isSome = true := by
        obtain ⟨cd, hc, _⟩ := PySem.W.any_some C.hd
        rw [hc]
        rfl
      have J : ∃ od, PySem.W.InstAt s.heap a oe D od := by
        rcases hd with rfl | ⟨dd, fs, rfl, hx⟩
        · refine ⟨none, hget, hz.1, by unfold PySem.W.notCls; rw [hv] <;> rfl, ?_⟩
          rw [hz.2]
          trivial
        · have hx' : ObjOk X.prog X.w H s.heap dd (.xd fs) := I.hok dd _ hx
          obtain ⟨mA, ⟨o, es, ep, ho, _⟩, _⟩ := hx'
          refine ⟨some o, hget, hz.1, by unfold PySem.W.notCls; rw [hv] <;> rfl, ?_⟩
          rw [hz.2]
          exact ho
      obtain ⟨od, J⟩ := J
      exact PySem.W.kia_one (PySem.W.kitx_exc hcl C.hg C.hk C.hs C.ha C.hn C.ht C.hm) I.kIn J e (fun z => nomatch z) fun tk => ⟨.bl b, H, I.kept (t' := tk) fun _ _ z => z, rfl, q⟩
/-! ### x op= y by an own def -/
theorem ip_own {X : Cx} {CX : CXT} {k : Nat} {C g : Addr} {sp : Sp} {E : XK} {op : Operator} (hc : PySem.W.selfFirst X.K C = true) (hs : PySem.W.findIn X.K (.ref C) (PySem.dunderI op.info.2) = some (some (.ref g))) (hf : PySem.W.isFn X.K (.ref g) = true) (F : FnR X.prog X.w X.K X.mg X.base CX k g sp)
    (hr : Room k X.A) (hx : Passes CX X E) : PIp X op (fun x y H Q => ∃ a dx fs, x = .ref a ∧ H a = some (.ins C dx fs) ∧ sp [x, y] H Q E) := by
  intro pins s σ H x y v u Q I rx ry h
  obtain ⟨a, dx, fs, rfl, ha, q⟩ := h
  cases (show v = Value.ref a from rx)
  obtain ⟨ox, od, J, _⟩ := ins_at I ha
  obtain ⟨m, hF⟩ := I.fr
  refine PySem.W.ksp_inplace hF I.ok.mod.kin J hc hs hf ?_
  refine wpAny_mono (wpAny_call (run_fnR (us := [.ref a, u]) (vs := [.ref a, y]) F hr hx I (.cons rfl (.cons ry .nil)) q)) (fun w s' z => ?_) fun _ _ x => x
  obtain ⟨z', H', I', rz, qz⟩ := z
  exact SlX.cmpback rz ⟨z', H', I', rz, qz⟩
/-! ### two dicts whose values are ints -/
def eqDI (ks ls : List (Key × Int)) : Bool := ks.all fun p => decide (valV (ls.map fun q => (q.1, V.int q.2)) p.1 = some (.int p.2))
abbrev dI (ks : List (Key × Int)) : List (Key × V) := ks.map fun q => (q.1, V.int q.2)
theorem hits_int {A : Around} {s : Shared} {ls : List (Key × Int)} {vb : List (Key × Value)} (rb : KV (dI ls) vb) : ∀ {ks : List (Key × Int)} {va : List (Key × Value)}, KV (dI ks) va → PySem.W.KeqHits A s vb va (eqDI ks ls)
  | [], _, r => by
    cases r
    exact .nil
  | (k, i) :: ks, _, r => by
    cases r with
    | @cons _ q _ qs h t =>
      obtain ⟨k', v'⟩ := q
      obtain ⟨h1, h2⟩ := h
      have h1 : k = k' := h1
      subst h1
      obtain ⟨ti, rfl⟩ := (show ∃ t, v' = Value.int i t from h2)
      have ih := hits_int (A := A) (s := s) rb t
      have rk := rb.val k
      have e : eqDI ((k, i) :: ks) ls = (decide (valV (dI ls) k = some (.int i)) && eqDI ks ls) := rfl
      rw [e]
      cases hv : valV (dI ls) k with
      | none =>
        rw [hv] at rk
        cases hb : valueAt vb k with
        | none => rw [decide_eq_false (by intro z; cases z), Bool.false_and]; exact .miss hb
        | some y => rw [hb] at rk; cases rk
      | some y =>
        rw [hv] at rk
        obtain ⟨j, rfl⟩ : ∃ j, y = .int j := by
          have : ∀ (l : List (Key × Int)) y, valV (dI l) k = some y → ∃ j, y = .int j := by
            intro l
            induction l with
            | nil => intro y h; cases h
            | cons p r ih =>
              intro y h
              by_cases e : p.1 = k
              · have : valV (dI (p :: r)) k = some (.int p.2) := valV_pos e
                rw [this] at h
                cases h
                exact ⟨_, rfl⟩
              · have : valV (dI (p :: r)) k = valV (dI r) k := valV_neg e
                rw [this] at h
                exact ih y h
          exact this ls y hv
        cases hb : valueAt vb k with
        | none => rw [hb] at rk; cases rk
        | some y' =>
          rw [hb] at rk
          obtain ⟨tj, rfl⟩ := (show ∃ t, y' = Value.int j t from rk)
          have e2 : decide ((some (V.int j) : Option V) = some (V.int i)) = (i == j) := by
            by_cases h : i = j
            · subst h; simp
            · rw [decide_eq_false (by intro z; injection z with z; injection z with z; exact h z.symm), beq_eq_false_iff_ne.mpr h]
          rw [e2]
          exact .hit hb (SeqAt.EqAt.int_int _ _ _ _) ih
def rEqDI : R2 := fun x y H Q => ∃ a b ks ls, x = .ref a ∧ y = .ref b ∧ H a = some (.dK (dI ks)) ∧ H b = some (.dK (dI ls)) ∧ Q (.bl (decide (ks.length = ls.length) && eqDI ks ls)) H
theorem op_eqDI {X : Cx} (hu : X.A.units < cLine) : OpR X (compareOp .Eq) rEqDI := by
  intro pins s σ H x y v u Q I rx ry h
  obtain ⟨a, b, ks, ls, rfl, rfl, ea, eb, q⟩ := h
  cases (show v = Value.ref a from rx)
  cases (show u = Value.ref b from ry)
  obtain ⟨_, ya, va, ra, da⟩ := (show ObjOk X.prog X.w H s.heap a (.dK (dI ks)) from I.hok a _ ea)
  obtain ⟨_, yb, vb, rb, db⟩ := (show ObjOk X.prog X.w H s.heap b (.dK (dI ls)) from I.hok b _ eb)
  refine PySem.W.keq_eq (knd := mixKind X.prog X.w) (r := eqDI ks ls) ya yb da db hu (fun _ => hits_int rb ra) ?_
  have e : (va.length == vb.length) = decide (ks.length = ls.length) := by
    have h1 : va.length = ks.length := by rw [← ra.length, List.length_map]
    have h2 : vb.length = ls.length := by rw [← rb.length, List.length_map]
    rw [h1, h2]
    rfl
  rw [e]
  exact ⟨.bl _, H, I, rfl, q⟩
end EL
namespace EL
open PySem PySem.Spec PyProof.Rows L2 He TL
/-! ### objects that are there -/
def Al (M : List Addr) (H : Hp) : Prop := ∀ a ∈ M, ∃ o, H a = some o
theorem Al.out {M : List Addr} {H : Hp} {a : Addr} (h : Al M H) (n : H a = none) : a ∉ M := fun z => by obtain ⟨o, e⟩ := h a z; rw [n] at e; cases e
theorem Al.same {M : List Addr} {H H' : Hp} (h : Al M H) (s : Same H H') : Al M H' := fun a ha => let ⟨o, e⟩ := h a ha; ⟨o, s _ _ e⟩
theorem Al.md {M S : List Addr} {H H' : Hp} (h : Al M H) (m : Md S H H') (k : Al S H') : Al M H' := fun a ha => by
  by_cases z : a ∈ S
  · exact k a z
  · obtain ⟨o, e⟩ := h a ha
    exact ⟨o, m.out _ _ e z⟩
theorem Al.sub {M M' : List Addr} {H : Hp} (h : Al M H) (k : ∀ b ∈ M', b ∈ M) : Al M' H := fun a ha => h a (k a ha)
theorem free_md {S : List Addr} {H H' : Hp} {a : Addr} (m : Md S H H') (k : Al S H') (n : H' a = none) : H a = none := by
  cases hh : H a with
  | none => rfl
  | some o =>
    by_cases z : a ∈ S
    · obtain ⟨o', e⟩ := k a z
      rw [n] at e; cases e
    · rw [m.out _ _ hh z] at n; cases n
theorem al1 {a : Addr} {H : Hp} {o : HO} (h : H a = some o) : Al [a] H := fun b hb => by cases List.mem_singleton.mp hb; exact ⟨o, h⟩
theorem al_cons {a : Addr} {S : List Addr} {H : Hp} {o : HO} (h : H a = some o) (k : Al S H) : Al (a :: S) H := fun b hb => (List.mem_cons.mp hb).elim (fun e => e ▸ ⟨o, h⟩) (k b)
theorem al_nil {H : Hp} : Al [] H := fun b hb => by cases hb
theorem not1 {a b : Addr} (h : a ≠ b) : a ∉ [b] := by simp [h]
theorem not2 {a b c : Addr} (h : a ≠ b) (h2 : a ≠ c) : a ∉ [b, c] := by simp [h, h2]
theorem Src.md {H H' : Hp} {p l : Addr} {S : List Addr} (h : Src H p l) (m : Md S H H') (h1 : p ∉ S) (h2 : l ∉ S) : Src H' p l := by
  obtain ⟨ns, i, c, r, k1, k2, h3⟩ := h
  exact ⟨ns, i, c, r, m.out _ _ k1 h1, m.out _ _ k2 h2, h3⟩
/-! ### data whose lists are not in S -/
mutual
inductive DpX (K : PySem.W.Frag) (S : List Addr) (H : Hp) : V → PyData → Prop
  | non : DpX K S H .non .none
  | bl (b : Bool) : DpX K S H (.bl b) (.bool b)
  | int (i : Int) : DpX K S H (.int i) (.int i)
  | str (x : Str) : DpX K S H (.str x) (.str x)
  | lst {a : Addr} {xs : List V} {ds : List PyData} : H a = some (.lst xs) → a ∉ S → DpXs K S H xs ds → DpX K S H (.ref a) (.list ds)
  | tup {a : Addr} {xs : List V} {ds : List PyData} : SqT K H a xs → DpXs K S H xs ds → DpX K S H (.ref a) (.tuple ds)
inductive DpXs (K : PySem.W.Frag) (S : List Addr) (H : Hp) : List V → List PyData → Prop
  | nil : DpXs K S H [] []
  | cons {v : V} {d : PyData} {vs : List V} {ds : List PyData} : DpX K S H v d → DpXs K S H vs ds → DpXs K S H (v :: vs) (d :: ds)
end
section
variable {K : PySem.W.Frag} {S S' : List Addr} {H H' : Hp}
mutual
theorem DpX.dp : ∀ {d : PyData} {v : V}, DpX K S H v d → Dp K H v d
  | _, _, .non => .non
  | _, _, .bl b => .bl b
  | _, _, .int i => .int i
  | _, _, .str x => .str x
  | _, _, .lst h _ a => .lst (SqL.of h) (DpXs.dp a)
  | _, _, .tup h a => .tup h (DpXs.dp a)
theorem DpXs.dp : ∀ {ds : List PyData} {vs : List V}, DpXs K S H vs ds → DpAll K H vs ds
  | _, _, .nil => .nil
  | _, _, .cons a b => .cons (DpX.dp a) (DpXs.dp b)
end
mutual
theorem DpX.md (m : Md S H H') : ∀ {d : PyData} {v : V}, DpX K S H v d → DpX K S H' v d
  | _, _, .non => .non
  | _, _, .bl b => .bl b
  | _, _, .int i => .int i
  | _, _, .str x => .str x
  | _, _, .lst h n a => .lst (m.out _ _ h n) n (DpXs.md m a)
  | _, _, .tup h a => .tup (m.sqT h) (DpXs.md m a)
theorem DpXs.md (m : Md S H H') : ∀ {ds : List PyData} {vs : List V}, DpXs K S H vs ds → DpXs K S H' vs ds
  | _, _, .nil => .nil
  | _, _, .cons a b => .cons (DpX.md m a) (DpXs.md m b)
end
theorem DpX.same {d : PyData} {v : V} (s : Same H H') (h : DpX K S H v d) : DpX K S H' v d := h.md (.of s)
theorem DpXs.same {ds : List PyData} {vs : List V} (s : Same H H') (h : DpXs K S H vs ds) : DpXs K S H' vs ds := h.md (.of s)
mutual
theorem DpX.re (hm : ∀ b, b ∉ S → (∃ o, H b = some o) → b ∉ S') : ∀ {d : PyData} {v : V}, DpX K S H v d → DpX K S' H v d
  | _, _, .non => .non
  | _, _, .bl b => .bl b
  | _, _, .int i => .int i
  | _, _, .str x => .str x
  | _, _, .lst h n a => .lst h (hm _ n ⟨_, h⟩) (DpXs.re hm a)
  | _, _, .tup h a => .tup h (DpXs.re hm a)
theorem DpXs.re (hm : ∀ b, b ∉ S → (∃ o, H b = some o) → b ∉ S') : ∀ {ds : List PyData} {vs : List V}, DpXs K S H vs ds → DpXs K S' H vs ds
  | _, _, .nil => .nil
  | _, _, .cons a b => .cons (DpX.re hm a) (DpXs.re hm b)
end
theorem DpX.sub {d : PyData} {v : V} (h : DpX K S H v d) (k : ∀ b ∈ S', b ∈ S) : DpX K S' H v d := h.re fun b n _ z => n (k b z)
/-- one more place, which was not there -/
theorem DpX.more {d : PyData} {v : V} {p : Addr} (h : DpX K S H v d) (n : H p = none) : DpX K (p :: S) H v d := h.re fun b nb ⟨o, e⟩ z => (List.mem_cons.mp z).elim (fun e2 => by rw [e2, n] at e; cases e) nb
mutual
theorem DpX.of : ∀ {d : PyData} {v : V}, noL d = true → Dp K H v d → DpX K S H v d
  | _, _, _, .non => .non
  | _, _, _, .bl b => .bl b
  | _, _, _, .int i => .int i
  | _, _, _, .str x => .str x
  | _, _, n, .lst h a => by cases n
  | _, _, n, .tup h a => .tup h (DpXs.of n a)
theorem DpXs.of : ∀ {ds : List PyData} {vs : List V}, noLs ds = true → DpAll K H vs ds → DpXs K S H vs ds
  | _, _, _, .nil => .nil
  | _, _, n, .cons a b => .cons (DpX.of (Bool.and_eq_true_iff.mp n).1 a) (DpXs.of (Bool.and_eq_true_iff.mp n).2 b)
end
theorem DpXs.length : ∀ {ds : List PyData} {vs : List V}, DpXs K S H vs ds → vs.length = ds.length
  | _, _, .nil => rfl
  | _, _, .cons _ b => congrArg Nat.succ (DpXs.length b)
theorem DpXs.get : ∀ {ds : List PyData} {vs : List V} {i : Nat} {v : V}, DpXs K S H vs ds → vs[i]? = some v → ∃ d, ds[i]? = some d ∧ DpX K S H v d
  | _, _, 0, _, .cons a b, e => by cases e; exact ⟨_, rfl, a⟩
  | _, _, i + 1, _, .cons a b, e => DpXs.get (i := i) b e
theorem DpXs.at {ds : List PyData} {vs : List V} {n : Int} (h : DpXs K S H vs ds) (h0 : 0 ≤ n) (h1 : n < (ds.length : Nat)) : ∃ v d, atI vs n = some v ∧ ds[n.toNat]? = some d ∧ d ∈ ds ∧ DpX K S H v d := by
  obtain ⟨k, rfl⟩ := Int.eq_ofNat_of_zero_le h0
  have hk : k < vs.length := by rw [h.length]; omega
  have e := List.getElem?_eq_getElem hk
  obtain ⟨d, e2, x⟩ := h.get e
  exact ⟨vs[k], d, atI_nat e, e2, List.mem_of_getElem? e2, x⟩
theorem DpXs.snoc {v : V} {d : PyData} (k : DpX K S H v d) : ∀ {ds : List PyData} {vs : List V}, DpXs K S H vs ds → DpXs K S H (vs ++ [v]) (ds ++ [d])
  | _, _, .nil => .cons k .nil
  | _, _, .cons a b => .cons a (DpXs.snoc k b)
theorem DpX.lst_inv {v : V} {ds : List PyData} (h : DpX K S H v (.list ds)) : ∃ a xs, v = .ref a ∧ H a = some (.lst xs) ∧ a ∉ S ∧ DpXs K S H xs ds := by
  cases h with
  | lst h n a => exact ⟨_, _, rfl, h, n, a⟩
theorem DpX.tup_inv {v : V} {ds : List PyData} (h : DpX K S H v (.tuple ds)) : ∃ a xs, v = .ref a ∧ SqT K H a xs ∧ DpXs K S H xs ds := by
  cases h with
  | tup h a => exact ⟨_, _, rfl, h, a⟩
end
/-! ### written data -/
section
variable {X : Cx}
theorem pe_imp {e : Expr} {t t' : TE} (h : PE X e t) (k : ∀ σ H Q, t' σ H Q → t σ H Q) : PE X e t' := ⟨fun pins s σ H Q I q => h.run pins s σ H Q I (k σ H Q q)⟩
theorem pa_imp {es : List Expr} {t t' : TA} (h : PA X es t) (k : ∀ σ H Q, t' σ H Q → t σ H Q) : PA X es t' := ⟨fun pos pins s σ H Q I q => h.run pos pins s σ H Q I (k σ H Q q)⟩
def tLit (K : PySem.W.Frag) (d : PyData) : TE := fun _ H Q => ∀ v H', Same H H' → (∀ S, Al S H → DpX K S H' v d) → Q v H'
def tLits (K : PySem.W.Frag) (ds : List PyData) : TA := fun _ H Q => ∀ vs H', Same H H' → (∀ S, Al S H → DpXs K S H' vs ds) → Q vs H'
theorem lit_n {j pos} : PE X (.Constant .none j pos) (tLit X.K .none) := pe_imp pe_non fun _ H Q h => h _ _ (.refl _) fun _ _ => .non
theorem lit_b {b j pos} : PE X (.Constant (.bool b) j pos) (tLit X.K (.bool b)) := pe_imp pe_bl fun _ H Q h => h _ _ (.refl _) fun _ _ => .bl b
theorem lit_i {i j pos} : PE X (.Constant (.int i) j pos) (tLit X.K (.int i)) := pe_imp pe_int fun _ H Q h => h _ _ (.refl _) fun _ _ => .int i
theorem lit_s {z j pos} : PE X (.Constant (.str z) j pos) (tLit X.K (.str z)) := pe_imp pe_str fun _ H Q h => h _ _ (.refl _) fun _ _ => .str z
/-- an expression that is an int -/
theorem lit_e {e : Expr} {t : TE} (i : Int) (h : PE X e t) (k : ∀ σ H (Q : VK), Q (.int i) H → t σ H Q) : PE X e (tLit X.K (.int i)) := pe_imp h fun σ H Q q => k σ H Q (q _ _ (.refl _) fun _ _ => .int i)
theorem lits_nil : PA X [] (tLits X.K []) := pa_imp pa_nil fun _ H Q h => h _ _ (.refl _) fun _ _ => .nil
theorem lits_cons {e : Expr} {es : List Expr} {d : PyData} {ds : List PyData} (h : PE X e (tLit X.K d)) (r : PA X es (tLits X.K ds)) (hs : starEach (e :: es) X.env = (false, eval e X.env) :: starEach es X.env := by rfl) : PA X (e :: es) (tLits X.K (d :: ds)) :=
  pa_imp (pa_cons h r hs) fun _ H Q q v H1 s1 h1 vs H2 s2 h2 => q _ _ (s1.trans s2) fun S al => .cons ((h1 S al).same s2) (h2 S (al.same s1))
theorem lit_t {es : List Expr} {ds : List PyData} {x1 pos} (h : PA X es (tLits X.K ds)) (hl : ds.length ≤ 1000 := by decide) : PE X (.Tuple es x1 pos) (tLit X.K (.tuple ds)) :=
  pe_imp (pe_tup h) fun _ H Q q vs H1 s1 h1 => by
    have l := (h1 [] al_nil).length
    refine ⟨Nat.le_trans (by rw [l]; exact hl) (by decide), fun p np => q _ _ (s1.trans (same_upd np)) fun S al => .tup (SqT.of upd_same) ((h1 S al).same (same_upd np))⟩
theorem lit_l {es : List Expr} {ds : List PyData} {pos} (h : PA X es (tLits X.K ds)) (hl : ds.length ≤ 1000 := by decide) : PE X (.List es pos) (tLit X.K (.list ds)) :=
  pe_imp (pe_lst h) fun _ H Q q vs H1 s1 h1 => by
    have l := (h1 [] al_nil).length
    refine ⟨Nat.le_trans (by rw [l]; exact hl) (by decide), fun p np => q _ _ (s1.trans (same_upd np)) fun S al => .lst upd_same ((al.same s1).out np) ((h1 S al).same (same_upd np))⟩
end
/-! ### calls with keywords that let out by the slots -/
section
variable {X : Cx} {CX : CXT} {k n : Nat} {f : Addr} {fd : FuncData} {ps ks : List Str} {sp : Sp} {E : L2.St → XK} {x : Str} {p pos : Pos} {e : Expr} {es : List Expr} {kws : List Keyword} {t tk : TA} {g : List Value → List Value → List Value} {gV : List V → List V → List V}
def tCallNE (n m : Nat) (sp : Sp) (gV : List V → List V → List V) (E : L2.St → XK) (t tk : TA) : TE := fun σ H Q => t σ H fun vs H1 => tk σ H1 fun zs H2 => vs.length = n ∧ zs.length = m ∧ sp (gV vs zs) H2 Q (E σ)
theorem run_fnNE {pins : List (Addr × Obj)} {σ : L2.St} {H : Hp} {s : Shared} {Q : VK} {us ws : List Value} {vs zs : List V} (F : FnOk X.prog X.w X.K X.mg X.base CX k f fd ps sp) (hr : Room k X.A) (hb : KBn X.K fd ps n ks g gV) (hx : PassesAt CX X σ (E σ))
    (I : Inv X pins σ H s) (r : Vals vs us) (rz : Vals zs ws) (l1 : vs.length = n) (l2 : zs.length = ks.length) (h : sp (gV vs zs) H Q (E σ)) : wpAny (model X.prog X.w) X.A (call (.ref f) us (ks.zip ws)) (EP X pins σ Q) X.xe s := by
  have r2 := hb.rel r rz
  refine wpAny_call (codeAny_mono (F.run X.A X.stack s H ⟨us, ks.zip ws⟩ (g us ws) (gV vs zs) Q (E σ) hr I.env0 (hb.to s us ws I.kIn (r.length.symm.trans l1) (rz.length.symm.trans l2)) r2 h) fun r s' hq => ?_)
  cases r with
  | error e => exact hx pins H s e s' I hq
  | ok fl =>
    cases fl with
    | ret u => exact I.after hq
    | next => exact False.elim hq
    | brk => exact False.elim hq
    | cont => exact False.elim hq
theorem pe_callNE (F : FnOk X.prog X.w X.K X.mg X.base CX k f fd ps sp) (hr : Room k X.A) (hm : X.mg x = some (.ref f)) (hk : PySem.W.keepIn X.K (.ref f) = true) (hb : KBn X.K fd ps n ks g gV) (hx : ∀ σ, PassesAt CX X σ (E σ))
    (ha : PA X (e :: es) t) (hkw : PK X kws tk) (hg : Gl X x := by rfl) (hall : (backToKw pos (keywordEach kws X.env)).all (·.1.isSome) = true := by rfl) (hks : (backToKw pos (keywordEach kws X.env)).filterMap (·.1) = ks := by rfl)
    (hdb : (x == ("__debug__" : Str)) = false := by decide) (he : starEach (e :: es) X.env = (false, eval e X.env) :: starEach es X.env := by rfl)
    (hpl : ((backTo pos (starEach (e :: es) X.env)).any (·.1) || (backToKw pos (keywordEach kws X.env)).any (·.1.isNone)) = false := by rfl) :
    PE X (.Call (.Name x p) (e :: es) kws pos) (tCallNE n ks.length sp gV E t tk) := by
  refine ⟨fun pins s σ H Q I h => ?_⟩
  refine wpAny_Call_Name_kw (ld_glob I hg hm ?_ hdb)
  refine PySem.W.callWith_KW (h₀ := X.base) I.ok.mod.kin hk hall (thn (ha.run pos pins s σ H _ I h) fun us s1 ⟨vs, H1, I1, r, q⟩ => ?_) hpl he
  refine thn (hkw.run pos pins s1 σ H1 _ I1 q) fun ws s2 ⟨zs, H2, I2, rz, l1, l2, q2⟩ => ⟨I2.kIn, ?_⟩
  rw [hks]
  exact run_fnNE F hr hb (hx σ) I2 r rz l1 l2 q2
end
end EL
namespace EL
open PySem PySem.Spec PyProof.Rows L2 He TL
/-! ### x != y by object.__ne__ over an own __eq__ -/
theorem one_entry : entryFor table "object.__ne__" = some Builtin.«object.__ne__» := entryFor_of_tree (by kernel_rfl)
theorem one_plain : plainId "object.__ne__" = true := by decide +kernel
theorem one_kind : builtinKind "object.__ne__" = some .slot := by decide +kernel
theorem one_split : splitId "object.__ne__" = some ("object", "__ne__") := by decide +kernel
theorem one_args (a b : Value) : argsOk "object.__ne__" ⟨[a, b], []⟩ := by unfold argsOk; kernel_rfl
theorem one_bind (self : Value) : bindSpecial (.builtin "object.__ne__") self = pure (.builtin "object.__ne__", [self]) :=
  (Slot.of (T := "object") (name := "__ne__") (owner := "object") (n := "__ne__") (by rw [typeLookup_type, builtinLookup_eq_fast]; kernel_rfl) (by decide +kernel) (by decide +kernel) (by decide +kernel)
    (.inl (by decide +kernel)) (by rw [isSubtype_type]; kernel_rfl)).bind self
section
variable {prog : Program} {w : World} {A : Around} {E : Value → Shared → Prop} {s : Shared} {K : PySem.W.Frag} {C g x : Addr} {ox : Obj} {od : Option Obj} {b tb : Value}
theorem ne_call {Q : Value → Shared → Prop} (hu : A.units + 1 < cLine) (X : K.In s.heap) (I : PySem.W.InstAt s.heap x ox C od) (ho : PySem.W.mroIn K C (.type "object") = some true) (he : PySem.W.findIn K (.ref C) "__eq__" = some (some (.ref g))) (hf : PySem.W.isFn K (.ref g) = true)
    (h : wpAny (model prog w) A.in1 (call (.ref g) [.ref x, b]) (fun v s' => ∃ k : Bool, v = .bool k ∧ Q (.bool (!k)) s') E s) : wpAny (model prog w) A (call (.builtin "object.__ne__") [.ref x, b]) Q E s := by
  have t2 : PySem.W.Looks (model prog w) s.heap (isInstance (.ref x) (.type "object")) true := I.type.andThen (PySem.W.looks_mroIn X ho)
  refine wpAny_call (codeAny_call_builtin one_plain one_entry (PySem.W.check_slot one_kind one_split t2 (one_args _ _) ?_))
  show wpAny (model prog w) A.in1 (do
    cRoomFor "comparison" [.ref x, b]
    match ← callSpecialIfBound? (.ref x) "__eq__" [b] with
    | some .notImplemented | none => ret .notImplemented
    | some r => ret (.bool (!(← truthy r)))) _ _ s
  refine wpAny_bind (wpAny_cRoomFor (show A.units + 1 < cLine from hu) (wpAny_bind (PySem.W.ifBound_K X I he hf (wpAny_mono h (fun v s' hv => ?_) fun _ _ e => e))))
  obtain ⟨k, rfl, q⟩ := hv
  exact wpAny_bind (wpAny_truthy_bool (wpAny_pure q))
theorem ne_own {Q : Value → Shared → Prop} (hu : A.units + 1 < cLine) (X : K.In s.heap) (I : PySem.W.InstAt s.heap x ox C od) (hb : PySem.W.Looks (model prog w) s.heap (typeOf b) tb) (hn : PySem.W.notFirst K C tb = true)
    (hs : PySem.W.findIn K (.ref C) "__ne__" = some (some (.builtin "object.__ne__"))) (ho : PySem.W.mroIn K C (.type "object") = some true) (he : PySem.W.findIn K (.ref C) "__eq__" = some (some (.ref g))) (hf : PySem.W.isFn K (.ref g) = true)
    (h : wpAny (model prog w) A.in1 (call (.ref g) [.ref x, b]) (fun v s' => ∃ k : Bool, v = .bool k ∧ Q (.bool (!k)) s') E s) : wpAny (model prog w) A (richCompare .NotEq (.ref x) b) Q E s := by
  have one : wpAny (model prog w) A (tryCompare (.ref x) (cmpInfo .NotEq).2.1 b) (fun r s' => ∃ v, r = some v ∧ Q v s') E s := by
    unfold tryCompare
    refine wpAny_bind ?_
    simp only [callSpecialIfBound?, bindSpecialIfBound?]
    refine wpAny_holding (wpAny_bind (wpAny_bind (wpAny_bind (I.type.here ((PySem.W.looks_findIn X hs).here ?_)))))
    refine wpAny_bind (wpAny_askSetting (wpAny_ite ?_))
    have fin : ∀ (Q' : Option Value → Shared → Prop), (∀ (k : Bool) s', Q (.bool (!k)) s' → Q' (some (.bool (!k))) s') → wpAny (model prog w) A (call (.builtin "object.__ne__") ([.ref x] ++ [b]) >>= fun v => pure (some v)) Q' E s := fun Q' hQ => wpAny_bind (wpAny_mono (ne_call (Q := fun v s' => ∃ k : Bool, v = .bool (!k) ∧ Q (.bool (!k)) s') hu X I ho he hf (wpAny_mono h (fun v s' ⟨k, e, q⟩ => ⟨k, e, k, rfl, q⟩) fun _ _ e => e)) (fun v s' ⟨k, e, q⟩ => by subst e; exact wpAny_pure (hQ k s' q)) fun _ _ e => e)
    split
    · exact wpAny_bind ((PySem.W.Looks.of_pure (one_bind _)).here (wpAny_pure (by exact fin _ fun k s' q => wpAny_pure ⟨_, rfl, q⟩)))
    · exact wpAny_tryCatch (wpAny_bind ((PySem.W.Looks.of_pure (one_bind _)).here (wpAny_pure (by exact fin _ fun k s' q => wpAny_pure ⟨_, rfl, q⟩))))
  unfold richCompare
  simp only [oneThing_ref]
  refine wpAny_holding (wpAny_bind (wpAny_cRoomFor (by omega) ?_))
  refine wpAny_bind (I.type.here (wpAny_bind (hb.here ?_)))
  split
  · rename_i q
    have e : PySem.W.subIn K tb (.ref C) = some false := by
      rcases Bool.or_eq_true_iff.mp hn with e | e
      · rw [beq_iff_eq.mp e] at q; simp at q
      · exact beq_iff_eq.mp e
    refine wpAny_bind ((PySem.W.looks_subIn X e).here ?_)
    simp only [Bool.false_eq_true, if_false]
    refine wpAny_bind (wpAny_mono one (fun r s' z => ?_) fun _ _ e => e)
    obtain ⟨v, rfl, hq⟩ := z
    exact wpAny_pure hq
  · refine wpAny_bind (wpAny_pure ?_)
    simp only [Bool.false_eq_true, if_false]
    refine wpAny_bind (wpAny_mono one (fun r s' z => ?_) fun _ _ e => e)
    obtain ⟨v, rfl, hq⟩ := z
    exact wpAny_pure hq
end
section
variable {X : Cx} {CX : CXT} {k : Nat} {C g : Addr} {sp : Sp} {E : XK}
def rNeO (K : PySem.W.Frag) (C : Addr) (sp : Sp) (E : XK) : R2 := fun x y H Q => ∃ a dx fs t, x = .ref a ∧ H a = some (.ins C dx fs) ∧ TyX K H y t ∧ PySem.W.notFirst K C t = true ∧ sp [x, y] H (fun z H' => ∃ b : Bool, z = .bl b ∧ Q (.bl (!b)) H') E
theorem op_neO (c : OC X.K C) (hn : PySem.W.findIn X.K (.ref C) "__ne__" = some (some (.builtin "object.__ne__"))) (hs : PySem.W.findIn X.K (.ref C) "__eq__" = some (some (.ref g))) (hf : PySem.W.isFn X.K (.ref g) = true) (F : FnR X.prog X.w X.K X.mg X.base CX k g sp)
    (hr : Room (k + 1) X.A) (hx : Passes CX X E) : OpR X (compareOp .NotEq) (rNeO X.K C sp E) := by
  intro pins s σ H x y v u Q I rx ry h
  obtain ⟨a, dx, fs, t, rfl, ha, ty, hnf, q⟩ := h
  cases (show v = Value.ref a from rx)
  obtain ⟨ox, od, J, _⟩ := ins_at I ha
  obtain ⟨P, Z, p, _⟩ := kit_of I ry ty
  show wpAny _ X.A (richCompare .NotEq (.ref a) u) _ _ s
  refine ne_own (tb := t) (by have := hr.units; omega) I.kIn J (Z.ty _ _ I.kIn p) hnf hn c.ob hs hf ?_
  refine wpAny_mono (wpAny_call (SlX.run_at (us := [.ref a, u]) (ws := [.ref a, y]) F (Room.in1 hr) I.env0.in1 hx I (.cons rfl (.cons ry .nil)) q)) (fun w s' z => ?_) fun _ _ x => x
  obtain ⟨z', H', I', rz, b, eb, qz⟩ := z
  subst eb
  cases (show w = Value.bool b from rz)
  exact ⟨b, rfl, .bl (!b), H', I', rfl, qz⟩
end
end EL
namespace EL
open PySem PySem.Spec PyProof.Rows L2 He TL
/-! ### the head, its fragment by a written list of addresses -/
def obsZG (as : List Addr) (fa : List Fa) (fn : List DefE) (xn : List DefX) (ts : List Tab) (ex : PySem.W.Frag → Bool) (g : Addr → Option Obj) : AlY := obsY fa fn xn ts ex (frG g as)
def hookZ (as : List Addr) (fa : List Fa) (fn : List DefE) (xn : List DefX) (ts : List Tab) (ex : PySem.W.Frag → Bool) : PySem.W.Hook where
  α := AlY
  obs := fun s => obsZG as fa fn xn ts ex s.heap.get?
  val := fun w => valY fn xn ts w
  says := fun w h => ∃ K : PySem.W.Frag, K.In h ∧ SaysY fa fn xn ts ex w K
  of := fun _ _ e => ⟨_, frG_in, e⟩
  keeps := fun _ _ _ ⟨K, hK, c⟩ k => ⟨K, PySem.W.Frag.In.keeps hK k, c⟩
theorem obsZG_eq {as : List Addr} {fa : List Fa} {fn : List DefE} {xn : List DefX} {ts : List Tab} {ex : PySem.W.Frag → Bool} {g : Addr → Option Obj} {s : Shared} (h : ∀ a, g a = s.heap.get? a) : obsZG as fa fn xn ts ex g = (hookZ as fa fn xn ts ex).obs s := by
  have e : g = s.heap.get? := funext h
  rw [e] <;> rfl
end EL
namespace EL
open PySem PySem.Spec PyProof.Rows L2 He TL
open AutoSeq1 (wpAny_loadPart')
open MeetsSeq MeetsSeq2 MeetsSeq3 SeqRoads2
/-! ### x in xs, xs == ys where == is an own def: G is kept -/
def EqG (prog : Program) (w : World) (A : Around) (G : Shared → Prop) (E : Value → Shared → Prop) (y x : Value) (b : Bool) : Prop := ∀ (s : Shared) (Q : Bool → Shared → Prop), G s → (∀ s', G s' → Q b s') → wpAny (model prog w) A (eqBool y x) Q E s
theorem contains_loopG {prog : Program} {w : World} (G : Shared → Prop) (l : Addr) (items : List Value) (x : Value) (e : Nat → Bool) (k : Nat) :
    ∀ i : Nat, items.length - i = k → MeetsIn prog w (Builtin.«list.__contains__.loop» ⟨[.ref l, x, rawInt i], []⟩)
      (fun A R s => G s ∧ (∀ s, G s → ∃ n, s.heap.get? l = some { cls := .type "list", data := .seq items.toArray n }) ∧ (∀ j y, items[j]? = some y → EqG prog w A.in1 G (fun e s' => R (.error e) s') y x (e j)) ∧ ∀ s', G s' → R (.ok (.ret (.bool (((List.range items.length).drop i).any e)))) s') := by
  induction k with
  | zero =>
    intro i hk A R s h
    obtain ⟨g, hl, he, h⟩ := h
    obtain ⟨n, hl⟩ := hl s g
    have h := h s g
    obtain ⟨hp, gg, d, tk, os⟩ := s
    wp_walk using wpAny_loadPart' hl
    have hi : items.toArray[((i : Nat) : Int).toNat]? = none := by simp; omega
    have hd : (List.range items.length).drop i = [] := by simp; omega
    rw [hd] at h
    rw [hi]
    wp_walk
    exact h
  | succ k ih =>
    intro i hk A R s h
    obtain ⟨g, hl, he, h⟩ := h
    obtain ⟨n, hl0⟩ := hl s g
    have g0 := g
    obtain ⟨hp, gg, d, tk, os⟩ := s
    wp_walk using wpAny_loadPart' hl0
    have hlt : i < items.length := by omega
    have hi : items.toArray[((i : Nat) : Int).toNat]? = some items[i] := by simp [hlt]
    have hd : (List.range items.length).drop i = i :: (List.range items.length).drop (i + 1) := by simp [List.drop_eq_getElem_cons, hlt]
    rw [hd] at h
    simp only [List.any_cons] at h
    rw [hi]
    refine wpAny_bind (he i _ (List.getElem?_eq_getElem hlt) _ _ g0 fun s1 g1 => ?_)
    cases hb : e i with
    | true =>
      have h := h s1 g1
      rw [hb] at h
      obtain ⟨hp, gg, d, tk, os⟩ := s1
      wp_walk
      exact h
    | false =>
      simp only [hb, Bool.false_or] at h
      have hc : ((i : Int) + 1) = ((i + 1 : Nat) : Int) := by push_cast; rfl
      obtain ⟨hp, gg, d, tk, os⟩ := s1
      wp_walk
      rw [hc]
      exact ⟨plainId_quiet plain_contains_loop _, codeAny_builtin entry_contains_loop (by
        rw [Around.under_plainId plain_contains_loop _]
        exact ih (i + 1) (by omega) A R _ ⟨g1, hl, he, h⟩)⟩
theorem containsG {prog : Program} {w : World} (G : Shared → Prop) (l : Addr) (items : List Value) (x : Value) (e : Nat → Bool) : MeetsIn prog w (Builtin.«list.__contains__» ⟨[.ref l, x], []⟩)
      (fun A R s => G s ∧ (∀ s, G s → ∃ n, s.heap.get? l = some { cls := .type "list", data := .seq items.toArray n }) ∧ (∀ j y, items[j]? = some y → EqG prog w A.in1 G (fun e s' => R (.error e) s') y x (e j)) ∧ ∀ s', G s' → R (.ok (.ret (.bool ((List.range items.length).any e)))) s') := by
  intro A R s h
  obtain ⟨g, hl, he, h⟩ := h
  obtain ⟨hp, gg, d, tk, os⟩ := s
  wp_walk
  exact ⟨plainId_quiet plain_contains_loop _, codeAny_builtin entry_contains_loop (by
    rw [Around.under_plainId plain_contains_loop _]
    exact contains_loopG G l items x e _ 0 rfl A R _ ⟨g, hl, he, h⟩)⟩
theorem eq_loopG {prog : Program} {w : World} (G : Shared → Prop) (l b : Addr) (items items2 : List Value) (hsz : items.length = items2.length) (e : Nat → Bool) (k : Nat) :
    ∀ i : Nat, items.length - i = k → MeetsIn prog w (Builtin.«list.__eq__.loop» ⟨[.ref l, .ref b, rawInt i, rawInt 2], []⟩)
      (fun A R s => G s ∧ (∀ s, G s → ∃ n, s.heap.get? l = some { cls := .type "list", data := .seq items.toArray n }) ∧ (∀ s, G s → ∃ n, s.heap.get? b = some { cls := .type "list", data := .seq items2.toArray n }) ∧
        (∀ j x y, items[j]? = some x → items2[j]? = some y → EqG prog w A.in1 G (fun e s' => R (.error e) s') x y (e j)) ∧ ∀ s', G s' → R (.ok (.ret (.bool (((List.range items.length).drop i).all e)))) s') := by
  induction k with
  | zero =>
    intro i hk A R s h
    obtain ⟨g, hl, hb, he, h⟩ := h
    obtain ⟨n, hl⟩ := hl s g
    obtain ⟨n2, hb⟩ := hb s g
    have h := h s g
    obtain ⟨hp, gg, d, tk, os⟩ := s
    wp_walk using wpAny_loadPart' hl, wpAny_loadPart' hb
    have hi1 : items.toArray[((i : Nat) : Int).toNat]? = none := by simp; omega
    have hi2 : items2.toArray[((i : Nat) : Int).toNat]? = none := by simp; omega
    have hd : (List.range items.length).drop i = [] := by simp; omega
    rw [hd] at h
    rw [hi1, hi2]
    wp_walk using wpAny_loadPart' hl, wpAny_loadPart' hb
    show R (.ok (.ret (.bool (items.toArray.size == items2.toArray.size)))) _
    simpa [hsz] using h
  | succ k ih =>
    intro i hk A R s h
    obtain ⟨g, hl, hb, he, h⟩ := h
    obtain ⟨n, hl0⟩ := hl s g
    obtain ⟨n2, hb0⟩ := hb s g
    have g0 := g
    obtain ⟨hp, gg, d, tk, os⟩ := s
    wp_walk using wpAny_loadPart' hl0, wpAny_loadPart' hb0
    have hlt : i < items.length := by omega
    have hlt2 : i < items2.length := by omega
    have hi1 : items.toArray[((i : Nat) : Int).toNat]? = some items[i] := by simp [hlt]
    have hi2 : items2.toArray[((i : Nat) : Int).toNat]? = some items2[i] := by simp [hlt2]
    have hd : (List.range items.length).drop i = i :: (List.range items.length).drop (i + 1) := by simp [List.drop_eq_getElem_cons, hlt]
    have hc : ((i : Int) + 1) = ((i + 1 : Nat) : Int) := by push_cast; rfl
    rw [hd] at h
    simp only [List.all_cons] at h
    rw [hi1, hi2]
    refine wpAny_bind (he i _ _ (List.getElem?_eq_getElem hlt) (List.getElem?_eq_getElem hlt2) _ _ g0 fun s1 g1 => ?_)
    cases hb' : e i with
    | true =>
      simp only [hb', Bool.true_and] at h
      obtain ⟨hp, gg, d, tk, os⟩ := s1
      wp_walk
      rw [hc]
      exact ⟨plainId_quiet plain_eq_loop _, codeAny_builtin entry_eq_loop (by
        rw [Around.under_plainId plain_eq_loop _]
        exact ih (i + 1) (by omega) A R _ ⟨g1, hl, hb, he, h⟩)⟩
    | false =>
      have h := h s1 g1
      rw [hb'] at h
      obtain ⟨n3, hl1⟩ := hl s1 g1
      obtain ⟨n4, hb1⟩ := hb s1 g1
      obtain ⟨hp, gg, d, tk, os⟩ := s1
      wp_walk using wpAny_loadPart' hl1, wpAny_loadPart' hb1
      rw [hi1, hi2]
      wp_walk
      simpa using h
theorem eqG {prog : Program} {w : World} (G : Shared → Prop) (l b : Addr) (items items2 : List Value) (e : Nat → Bool) : MeetsIn prog w (Builtin.«list.__eq__» ⟨[.ref l, .ref b], []⟩)
      (fun A R s => G s ∧ (∀ s, G s → ∃ n, s.heap.get? l = some { cls := .type "list", data := .seq items.toArray n }) ∧ (∀ s, G s → ∃ n, s.heap.get? b = some { cls := .type "list", data := .seq items2.toArray n }) ∧
        (∀ j x y, items[j]? = some x → items2[j]? = some y → EqG prog w A.in1 G (fun e s' => R (.error e) s') x y (e j)) ∧ ∀ s', G s' → R (.ok (.ret (.bool (decide (items.length = items2.length) && (List.range items.length).all e)))) s') := by
  intro A R s h
  obtain ⟨g, hl, hb, he, h⟩ := h
  obtain ⟨n, hl0⟩ := hl s g
  obtain ⟨n2, hb0⟩ := hb s g
  have g0 := g
  have f3 := AutoSeq1.sub_list_list
  by_cases hsz : items.length = items2.length
  · simp only [decide_eq_true hsz, Bool.true_and] at h
    obtain ⟨hp, gg, d, tk, os⟩ := s
    have hne : ¬ (items.toArray.size != items2.toArray.size) = true := by simp [hsz]
    wp_walk using wpAny_loadPart' hl0, wpAny_loadPart' hb0
    exact ⟨plainId_quiet plain_eq_loop _, codeAny_builtin entry_eq_loop (by
      rw [Around.under_plainId plain_eq_loop _]
      exact eq_loopG G l b items items2 hsz e _ 0 rfl A R _ ⟨g0, hl, hb, he, h⟩)⟩
  · have h := h s g
    rw [decide_eq_false hsz, Bool.false_and] at h
    obtain ⟨hp, gg, d, tk, os⟩ := s
    have hc0 : (items.toArray.size != items2.toArray.size) = true := by simp [hsz]
    wp_walk using wpAny_loadPart' hl0, wpAny_loadPart' hb0
    exact h
end EL
namespace EL
open PySem PySem.Spec PyProof.Rows L2 He TL
theorem range_any {α : Type} {f : α → Bool} {e : Nat → Bool} : ∀ {l : List α}, (∀ i a, l[i]? = some a → e i = f a) → (List.range l.length).any e = l.any f := by
  intro l
  induction l generalizing e with
  | nil => intro _; rfl
  | cons x r ih =>
    intro h
    rw [List.length_cons, List.range_succ_eq_map, List.any_cons, List.any_map, List.any_cons, h 0 x rfl, ih (e := e ∘ Nat.succ) fun i a ha => h (i + 1) a ha]
theorem range_all {α : Type} {f : α → Bool} {e : Nat → Bool} : ∀ {l : List α}, (∀ i a, l[i]? = some a → e i = f a) → (List.range l.length).all e = l.all f := by
  intro l
  induction l generalizing e with
  | nil => intro _; rfl
  | cons x r ih =>
    intro h
    rw [List.length_cons, List.range_succ_eq_map, List.all_cons, List.all_map, List.all_cons, h 0 x rfl, ih (e := e ∘ Nat.succ) fun i a ha => h (i + 1) a ha]
theorem vals_refs : ∀ {ss : List Addr} {us : List Value}, Vals (ss.map V.ref) us → us = ss.map Value.ref
  | [], _, .nil => rfl
  | a :: r, _, .cons h t => by
    cases (show _ = Value.ref a from h)
    rw [vals_refs t]
    rfl
section
variable {X : Cx} {CX : CXT} {k : Nat} {C g : Addr} {sp : Sp} {E : XK}
def OwnEq1 (K : PySem.W.Frag) (C : Addr) (sp : Sp) (E : XK) (H : Hp) (a b : Addr) (e : Bool) : Prop := (a = b → e = true) ∧ ∃ dx fs t, H a = some (.ins C dx fs) ∧ TyX K H (.ref b) t ∧ PySem.W.notFirst K C t = true ∧ sp [.ref a, .ref b] H (fun z H' => z = .bl e ∧ H = H') E
theorem eqG_own (hs : PySem.W.findIn X.K (.ref C) "__eq__" = some (some (.ref g))) (hf : PySem.W.isFn X.K (.ref g) = true) (F : FnR X.prog X.w X.K X.mg X.base CX k g sp) (hr : Room (k + 1) X.A) (hx : Passes CX X E) {pins : List (Addr × Obj)} {σ : L2.St} {H : Hp} {a b : Addr} {e : Bool}
    (h : OwnEq1 X.K C sp E H a b e) : EqG X.prog X.w X.A.in1 (Inv X pins σ H) X.xe (.ref a) (.ref b) e := by
  intro s Q I q
  obtain ⟨h1, dx, fs, t, ha, ty, hn, hsp⟩ := h
  unfold eqBool
  refine wpAny_holding ?_
  refine wpAny_ite_split (fun hab => ?_) (fun _ => ?_)
  · have := eq_of_beq hab
    injection this with this
    rw [h1 this] at q
    exact wpAny_bind (wpAny_rule (wpAny_pure (q s I)))
  · obtain ⟨ox, od, J, _⟩ := ins_at I ha
    obtain ⟨P, Z, p, _⟩ := kit_of I (show RelV (.ref b) (.ref b) from rfl) ty
    obtain ⟨m, hF⟩ := I.fr
    refine wpAny_bind (PySem.W.cmp_K (op := .Eq) (tb := t) (by show X.A.units + 1 < cLine; have := hr.units; omega) hF I.ok.mod.kin J (Z.ty _ _ I.kIn p) hn hs hf ?_)
    refine wpAny_mono (wpAny_call (SlX.run_at (us := [.ref a, .ref b]) (ws := [.ref a, .ref b]) F (Room.in1 hr) I.env0.in1 hx I (.cons rfl (.cons rfl .nil)) hsp)) (fun w s' z => ?_) fun _ _ x => x
    obtain ⟨z', H', I', rz, ez, eH⟩ := z
    subst ez eH
    cases (show w = Value.bool e from rz)
    exact wpAny_truthy_bool (q s' I')
theorem lst_obj {pins : List (Addr × Obj)} {σ : L2.St} {H : Hp} {p : Addr} {ss : List Addr} (h : H p = some (.lst (ss.map V.ref))) : ∀ s, Inv X pins σ H s → ∃ n, s.heap.get? p = some { cls := .type "list", data := .seq (ss.map Value.ref).toArray n } := fun s I => by
  obtain ⟨_, its, n, r, e⟩ := (show ObjOk X.prog X.w H s.heap p (.lst (ss.map V.ref)) from I.hok p _ h)
  rw [vals_refs r] at e
  exact ⟨n, e⟩
def rInOwn (K : PySem.W.Frag) (C : Addr) (sp : Sp) (E : XK) (neg : Bool) : R2 := fun x y H Q => ∃ (p b : Addr) (ss : List Addr) (e : Addr → Bool), x = .ref b ∧ y = .ref p ∧ H p = some (.lst (ss.map V.ref)) ∧ (∀ a ∈ ss, OwnEq1 K C sp E H a b (e a)) ∧ Q (.bl (if neg then !ss.any e else ss.any e)) H
theorem inOwn_core (hs : PySem.W.findIn X.K (.ref C) "__eq__" = some (some (.ref g))) (hf : PySem.W.isFn X.K (.ref g) = true) (F : FnR X.prog X.w X.K X.mg X.base CX k g sp) (hr : Room (k + 1) X.A) (hx : Passes CX X E) {pins : List (Addr × Obj)} {σ : L2.St} {H : Hp} {s : Shared} {p b : Addr} {ss : List Addr} {e : Addr → Bool} {Q : Value → Shared → Prop}
    (I : Inv X pins σ H s) (hp : H p = some (.lst (ss.map V.ref))) (he : ∀ a ∈ ss, OwnEq1 X.K C sp E H a b (e a)) (q : ∀ s', Inv X pins σ H s' → Q (.bool (ss.any e)) s') : wpAny (model X.prog X.w) X.A (call (.builtin "list.__contains__") [.ref p, .ref b]) Q X.xe s := by
  obtain ⟨n, ho⟩ := lst_obj hp s I
  refine call_meetsIn PySem.F.slot_list_contains ⟨_, ho, rfl⟩ PySem.F.entry_list_contains (PySem.F.args_list_contains_2 _ _) (containsG (Inv X pins σ H) p (ss.map Value.ref) (.ref b) (fun i => match ss[i]? with | some a => e a | none => false)) ⟨I, lst_obj hp, fun j y hy => ?_, fun s' I' => ?_⟩
  · rw [List.getElem?_map] at hy
    cases ha : ss[j]? with
    | none => rw [ha] at hy; cases hy
    | some a =>
      rw [ha] at hy
      cases hy
      exact eqG_own hs hf F hr hx (he a (List.mem_of_getElem? ha))
  · have z := q s' I'
    rw [List.length_map, range_any (l := ss) (f := e) (fun i a ha => by rw [ha])]
    exact z
theorem op_inOwn (hs : PySem.W.findIn X.K (.ref C) "__eq__" = some (some (.ref g))) (hf : PySem.W.isFn X.K (.ref g) = true) (F : FnR X.prog X.w X.K X.mg X.base CX k g sp) (hr : Room (k + 1) X.A) (hx : Passes CX X E) : OpR X (compareOp .In) (rInOwn X.K C sp E false) := by
  intro pins s σ H x y v u Q I rx ry h
  obtain ⟨p, b, ss, e, rfl, rfl, hp, he, q⟩ := h
  cases (show v = Value.ref b from rx)
  cases (show u = Value.ref p from ry)
  obtain ⟨n, ho⟩ := lst_obj hp s I
  show wpAny _ X.A (do return Value.bool (← contains (.ref p) (.ref b))) _ _ s
  refine wpAny_bind (wpAny_contains_slot ⟨_, ho, rfl⟩ PySem.F.slot_list_contains (inOwn_core hs hf F hr hx I hp he fun s' I' => ?_))
  exact wpAny_truthy_bool (wpAny_pure ⟨.bl _, H, I', rfl, q⟩)
theorem op_notInOwn (hs : PySem.W.findIn X.K (.ref C) "__eq__" = some (some (.ref g))) (hf : PySem.W.isFn X.K (.ref g) = true) (F : FnR X.prog X.w X.K X.mg X.base CX k g sp) (hr : Room (k + 1) X.A) (hx : Passes CX X E) : OpR X (compareOp .NotIn) (rInOwn X.K C sp E true) := by
  intro pins s σ H x y v u Q I rx ry h
  obtain ⟨p, b, ss, e, rfl, rfl, hp, he, q⟩ := h
  cases (show v = Value.ref b from rx)
  cases (show u = Value.ref p from ry)
  obtain ⟨n, ho⟩ := lst_obj hp s I
  show wpAny _ X.A (do return Value.bool (!(← contains (.ref p) (.ref b)))) _ _ s
  refine wpAny_bind (wpAny_contains_slot ⟨_, ho, rfl⟩ PySem.F.slot_list_contains (inOwn_core hs hf F hr hx I hp he fun s' I' => ?_))
  exact wpAny_truthy_bool (wpAny_pure ⟨.bl _, H, I', rfl, q⟩)
/-- xs == ys -/
def rEqOwn (K : PySem.W.Frag) (C : Addr) (sp : Sp) (E : XK) : R2 := fun x y H Q => ∃ (p q : Addr) (ss ts : List Addr) (e : Addr → Addr → Bool), x = .ref p ∧ y = .ref q ∧ H p = some (.lst (ss.map V.ref)) ∧ H q = some (.lst (ts.map V.ref)) ∧ (∀ a ∈ ss, ∀ b ∈ ts, OwnEq1 K C sp E H a b (e a b)) ∧
  Q (.bl (decide (ss.length = ts.length) && (ss.zip ts).all fun p => e p.1 p.2)) H
theorem op_eqOwn (hs : PySem.W.findIn X.K (.ref C) "__eq__" = some (some (.ref g))) (hf : PySem.W.isFn X.K (.ref g) = true) (F : FnR X.prog X.w X.K X.mg X.base CX k g sp) (hr : Room (k + 1) X.A) (hx : Passes CX X E) : OpR X (compareOp .Eq) (rEqOwn X.K C sp E) := by
  intro pins s σ H x y v u Q I rx ry h
  obtain ⟨p, q, ss, ts, e, rfl, rfl, hp, hq, he, z⟩ := h
  cases (show v = Value.ref p from rx)
  cases (show u = Value.ref q from ry)
  obtain ⟨n, ho⟩ := lst_obj hp s I
  obtain ⟨n2, ho2⟩ := lst_obj hq s I
  show wpAny _ X.A (richCompare .Eq (.ref p) (.ref q)) _ _ s
  refine wpAny_richCompare_same_room ⟨_, ho, rfl⟩ ⟨_, ho2, rfl⟩ PySem.F.slot_list_eq (call_meetsIn PySem.F.slot_list_eq ⟨_, ho, rfl⟩ PySem.F.entry_list_eq (PySem.F.args_list_eq_2 _ _) (eqG (Inv X pins σ H) p q (ss.map Value.ref) (ts.map Value.ref) (fun i => match (ss.zip ts)[i]? with | some p => e p.1 p.2 | none => true)) ⟨I, lst_obj hp, lst_obj hq, fun j x y hx' hy => ?_, fun s' I' => ?_⟩) hr.units0
  · rw [List.getElem?_map] at hx' hy
    cases ha : ss[j]? with
    | none => rw [ha] at hx'; cases hx'
    | some a =>
      cases hb : ts[j]? with
      | none => rw [hb] at hy; cases hy
      | some b =>
        rw [ha] at hx'
        rw [hb] at hy
        cases hx'
        cases hy
        rw [(List.getElem?_zip_eq_some (z := (a, b))).mpr ⟨ha, hb⟩]
        refine eqG_own hs hf F hr hx (he a (List.mem_of_getElem? ha) b (List.mem_of_getElem? hb))
  · rw [List.length_map, List.length_map]
    have e1 : (decide (ss.length = ts.length) && (List.range ss.length).all fun i => match (ss.zip ts)[i]? with | some p => e p.1 p.2 | none => true) = (decide (ss.length = ts.length) && (ss.zip ts).all fun p => e p.1 p.2) := by
      by_cases hl : ss.length = ts.length
      · have hz : (ss.zip ts).length = ss.length := by rw [List.length_zip, ← hl, Nat.min_self]
        have hr := range_all (l := ss.zip ts) (f := fun p => e p.1 p.2) (e := fun i => match (ss.zip ts)[i]? with | some p => e p.1 p.2 | none => true) (fun i a ha => by rw [ha])
        rw [hz] at hr
        rw [hr]
      · rw [decide_eq_false hl, Bool.false_and, Bool.false_and]
    rw [e1]
    exact ⟨fun z => (by cases z), .bl _, H, I', rfl, z⟩
end
end EL
namespace EL
open PySem PySem.Spec PyProof.Rows L2 He TL
theorem walk_zipT {K : PySem.W.Frag} {a b : Addr} {xs ys : List V} {n : Nat} (hn : n = min xs.length ys.length) : L2.Walk (RZ.ItzT K a b) n (fun H => SqT K H a xs ∧ SqT K H b ys) (YPair (fun i => xs[i]?) (fun i => ys[i]?)) := by
  subst hn
  refine ⟨fun i _ hi q => ?_, fun _ q => ⟨xs, ys, q.1, q.2, by omega⟩, fun i H v H' _ q y => ?_⟩
  · have h1 : i < xs.length := by omega
    have h2 : i < ys.length := by omega
    exact ⟨xs, ys, xs[i], ys[i], q.1, q.2, by simp [h1], by simp [h2]⟩
  · obtain ⟨T, x, z, h1, h2, h3, h4, h5⟩ := y
    exact ⟨T, x, z, h1, h2, h3, h4 xs q.1, h5 ys q.2⟩
end EL
namespace EL
open PySem PySem.Spec PyProof.Rows L2 He TL
/-! ### operators by own defs that raise inside a try: the errors' postcondition hangs on the slots -/
def tOpX (C : Addr) (sp : Sp) (E : L2.St → XK) (ta tb : TE) : TE := fun σ H Q => ta σ H fun x H1 => tb σ H1 fun y H2 => rBinO C sp (E σ) x y H2 Q
def tAugX (i : Nat) (C : Addr) (sp : Sp) (E : L2.St → XK) (te : TE) : TS := fun D σ H => ∃ x, σ[i]? = some (some x) ∧ te σ H fun y H1 => ∃ a dx fs, x = .ref a ∧ H1 a = some (.ins C dx fs) ∧ sp [x, y] H1 (fun z H2 => D.nx (σ.set i (some z)) H2) (E σ)
section
variable {X : Cx} {CX : CXT} {k : Nat} {C g : Addr} {sp : Sp} {E : L2.St → XK} {op : Operator} {a b : Expr} {ta tb : TE} {pos : Pos}
theorem pe_binOX (hc : PySem.W.selfFirst X.K C = true) (hs : PySem.W.findIn X.K (.ref C) (PySem.dunder op.info.2) = some (some (.ref g))) (hf : PySem.W.isFn X.K (.ref g) = true) (F : FnR X.prog X.w X.K X.mg X.base CX k g sp)
    (hr : Room k X.A) (hx : ∀ σ, PassesAt CX X σ (E σ)) (ha : PE X a ta) (hb : PE X b tb) : PE X (.BinOp a op b pos) (tOpX C sp E ta tb) := by
  refine ⟨fun pins s σ H Q I h => ?_⟩
  refine wpAny_BinOp (binT ha hb I h fun v u s2 x y H2 I2 rx ry q => ?_)
  obtain ⟨a', dx, fs, b', dy, gs, rfl, rfl, ha', hb', q⟩ := q
  cases (show v = Value.ref a' from rx)
  cases (show u = Value.ref b' from ry)
  obtain ⟨ox, od, J, _⟩ := ins_at I2 ha'
  obtain ⟨ox', od', J', _⟩ := ins_at I2 hb'
  obtain ⟨m, hF⟩ := I2.fr
  refine PySem.W.binop_K hF I2.ok.mod.kin J J'.type hc hs hf ?_
  refine wpAny_mono (run_fnRS (us := [.ref a', .ref b']) (vs := [.ref a', .ref b']) F hr (hx σ) I2 (.cons rfl (.cons rfl .nil)) q) (fun w s' z => ?_) fun _ _ x => x
  obtain ⟨z', H', I', rz, qz⟩ := z
  exact SlX.cmpback rz ⟨z', H', I', rz, qz⟩
theorem ps_augOX {i : Nat} {x : Str} {e : Expr} {te : TE} {pos' : Pos} (hN : X.N.Nodup) (hi : X.N[i]? = some x) (hx : Loc X.env.scope x) (hc : PySem.W.selfFirst X.K C = true) (hs : PySem.W.findIn X.K (.ref C) (PySem.dunderI op.info.2) = some (some (.ref g))) (hf : PySem.W.isFn X.K (.ref g) = true)
    (F : FnR X.prog X.w X.K X.mg X.base CX k g sp) (hr : Room k X.A) (hp : ∀ σ, PassesAt CX X σ (E σ)) (he : PE X e te) (hl' : X.fn x = true ∨ X.env.scope.names.lookup x = some .local := by first | exact .inl rfl | exact .inr rfl | assumption) :
    PS X (.AugAssign (.Name x pos') op e pos) (tAugX i C sp E te) := by
  refine ⟨fun pins s σ H D I h => ?_⟩
  obtain ⟨v, e1, h⟩ := h
  obtain ⟨m, hn, hl⟩ := I.loc
  have vis : Vis X.env.scope x := by rcases hx with k | k; exact .inl k; exact .inr (.inl k)
  obtain ⟨u, r, l⟩ := hl i x v hi e1 vis
  refine wpAny_AugAssign_Name ?_
  have go : wpAny (model X.prog X.w) X.A (eval e X.env) (fun w s₂ => wpAny (model X.prog X.w) X.A (inplaceOp op u w) (fun r s₃ => wpAny (model X.prog X.w) X.A (storeName X.env x r) (fun _ => SP X pins D .next) X.xe s₃) X.xe s₂) X.xe s := by
    refine thn (he.run pins s σ H _ I h) fun w s1 ⟨y, H1, I1, r1, q1⟩ => ?_
    have step : wpAny (model X.prog X.w) X.A (inplaceOp op u w) (EP X pins σ fun z H2 => D.nx (σ.set i (some z)) H2) X.xe s1 := by
      obtain ⟨a, dx, fs, rfl, ha, q⟩ := q1
      cases (show u = Value.ref a from r)
      obtain ⟨ox, od, J, _⟩ := ins_at I1 ha
      obtain ⟨m, hF⟩ := I1.fr
      refine PySem.W.ksp_inplace hF I1.ok.mod.kin J hc hs hf ?_
      refine wpAny_mono (run_fnRS (us := [.ref a, w]) (vs := [.ref a, y]) F hr (hp σ) I1 (.cons rfl (.cons r1 .nil)) q) (fun w s' z => ?_) fun _ _ x => x
      obtain ⟨z', H', I', rz, qz⟩ := z
      exact SlX.cmpback rz ⟨z', H', I', rz, qz⟩
    refine thn step fun z s2 ⟨zv, H2, I2, r2, q2⟩ => ?_
    exact store_ok I2 hN hi hx r2 (fun s3 I3 => ⟨_, H2, I3, q2⟩) hl'
  rcases l with ⟨hk, hm⟩ | ⟨hk, c, hc, hcell⟩
  · exact wpAny_loadName_local I.ok.kind hk hn hm go
  · rcases hk with hk | hk
    · exact wpAny_loadName_cell I.ok.kind hk hc hcell go
    · rcases hx with k | k
      · have : X.env.scope.names.lookup x = some .free := hk
        rw [k] at this; cases this
      · have : X.env.scope.names.lookup x = some .free := hk
        rw [k] at this; cases this
end
end EL
namespace EL
open PySem PySem.Spec PyProof.Rows L2 He TL
open AutoSeq1 (wpAny_loadPart')
open MeetsSeq MeetsSeq2 MeetsSeq3 SeqRoads2
/-! ### dicts with the same keys whose values are data -/
structure DDat (K : PySem.W.Frag) (H : Hp) (ks ls : List (Key × V)) (ds es : List PyData) : Prop where
  keys : ks.map Prod.fst = ls.map Prod.fst
  nd : (ls.map Prod.fst).Nodup
  dk : DpAll K H (ks.map Prod.snd) ds
  dl : DpAll K H (ls.map Prod.snd) es
  sk : ∀ d ∈ ds, SeqAt.shaped d = true
  sl : ∀ e ∈ es, SeqAt.shaped e = true
theorem hits_D {X : Cx} {A : Around} {pins : List (Addr × Obj)} {σ : L2.St} {H : Hp} {s : Shared} (I : Inv X pins σ H s) (hu : A.in1.units + 64 < cLine) {ls : List (Key × V)} {vb : List (Key × Value)} (rb : KV ls vb) :
    ∀ {ks ls' : List (Key × V)} {va : List (Key × Value)} {ds es : List PyData}, KV ks va → ks.map Prod.fst = ls'.map Prod.fst → (∀ p ∈ ls', valV ls p.1 = some p.2) → DpAll X.K H (ks.map Prod.snd) ds → DpAll X.K H (ls'.map Prod.snd) es → (∀ d ∈ ds, SeqAt.shaped d = true) → (∀ e ∈ es, SeqAt.shaped e = true) →
      PySem.W.KeqHits A.in1 s vb va (PyData.eqv (.list ds) (.list es))
  | [], [], _, _, _, r, _, _, hd, he, _, _ => by
    cases r
    cases hd
    cases he
    exact .nil
  | [], _ :: _, _, _, _, _, hk, _, _, _, _, _ => by cases hk
  | _ :: _, [], _, _, _, _, hk, _, _, _, _, _ => by cases hk
  | (k, v) :: ks, (k2, v2) :: ls', _, _, _, r, hk, hv, hd, he, sd, se => by
    cases r with
    | @cons _ q _ qs h t =>
      obtain ⟨k', v'⟩ := q
      obtain ⟨h1, h2⟩ := h
      have h1 : k = k' := h1
      subst h1
      obtain ⟨hk1, hk2⟩ := List.cons_eq_cons.mp (show k :: ks.map Prod.fst = k2 :: ls'.map Prod.fst from hk)
      subst hk1
      cases hd with
      | cons d1 d2 =>
        cases he with
        | cons e1 e2 =>
          have ih := hits_D I hu rb t hk2 (fun p hp => hv p (by simp [hp])) d2 e2 (fun d hd => sd d (by simp [hd])) fun e he => se e (by simp [he])
          have rk := rb.val k
          rw [hv (k, v2) (by simp)] at rk
          cases hb : valueAt vb k with
          | none => rw [hb] at rk; cases rk
          | some y' =>
            rw [hb] at rk
            obtain ⟨as, r1⟩ := Dp.reads I _ v v' d1 h2
            obtain ⟨bs, r2⟩ := Dp.reads I _ v2 y' e1 rk
            exact .hit hb (PySem.W.keq_at r1 r2 (sd _ (List.mem_cons_self ..)) (se _ (List.mem_cons_self ..)) hu) ih
theorem val_nodup : ∀ {ls : List (Key × V)}, (ls.map Prod.fst).Nodup → ∀ p ∈ ls, valV ls p.1 = some p.2
  | [], _, p, hp => by cases hp
  | q :: r, nd, p, hp => by
    obtain ⟨n1, n2⟩ := List.nodup_cons.mp (show (q.1 :: r.map Prod.fst).Nodup from nd)
    rcases List.mem_cons.mp hp with rfl | hp
    · exact valV_pos rfl
    · rw [valV_neg (fun e => n1 (List.mem_map.mpr ⟨p, hp, e.symm⟩)), val_nodup n2 p hp]
def rEqDD (K : PySem.W.Frag) (neg : Bool) : R2 := fun x y H Q => ∃ a b ks ls ds es, x = .ref a ∧ y = .ref b ∧ H a = some (.dK ks) ∧ H b = some (.dK ls) ∧ DDat K H ks ls ds es ∧ Q (.bl (if neg then !PyData.eqv (.list ds) (.list es) else PyData.eqv (.list ds) (.list es))) H
theorem op_neDD {X : Cx} (hu : X.A.units + 65 < cLine) : OpR X (compareOp .NotEq) (rEqDD X.K true) := by
  intro pins s σ H x y v u Q I rx ry h
  obtain ⟨a, b, ks, ls, ds, es, rfl, rfl, ea, eb, D, q⟩ := h
  cases (show v = Value.ref a from rx)
  cases (show u = Value.ref b from ry)
  obtain ⟨_, ya, va, ra, da⟩ := (show ObjOk X.prog X.w H s.heap a (.dK ks) from I.hok a _ ea)
  obtain ⟨_, yb, vb, rb, db⟩ := (show ObjOk X.prog X.w H s.heap b (.dK ls) from I.hok b _ eb)
  refine PySem.W.keq_ne (knd := mixKind X.prog X.w) (r := PyData.eqv (.list ds) (.list es)) ya yb da db (by omega) (fun _ => hits_D I (by show X.A.units + 1 + 64 < cLine; omega) rb ra D.keys (val_nodup D.nd) D.dk D.dl D.sk D.sl) ?_
  have e : (va.length == vb.length) = true := by
    have h1 := congrArg List.length D.keys
    rw [List.length_map, List.length_map, ra.length, rb.length] at h1
    rw [h1]
    exact beq_self_eq_true _
  rw [e, Bool.true_and]
  exact ⟨.bl _, H, I, rfl, q⟩
/-- two states: lists of a dict and a list of data -/
def rEqSt (K : PySem.W.Frag) : R2 := fun x y H Q => ∃ p q a b c d ks ls ds es f g, x = .ref p ∧ y = .ref q ∧ H p = some (.lst [.ref a, .ref c]) ∧ H q = some (.lst [.ref b, .ref d]) ∧ H a = some (.dK ks) ∧ H b = some (.dK ls) ∧ DDat K H ks ls ds es ∧ (a = b → PyData.eqv (.list ds) (.list es) = true) ∧
  Dp K H (.ref c) f ∧ Dp K H (.ref d) g ∧ SeqAt.shaped f = true ∧ SeqAt.shaped g = true ∧ (c = d → PyData.eqv f g = true) ∧ Q (.bl (PyData.eqv (.list ds) (.list es) && PyData.eqv f g)) H
theorem op_eqSt {X : Cx} (hu : X.A.units + 66 < cLine) : OpR X (compareOp .Eq) (rEqSt X.K) := by
  intro pins s σ H x y v u Q I rx ry h
  obtain ⟨p, q, a, b, c, d, ks, ls, ds, es, f, g, rfl, rfl, ep, eq, ea, eb, D, hab, hf, hg, sf, sg, hcd, z⟩ := h
  cases (show v = Value.ref p from rx)
  cases (show u = Value.ref q from ry)
  have ep' : H p = some (.lst ([a, c].map V.ref)) := ep
  have eq' : H q = some (.lst ([b, d].map V.ref)) := eq
  obtain ⟨n, ho⟩ := lst_obj ep' s I
  obtain ⟨n2, ho2⟩ := lst_obj eq' s I
  show wpAny _ X.A (richCompare .Eq (.ref p) (.ref q)) _ _ s
  refine wpAny_richCompare_same_room ⟨_, ho, rfl⟩ ⟨_, ho2, rfl⟩ PySem.F.slot_list_eq (call_meetsIn PySem.F.slot_list_eq ⟨_, ho, rfl⟩ PySem.F.entry_list_eq (PySem.F.args_list_eq_2 _ _) (eqG (Inv X pins σ H) p q ([a, c].map Value.ref) ([b, d].map Value.ref) (fun i => if i = 0 then PyData.eqv (.list ds) (.list es) else PyData.eqv f g)) ⟨I, lst_obj ep', lst_obj eq', fun j x y hx' hy => ?_, fun s' I' => ?_⟩) (by omega)
  · match j, hx', hy with
    | 0, hx', hy =>
      cases hx'
      cases hy
      intro s Q I q
      rw [if_pos rfl] at q
      unfold eqBool
      refine wpAny_holding ?_
      refine wpAny_ite_split (fun e => ?_) (fun _ => ?_)
      · have := eq_of_beq e
        injection this with this
        rw [hab this] at q
        exact wpAny_bind (wpAny_rule (wpAny_pure (q s I)))
      · obtain ⟨_, ya, va, ra, da⟩ := (show ObjOk X.prog X.w H s.heap a (.dK ks) from I.hok a _ ea)
        obtain ⟨_, yb, vb, rb, db⟩ := (show ObjOk X.prog X.w H s.heap b (.dK ls) from I.hok b _ eb)
        refine wpAny_bind (PySem.W.keq_eq (knd := mixKind X.prog X.w) (r := PyData.eqv (.list ds) (.list es)) ya yb da db (by show X.A.units + 1 < cLine; omega) (fun _ => hits_D I (by show X.A.units + 1 + 1 + 64 < cLine; omega) rb ra D.keys (val_nodup D.nd) D.dk D.dl D.sk D.sl) ?_)
        have e : (va.length == vb.length) = true := by
          have h1 := congrArg List.length D.keys
          rw [List.length_map, List.length_map, ra.length, rb.length] at h1
          rw [h1]
          exact beq_self_eq_true _
        rw [e, Bool.true_and]
        exact wpAny_truthy_bool (q s I)
    | 1, hx', hy =>
      cases hx'
      cases hy
      intro s Q I q
      rw [if_neg (by decide)] at q
      obtain ⟨as, r1⟩ := Dp.reads I f _ _ hf (show RelV (.ref c) (.ref c) from rfl)
      obtain ⟨bs, r2⟩ := Dp.reads I g _ _ hg (show RelV (.ref d) (.ref d) from rfl)
      exact PySem.W.keq_at r1 r2 sf sg (by show X.A.units + 1 + 64 < cLine; omega) X.prog X.w _ _ (q s I)
    | j + 2, hx', _ => cases hx'
  · have e1 : (decide (([a, c].map Value.ref).length = ([b, d].map Value.ref).length) && (List.range ([a, c].map Value.ref).length).all fun i => if i = 0 then PyData.eqv (.list ds) (.list es) else PyData.eqv f g) = (PyData.eqv (.list ds) (.list es) && PyData.eqv f g) := by
      show (true && (PyData.eqv (.list ds) (.list es) && (PyData.eqv f g && true))) = _
      rw [Bool.true_and, Bool.and_true]
    rw [e1]
    exact ⟨fun z => (by cases z), .bl _, H, I', rfl, z⟩
end EL
namespace EL
open PySem PySem.Spec PyProof.Rows L2 He TL
/-! ### where an exception is being handled: the ends of iterators, list(d), all(xs), a list comprehension over a dict's keys, own == and != -/
section
variable {prog : Program} {w : World} {A : Around} {E : Value → Shared → Prop} {s : Shared}
theorem hot_ext {it a : Addr} {h0 h1 h2 h3 : Heap} {f : Obj → Obj} {o2 o3 : Obj} (ex : Heap.ExtBut it h0 h1) (e2 : h2 = h1.push o2) (e3 : h3 = h2.push o3) (ea : a = h2.objs.size) : Heap.ExtBut it h0 (h3.update a f) := fun b o hb e => by
  have g1 := ex b o hb e
  have g2 : h2.get? b = some o := by rw [e2]; exact Heap.get?_push_of_some _ g1
  have g3 : h3.get? b = some o := by rw [e3]; exact Heap.get?_push_of_some _ g2
  rw [Heap.get?_update_other _ _ (by rw [ea]; exact Nat.ne_of_gt (Heap.lt_size g2))]
  exact g3
theorem keys_end_hot {it d x1 : Addr} {i n ep : Nat} {od : Obj} {es : Array DictEntry} {Q : Option Value → Shared → Prop} (hot : HotX.HotAt A x1 s.heap) (nx : x1 ≠ it) (hit : s.heap.IsKeyIter it d i n ep) (hod : s.heap.get? d = some od) (hdd : od.data = .dict es ep)
    (hsz : es.size = n) (hge : n ≤ i) (hQ : ∀ h', Heap.ExtBut it s.heap h' → Q none { s with heap := h' }) : wpAny (model prog w) A (pyNext (.ref it)) Q E s := by
  obtain ⟨hh, o1, vs1, g1, d1, c1⟩ := hot
  obtain ⟨oi, hoi, hci, hdi⟩ := id hit
  have big : es.size ≤ i := by omega
  unfold pyNext
  refine wpAny_bind (wpAny_attempt (wpAny_callSpecial?_slot (name := Str.ofString "__next__") hit.typeIs F.slot_dict_keyiterator_next (wpAny_call_entry F.slot_dict_keyiterator_next hit.typeIs F.entry_dict_keyiterator_next ?_ (F.args_dict_keyiterator_next_1 _))))
  refine wpAny_bind (wpAny_pure (wpAny_bind (wpAny_bind ?_)))
  first | refine wpAny_bind (wpAny_typeNameOfWhole_keyiter hit.typeIs (wpAny_pure ?_)) | refine wpAny_bind (wpAny_typeNameOf_keyiter hit.typeIs (wpAny_pure ?_))
  refine wpAny_bind (wpAny_fieldsOf hoi hdi ?_)
  simp only [show Builtin.Dict_items.ownsTuple "dict_keyiterator" = false by decide, Bool.false_eq_true, if_false]
  show wpAny _ _ (if (Value.ref d == Value.none) = true then _ else _) _ _ s
  rw [if_neg (show ¬ ((Value.ref d == Value.none) = true) from Bool.false_ne_true)]
  refine wpAny_bind (wpAny_pure (wpAny_bind (wpAny_dictEntries hod hdd ?_)))
  rw [if_neg (by rw [hsz]; simp)]
  refine wpAny_bind (wpAny_pure (wpAny_bind (wpAny_dictEpoch hod hdd ?_)))
  rw [if_neg (by simp)]
  refine wpAny_pure ?_
  simp only [show ¬ ((i : Int) < 0) by omega, if_false, Int.toNat_natCast, Array.getElem?_eq_none big]
  refine wpAny_bind ?_
  first | refine wpAny_bind (wpAny_typeNameOfWhole_keyiter hit.typeIs (wpAny_pure ?_)) | refine wpAny_bind (wpAny_typeNameOf_keyiter hit.typeIs (wpAny_pure ?_))
  show wpAny _ _ (setField (.ref it) 0 .none >>= _) _ _ s
  refine wpAny_bind (wpAny_setField hoi hdi (by simp) ?_)
  show wpAny _ _ (newExc (.type "StopIteration") [] >>= _) _ _ _
  refine wpAny_bind ?_
  simp only [newExc, newTuple]
  refine wpAny_bind (wpAny_newObj_type ?_ (by size_fits))
  refine wpAny_bind (m := firstArgMember _ _) (wpAny_of_eq (a := Value.none) (by first | rfl | (simp only [firstArgMember]; rfl)) ?_)
  refine wpAny_newObj_type ?_ (by size_fits)
  have q1 : (s.heap.update it (Obj.mapFields fun x => x.setIfInBounds 0 Value.none)).get? x1 = some o1 := (Heap.get?_update_other s.heap _ (Ne.symm nx)).trans g1
  refine HotX.raiseNew_hot ⟨hh, o1, vs1, Heap.get?_push_of_some _ (Heap.get?_push_of_some _ q1), d1, c1⟩ (Nat.ne_of_lt (Heap.lt_size (Heap.get?_push_of_some _ q1))) (Heap.get?_push_size _ rfl) rfl (by first | (simp; done) | (simp; omega) | (simp only [Array.size_append]; simp; omega)) ?_
  refine wpAny_bind (wpAny_isInstance (T := "StopIteration") (b := true) ⟨_, Heap.get?_update_self _ (Heap.get?_push_size _ rfl) rfl, rfl⟩ isSubtype_stop (wpAny_pure (hQ _ ?_)))
  exact hot_ext (Heap.SameBut.update ..).extBut rfl rfl rfl
theorem list_end_hot {it l x1 : Addr} {i : Nat} {items : Array Value} {Q : Option Value → Shared → Prop} (hot : HotX.HotAt A x1 s.heap) (nx : x1 ≠ it) (hit : s.heap.IsListIter it l i) (hl : s.heap.IsList l items) (hx : items[i]? = none)
    (hQ : ∀ h', Heap.ExtBut it s.heap h' → Q none { s with heap := h' }) : wpAny (model prog w) A (pyNext (.ref it)) Q E s := by
  obtain ⟨hh, o1, vs1, g1, d1, c1⟩ := hot
  obtain ⟨oi, hoi, hci, hdi⟩ := id hit
  obtain ⟨ol, hol, _, nl, hdl⟩ := hl
  unfold pyNext
  refine wpAny_bind (wpAny_attempt (wpAny_callSpecial?_slot (name := Str.ofString "__next__") hit.typeIs slot_listiter_next (wpAny_call_entry slot_listiter_next hit.typeIs entry_listiter_next ?_ (args_listiter_next _))))
  show wpAny _ _ (field (.ref it) 0 >>= _) _ _ s
  refine wpAny_bind (wpAny_field hoi hdi (x := .ref l) rfl ?_)
  show wpAny _ _ (if (Value.ref l == Value.none) = true then _ else _) _ _ s
  rw [if_neg (show ¬ ((Value.ref l == Value.none) = true) from Bool.false_ne_true)]
  show wpAny _ _ (field (.ref it) 1 >>= _) _ _ s
  refine wpAny_bind (wpAny_field hoi hdi (x := .int i 0) rfl ?_)
  show wpAny _ _ (seqItems? (.ref l) >>= _) _ _ s
  refine wpAny_bind (wpAny_seqItems hol hdl ?_)
  simp only [Int.toNat_natCast, hx]
  refine wpAny_bind (wpAny_rule (wpAny_bind (wpAny_setField hoi hdi (by simp) ?_)))
  show wpAny _ _ (newExc (.type "StopIteration") [] >>= _) _ _ _
  refine wpAny_bind ?_
  simp only [newExc, newTuple]
  refine wpAny_bind (wpAny_newObj_type ?_ (by size_fits))
  refine wpAny_bind (m := firstArgMember _ _) (wpAny_of_eq (a := Value.none) (by first | rfl | (simp only [firstArgMember]; rfl)) ?_)
  refine wpAny_newObj_type ?_ (by size_fits)
  have q1 : (s.heap.update it (Obj.mapFields fun x => x.setIfInBounds 0 Value.none)).get? x1 = some o1 := (Heap.get?_update_other s.heap _ (Ne.symm nx)).trans g1
  refine HotX.raiseNew_hot ⟨hh, o1, vs1, Heap.get?_push_of_some _ (Heap.get?_push_of_some _ q1), d1, c1⟩ (Nat.ne_of_lt (Heap.lt_size (Heap.get?_push_of_some _ q1))) (Heap.get?_push_size _ rfl) rfl (by first | (simp; done) | (simp; omega) | (simp only [Array.size_append]; simp; omega)) ?_
  refine wpAny_bind (wpAny_isInstance (T := "StopIteration") (b := true) ⟨_, Heap.get?_update_self _ (Heap.get?_push_size _ rfl) rfl, rfl⟩ isSubtype_stop (wpAny_pure (hQ _ ?_)))
  exact hot_ext (Heap.SameBut.update ..).extBut rfl rfl rfl
theorem hot_keep {x1 : Addr} {h h' : Heap} (c : HotX.HotAt A x1 h) (e : ∀ o, h.get? x1 = some o → h'.get? x1 = some o) : HotX.HotAt A x1 h' := by
  obtain ⟨hh, o1, vs1, g1, r⟩ := c
  exact ⟨hh, o1, vs1, e _ g1, r⟩
theorem walk_listH (x1 I ax : Addr) (n1 : x1 ≠ I) (hne : ax ≠ I) (items : Array Value) : Walks prog w A I [I, ax, x1] [I] items.size (fun i v => items[i]? = some v) (fun i h => h.IsListIter I ax i ∧ h.IsList ax items ∧ HotX.HotAt A x1 h) where
  sub := fun b hb => by cases List.mem_singleton.mp hb; simp
  frame := fun _ _ _ st k => ⟨st.1.at fun o e => k I (by simp) o e, st.2.1.at fun o e => k ax (by simp) o e, hot_keep st.2.2 fun o e => k x1 (by simp) o e⟩
  item := fun i s Q E hi st q => by
    refine wpAny_pyNext_list_item st.1 st.2.1 (x := items[i]) (by simp [hi]) fun h' hit' sb => ?_
    exact q _ h' s.toks (by simp [hi]) ⟨hit', st.2.1.extBut sb.extBut hne, hot_keep st.2.2 fun o e => sb.extBut _ o n1 e⟩ fun b o hb e => sb.extBut b o (fun z => hb (by simp [z])) e
  done := fun s Q E st q => list_end_hot st.2.2 n1 st.1 st.2.1 (by simp) fun h' ex => q h' s.toks fun b o hb e => ex b o (fun z => hb (by simp [z])) e
  self := fun _ _ _ _ st q => wpAny_pyIter_listiter st.1 q
theorem walk_keysH {κ : Type} [DecidableEq κ] {knd : KeyKind prog w κ} (x1 I d : Addr) (n1 : x1 ≠ I) (hne : d ≠ I) (kvs : List (κ × Value)) (ep : Nat) :
    Walks prog w A I [I, d, x1] [I] kvs.length (fun i v => ∃ k x, kvs[i]? = some (k, x) ∧ knd.is k v = true) (fun i h => h.IsKeyIter I d i kvs.length ep ∧ h.DictAt knd d kvs ep ∧ HotX.HotAt A x1 h) where
  sub := fun b hb => by cases List.mem_singleton.mp hb; simp
  frame := fun _ _ _ st k => ⟨st.1.at fun o e => k I (by simp) o e, st.2.1.at' fun o e => k d (by simp) o e, hot_keep st.2.2 fun o e => k x1 (by simp) o e⟩
  item := fun i s Q E hi st q => by
    obtain ⟨⟨k, x⟩, hx⟩ : ∃ p, kvs[i]? = some p := ⟨kvs[i], by simp [hi]⟩
    refine wpAny_pyNext_dict_item st.1 st.2.1 hx fun key h' hkey hit' sb => ?_
    exact q key h' s.toks ⟨k, x, hx, hkey⟩ ⟨hit', st.2.1.extBut sb.extBut hne, hot_keep st.2.2 fun o e => sb.extBut _ o n1 e⟩ fun b o hb e => sb.extBut b o (fun z => hb (by simp [z])) e
  done := fun s Q E st q => by
    obtain ⟨o, es, ho, _, hd, _, hp, _⟩ := id st.2.1
    have hsz : es.size = kvs.length := by
      have := hp.length
      simpa using this
    exact keys_end_hot st.2.2 n1 st.1 ho hd hsz (Nat.le_refl _) fun h' ex => q h' s.toks fun b o hb e => ex b o (fun z => hb (by simp [z])) e
  self := fun _ _ _ _ st q => wpAny_pyIter_keyiter st.1 q
section
variable {κ : Type} [DecidableEq κ] {knd : KeyKind prog w κ} {d x1 : Addr} {kvs : List (κ × Value)} {ep : Nat}
/-- list.__init__ of a new list and a dict -/
theorem init_hot {R : Result → Shared → Prop} (lo : (d == sysModules) = false) (hot : HotX.HotAt A x1 s.heap) (hm : s.heap.DictAt knd d kvs ep) {S : Addr} (n1 : S ≠ d) (n2 : S ≠ x1) (hS : s.heap.get? S = some { cls := .type "list", data := .seq #[] }) (hn : kvs.length ≤ sizeLine)
    (hR : ∀ h' tk acc c, (∀ b o, b ≠ S → s.heap.get? b = some o → h'.get? b = some o) → h'.get? S = some { cls := .type "list", dict := none, data := .seq acc c, slots := #[] } → ItemsOf (fun i v => ∃ k x, kvs[i]? = some (k, x) ∧ knd.is k v = true) acc kvs.length → R (.ok (.ret .none)) { s with heap := h', toks := tk }) :
    wpAny (model prog w) A.in1 (Builtin.«list.__init__» ⟨[.ref S, .ref d], []⟩) (fun fin s' => match fin with | .done f => R (.ok f) s' | .again c' => c'.quiet = true ∧ codeAny (model prog w) A c' R s') (fun e s' => R (.error e) s') s := by
  show wpAny _ _ (do let old ← Builtin.List.listItems (.ref S); Builtin.List.listUpdate (.ref S) (fun _ => #[]); letGo old.toList.reverse; Builtin.List.listExtendWith (.ref S) (.ref d) .none) _ _ s
  refine wpAny_bind ?_
  unfold Builtin.List.listItems
  refine wpAny_bind (wpAny_seqItems hS rfl (wpAny_pure ?_))
  show wpAny _ _ (updateSeq S (fun _ => #[]) >>= fun _ => letGo (#[] : Array Value).toList.reverse >>= fun _ => Builtin.List.listExtendWith (.ref S) (.ref d) .none) _ _ s
  refine wpAny_bind (wpAny_updateSeq hS rfl ?_)
  have hS2 := Heap.get?_update_self (Obj.mapSeq (fun _ => (#[] : Array Value))) hS rfl
  have oth : ∀ b o, b ≠ S → s.heap.get? b = some o → (s.heap.update S (Obj.mapSeq (fun _ => (#[] : Array Value)))).get? b = some o := fun b o hb e => (Heap.get?_update_other _ _ (Ne.symm hb)).trans e
  refine wpAny_bind (wpAny_letGo ?_)
  generalize hh2 : s.heap.update S (Obj.mapSeq (fun _ => (#[] : Array Value))) = h2 at hS2 oth
  have hm2 : h2.DictAt knd d kvs ep := hm.at' fun o e => oth _ o (Ne.symm n1) e
  have hot2 : HotX.HotAt A x1 h2 := hot_keep hot fun o e => oth _ o (Ne.symm n2) e
  have lS : S < h2.objs.size := Heap.lt_size hS2
  have ld : d < h2.objs.size := hm2.lt_size
  have lx : x1 < h2.objs.size := by obtain ⟨_, o1, _, g, _⟩ := hot2; exact Heap.lt_size g
  unfold Builtin.List.listExtendWith
  refine wpAny_bind (wpAny_typeOf (T := "dict") (show Shared.TypeIs { s with heap := h2 } (.ref d) "dict" from hm2.dictOf.typeIs) ?_)
  simp only [show Builtin.List.listSameRef (.ref S) (.ref d) = false by simp [Builtin.List.listSameRef, n1], show (Value.type "dict" == Value.type "list") = false by decide, show (Value.type "dict" == Value.type "tuple") = false by decide, Bool.or_false, Bool.false_eq_true, if_false]
  refine wpAny_bind (wpAny_pyIter_dict lo hm2 ?_)
  have W := walk_keysH (prog := prog) (w := w) (A := A.in1) (knd := knd) x1 h2.objs.size d (Nat.ne_of_lt lx) (Nat.ne_of_lt ld) kvs ep
  have hSf : S ∉ [h2.objs.size, d, x1] := by
    simp only [List.mem_cons, List.not_mem_nil, or_false, not_or]
    exact ⟨Nat.ne_of_lt lS, n1, n2⟩
  have st0 : ∀ {h3 : Heap}, (∀ b o, b ≠ S → (h2.push { cls := .type "dict_keyiterator", data := .fields #[.ref d, .int 0 0, .int kvs.length 0, .int ep 0] }).get? b = some o → h3.get? b = some o) →
      h3.IsKeyIter h2.objs.size d 0 kvs.length ep ∧ h3.DictAt knd d kvs ep ∧ HotX.HotAt A.in1 x1 h3 := fun k =>
    ⟨⟨_, k _ _ (Ne.symm (Nat.ne_of_lt lS)) (Heap.get?_push_size _ rfl), rfl, rfl⟩, hm2.at' fun o e => k _ o (Ne.symm n1) (Heap.get?_push_of_some _ e), hot_keep (A := A) hot2 fun o e => k _ o (Ne.symm n2) (Heap.get?_push_of_some _ e)⟩
  have key : ∀ (h3 : Heap) (c : Nat), (∀ b o, b ≠ S → (h2.push { cls := .type "dict_keyiterator", data := .fields #[.ref d, .int 0 0, .int kvs.length 0, .int ep 0] }).get? b = some o → h3.get? b = some o) →
      h3.get? S = some { cls := .type "list", data := .seq #[] c } → codeAny (model prog w) A (.builtin "list.extend.loop" ⟨[.ref S, .ref h2.objs.size, .none], []⟩) R { s with heap := h3 } := fun h3 c k hS3 => by
    refine codeAny_extend_loopS W.toS hn S hSf .none kvs.length 0 _ #[] c rfl (Nat.zero_le _) (st0 k) hS3 (ItemsOf.nil _) fun s' acc c' mv hS' ha => ?_
    rw [Moved.eq_with mv]
    refine hR s'.heap s'.toks acc c' (fun b o hb e => mv.heap b o (fun hmem => ?_) (k b o hb (Heap.get?_push_of_some _ (oth b o hb e)))) hS' ha
    rcases List.mem_cons.mp hmem with z | hmem
    · exact hb z
    · have lb := Heap.lt_size (oth b o hb e)
      rw [List.mem_singleton.mp hmem] at lb
      exact Nat.lt_irrefl _ lb
  have hS3 := Heap.get?_push_of_some { cls := .type "dict_keyiterator", data := .fields #[.ref d, .int 0 0, .int kvs.length 0, .int ep 0] } hS2
  refine wpAny_bind (wpAny_holding (PySem.W.kdl_hint_dict (show Shared.TypeIs _ (.ref d) "dict" from (hm2.at' fun o e => Heap.get?_push_of_some _ e).dictOf.typeIs) ?_))
  refine wpAny_ite_split (fun _ => ?_) (fun _ => wpAny_pure ⟨plainId_quiet PySem.F.plain_extend_loop _, key _ _ (fun _ _ _ e => e) hS3⟩)
  refine wpAny_bind (wpAny_rule (wpAny_bind ?_))
  show wpAny _ _ (updateSeq S (·.push .none) >>= fun _ => updateSeq S (·.pop)) _ _ _
  refine wpAny_bind (wpAny_updateSeq hS3 rfl ?_)
  have hS4 := Heap.get?_update_self (Obj.mapSeq (·.push Value.none)) hS3 rfl
  refine wpAny_updateSeq (hz := by seq_fits) hS4 rfl ?_
  have hS5 := Heap.get?_update_self (Obj.mapSeq (·.pop)) hS4 rfl
  exact wpAny_pure ⟨plainId_quiet PySem.F.plain_extend_loop _, key _ _ (fun b o hb e => (Heap.get?_update_other _ _ (Ne.symm hb)).trans ((Heap.get?_update_other _ _ (Ne.symm hb)).trans e)) hS5⟩
theorem list_hot {Q : Value → Shared → Prop} (lo : (d == sysModules) = false) (hot : HotX.HotAt A x1 s.heap) (hm : s.heap.DictAt knd d kvs ep) (hn : kvs.length ≤ sizeLine)
    (hQ : ∀ h' tk acc c, (∀ b o, s.heap.get? b = some o → h'.get? b = some o) → h'.get? s.heap.objs.size = some { cls := .type "list", dict := none, data := .seq acc c, slots := #[] } → ItemsOf (fun i v => ∃ k x, kvs[i]? = some (k, x) ∧ knd.is k v = true) acc kvs.length → Q (.ref s.heap.objs.size) { s with heap := h', toks := tk }) :
    wpAny (model prog w) A (call (.type "list") [.ref d]) Q E s := by
  refine callType_codes (Q₁ := fun obj s₁ => obj = .ref s.heap.objs.size ∧ s₁ = { s with heap := s.heap.push { cls := .type "list", data := .seq #[] } }) PySem.F.called_list (PySem.F.typeCall_list_1 _) PySem.F.entry_list_init (code_list_new _ ⟨rfl, rfl⟩) fun obj s₁ h₁ => ?_
  obtain ⟨rfl, rfl⟩ := h₁
  have hS : (s.heap.push { cls := .type "list", data := .seq #[] }).get? s.heap.objs.size = some { cls := .type "list", data := .seq #[] } := Heap.get?_push_size _ rfl
  have lx : x1 < s.heap.objs.size := by obtain ⟨_, o1, _, g, _⟩ := hot; exact Heap.lt_size g
  refine ⟨⟨_, hS, rfl⟩, PySem.F.args_list_init_2 _ _, init_hot (A := A.in1) lo (hot_keep (A := A) hot fun o e => Heap.get?_push_of_some _ e) (hm.at' fun o e => Heap.get?_push_of_some _ e) (Nat.ne_of_gt hm.lt_size) (Nat.ne_of_gt lx) hS hn fun h' tk acc c k hS' ha => ?_⟩
  exact ⟨rfl, hQ h' tk acc c (fun b o e => k b o (Nat.ne_of_lt (Heap.lt_size e)) (Heap.get?_push_of_some _ e)) hS' ha⟩
end
end
section
variable {X : Cx}
theorem call_list_dKH (hc : L2H.HotC X) : CallR X (.type "list") rListD := by
  intro pins s σ H xs us Q I r h
  obtain ⟨p, kvs, e, hk, q⟩ := h
  subst e
  obtain ⟨u, eu, rx⟩ := vals1 r
  subst eu
  obtain rfl : u = Value.ref p := rx
  obtain ⟨x1, hot⟩ := hc.at I
  obtain ⟨z, lo, vs, rk, hd⟩ := (show ObjOk X.prog X.w H s.heap p (.dK kvs) from I.hok p _ hk)
  obtain ⟨ep, hat⟩ := hd.dictAt
  have hl : kvs.length = vs.length := Paired.length rk
  refine list_hot (knd := mixKind X.prog X.w) lo hot hat (by rw [← hl]; exact z) fun h' tk acc c hkeep hS hacc => ?_
  have fresh := I.hok.fresh (Nat.le_refl _)
  have vv : Vals (kvs.map fun kv => kV kv.1) acc.toList := by
    have el : acc.toList.length = acc.size := by simp
    refine vals_of_at (by rw [List.length_map, el, hacc.1, hl]) fun j x w h1 h2 => ?_
    obtain ⟨k, y, hky, hi⟩ := hacc.2 j w (by rw [← Array.getElem?_toList]; exact h2)
    have e1 : (kvs.map (·.1))[j]? = some k := by rw [KV.keys rk, List.getElem?_map, hky] <;> rfl
    have e3 : (kvs.map fun kv => kV kv.1) = (kvs.map (·.1)).map kV := by rw [List.map_map] <;> rfl
    rw [e3, List.getElem?_map, e1] at h1
    cases h1
    exact keyIs_rel hi
  exact ⟨.ref s.heap.objs.size, upd H s.heap.objs.size (.lst (kvs.map fun kv => kV kv.1)), I.laid hkeep (Nat.le_refl _) (show ObjOk X.prog X.w _ _ _ (.lst (kvs.map fun kv => kV kv.1)) from ⟨by rw [List.length_map]; exact z, acc.toList, c, vv, by rw [Array.toArray_toList]; exact hS⟩), rfl, q _ fresh⟩
theorem cr_allH (hc : L2H.HotC X) : CallR X (.builtin "all") (rAll X.K) := by
  intro pins s σ H vs us Q I r h
  obtain ⟨a, bs, rfl, hs, q⟩ := h
  obtain ⟨its, rv, hl, _⟩ := I.list hs
  rw [Vals.ref1 r]
  have hb := rv.bls
  obtain ⟨x1, hot⟩ := hc.at I
  have lx : x1 < s.heap.objs.size := by obtain ⟨_, o1, _, g, _⟩ := hot; exact Heap.lt_size g
  refine call_all_walk (iter_any hl.isList fun s₂ e2 st hne => ?_)
  subst e2
  refine ⟨_, _, _, _, _, _, _, rfl, walk_listH (A := X.A.in1) x1 _ a (Nat.ne_of_lt lx) hne its.toArray, ⟨st.1, st.2, hot_keep (A := X.A) hot fun o e => Heap.get?_push_of_some _ e⟩, truth_bools hb, fun h' tk hk => ?_⟩
  refine ⟨.bl _, H, I.kept fun b o eo => hk b o (fun hm => ?_) (Heap.get?_push_of_some _ eo), ?_, q⟩
  · have lb := Heap.lt_size eo
    rw [List.mem_singleton.mp hm] at lb
    exact Nat.lt_irrefl _ lb
  · show Value.bool _ = Value.bool _
    rw [← L2.all_range, hb, List.size_toArray, List.length_map]
end
end EL
namespace EL
open PySem PySem.Spec PyProof.Rows L2 He TL
/-! ### for x in d, within a comprehension -/
section
variable {P : Program} {w : World} {K : PySem.W.Frag} {tg : Expr} {d : Addr} {o : Obj} {es : Array DictEntry} {ep : Nat}
theorem turn_keysH {kvs : List (Key × V)} (it : Addr) (hod : o.data = .dict es ep) : L2H.TurnH P w K tg (Itk d o kvs) [it] it (fun i h => h.IsKeyIter it d i kvs.length ep) where
  mem := by simp
  obj := fun i h st b hb => by
    cases List.mem_singleton.mp hb
    obtain ⟨oi, e, c, dd⟩ := st
    exact ⟨oi, e, fun v z => by rw [dd] at z; cases z⟩
  keep := fun i h h' st k => st.at fun oi e => k it (by simp) oi e
  item := by
    intro X hP hw hK hc i pins s σ H E I hf st hg
    subst hP hw hK
    obtain ⟨hd, hi⟩ := hg
    obtain ⟨f0, f1, f2, f3, f4, f5⟩ := hf it (by simp)
    obtain ⟨hs, hgd, hx, es', ep', vs, hdt, hsz, kv, hm⟩ := I.frzK hd
    obtain ⟨rfl, rfl⟩ := dict_ep hod hdt
    obtain ⟨⟨k, v⟩, hkv⟩ : ∃ p, kvs[i]? = some p := ⟨kvs[i], List.getElem?_eq_getElem hi⟩
    obtain ⟨u, hu, ru⟩ := kv_get kv hkv
    have hl : kvs.length = vs.length := Paired.length kv
    rw [hl] at st
    refine wpAny_pyNext_dict_item st hm hu fun key h' hkey st' sb => ?_
    obtain ⟨oi, e, c, dd⟩ := id st'
    exact ⟨key, rfl, go_of (s := { s with heap := h' }) e c dd (by decide) ⟨kV k, H, I.turned (t' := s.toks) (fun b ob hb e => (sb.2 b hb).trans e) f0 f1 f3 f4 f5, relV_key (show keyIs k key = true from hkey), ⟨rfl, k, v, hkv, rfl⟩, (by show h'.IsKeyIter it d (i + 1) kvs.length _; rw [hl]; exact st'), fun b hb => (hf b hb).1⟩⟩
  done := by
    intro X hP hw hK hc i pins s σ H E I hf st hg
    subst hP hw hK
    obtain ⟨hd, hi⟩ := hg
    obtain ⟨f0, f1, f2, f3, f4, f5⟩ := hf it (by simp)
    obtain ⟨hs, hgd, hx, es', ep', vs, hdt, hsz, kv, hm⟩ := I.frzK hd
    obtain ⟨rfl, rfl⟩ := dict_ep hod hdt
    obtain ⟨x1, hot⟩ := hc.at I
    have n1 : x1 ≠ it := fun z => by
      obtain ⟨_, o1, vs1, g1, d1, c1⟩ := hot
      obtain ⟨oi, e, _, dd⟩ := st
      rw [z, e] at g1
      cases g1
      rw [dd] at d1
      cases d1
      cases c1
    exact keys_end_hot hot n1 st hgd hdt hsz hi fun h' eb => ⟨rfl, I.turned (t' := s.toks) (fun b ob hb e => eb b ob hb e) f0 f1 f3 f4 f5⟩
  self := fun A i s Q E st h => wpAny_pyIter_keyiter st h
end
section
variable {X : Cx}
def iKeysH (td : TE) : TI := fun σ H R => td σ H fun x H1 => ∃ d o, x = .ref d ∧ ((∃ kvs, H1 d = some (.frz o (.dK kvs)) ∧ R (Itk d o kvs) H1) ∨ False)
theorem pi_keysH {tg e : Expr} {td : TE} (he : PE X e td) : L2H.PIH X tg e (iKeysH td) := by
  refine ⟨fun pins s σ H R I h => ?_⟩
  refine thn (he.run pins s σ H _ I h) fun u s1 ⟨x, H1, I1, rx, d, o, ex, hd⟩ => ?_
  subst ex
  obtain ⟨kvs, hd, q⟩ : ∃ kvs, H1 d = some (.frz o (.dK kvs)) ∧ R (Itk d o kvs) H1 := hd.elim id False.elim
  obtain rfl : u = Value.ref d := rx
  obtain ⟨hs, hgd, hx, es, ep, vs, hdt, hsz, kv, hm⟩ := I1.frzK hd
  refine iter_keys hs hgd hx hdt ?_
  refine ⟨s1.heap.objs.size, [s1.heap.objs.size], _, _, H1, rfl, I1.kept (t' := s1.toks) fun b ob e => Heap.get?_push_of_some _ e, turn_keysH _ hdt, ⟨_, Heap.get?_push_size _ rfl, rfl, by rw [hsz]; rfl⟩, fun b hb => ?_, q⟩
  cases List.mem_singleton.mp hb
  exact I1.fpOk (Nat.le_refl _) (I1.hok.fresh (Nat.le_refl _))
/-- a comprehension's block where an exception is being handled -/
abbrev blkH (X : Cx) (s : Shared) (H : Hp) (scope : Scope) (cenv : Env) (fp : List Addr) (p : Addr × Obj) : Cx := { X.blk s H scope cenv fp with pn := [p] }
theorem _root_.L2.Inv.toBlkH {s0 : Shared} {H0 : Hp} {scope : Scope} {ce : Env} {fp : List Addr} {p : Addr × Obj} {σ : L2.St} {H : Hp} {s : Shared} (I : Inv (X.blk s0 H0 scope ce fp) [] σ H s) (hp : s.heap.get? p.1 = some p.2 ∧ H p.1 = none ∧ p.1 ≠ ce.locals ∧ p.1 ∉ frs X.stack ∧ ∀ v, p.2.data ≠ .cell v) : Inv (EL.blkH X s0 H0 scope ce fp p) [] σ H s :=
  ⟨⟨I.ok.mod, I.ok.kind, I.ok.glob, I.ok.blt, I.ok.above, I.ok.inj, I.ok.has, I.ok.cab, I.ok.hd, I.ok.frames, I.ok.stk, I.ok.exf, I.ok.bs, I.ok.bsz, I.ok.noex, I.ok.exfs, I.ok.funs, I.ok.frf⟩, I.os, I.bare, I.base, I.loc, I.cell, I.free, I.freeC, fun q hq => by
    cases List.mem_singleton.mp (show q ∈ [p] from by simpa using hq)
    exact hp, I.hok, I.len⟩
theorem lcH_core {pins : List (Addr × Obj)} {s : Shared} {σ : L2.St} {H : Hp} {Q : VK} {elt tg iter : Expr} {ifs : List Expr} {scope : Scope} {own : List (Str × Nat)} {pos pos' : Pos} {wi : TI} {g : TG} {tt : TT} {te : TE} {use : Option (Value → Sem Unit)} {Qf : Value → Shared → Prop}
    (hc : L2H.HotC X) (hN : X.N.Nodup) (I : Inv X pins σ H s) (hi : L2H.PIH X tg iter wi) (ok : BlkOk X.N X.env.scope scope own)
    (hg : ∀ (s : Shared) (H : Hp) (C : Addr) (cl : List (Str × Addr)) (fp : List Addr) (p : Addr × Obj), L2H.Hot1 X.A p → PG (EL.blkH X s H scope (compEnvC scope cl C X.env) fp p) tg g) (ht : ∀ (s : Shared) (H : Hp) (C : Addr) (cl : List (Str × Addr)) (fp : List Addr) (p : Addr × Obj), L2H.Hot1 X.A p → PTs (EL.blkH X s H scope (compEnvC scope cl C X.env) fp p) ifs tt)
    (he : ∀ (s : Shared) (H : Hp) (C : Addr) (cl : List (Str × Addr)) (fp : List Addr) (p : Addr × Obj), L2H.Hot1 X.A p → PE (EL.blkH X s H scope (compEnvC scope cl C X.env) fp p) elt te) (hs : ∀ x, foldedSetIterable iter X.env x = pure x)
    (h : tLc wi g tt te (own.map (·.2)) σ H Q)
    (hRR : ∀ D C s' m H', Inv X pins σ H' s' → Q (.ref D) H' → s'.heap.Ns C m → FpOk X pins H' C → compPost (model X.prog X.w) X.A X.xe use Qf (.ref D) C (.ok .next) s') :
    wpAny (model X.prog X.w) X.A (comprehension (.ListComp elt [⟨tg, iter, ifs, 0⟩] scope pos) scope X.env pos' (newList []) false (eval iter X.env) use) Qf X.xe s := by
  obtain ⟨p, hot, hpn⟩ := hc
  have cl : ∀ y ∈ scope.names, y.2 = .free → ∃ c, X.env.cells.lookup y.1 = some c := fun y hy e => (ok.free y hy e).elim (fun k => I.ok.has _ (.inl k)) (fun k => I.ok.has _ (.inr k))
  refine wpAny_comprehension_free (use := use) rfl hs (closure_ok cl) ok.kind (fun y hy e => by rw [ok.uniq y hy, e]) (thn (hi.run pins s σ H _ I h) fun xv s1 hx => thn hx fun itv s2 h2 => ?_)
  obtain ⟨it, fp, tn, J, H2, e, I2, T, st2, f2, q⟩ := h2
  subst e
  refine wpAny_newObj_type (newEnv_comp ?_)
  generalize hD : s2.heap.objs.size = D
  obtain ⟨V, ⟨m0, w0⟩, turn⟩ := q D (I2.hok.fresh (Nat.le_of_eq hD))
  obtain ⟨s3, hs3⟩ : ∃ s3 : Shared, ({ s2 with heap := s2.heap.push { cls := .type "list", data := .seq ([] : List Value).toArray } } : Shared) = s3 := ⟨_, rfl⟩
  have hh3 : s3.heap = s2.heap.push { cls := .type "list", data := .seq ([] : List Value).toArray } := by rw [← hs3]
  obtain ⟨H3, hH3⟩ : ∃ H3, upd H2 D (.lst []) = H3 := ⟨_, rfl⟩
  have I3 : Inv X pins σ H3 s3 := by
    rw [← hs3, ← hH3]
    refine I2.laid (t' := s2.toks) (fun b o e => Heap.get?_push_of_some _ e) (Nat.le_of_eq hD) ?_
    rw [← hD]
    exact ⟨Nat.zero_le _, [], 0, .nil, Heap.get?_push_size _ rfl⟩
  rw [hH3] at w0
  have lt2 : ∀ b ∈ fp, b < s2.heap.objs.size := fun b hb => let ⟨o, e, _⟩ := T.obj _ _ st2 b hb; Heap.lt_size e
  have f3 : ∀ b ∈ fp, FpOk X pins H3 b ∧ b < s3.heap.objs.size := fun b hb => by
    refine ⟨⟨?_, (f2 b hb).2⟩, by rw [hh3, Heap.size_push]; exact Nat.lt_succ_of_lt (lt2 b hb)⟩
    rw [← hH3, upd_ne (by rw [← hD]; exact Nat.ne_of_lt (lt2 b hb))]
    exact (f2 b hb).1
  have I4' := block_start I3 ok hN f3
  have P3 := I3.pin p (List.mem_append_left _ hpn)
  rw [hs3]
  show codeAny _ _ (.compStart (.ListComp elt [⟨tg, iter, ifs, 0⟩] scope pos) 0 (.ref it) (.ref D) (compEnvC scope (cellsFrom (s3.heap.objs.size + 1) scope.names (cloFrom X.env.cells scope.names [])) s3.heap.objs.size X.env)) (compPost (model X.prog X.w) X.A X.xe use Qf (.ref D) s3.heap.objs.size) { s3 with heap := pushCells (s3.heap.push { cls := .type "dict", data := .dict #[] }) scope.names }
  have pg := hg s3 H3 s3.heap.objs.size (cellsFrom (s3.heap.objs.size + 1) scope.names (cloFrom X.env.cells scope.names [])) fp p hot
  have pt := ht s3 H3 s3.heap.objs.size (cellsFrom (s3.heap.objs.size + 1) scope.names (cloFrom X.env.cells scope.names [])) fp p hot
  have pe := he s3 H3 s3.heap.objs.size (cellsFrom (s3.heap.objs.size + 1) scope.names (cloFrom X.env.cells scope.names [])) fp p hot
  generalize hce : compEnvC scope (cellsFrom (s3.heap.objs.size + 1) scope.names (cloFrom X.env.cells scope.names [])) s3.heap.objs.size X.env = ce at I4' pg pt pe ⊢
  have cL : ce.locals = s3.heap.objs.size := by rw [← hce]; rfl
  have keep4 : ∀ b o, s3.heap.get? b = some o → (pushCells (s3.heap.push { cls := .type "dict", data := .dict #[] }) scope.names).get? b = some o := fun b o e => pushCells_keeps _ _ _ _ (Heap.get?_push_of_some _ e)
  have st4 : tn 0 (pushCells (s3.heap.push { cls := .type "dict", data := .dict #[] }) scope.names) := T.keep _ _ _ st2 fun b _ o e => keep4 _ _ (by rw [hh3]; exact Heap.get?_push_of_some _ e)
  have I4 : Inv (EL.blkH X s3 H3 scope ce fp p) [] (wipe σ (own.map (·.2))) H3 { s3 with heap := pushCells (s3.heap.push { cls := .type "dict", data := .dict #[] }) scope.names } := by
    refine I4'.toBlkH ⟨keep4 _ _ P3.1, P3.2.1, by rw [cL]; exact Nat.ne_of_lt (Heap.lt_size P3.1), fun hm => (List.mem_cons.mp (I3.stkSub p.1 hm)).elim P3.2.2.1 P3.2.2.2.1, P3.2.2.2.2⟩
  generalize hs4 : ({ s3 with heap := pushCells (s3.heap.push { cls := .type "dict", data := .dict #[] }) scope.names } : Shared) = s4 at I4 ⊢
  have st4' : tn 0 s4.heap := by rw [← hs4]; exact st4
  have hcB : L2H.HotC (EL.blkH X s3 H3 scope ce fp p) := ⟨p, hot, by simp⟩
  have stat : ∀ {σ' : L2.St} {H' : Hp} {s' : Shared}, Inv (EL.blkH X s3 H3 scope ce fp p) [] σ' H' s' → (∀ b ∈ fp, H' b = none) → ∀ b ∈ fp, FpOk (EL.blkH X s3 H3 scope ce fp p) [] H' b := fun I' hn b hb =>
    ⟨hn b hb, (I'.ok.exf b hb).1, I'.ok.exfs b hb, .inl hb, fun x c e => (I'.ok.exf b hb).2 x c e, fun q hq => by
      cases List.mem_singleton.mp (show q ∈ [p] from by simpa using hq)
      exact (f3 b hb).1.2.2.2.2.2 p (List.mem_append_left _ hpn)⟩
  have loop : codeAny (model X.prog X.w) X.A (.compLoop (.ListComp elt [⟨tg, iter, ifs, 0⟩] scope pos) 0 (.ref it) (.ref D) ce) (compPost (model X.prog X.w) X.A X.xe use Qf (.ref D) s3.heap.objs.size) s4 := by
    refine compLoop_any (fun n s' => ∃ i H', Inv (EL.blkH X s3 H3 scope ce fp p) [] (wipe σ (own.map (·.2))) H' s' ∧ tn i s'.heap ∧ (∀ b ∈ fp, H' b = none) ∧ V i n H') ?_ m0 ⟨0, H3, I4, st4', fun b hb => (f3 b hb).1.1, w0⟩
    rintro n s5 ⟨i, H5, I5, st5, n5, w5⟩
    rcases turn i n H5 w5 with ⟨stop, qq⟩ | ⟨go, Nx, hNx, step⟩
    · refine thnF (T.done (EL.blkH X s3 H3 scope ce fp p) rfl rfl rfl hcB i [] s5 _ H5 (fun _ _ => False) I5 (stat I5 n5) st5 stop) fun r s6 ⟨hr, I6⟩ => ?_
      subst hr
      have I7 : Inv X pins σ H5 s6 := I3.call' (ch := fp) I6.os I6.base I6.hok I6.bare fun b hb => ⟨(f3 b hb).1.2.2.2.1, (f3 b hb).1.2.1, (f3 b hb).1.2.2.2.2.1, (f3 b hb).1.2.2.2.2.2⟩
      have nC : H5 s3.heap.objs.size = none := by rw [← cL]; exact I6.free
      obtain ⟨m, hn, _⟩ := I6.loc
      have hn : s6.heap.Ns ce.locals m := hn
      rw [cL] at hn
      exact hRR D s3.heap.objs.size s6 m H5 I7 qq hn (I3.fpOk (Nat.le_refl _) nC)
    · refine thnF (T.item (EL.blkH X s3 H3 scope ce fp p) rfl rfl rfl hcB i [] s5 _ H5 (fun _ _ => False) I5 (stat I5 n5) st5 go) fun r s6 ⟨u, hr, h6⟩ => ?_
      subst hr
      refine thnF h6 fun _ s7 ⟨x, H7, I7, r7, y7, st7, n7⟩ => ?_
      refine thnF (pg.run _ s7 _ H7 x u _ (I7.pinned (stat I7 n7) (T.obj _ _ st7)) r7 (step x H7 y7)) fun _ s8 ⟨σ8, H8, I8, hw8, q8⟩ => ?_
      refine thnF (pt.run _ s8 σ8 H8 _ I8 q8) fun b s9 ⟨H9, I9, q9⟩ => ?_
      have fin : ∀ {s' : Shared} {H' : Hp}, Inv (EL.blkH X s3 H3 scope ce fp p) ([] ++ pinsAt fp s7.heap) σ8 H' s' → Nx H' → ∃ m, m < n ∧ ∃ i H', Inv (EL.blkH X s3 H3 scope ce fp p) [] (wipe σ (own.map (·.2))) H' s' ∧ tn i s'.heap ∧ (∀ b ∈ fp, H' b = none) ∧ V i m H' := fun {s' H'} I' nx => by
        obtain ⟨m', hm, w'⟩ := hNx H' nx
        have pin' : ∀ b ∈ fp, ∀ o, s7.heap.get? b = some o → s'.heap.get? b = some o ∧ H' b = none := fun b hb o e =>
          let z := I'.pin (b, o) (List.mem_append_right _ (List.mem_append_right _ (mem_pinsAt hb e)))
          ⟨z.1, z.2.1⟩
        refine ⟨m', hm, i + 1, H', (I'.unpinned (pins := [])).weak (by rw [← hw8, wipe_length]) (fun j v e => (wipe_some (by rw [hw8]; exact e)).1), T.keep _ _ _ st7 fun b hb o e => (pin' b hb o e).1, fun b hb => ?_, w'⟩
        obtain ⟨o, e, _⟩ := T.obj _ _ st7 b hb
        exact (pin' b hb o e).2
      cases b with
      | false => exact fin I9 q9
      | true =>
        refine thnF (pe.run _ s9 σ8 H9 _ I9 q9) fun z s10 ⟨yv, H10, I10, r10, acc, hD10, hz10, nx⟩ => ?_
        exact app_ok (X := EL.blkH X s3 H3 scope ce fp p) I10 hD10 hz10 r10 fun s11 I11 => fin I11 nx
  exact codeAny_compStart_list loop (T.self X.A 0 _ _ _ st4' loop)
theorem pe_lcH {elt tg iter : Expr} {ifs : List Expr} {scope : Scope} {own : List (Str × Nat)} {pos : Pos} {wi : TI} {g : TG} {tt : TT} {te : TE} (hc : L2H.HotC X) (hN : X.N.Nodup) (hi : L2H.PIH X tg iter wi) (ok : BlkOk X.N X.env.scope scope own)
    (hg : ∀ (s : Shared) (H : Hp) (C : Addr) (cl : List (Str × Addr)) (fp : List Addr) (p : Addr × Obj), L2H.Hot1 X.A p → PG (EL.blkH X s H scope (compEnvC scope cl C X.env) fp p) tg g) (ht : ∀ (s : Shared) (H : Hp) (C : Addr) (cl : List (Str × Addr)) (fp : List Addr) (p : Addr × Obj), L2H.Hot1 X.A p → PTs (EL.blkH X s H scope (compEnvC scope cl C X.env) fp p) ifs tt)
    (he : ∀ (s : Shared) (H : Hp) (C : Addr) (cl : List (Str × Addr)) (fp : List Addr) (p : Addr × Obj), L2H.Hot1 X.A p → PE (EL.blkH X s H scope (compEnvC scope cl C X.env) fp p) elt te) (hs : ∀ x, foldedSetIterable iter X.env x = pure x := by intro _; rfl) :
    PE X (.ListComp elt [⟨tg, iter, ifs, 0⟩] scope pos) (tLc wi g tt te (own.map (·.2))) := by
  refine ⟨fun pins s σ H Q I h => ?_⟩
  rw [arm_eval_ListComp]
  refine lcH_core hc hN I hi ok hg ht he hs h fun D C s' m H' I' q hn f => ⟨m, hn, fun h2 sb => ?_⟩
  obtain ⟨f0, f1, f2, f3, f4, f5⟩ := f
  exact ⟨.ref D, H', I'.turned (t' := s'.toks) (fun b o hb e => (sb.2 b hb).trans e) f0 f1 f3 f4 f5, rfl, q⟩
end
end EL
namespace EL
open PySem PySem.Spec PyProof.Rows L2 He TL
/-! ### defs where an exception is being handled -/
def FnHx (P : Program) (w : World) (K : PySem.W.Frag) (mg : Str → Option Value) (base : Heap) (CX : CXT) (k : Nat) (f : Addr) (sp : Sp) : Prop := ∃ fd ps, L2H.FnH P w K mg base CX k f fd ps sp ∧ Binds K fd ps []
section
variable {P : Program} {w : World} {K : PySem.W.Frag} {mg : Str → Option Value} {base : Heap} {CX : CXT} {k : Nat} {x qual : Str} {sp : Sp} {params : Arguments} {body : List Stmt} {scope : Scope} {f : Addr} {fd : FuncData} {ps N : List Str}
theorem fnHx (F : FunD K x qual params body scope [] [] f fd)
    (hb : ∀ (kV doc pm : Value) (an : Option Addr) (cdv ct : Value) (us : List Value), us.length = ps.length → bindArgs (PySem.W.fnOf x qual params body scope .none kV doc pm an cdv ct) ⟨us, []⟩ = pure (ps.zip us))
    (S : FnScope N ps scope) (len : ∀ vs H Q E, sp vs H Q E → vs.length = ps.length)
    (hbody : ∀ (cdv : Value) (A : Around) (outer : List Env) (s : Shared) (H : Hp) (vs : List V) (Q : VK) (E : XK) (p : Addr × Obj), L2H.Hot1 A p → L2H.RoomH k (A.deeper (envOfC qual scope s.heap.objs.size f cdv)) → sp vs H Q E →
      ∃ t, PSs (L2H.cxH CX P w K mg base N qual scope f cdv A outer s H E p) body t ∧ t { nx := fun _ H' => Q .non H', rt := Q } (start N vs) H) : FnHx P w K mg base CX (k + 1) f sp := by
  have b := F.bindsN hb
  obtain ⟨oc, od, dV, kV, doc, pm, an, cdv, ct, osl, rfl, lk, hcd, hD, hK⟩ := F.ex
  exact ⟨_, ps, L2H.fn_ofH lk hcd S len fun A outer s H vs Q E p hot hr h => hbody cdv A outer s H vs Q E p hot hr h, b⟩
theorem FnHx.mono {j : Nat} (F : FnHx P w K mg base CX j f sp) (h : j ≤ k) : FnHx P w K mg base CX k f sp := by
  obtain ⟨fd, ps, F, b⟩ := F
  exact ⟨fd, ps, ⟨F.len, fun A outer s H args us vs Q E p hr => F.run A outer s H args us vs Q E p (hr.mono h)⟩, b⟩
end
section
variable {X : Cx} {CX : CXT} {k : Nat} {C g : Addr} {sp : Sp}
theorem uH64 {A : Around} (r : L2H.RoomH k A) : A.units + 64 < cLine := by have := r.un; omega
theorem uH65 {A : Around} (r : L2H.RoomH k A) : A.units + 65 < cLine := by have := r.un; omega
theorem uH0 {A : Around} (r : L2H.RoomH k A) : A.units < cLine := by have := r.un; omega
theorem uH1 {A : Around} (r : L2H.RoomH k A) : A.units + 1 < cLine := by have := r.un; omega
theorem uH {A : Around} (r : L2H.RoomH k A) : A.units + 66 < cLine := by have := r.un; omega
theorem runH_at {A : Around} {E : XK} {pins : List (Addr × Obj)} {σ : L2.St} {H : Hp} {s : Shared} {Q : VK} {us : List Value} {vs : List V} (F : FnHx X.prog X.w X.K X.mg X.base CX k g sp) (hr : L2H.RoomH k A) (hA : A.handled = X.A.handled) (e0 : Env0 X.prog X.w X.K X.mg X.base A X.stack s H) (hc : L2H.HotC X) (hx : PassesAt CX X σ E)
    (I : Inv X pins σ H s) (r : Vals vs us) (h : sp vs H Q E) : codeAny (model X.prog X.w) A (.call (.ref g) ⟨us, []⟩) (fun r s' => match r with | .ok (.ret v) => EP X pins σ Q v s' | .ok _ => False | .error e => X.xe e s') s := by
  obtain ⟨fd, ps, F, hb⟩ := F
  obtain ⟨p, ⟨h1, h2⟩, hp⟩ := hc
  have b := hb s us I.kIn (by rw [List.append_nil, ← r.length]; exact F.len _ _ _ _ h)
  rw [List.append_nil] at b
  have P1 := I.pin p (List.mem_append_left _ hp)
  have hpin : L2H.PinOk X.stack H s p := ⟨P1.1, P1.2.1, fun hm => (List.mem_cons.mp (I.stkSub p.1 hm)).elim P1.2.2.1 P1.2.2.2.1, P1.2.2.2.2⟩
  refine codeAny_mono (F.run A X.stack s H ⟨us, []⟩ us vs Q E p hr ⟨hA.trans h1, h2⟩ hpin e0 b r h) fun r s' hq => ?_
  cases r with
  | error e => exact hx pins H s e s' I hq
  | ok fl =>
    cases fl with
    | ret u => exact I.after hq
    | next => exact False.elim hq
    | brk => exact False.elim hq
    | cont => exact False.elim hq
theorem px0H {σ : L2.St} : PassesAt CX0 X σ E0 := fun _ _ _ _ _ _ h => h.elim
theorem op_cmpOH {op : CmpOp} (hop : ∀ a b, compareOp op a b = richCompare op a b) (hs : PySem.W.findIn X.K (.ref C) (cmpInfo op).2.1 = some (some (.ref g))) (hf : PySem.W.isFn X.K (.ref g) = true) (F : FnHx X.prog X.w X.K X.mg X.base CX0 k g sp)
    (hr : L2H.RoomH k X.A) (hc : L2H.HotC X) : OpR X (compareOp op) (rCmpO X.K C sp E0) := by
  intro pins s σ H x y v u Q I rx ry h
  obtain ⟨a, dx, fs, t, rfl, ha, ty, hn, q⟩ := h
  cases (show v = Value.ref a from rx)
  obtain ⟨ox, od, J, _⟩ := ins_at I ha
  obtain ⟨P, Z, p, _⟩ := kit_of I ry ty
  obtain ⟨m, hF⟩ := I.fr
  rw [hop]
  refine PySem.W.cmp_K (op := op) (tb := t) (by have := uH hr; omega) hF I.ok.mod.kin J (Z.ty _ _ I.kIn p) hn hs hf ?_
  refine wpAny_mono (wpAny_call (runH_at (us := [.ref a, u]) (vs := [.ref a, y]) F hr rfl I.env0 hc px0H I (.cons rfl (.cons ry .nil)) q)) (fun w s' z => ?_) fun _ _ x => x
  obtain ⟨z', H', I', rz, qz⟩ := z
  exact SlX.cmpback rz ⟨z', H', I', rz, qz⟩
end
end EL
namespace EL
open PySem PySem.Spec PyProof.Rows L2 He TL
section
variable {X : Cx} {CX : CXT} {k : Nat} {C g : Addr} {sp : Sp}
theorem roomH_mark {A : Around} {hd : Option Value} (r : Room k A) : L2H.RoomH k (A.mark hd) := ⟨r.dp, r.un⟩
theorem RoomH_in1 {A : Around} (r : L2H.RoomH (k + 1) A) : L2H.RoomH k A.in1 := ⟨by have := r.dp; show A.depth + 3 * k + 5 < _; omega, by have := r.un; show A.units + 1 + 16 * k + 200 < _; omega⟩
theorem op_neOH (c : OC X.K C) (hn : PySem.W.findIn X.K (.ref C) "__ne__" = some (some (.builtin "object.__ne__"))) (hs : PySem.W.findIn X.K (.ref C) "__eq__" = some (some (.ref g))) (hf : PySem.W.isFn X.K (.ref g) = true) (F : FnHx X.prog X.w X.K X.mg X.base CX0 k g sp)
    (hr : L2H.RoomH (k + 1) X.A) (hc : L2H.HotC X) : OpR X (compareOp .NotEq) (rNeO X.K C sp E0) := by
  intro pins s σ H x y v u Q I rx ry h
  obtain ⟨a, dx, fs, t, rfl, ha, ty, hnf, q⟩ := h
  cases (show v = Value.ref a from rx)
  obtain ⟨ox, od, J, _⟩ := ins_at I ha
  obtain ⟨P, Z, p, _⟩ := kit_of I ry ty
  show wpAny _ X.A (richCompare .NotEq (.ref a) u) _ _ s
  refine ne_own (tb := t) (by have := uH hr; omega) I.kIn J (Z.ty _ _ I.kIn p) hnf hn c.ob hs hf ?_
  refine wpAny_mono (wpAny_call (runH_at (A := X.A.in1) (us := [.ref a, u]) (vs := [.ref a, y]) F (RoomH_in1 hr) rfl I.env0.in1 hc px0H I (.cons rfl (.cons ry .nil)) q)) (fun w s' z => ?_) fun _ _ x => x
  obtain ⟨z', H', I', rz, b, eb, qz⟩ := z
  subst eb
  cases (show w = Value.bool b from rz)
  exact ⟨b, rfl, .bl (!b), H', I', rfl, qz⟩
/-- raise C('..') where an exception is being handled -/
theorem rsH {W : WX} {c m : Str} {j : Nat} {p p2 pos pos2 : Pos} (hc : L2H.HotC X) (tk : Takes X W) (x : XC X.K X.mg c) (hg : Gl X c) (hdb : (c == ("__debug__" : Str)) = false := by decide) :
    PS X (.Raise (some (.Call (.Name c p) [.Constant (.str m) j p2] [] pos)) none pos2) (fun _ σ H => W (.ref (ga X.K c)) none σ H) :=
  L2H.ps_raiseH hc tk (L2N.pmk_own PySem.F.excBase_ValueError x.q x.g x.k (raises_own x.b x.t) hg hdb)
/-- the same in a def whose exceptions bear no context -/
theorem rsN {W : WX} {c m : Str} {j : Nat} {p p2 pos pos2 : Pos} (hc : X.calm = true) (tk : L2N.Takes X W) (x : XC X.K X.mg c) (hg : Gl X c) (hdb : (c == ("__debug__" : Str)) = false := by decide) :
    PS X (.Raise (some (.Call (.Name c p) [.Constant (.str m) j p2] [] pos)) none pos2) (fun _ σ H => W (.ref (ga X.K c)) none σ H) :=
  L2N.ps_raise hc tk (L2N.pmk_own PySem.F.excBase_ValueError x.q x.g x.k (raises_own x.b x.t) hg hdb)
theorem pxN {W : WX} (tk : L2N.Takes X W) : ∀ σ, PassesAt (L2N.CX X.prog X.w) X σ (WE W σ) := fun σ => L2N.passAt tk σ
theorem ps_augOH {E : L2.St → XK} {op : Operator} {i : Nat} {x : Str} {e : Expr} {te : TE} {pos pos' : Pos} (hN : X.N.Nodup) (hi : X.N[i]? = some x) (hx : Loc X.env.scope x) (hc : PySem.W.selfFirst X.K C = true) (hs : PySem.W.findIn X.K (.ref C) (PySem.dunderI op.info.2) = some (some (.ref g))) (hf : PySem.W.isFn X.K (.ref g) = true)
    (F : FnHx X.prog X.w X.K X.mg X.base CX k g sp) (hr : L2H.RoomH k X.A) (hot : L2H.HotC X) (hp : ∀ σ, PassesAt CX X σ (E σ)) (he : PE X e te) (hl' : X.fn x = true ∨ X.env.scope.names.lookup x = some .local := by first | exact .inl rfl | exact .inr rfl | assumption) :
    PS X (.AugAssign (.Name x pos') op e pos) (tAugX i C sp E te) := by
  refine ⟨fun pins s σ H D I h => ?_⟩
  obtain ⟨v, e1, h⟩ := h
  obtain ⟨m0, hn, hl⟩ := I.loc
  have vis : Vis X.env.scope x := hx.elim .inl fun k => .inr (.inl k)
  obtain ⟨u, r, l⟩ := hl i x v hi e1 vis
  refine wpAny_AugAssign_Name ?_
  have go : wpAny (model X.prog X.w) X.A (eval e X.env) (fun w s₂ => wpAny (model X.prog X.w) X.A (inplaceOp op u w) (fun r s₃ => wpAny (model X.prog X.w) X.A (storeName X.env x r) (fun _ => SP X pins D .next) X.xe s₃) X.xe s₂) X.xe s := by
    refine thn (he.run pins s σ H _ I h) fun w s1 ⟨y, H1, I1, r1, q1⟩ => ?_
    have step : wpAny (model X.prog X.w) X.A (inplaceOp op u w) (EP X pins σ fun z H2 => D.nx (σ.set i (some z)) H2) X.xe s1 := by
      obtain ⟨a, dx, fs, rfl, ha, q⟩ := q1
      cases (show u = Value.ref a from r)
      obtain ⟨ox, od, J, _⟩ := ins_at I1 ha
      obtain ⟨m, hF⟩ := I1.fr
      refine PySem.W.ksp_inplace hF I1.ok.mod.kin J hc hs hf ?_
      refine wpAny_mono (wpAny_call (runH_at (us := [.ref a, w]) (vs := [.ref a, y]) F hr rfl I1.env0 hot (hp σ) I1 (.cons rfl (.cons r1 .nil)) q)) (fun w s' z => ?_) fun _ _ x => x
      obtain ⟨z', H', I', rz, qz⟩ := z
      exact SlX.cmpback rz ⟨z', H', I', rz, qz⟩
    exact thn step fun z s2 ⟨zv, H2, I2, r2, q2⟩ => store_ok I2 hN hi hx r2 (fun s3 I3 => ⟨_, H2, I3, q2⟩) hl'
  rcases l with ⟨hk, hm⟩ | ⟨hk, c, hc, hcell⟩
  · exact wpAny_loadName_local I.ok.kind hk hn hm go
  · refine hk.elim (fun hk => wpAny_loadName_cell I.ok.kind hk hc hcell go) fun hk => ?_
    have z : X.env.scope.names.lookup x = some .free := hk
    rcases hx with k | k <;> (rw [k] at z; cases z)
end
end EL
/-! EV: list(zip(a, b)) of two lists; xs[a:b] = ys -/
namespace EL
open PySem PySem.Spec PyProof.Rows PyProof.V PySem.Calls PySem.W L2 He TL
namespace ZL
theorem no_len : typeLookup (.type "zip") "__len__" = pure none := by rw [typeLookup_type, builtinLookup_eq_fast]; kernel_rfl
theorem no_hint : typeLookup (.type "zip") "__length_hint__" = pure none := by rw [typeLookup_type, builtinLookup_eq_fast]; kernel_rfl
section
variable {prog : Program} {w : World} {A : Around} {E : Value → Shared → Prop} {s : Shared} {z TI TO i1 i2 l1 l2 : Addr} {xs ys : Array Value}
/-- a zip at its turn i, its last tuple perhaps held by another -/
structure St (h : Heap) (S z TI TO i1 i2 l1 l2 : Addr) (xs ys : Array Value) (i : Nat) : Prop where
  ti : IsPair h TI (.ref i1) (.ref i2)
  h1 : h.IsListIter i1 l1 i
  h2 : h.IsListIter i2 l2 i
  e1 : h.IsList l1 xs
  e2 : h.IsList l2 ys
  z : (IsZip h z TI TO .none ∧ ∃ a b, IsPair h TO a b) ∨ ∃ T f oT, IsZipHeld h z TI TO T f ∧ h.get? T = some oT ∧ T ≠ z ∧ T ≠ i1 ∧ T ≠ i2 ∧ T ≠ S
/-- what the walk may change -/
abbrev Out (z TO i1 i2 c : Addr) : Prop := c ≠ z ∧ c ≠ TO ∧ c ≠ i1 ∧ c ≠ i2
theorem St.keep {h h' : Heap} {S : Addr} {i : Nat} (st : St h S z TI TO i1 i2 l1 l2 xs ys i) (k : ∀ c o, c ≠ S → h.get? c = some o → h'.get? c = some o) (s1 : TI ≠ S) (s2 : i1 ≠ S) (s3 : i2 ≠ S) (s4 : l1 ≠ S) (s5 : l2 ≠ S) (s6 : z ≠ S) (s7 : TO ≠ S) : St h' S z TI TO i1 i2 l1 l2 xs ys i := by
  obtain ⟨a, b, c, d, e, f⟩ := st
  refine ⟨k _ _ s1 a, b.at fun o q => k _ o s2 q, c.at fun o q => k _ o s3 q, d.at fun o q => k _ o s4 q, e.at fun o q => k _ o s5 q, ?_⟩
  rcases f with ⟨f1, x, y, f2⟩ | ⟨T, f, oT, f1, f2, f3, f4, f5, f6⟩
  · exact .inl ⟨k _ _ s6 f1, x, y, k _ _ s7 f2⟩
  · exact .inr ⟨T, f, oT, k _ _ s6 f1, k _ _ f6 f2, f3, f4, f5, f6⟩
theorem item {S : Addr} {i : Nat} {x y : Value} {Q : Option Value → Shared → Prop} (D : ZipApart z TI TO i1 i2 l1 l2) (st : St s.heap S z TI TO i1 i2 l1 l2 xs ys i) (hS : S < s.heap.objs.size) (hx : xs[i]? = some x) (hy : ys[i]? = some y)
    (hQ : ∀ h', St h' S z TI TO i1 i2 l1 l2 xs ys (i + 1) → IsPair h' s.heap.objs.size x y → h'.objs.size = s.heap.objs.size + 1 →
      (∀ c o, Out z TO i1 i2 c → s.heap.get? c = some o → h'.get? c = some o) → Q (some (.ref s.heap.objs.size)) { s with heap := h' }) :
    wpAny (model prog w) A (pyNext (.ref z)) Q E s := by
  obtain ⟨ti, h1, h2, e1, e2, f⟩ := st
  have lt : ∀ {c o}, s.heap.get? c = some o → s.heap.objs.size ≠ c := fun e => Nat.ne_of_gt (Heap.lt_size e)
  rcases f with ⟨f1, a, b, f2⟩ | ⟨T, f, oT, f1, f2, f3, f4, f5, f6⟩
  · refine wpAny_pyNext_zip_item D f1 ti f2 h1 h2 e1 e2 hx hy fun h' a1 a2 a3 a4 a5 a6 hk => hQ h' ⟨hk _ _ D.TIz D.TITO D.TIi1 D.TIi2 ti, a3, a4, e1.at fun o e => hk _ o D.l1z D.l1TO D.l1i1 D.l1i2 e, e2.at fun o e => hk _ o D.l2z D.l2TO D.l2i1 D.l2i2 e,
      .inr ⟨_, false, _, a1, a5, lt f1, (by obtain ⟨_, e, _⟩ := h1; exact lt e), (by obtain ⟨_, e, _⟩ := h2; exact lt e), Nat.ne_of_gt hS⟩⟩ a5 a6 fun c o hc e => hk c o hc.1 hc.2.1 hc.2.2.1 hc.2.2.2 e
  · refine wpAny_pyNext_zip_item_held D f1 f2 ti h1 h2 e1 e2 hx hy fun h' a1 a3 a4 a5 a6 hk => hQ h' ⟨hk _ _ D.TIz D.TIi1 D.TIi2 ti, a3, a4, e1.at fun o e => hk _ o D.l1z D.l1i1 D.l1i2 e, e2.at fun o e => hk _ o D.l2z D.l2i1 D.l2i2 e,
      .inr ⟨T, true, oT, a1, hk _ _ f3 f4 f5 f2, f3, f4, f5, f6⟩⟩ a5 a6 fun c o hc e => hk c o hc.1 hc.2.2.1 hc.2.2.2 e
theorem done {S : Addr} {i : Nat} {Q : Option Value → Shared → Prop} (hh : A.handled = none) (D : ZipApart z TI TO i1 i2 l1 l2) (st : St s.heap S z TI TO i1 i2 l1 l2 xs ys i) (hend : xs[i]? = none ∨ ys[i]? = none)
    (hQ : ∀ h', (∀ c o, Out z TO i1 i2 c → s.heap.get? c = some o → h'.get? c = some o) → Q none { s with heap := h' }) : wpAny (model prog w) A (pyNext (.ref z)) Q E s := by
  obtain ⟨ti, h1, h2, e1, e2, f⟩ := st
  rcases f with ⟨f1, a, b, f2⟩ | ⟨T, f, oT, f1, f2, f3, f4, f5, f6⟩
  · exact wpAny_pyNext_zip_end hh D f1 ti f2 h1 h2 e1 e2 hend fun h' hk => hQ h' fun c o hc e => hk c o hc.1 hc.2.1 hc.2.2.1 hc.2.2.2 e
  · exact wpAny_pyNext_zip_end_held hh D f1 f2 ti h1 h2 e1 e2 hend fun h' hk => hQ h' fun c o hc e => hk c o hc.1 hc.2.2.1 hc.2.2.2 e
/-- the addresses as hold the pairs, they lie above lo and rise -/
structure Zg (xs ys : Array Value) (lo : Addr) (h : Heap) (as : List Addr) : Prop where
  rise : as.Pairwise (· < ·)
  above : ∀ a ∈ as, lo < a
  pairs : ∀ (j : Nat) (a : Addr), as[j]? = some a → ∃ x y, xs[j]? = some x ∧ ys[j]? = some y ∧ IsPair h a x y
theorem Zg.there {lo : Addr} {h : Heap} {as : List Addr} (g : Zg xs ys lo h as) {a : Addr} (ha : a ∈ as) : a < h.objs.size := by
  obtain ⟨j, hj⟩ := List.mem_iff_getElem?.mp ha
  obtain ⟨_, _, _, _, e⟩ := g.pairs j a hj
  exact Heap.lt_size e
theorem loop {S : Addr} {n : Nat} {R : Result → Shared → Prop} (hh : A.handled = none) (D : ZipApart z TI TO i1 i2 l1 l2) (hn : n = min xs.size ys.size) (hns : n ≤ sizeLine) (lz : z < S) (lTO : TO < S) (lTI : TI < S) (li1 : i1 < S) (li2 : i2 < S) (ll1 : l1 < S) (ll2 : l2 < S) (res : Value) {h₁ : Heap}
    (hR : ∀ h' tk acc c as, (∀ b o, b ≠ S → Out z TO i1 i2 b → h₁.get? b = some o → h'.get? b = some o) → h'.get? S = some { cls := .type "list", dict := none, data := .seq acc c, slots := #[] } → as.length = n → Zg xs ys S h' as →
      acc.toList = as.map Value.ref → R (.ok (.ret res)) { s with heap := h', toks := tk }) :
    ∀ (k i : Nat) (h : Heap) (tk c : Nat) (acc : Array Value) (as : List Addr), n - i = k → i ≤ n → St h S z TI TO i1 i2 l1 l2 xs ys i → (∀ b o, b ≠ S → Out z TO i1 i2 b → h₁.get? b = some o → h.get? b = some o) →
      h.get? S = some { cls := .type "list", dict := none, data := .seq acc c, slots := #[] } → acc.toList = as.map Value.ref → as.length = i → Zg xs ys S h as →
      codeAny (model prog w) A (.builtin "list.extend.loop" ⟨[.ref S, .ref z, res], []⟩) R { s with heap := h, toks := tk } := by
  have oS : Out z TO i1 i2 S := ⟨Nat.ne_of_gt lz, Nat.ne_of_gt lTO, Nat.ne_of_gt li1, Nat.ne_of_gt li2⟩
  have oA : ∀ {b : Addr}, S < b → Out z TO i1 i2 b := fun hb => ⟨Nat.ne_of_gt (Nat.lt_trans lz hb), Nat.ne_of_gt (Nat.lt_trans lTO hb), Nat.ne_of_gt (Nat.lt_trans li1 hb), Nat.ne_of_gt (Nat.lt_trans li2 hb)⟩
  intro k
  induction k with
  | zero =>
    intro i h tk c acc as hk hi hst hkeep hS hacc hal hG
    have hin : i = n := by omega
    refine codeAny_builtin PySem.F.entry_extend_loop ?_
    rw [Around.under_plainId PySem.F.plain_extend_loop _]
    show wpAny _ A.in1 (pyNext (.ref z) >>= _) _ _ _
    have hend : xs[i]? = none ∨ ys[i]? = none := by
      rcases Nat.le_total xs.size ys.size with q | q
      · exact .inl (Array.getElem?_eq_none (by omega))
      · exact .inr (Array.getElem?_eq_none (by omega))
    refine wpAny_bind (done (s := { s with heap := h, toks := tk }) (A := A.in1) hh D hst hend fun h' he => ?_)
    refine wpAny_pure (hR h' tk acc c as (fun b o h1 h2 e => he b o h2 (hkeep b o h1 h2 e)) (he S _ oS hS) (by omega) ⟨hG.rise, hG.above, fun j a hj => ?_⟩ hacc)
    obtain ⟨x, y, q1, q2, q3⟩ := hG.pairs j a hj
    exact ⟨x, y, q1, q2, he a _ (oA (hG.above a (List.mem_of_getElem? hj))) q3⟩
  | succ k ih =>
    intro i h tk c acc as hk hi hst hkeep hS hacc hal hG
    have hlt : i < n := by omega
    have hsz : acc.size = i := by rw [← Array.length_toList, hacc, List.length_map, hal]
    have hxl : i < xs.size := by omega
    have hyl : i < ys.size := by omega
    refine codeAny_builtin PySem.F.entry_extend_loop ?_
    rw [Around.under_plainId PySem.F.plain_extend_loop _]
    show wpAny _ A.in1 (pyNext (.ref z) >>= _) _ _ _
    refine wpAny_bind (item (s := { s with heap := h, toks := tk }) D hst (Heap.lt_size hS) (Array.getElem?_eq_getElem hxl) (Array.getElem?_eq_getElem hyl) fun h' hst' ht hz hkp => ?_)
    dsimp only at ht hz hkp ⊢
    have hS' := hkp S _ oS hS
    have up : ∀ b o, b ≠ S → h'.get? b = some o → (h'.update S (Obj.mapSeq (·.push (Value.ref h.objs.size)))).get? b = some o := fun b o hb e => (Heap.get?_update_other _ _ (Ne.symm hb)).trans e
    have hSl : S < h.objs.size := Heap.lt_size hS
    show wpAny _ A.in1 (updateSeq S (·.push (Value.ref h.objs.size)) >>= _) _ _ _
    refine wpAny_bind ?_
    refine wpAny_updateSeq hS' rfl (wpAny_pure ⟨plainId_quiet PySem.F.plain_extend_loop _, ih (i + 1) _ tk _ (acc.push (Value.ref h.objs.size)) (as ++ [h.objs.size]) (by omega) hlt (hst'.keep up (Nat.ne_of_lt lTI) (Nat.ne_of_lt li1) (Nat.ne_of_lt li2) (Nat.ne_of_lt ll1) (Nat.ne_of_lt ll2) (Nat.ne_of_lt lz) (Nat.ne_of_lt lTO))
      (fun b o h1 h2 e => up b o h1 (hkp b o h2 (hkeep b o h1 h2 e))) (Heap.get?_update_self _ hS' rfl) (by rw [Array.toList_push, hacc, List.map_append]; rfl) (by rw [List.length_append, hal]; rfl) ⟨?_, ?_, ?_⟩⟩) (by rw [hsz]; omega) (by show (acc.push (Value.ref h.objs.size)).size ≤ sizeLine + 1; rw [Array.size_push, hsz]; omega)
    · refine List.pairwise_append.mpr ⟨hG.rise, List.pairwise_singleton _ _, fun a ha b hb => ?_⟩
      rw [List.mem_singleton.mp hb]
      exact hG.there ha
    · intro a ha
      rcases List.mem_append.mp ha with ha | ha
      · exact hG.above a ha
      · rw [List.mem_singleton.mp ha]; exact hSl
    · intro j b hj
      rcases Nat.lt_trichotomy j as.length with q1 | q1 | q1
      · rw [List.getElem?_append_left q1] at hj
        obtain ⟨x, y, e1, e2, e3⟩ := hG.pairs j b hj
        have hb := hG.above b (List.mem_of_getElem? hj)
        exact ⟨x, y, e1, e2, up b _ (Nat.ne_of_gt hb) (hkp b _ (oA hb) e3)⟩
      · subst q1
        have hb : h.objs.size = b := by simpa using hj
        subst hb
        exact ⟨_, _, by rw [hal]; exact Array.getElem?_eq_getElem hxl, by rw [hal]; exact Array.getElem?_eq_getElem hyl, up _ _ (Nat.ne_of_gt hSl) ht⟩
      · have hnone : (as ++ [h.objs.size])[j]? = none := List.getElem?_eq_none (by rw [List.length_append, List.length_singleton]; omega)
        rw [hnone] at hj; cases hj
/-- list(z) -/
theorem call {n : Nat} {Q : Value → Shared → Prop} (hh : A.handled = none) (D : ZipApart z TI TO i1 i2 l1 l2) (hn : n = min xs.size ys.size) (hns : n ≤ sizeLine)
    (hz : IsZip s.heap z TI TO .none) (hTI : IsPair s.heap TI (.ref i1) (.ref i2)) (hTO : ∃ a b, IsPair s.heap TO a b) (h1 : s.heap.IsListIter i1 l1 0) (h2 : s.heap.IsListIter i2 l2 0) (e1 : s.heap.IsList l1 xs) (e2 : s.heap.IsList l2 ys)
    (hQ : ∀ h' tk acc c as, (∀ b o, Out z TO i1 i2 b → s.heap.get? b = some o → h'.get? b = some o) → h'.get? s.heap.objs.size = some { cls := .type "list", dict := none, data := .seq acc c, slots := #[] } → as.length = n → Zg xs ys s.heap.objs.size h' as →
      acc.toList = as.map Value.ref → Q (.ref s.heap.objs.size) { s with heap := h', toks := tk }) :
    wpAny (model prog w) A (PySem.call (.type "list") [.ref z]) Q E s := by
  obtain ⟨ta, tb, hTO⟩ := hTO
  refine callType_codes (Q₁ := fun obj s₁ => obj = .ref s.heap.objs.size ∧ s₁ = { s with heap := s.heap.push { cls := .type "list", data := .seq #[] } }) PySem.F.called_list (PySem.F.typeCall_list_1 _) PySem.F.entry_list_init
    (code_list_new _ ⟨rfl, rfl⟩) fun obj s₁ h₁ => ?_
  obtain ⟨rfl, rfl⟩ := h₁
  have hS : (s.heap.push { cls := .type "list", data := .seq #[] }).get? s.heap.objs.size = some { cls := .type "list", data := .seq #[] } := Heap.get?_push_size _ rfl
  have lz := Heap.lt_size hz
  have lTI := Heap.lt_size hTI
  have lTO := Heap.lt_size hTO
  have li1 : i1 < s.heap.objs.size := by obtain ⟨_, e, _⟩ := h1; exact Heap.lt_size e
  have li2 : i2 < s.heap.objs.size := by obtain ⟨_, e, _⟩ := h2; exact Heap.lt_size e
  have ll1 : l1 < s.heap.objs.size := by obtain ⟨_, e, _⟩ := e1; exact Heap.lt_size e
  have ll2 : l2 < s.heap.objs.size := by obtain ⟨_, e, _⟩ := e2; exact Heap.lt_size e
  refine ⟨⟨_, hS, rfl⟩, PySem.F.args_list_init_2 _ _, ?_⟩
  generalize hSd : s.heap.objs.size = S at *
  show wpAny _ _ (do let old ← Builtin.List.listItems (.ref S); Builtin.List.listUpdate (.ref S) (fun _ => #[]); letGo old.toList.reverse; Builtin.List.listExtendWith (.ref S) (.ref z) .none) _ _ _
  refine wpAny_bind ?_
  unfold Builtin.List.listItems
  refine wpAny_bind (wpAny_seqItems hS rfl (wpAny_pure ?_))
  show wpAny _ _ (updateSeq S (fun _ => #[]) >>= fun _ => letGo (#[] : Array Value).toList.reverse >>= fun _ => Builtin.List.listExtendWith (.ref S) (.ref z) .none) _ _ _
  refine wpAny_bind (wpAny_updateSeq hS rfl ?_)
  have hS₂ := Heap.get?_update_self (Obj.mapSeq (fun _ => (#[] : Array Value))) hS rfl
  have oth : ∀ b o, s.heap.get? b = some o → ((s.heap.push { cls := .type "list", data := .seq #[] }).update S (Obj.mapSeq (fun _ => (#[] : Array Value)))).get? b = some o :=
    fun b o e => (Heap.get?_update_other _ _ (by rw [← hSd]; exact Nat.ne_of_gt (Heap.lt_size e))).trans (Heap.get?_push_of_some _ e)
  refine wpAny_bind (wpAny_letGo ?_)
  unfold Builtin.List.listExtendWith
  have hz2 := oth _ _ hz
  refine wpAny_bind (wpAny_typeOf (T := "zip") ⟨_, hz2, rfl⟩ ?_)
  have g1 : Builtin.List.listSameRef (.ref S) (.ref z) = false := by simp [Builtin.List.listSameRef, Nat.ne_of_gt lz]
  have g2 : (Value.type "zip" == Value.type "list") = false := by decide
  have g3 : (Value.type "zip" == Value.type "tuple") = false := by decide
  simp only [g1, g2, g3, Bool.or_false, Bool.false_eq_true, if_false]
  refine wpAny_bind (wpAny_pyIter_zip hz2 ?_)
  refine wpAny_bind (wpAny_holding ?_)
  unfold Builtin.List.listLengthHint
  refine wpAny_bind (wpAny_specialOf (T := "zip") ⟨_, hz2, rfl⟩ no_len ?_)
  show wpAny _ _ (specialOf (Value.ref z) (Str.ofString "__length_hint__") >>= _) _ _ _
  refine wpAny_bind (wpAny_specialOf (T := "zip") ⟨_, hz2, rfl⟩ no_hint ?_)
  refine wpAny_pure ?_
  show wpAny _ _ (rule "list.extend.makes-room" >>= fun _ => Builtin.List.listTouch (.ref S) >>= fun _ => again (.builtin "list.extend.loop" ⟨[.ref S, .ref z, .none], []⟩)) _ _ _
  refine wpAny_bind (wpAny_rule ?_)
  refine wpAny_bind ?_
  show wpAny _ _ (updateSeq S (·.push .none) >>= fun _ => updateSeq S (·.pop)) _ _ _
  refine wpAny_bind (wpAny_updateSeq hS₂ rfl ?_)
  have hS₃ := Heap.get?_update_self (Obj.mapSeq (·.push Value.none)) hS₂ rfl
  refine wpAny_updateSeq (hz := by seq_fits) hS₃ rfl ?_
  have hS₄ := Heap.get?_update_self (Obj.mapSeq (·.pop)) hS₃ rfl
  have ot4 : ∀ b o, s.heap.get? b = some o → ((((s.heap.push { cls := .type "list", data := .seq #[] }).update S (Obj.mapSeq (fun _ => (#[] : Array Value)))).update S (Obj.mapSeq (·.push Value.none))).update S (Obj.mapSeq (·.pop))).get? b = some o := fun b o e => by
    have ne : S ≠ b := by rw [← hSd]; exact Nat.ne_of_gt (Heap.lt_size e)
    exact (Heap.get?_update_other _ _ ne).trans ((Heap.get?_update_other _ _ ne).trans (oth b o e))
  refine wpAny_pure ⟨plainId_quiet PySem.F.plain_extend_loop _, loop (s := s) (A := A.in1) (n := n) (h₁ := s.heap) hh D hn hns lz lTO lTI li1 li2 ll1 ll2 .none (fun h' tk acc c as hk hS' hl hG hacc => ?_) n 0 _ _ _ #[] [] (Nat.sub_zero _) (Nat.zero_le _)
    ⟨ot4 _ _ hTI, h1.at fun o e => ot4 _ o e, h2.at fun o e => ot4 _ o e, e1.at fun o e => ot4 _ o e, e2.at fun o e => ot4 _ o e, .inl ⟨ot4 _ _ hz, _, _, ot4 _ _ hTO⟩⟩ (fun b o _ _ e => ot4 b o e) hS₄ rfl rfl ⟨List.Pairwise.nil, (fun _ ha => nomatch ha), (fun j a hj => by simp at hj)⟩⟩
  exact ⟨rfl, hQ h' tk acc c as (fun b o ho e => hk b o (by rw [← hSd]; exact Nat.ne_of_lt (Heap.lt_size e)) ho e) hS' hl hG hacc⟩
end
/-- the pairs tracked at their addresses -/
def putP : Hp → List Addr → List (V × V) → Hp
  | H, a :: as, p :: kvs => putP (upd H a (.tup [p.1, p.2])) as kvs
  | H, _, _ => H
theorem putP_off {b : Addr} : ∀ (as : List Addr) (kvs : List (V × V)) (H : Hp), b ∉ as → putP H as kvs b = H b
  | [], _, _, _ => rfl
  | _ :: _, [], _, _ => rfl
  | a :: as, p :: kvs, H, h => by
    show putP (upd H a (.tup [p.1, p.2])) as kvs b = H b
    rw [putP_off as kvs _ (fun z => h (List.mem_cons_of_mem _ z)), upd_ne (fun z => h (by rw [z]; exact List.mem_cons_self))]
theorem putP_at : ∀ (as : List Addr) (kvs : List (V × V)) (H : Hp), as.length = kvs.length → as.Nodup → Paired (fun (t : Addr) (p : V × V) => putP H as kvs t = some (.tup [p.1, p.2])) as kvs
  | [], [], _, _, _ => .nil
  | [], _ :: _, _, h, _ => by cases h
  | _ :: _, [], _, h, _ => by cases h
  | a :: as, p :: kvs, H, h, hn => by
    have hn' := List.nodup_cons.mp hn
    have ih := putP_at as kvs (upd H a (.tup [p.1, p.2])) (Nat.succ.inj h) hn'.2
    refine .cons ?_ ih
    show putP (upd H a (.tup [p.1, p.2])) as kvs a = some (.tup [p.1, p.2])
    rw [putP_off as kvs _ hn'.1, upd_same]
section
variable {X : Cx}
theorem laidP {pins : List (Addr × Obj)} {σ : L2.St} {H : Hp} {s : Shared} {h' : Heap} {tk S : Nat} {xs ys : List V} {its its2 : List Value} {acc : Array Value} {c : Nat} {as : List Addr} (I : Inv X pins σ H s) (r1 : Vals xs its) (r2 : Vals ys its2) (hlow : s.heap.objs.size ≤ S)
    (hk : ∀ b o, s.heap.get? b = some o → h'.get? b = some o) (hS : h'.get? S = some { cls := .type "list", dict := none, data := .seq acc c, slots := #[] }) (hl : as.length = min xs.length ys.length) (hz : as.length ≤ sizeLine) (hG : Zg its.toArray its2.toArray S h' as) (hacc : acc.toList = as.map Value.ref) :
    ∃ H' : Hp, (∀ b o, H b = some o → H' b = some o) ∧ H S = none ∧ (∀ t ∈ as, H t = none) ∧ S ∉ as ∧ H' S = some (.lst (as.map V.ref)) ∧ Paired (fun (t : Addr) (q : V × V) => H' t = some (.tup [q.1, q.2])) as (xs.zip ys) ∧ Inv X pins σ H' { s with heap := h', toks := tk } := by
  have hSn : S ∉ as := fun z => Nat.lt_irrefl _ (hG.above _ z)
  have nd : as.Nodup := List.Pairwise.imp (fun {a b} (h : a < b) => Nat.ne_of_lt h) hG.rise
  have new : ∀ t ∈ as, H t = none := fun t ht => I.hok.fresh (Nat.le_trans hlow (Nat.le_of_lt (hG.above t ht)))
  have newS : H S = none := I.hok.fresh hlow
  have atP := putP_at as (xs.zip ys) (upd H S (.lst (as.map V.ref))) (by rw [hl, List.length_zip]) nd
  have off : ∀ b, b ∉ as → b ≠ S → putP (upd H S (.lst (as.map V.ref))) as (xs.zip ys) b = H b := fun b h1 h2 => by rw [putP_off as _ _ h1, upd_ne h2]
  have low : ∀ b o, s.heap.get? b = some o → b ∉ as ∧ b ≠ S := fun b o e => ⟨fun z => absurd (Heap.lt_size e) (Nat.not_lt.mpr (Nat.le_trans hlow (Nat.le_of_lt (hG.above b z)))), Nat.ne_of_lt (Nat.lt_of_lt_of_le (Heap.lt_size e) hlow)⟩
  have kp : ∀ b u, H b = some u → (putP (upd H S (.lst (as.map V.ref))) as (xs.zip ys)) b = some u := fun b u e => by
    rw [off b (fun z => by rw [new b z] at e; cases e) (fun z => by rw [z, newS] at e; cases e)]
    exact e
  have eS : putP (upd H S (.lst (as.map V.ref))) as (xs.zip ys) S = some (.lst (as.map V.ref)) := by rw [putP_off as _ _ hSn, upd_same]
  refine ⟨putP (upd H S (.lst (as.map V.ref))) as (xs.zip ys), kp, newS, new, hSn, eS, atP, ?_⟩
  refine I.call' (ch := []) rfl ⟨fun b o q _ _ _ => hk b o q, fun b o q _ _ _ => ⟨o.slots, hk b o q⟩, fun b o q n _ => ?_, fun b o q _ => ⟨o, hk b o q⟩, fun b xs q => kp b _ q, fun b o u q => kp b _ q, fun b ps q => ⟨#[], by rw [kp b _ q]; simp⟩⟩ (fun b u q => ?_) I.bare fun b z => by simp at z
  · obtain ⟨z1, z2⟩ := low b o q
    rw [off b z1 z2]
    exact n
  · by_cases hb : b ∈ as
    · obtain ⟨j, pk, e1, e2, e3⟩ := LiI.paired_ix atP hb
      rw [e3] at q
      cases q
      obtain ⟨x, y, f1, f2, f3⟩ := hG.pairs j b e1
      have g1 : xs[j]? = some pk.1 ∧ ys[j]? = some pk.2 := by
        obtain ⟨h1, h2⟩ := List.getElem?_zip_eq_some.mp e2
        exact ⟨h1, h2⟩
      obtain ⟨u, hu, ru⟩ := r1.get g1.1
      obtain ⟨v, hv, rv⟩ := r2.get g1.2
      have f1' : its[j]? = some x := by rw [← f1]; simp
      have f2' : its2[j]? = some y := by rw [← f2]; simp
      rw [f1'] at hu
      rw [f2'] at hv
      cases hu
      cases hv
      exact ⟨by show 2 ≤ sizeLine; decide, [x, y], .cons ru (.cons rv .nil), ⟨_, f3, rfl, _, rfl⟩⟩
    · by_cases hb2 : b = S
      · rw [hb2] at q ⊢
        rw [eS] at q
        cases q
        refine ⟨by rw [List.length_map]; exact hz, acc.toList, c, by rw [hacc]; exact LiI.vals_refs as, ?_⟩
        rw [Array.toArray_toList]
        exact hS
      · rw [off b hb hb2] at q
        exact (I.hok b u q).stay (fun d v _ y => hk d v y) (fun d y => kp d _ y) fun d xs y => kp d _ y
def tZipL (K : PySem.W.Frag) (ta : TA) : TE := fun σ H Q => ta σ H fun vs H1 => ∃ a b xs ys, vs = [.ref a, .ref b] ∧ SqL K H1 a xs ∧ SqL K H1 b ys ∧
  ∀ (H' : Hp) (p : Addr) (ts : List Addr), (∀ b o, H1 b = some o → H' b = some o) → H1 p = none → (∀ t ∈ ts, H1 t = none) → p ∉ ts → H' p = some (.lst (ts.map V.ref)) → Paired (fun (t : Addr) (q : V × V) => H' t = some (.tup [q.1, q.2])) ts (xs.zip ys) → Q (.ref p) H'
/-- list(zip(e, e2)) -/
theorem pe_zipL {e e2 : Expr} {ta : TA} {p p2 pos pos2 : Pos} (hc : X.calm = true) (hg : Gl X "list") (hm : X.mg "list" = none) (hg2 : Gl X "zip") (hm2 : X.mg "zip" = none) (ha : PA X [e, e2] ta)
    (hs : starEach [e, e2] X.env = (false, eval e X.env) :: starEach [e2] X.env := by rfl) (hpl : (backTo pos2 (starEach [e2] X.env)).any (·.1) = false := by rfl)
    (na : starEach [.Call (.Name "zip" p2) [e, e2] [] pos2] X.env = (false, eval (.Call (.Name "zip" p2) [e, e2] [] pos2) X.env) :: starEach [] X.env := by rfl) :
    PE X (.Call (.Name "list" p) [.Call (.Name "zip" p2) [e, e2] [] pos2] [] pos) (tZipL X.K ta) := by
  refine ⟨fun pins s σ H Q I h => ?_⟩
  refine Call_ (ld_blt I hg hm boot_list (PyProof.Rows.callWith_type1 (args_cons (Call_ (ld_blt I hg2 hm2 PyProof.Rows.boot_zip (PyProof.Rows.callWith_type1 (thn (ha.run pos2 pins s σ H _ I h) fun us s1 ⟨vs, H1, I1, r1, q1⟩ => ?_) hs hpl))) na) na))
  obtain ⟨a, b, xs, ys, ex, hqx, hqy, q⟩ := q1
  subst ex
  cases r1 with
  | cons r rr =>
    cases rr with
    | cons r' rr =>
      cases rr
      cases r
      cases r'
      obtain ⟨its, rv, p1, z1⟩ := I1.list hqx
      obtain ⟨its2, rv2, p2', z2⟩ := I1.list hqy
      have la : a < s1.heap.objs.size := p1.lt
      have lb : b < s1.heap.objs.size := p2'.lt
      have l1 := rv.length
      have l2 := rv2.length
      refine call_zip_2 p1.isList p2'.isList fun h' hz hTI hTO h1 h2 hsz hk => args_nil ?_
      refine call (s := { s1 with heap := h' }) (n := min its.toArray.size its2.toArray.size) (I1.ok.hd hc) (PySem.W.ktu_apart s1.heap.objs.size a b la lb) rfl (by rw [List.size_toArray, ← l1]; omega) hz hTI ⟨_, _, hTO⟩ h1 h2 (p1.isList.at fun o e => hk _ o e) (p2'.isList.at fun o e => hk _ o e) fun h2 tk acc c as hk2 hS hl hG hacc => ?_
      have kk : ∀ b o, s1.heap.get? b = some o → h2.get? b = some o := fun b o e => by
        have hb := Heap.lt_size e
        exact hk2 b o ⟨Nat.ne_of_lt (Nat.lt_of_lt_of_le hb (Nat.le_add_right _ _)), Nat.ne_of_lt (Nat.lt_of_lt_of_le hb (Nat.le_add_right _ _)), Nat.ne_of_lt hb, Nat.ne_of_lt (Nat.lt_of_lt_of_le hb (Nat.le_add_right _ _))⟩ (hk b o e)
      obtain ⟨H', k1, k2, k3, k4, k5, k6, J⟩ := laidP (tk := tk) I1 rv rv2 (by show s1.heap.objs.size ≤ h'.objs.size; omega) kk hS (by rw [hl, List.size_toArray, List.size_toArray, l1, l2]) (by rw [hl, List.size_toArray, ← l1]; omega) hG hacc
      exact ⟨.ref _, H', J, rfl, q H' _ as k1 k2 k3 k4 k5 k6⟩
end
end ZL
/-! xs[a:b] = ys -/
section
variable {X : Cx}
def gSlS (to : TE) (tl th : TO) : TG := fun v σ H Q => to σ H fun o H1 => tl σ H1 fun i H2 => th σ H2 fun j H3 => ∃ l b xs ys a c, o = .ref l ∧ v = .ref b ∧ i = some a ∧ j = some c ∧ H3 l = some (.lst xs) ∧ H3 b = some (.lst ys) ∧ l ≠ b ∧ 0 ≤ a ∧ a ≤ c ∧ c ≤ xs.length ∧ xs.length + ys.length ≤ sizeLine ∧
  Q σ (upd H3 l (.lst (xs.take a.toNat ++ ys ++ xs.drop c.toNat)))
theorem pg_slice {o a b : Expr} {to : TE} {tl th : TE} {p2 pos : Pos} (ho : PE X o to) (hl : PE X a tl) (hu : PE X b th)
    (ha : ∀ v, assign (.Subscript o (.Slice (some a) (some b) none p2) pos) X.env v = (do
      let ov ← holding [v] (eval o X.env)
      let iv ← holding [v, ov] (eval (.Slice (some a) (some b) none p2) X.env)
      standAt pos
      holding [v, ov, iv] (setItem ov iv v)
      release [v, ov, iv] []) := by intro _; rfl) : PG X (.Subscript o (.Slice (some a) (some b) none p2) pos) (gSlS to (tPart tl) (tPart th)) := by
  refine ⟨fun pins s σ H v u Q I r h => ?_⟩
  rw [ha]
  refine wpAny_bind (wpAny_holding (thn (ho.run pins s σ H _ I h) fun ov s1 ⟨x, H1, I1, r1, q1⟩ => ?_))
  refine wpAny_bind (wpAny_holding (wpAny_Slice (thn ((po_some hl).run pins s1 σ H1 _ I1 q1) fun vl s2 ⟨i, H2, I2, pl, q2⟩ => thn ((po_some hu).run pins s2 σ H2 _ I2 q2) fun vu s3 ⟨j, H3, I3, pu, q3⟩ => ?_)))
  rw [evalPart_none]
  refine wpAny_pure ?_
  have I4 : Inv X pins σ H3 { s3 with heap := s3.heap.push { cls := .type "slice", data := .fields #[vl, vu, .none] } } := I3.kept (t' := s3.toks) fun b ob q => Heap.get?_push_of_some _ q
  obtain ⟨l, bb, xs, ys, ai, ci, e1, e2, e3, e4, hx, hy, hne, h0, hac, hc, hz, q⟩ := q3
  subst e1 e2 e3 e4
  cases r1
  cases r
  have rl : RelV (.int ai) vl := by cases pl; exact ⟨_, rfl⟩
  have ru : RelV (.int ci) vu := by cases pu; exact ⟨_, rfl⟩
  refine wpAny_bind (wpAny_standAt (wpAny_bind (wpAny_holding ?_)))
  refine set_slice I4 hx hy hne (Heap.IsSliceOf.new ..) rl ru h0 hac hc hz fun s5 I5 => ?_
  exact wpAny_release ⟨σ, _, I5, q⟩
end
/-! for k, v in d.items(), the keys tuples -/
namespace ZI
section
variable {X : Cx} {pins : List (Addr × Obj)} {σ : L2.St} {H : Hp} {s : Shared} {d : Addr} {o : Obj}
theorem frzTV {kvs : List (List L2.Key × V)} (I : Inv X pins σ H s) (h : H d = some (.frz o (.dT kvs))) :
    (d == sysModules) = false ∧ s.heap.get? d = some o ∧ o.ExactDict ∧ ∃ (es : Array DictEntry) (ep : Nat), o.data = .dict es ep ∧ es.size = kvs.length ∧
      ∀ (i : Nat) (k : List L2.Key) (v : V), kvs[i]? = some (k, v) → ∃ (en : DictEntry) (q : Addr), es[i]? = some en ∧ en.key = .ref q ∧ H q = some (.tup (k.map kV)) ∧ RelV v en.val := by
  obtain ⟨hd, z, hs, xs, pr, o', es, ep, ho, hx, hdt, he, _⟩ := I.hok d _ h
  rw [hd] at ho
  cases ho
  refine ⟨hs, hd, hx, es, ep, hdt, ?_, fun i k v e => ?_⟩
  · have l1 : es.size = xs.length := size_of_entries he
    have l2 : kvs.length = xs.length := Paired.length pr
    omega
  · obtain ⟨b, hb, e1, e2, e3⟩ := paired_get pr e
    have q := entry_at he i
    rw [hb] at q
    exact ⟨_, b.2.1, q, rfl, e2, e3⟩
end
/-- the pairs of a locked dict with tuple keys, each a new tuple -/
def It (d : Addr) (o : Obj) (kvs : List (List L2.Key × V)) : L2.It :=
  ⟨fun i H => H d = some (.frz o (.dT kvs)) ∧ i < kvs.length, fun i H x H' => ∃ T k v q, kvs[i]? = some (k, v) ∧ H q = some (.tup (k.map kV)) ∧ x = .ref T ∧ H T = none ∧ H' = upd H T (.tup [.ref q, v]), fun i H => H d = some (.frz o (.dT kvs)) ∧ kvs.length ≤ i⟩
theorem walk {d : Addr} {o : Obj} {kvs : List (List L2.Key × V)} : Walk (It d o kvs) kvs.length (fun H => H d = some (.frz o (.dT kvs)))
    (fun i H x H' => ∃ T k v q, kvs[i]? = some (k, v) ∧ H q = some (.tup (k.map kV)) ∧ x = .ref T ∧ H T = none ∧ H' = upd H T (.tup [.ref q, v])) :=
  ⟨fun _ _ hi q => ⟨q, hi⟩, fun _ q => ⟨q, Nat.le_refl _⟩, fun _ _ _ _ _ _ y => y⟩
theorem turn {P : Program} {w : World} {K : PySem.W.Frag} {d : Addr} {o : Obj} {es : Array DictEntry} {ep : Nat} {kvs : List (List L2.Key × V)} {elts : List Expr} {kk : Nat} {tpos : Pos} (it : Addr) (hod : o.data = .dict es ep) :
    Turn P w K (.Tuple elts kk tpos) (It d o kvs) [it] it (fun i h => ∃ ok ov, IsItemIter h it d i es.size ep ok ov) where
  mem := by simp
  obj := fun i h st b hb => by
    have e : b = it := by simpa using hb
    subst e
    obtain ⟨ok, ov, e⟩ := st
    exact ⟨_, e, fun v z => nomatch z⟩
  keep := fun i h h' st k => let ⟨ok, ov, e⟩ := st; ⟨ok, ov, k it (by simp) _ e⟩
  item := by
    intro X hP hw hK hc i pins s σ H E I hf st hg
    subst hP hw hK
    obtain ⟨hd, hi⟩ := hg
    obtain ⟨hs, hgd, hx, es', ep', hdt, hsz, ent⟩ := frzTV I hd
    obtain ⟨rfl, rfl⟩ := dict_ep hod hdt
    obtain ⟨⟨k, v⟩, hkv⟩ : ∃ p, kvs[i]? = some p := ⟨kvs[i], List.getElem?_eq_getElem hi⟩
    obtain ⟨en, q, hen, hkey, hq, ru⟩ := ent i k v hkv
    obtain ⟨ok, ov, he⟩ := st
    have hlt : it < s.heap.objs.size := Heap.lt_size he
    have hie : i < es'.size := by omega
    have een : es'[i] = en := by
      rw [Array.getElem?_eq_getElem hie] at hen
      exact Option.some.inj hen
    refine wpAny_pyNext_items_item_raw he ⟨o, hgd, hx, hdt⟩ hie fun h' ho hT hz hk => ?_
    refine ⟨_, rfl, wpAny_letOwnedTupleGo_items (s := { s with heap := h' }) ho fun h'' he' sb => ?_⟩
    have hT2 : h''.get? s.heap.objs.size = some { cls := .type "tuple", data := .seq #[.ref q, en.val] } := by
      have := (sb.2 _ (Nat.ne_of_gt hlt)).trans hT
      rw [een, hkey] at this
      exact this
    have new : ObjOk X.prog X.w (upd H s.heap.objs.size (.tup [.ref q, v])) h'' s.heap.objs.size (.tup [.ref q, v]) :=
      ⟨by show 2 ≤ sizeLine; decide, [.ref q, en.val], .cons rfl (.cons ru .nil), ⟨_, hT2, rfl, _, rfl⟩⟩
    have I1 : Inv X pins σ (upd H s.heap.objs.size (.tup [.ref q, v])) { s with heap := h'' } :=
      I.turnedNew (t' := s.toks) (ch := [it]) (fun b ob hb e => (sb.2 b (by simpa using hb)).trans (hk b ob (by simpa using hb) e)) hf (Nat.le_refl _) new
    refine ⟨.ref s.heap.objs.size, _, I1, rfl, ⟨_, k, v, q, hkv, hq, rfl, I.hok.fresh (Nat.le_refl _), rfl⟩, ⟨_, _, he'⟩, fun b hb => ?_⟩
    · have e : b = it := by simpa using hb
      rw [e, upd_ne (Nat.ne_of_lt hlt)]
      exact (hf it (by simp)).1
  done := by
    intro X hP hw hK hc i pins s σ H E I hf st hg
    subst hP hw hK
    obtain ⟨hd, hi⟩ := hg
    obtain ⟨f0, f1, f2, f3, f4, f5⟩ := hf it (by simp)
    obtain ⟨hs, hgd, hx, es', ep', hdt, hsz, ent⟩ := frzTV I hd
    obtain ⟨rfl, rfl⟩ := dict_ep hod hdt
    obtain ⟨ok, ov, he⟩ := st
    exact wpAny_pyNext_items_end_raw (I.ok.hd hc) he ⟨o, hgd, hx, hdt⟩ (by omega) fun h' eb => ⟨rfl, I.turned (t' := s.toks) (fun b ob hb e => eb b ob hb e) f0 f1 f3 f4 f5⟩
  self := fun A i s Q E st h => let ⟨_, _, e⟩ := st; PySem.W.kcp_self e h
def iItems (td : TE) : TI := fun σ H R => td σ H fun x H1 => ∃ d o kvs, x = .ref d ∧ H1 d = some (.frz o (.dT kvs)) ∧ R (It d o kvs) H1
section
variable {X : Cx} {tg e : Expr} {td : TE} {apos cpos : Pos}
theorem pi_items {elts : List Expr} {kk : Nat} {tpos : Pos} (he : PE X e td) (hbase : attributeBase e "items" X.env (eval e X.env) = eval e X.env := by rfl) (hline : (apos.endLine == cpos.line) = true := by rfl) :
    PI X (.Tuple elts kk tpos) (.Call (.Attribute e "items" apos) [] [] cpos) (iItems td) := by
  refine ⟨fun pins s σ H R I h => ?_⟩
  refine wpAny_Call_method (T := "dict") (id := "dict.items") hbase rfl hline F.plainAttrs_dict F.slot_dict_items F.type_dict_items (thn (he.run pins s σ H _ I h) fun u s1 ⟨x, H1, I1, rx, d, o, kvs, ex, hd, q⟩ => ?_)
  subst ex
  obtain rfl : u = Value.ref d := rx
  obtain ⟨hs, hgd, hx, es, ep, hdt, hsz, ent⟩ := frzTV I1 hd
  refine ⟨⟨o, hgd, hx.1⟩, fun a e2 => ?_, ?_⟩
  · cases e2
    exact ⟨o, hgd, hx.2.1⟩
  have I2 : Inv X pins σ H1 { s1 with heap := s1.heap.push { cls := .type "dict_items", data := .fields #[.ref d] } } := I1.kept (t' := s1.toks) fun b ob q => Heap.get?_push_of_some _ q
  refine Calls.callWith_builtin rfl (PySem.evalArgs_none (DT.callItems (es := es) (ep := ep) hs ⟨o, hgd, hx, hdt⟩ ?_))
  refine wpAny_pyIter_items_raw (d := d) (s := { s1 with heap := s1.heap.push { cls := .type "dict_items", data := .fields #[.ref d] } }) ⟨_, Heap.get?_push_size _ rfl, rfl, rfl⟩ ⟨o, Heap.get?_push_of_some _ hgd, hx, hdt⟩ (pi_one (tk := s1.toks) I2 _ (turn _ hdt) ⟨.none, .none, Heap.get?_push_size _ rfl⟩ q)
end
end ZI
end EL
namespace EW
open PySem PyProof.Rows
open Sem (wp)
/-! ### enumerate(t), t a tuple -/
set_option maxHeartbeats 1000000 in
theorem newEnumT (tp : Addr) (its : Array Value) : Meets (Builtin.«enumerate.__new__» ⟨[.type "enumerate", .ref tp], []⟩) (fun _ RR s1 => s1.heap.IsTuple tp its ∧
      RR (.ok (.ret (.ref (s1.heap.objs.size + 1)))) { s1 with heap := (s1.heap.push { cls := .type "tuple_iterator", data := .fields #[.ref tp, .int 0 0] }).push { cls := .type "enumerate", data := .fields #[.none, .bool false, .ref s1.heap.objs.size, rawInt 0, .none, .none] } }) :=
  .of_wp fun pr ww AA RR s1 hyp => by
    obtain ⟨hh, gg, dd, tt, oo⟩ := s1
    obtain ⟨isT, hyp⟩ := hyp
    have se := sub_enumerate
    have it1 : ∀ {A' : Around} {E' : Value → Shared → Prop} {Q' : Value → Shared → Prop}, Q' (.ref hh.objs.size) ⟨hh.push { cls := .type "tuple_iterator", data := .fields #[.ref tp, .int 0 0] }, gg, dd, tt, oo⟩ →
        wpAny (model pr ww) A' (pyIter (.ref tp)) Q' E' ⟨hh, gg, dd, tt, oo⟩ := fun q => wpAny_pyIter_tuple (s := ⟨hh, gg, dd, tt, oo⟩) isT q
    have hz : (hh.push { cls := .type "tuple_iterator", data := .fields #[.ref tp, .int 0 0] }).objs.size = hh.objs.size + 1 := Heap.size_push ..
    have done : RR (.ok (.ret (.ref (hh.push { cls := .type "tuple_iterator", data := .fields #[.ref tp, .int 0 0] }).objs.size))) ⟨(hh.push { cls := .type "tuple_iterator", data := .fields #[.ref tp, .int 0 0] }).push { cls := .type "enumerate", data := .fields #[.none, .bool false, .ref hh.objs.size, rawInt 0, .none, .none] }, gg, dd, tt, oo⟩ := by
      rw [hz]; exact hyp
    wp_walk using it1
    refine wpAny_stack_any fun _ => wpAny_pure ?_
    split
    · rename_i cc _ _ _ _ _
      cases (cc == Value.type "enumerate") <;> (wp_walk using it1; exact ⟨_, rfl, done⟩)
    · wp_walk using it1
      exact ⟨_, rfl, done⟩
theorem callEnumT {prog : Program} {w : World} {A : Around} {E : Value → Shared → Prop} {s : Shared} {tp : Addr} {its : Array Value} {Q : Value → Shared → Prop} (isT : s.heap.IsTuple tp its)
    (q : ∀ h', IsEnum h' (s.heap.objs.size + 1) s.heap.objs.size 0 .none → h'.IsTupleIter s.heap.objs.size tp 0 → (∀ b o, s.heap.get? b = some o → h'.get? b = some o) → Q (.ref (s.heap.objs.size + 1)) { s with heap := h' }) :
    wpAny (model prog w) A (call (.type "enumerate") [.ref tp]) Q E s := by
  have hz : (s.heap.push { cls := .type "tuple_iterator", data := .fields #[.ref tp, .int 0 0] }).objs.size = s.heap.objs.size + 1 := Heap.size_push ..
  have he : IsEnum ((s.heap.push { cls := .type "tuple_iterator", data := .fields #[.ref tp, .int 0 0] }).push { cls := .type "enumerate", data := .fields #[.none, .bool false, .ref s.heap.objs.size, rawInt 0, .none, .none] }) (s.heap.objs.size + 1) s.heap.objs.size 0 .none := by
    have k := Heap.get?_push_size (s.heap.push { cls := .type "tuple_iterator", data := .fields #[.ref tp, .int 0 0] }) (o := { cls := .type "enumerate", data := .fields #[.none, .bool false, .ref s.heap.objs.size, rawInt 0, .none, .none] }) rfl
    rw [hz] at k
    exact k
  exact callType_new F.called_enumerate (by decide) (F.typeCall_enumerate_1 _) (F.newCall_enumerate_1 _) (fun ob => F.args_object_init_2 ob _) F.entry_enumerate_new (newEnumT tp its)
    ⟨isT, ⟨_, he, rfl⟩, q _ he ⟨_, Heap.get?_push_of_some _ (Heap.get?_push_size _ rfl), rfl, rfl⟩ fun b o x => Heap.get?_push_of_some _ (Heap.get?_push_of_some _ x)⟩
end EW
namespace EL
open PySem PySem.Spec PyProof.Rows L2 He TL
/-- the tuple at a, each item in a new pair with its number -/
def Itet (K : PySem.W.Frag) (a : Addr) : It :=
  ⟨fun i H => ∃ (xs : List V) (x : V), SqT K H a xs ∧ xs[i]? = some x, fun i H v H' => ∃ T x, v = .ref T ∧ H T = none ∧ H' = upd H T (.tup [.int (i : Nat), x]) ∧ ∀ xs, SqT K H a xs → xs[i]? = some x, fun i H => ∃ xs : List V, SqT K H a xs ∧ xs.length = i⟩
theorem turn_enumT {P : Program} {w : World} {K : PySem.W.Frag} {elts : List Expr} {kk : Nat} {tpos : Pos} (a e it : Addr) (h1 : e ≠ it) (h2 : e ≠ a) (h3 : a ≠ it) :
    Turn P w K (.Tuple elts kk tpos) (Itet K a) [e, it] e (fun i h => (∃ old, IsEnum h e it ((i : Nat) : Int) old) ∧ h.IsTupleIter it a i) where
  mem := List.mem_cons_self
  obj := fun i h st b hb => by
    obtain ⟨⟨old, he⟩, o, ho, hc, hd⟩ := st
    rcases List.mem_cons.mp hb with z | z
    · rw [z]; exact ⟨_, he, fun v q => nomatch q⟩
    · rw [List.mem_singleton.mp z]
      exact ⟨o, ho, fun v q => by rw [hd] at q; cases q⟩
  keep := fun i h h' st k => ⟨let ⟨old, he⟩ := st.1; ⟨old, k e (by simp) _ he⟩, st.2.at fun o q => k it (by simp) o q⟩
  item := by
    intro X hP hw hK hc i pins s σ H E I hf st hg
    subst hP hw hK
    obtain ⟨⟨old, he⟩, hit⟩ := st
    obtain ⟨xs, x, hq, hx⟩ := hg
    obtain ⟨its, rv, p, hz⟩ := I.tuple hq
    obtain ⟨u, hu, ru⟩ := rv.get hx
    have p' : s.heap.IsTuple a its.toArray := p
    have hel : e < s.heap.objs.size := Heap.lt_size he
    have hil : it < s.heap.objs.size := let ⟨_, q, _⟩ := hit; Heap.lt_size q
    have hi : i < its.toArray.size := by
      have := (List.getElem?_eq_some_iff.mp hu).1
      simpa using this
    refine wpAny_pyNext_enum_itemC (Draws.tuple (A := X.A.in1) (I.ok.hd hc) it a h3 its.toArray) he ⟨hit, p'⟩ hi h1 (by simp [h1, h2]) fun y h' tk hy ho st' hT hsz hk => ?_
    have ey : y = u := by
      have hy' : its.toArray[i]? = some y := hy
      rw [List.getElem?_toArray, hu] at hy'
      exact (Option.some.inj hy').symm
    subst ey
    refine ⟨_, rfl, wpAny_letOwnedTupleGo_enum (s := { s with heap := h', toks := tk + 1 }) ho fun h'' he' sb => ?_⟩
    have hT2 := (sb.2 _ (Nat.ne_of_gt hel)).trans hT
    have hN : ObjOk X.prog X.w (upd H s.heap.objs.size (.tup [.int (i : Nat), x])) h'' s.heap.objs.size (.tup [.int (i : Nat), x]) :=
      ⟨by show 2 ≤ sizeLine; decide, [.int i tk, y], .cons ⟨_, rfl⟩ (.cons ru .nil), ⟨_, hT2, rfl, _, rfl⟩⟩
    have I1 : Inv X pins σ (upd H s.heap.objs.size (.tup [.int (i : Nat), x])) { s with heap := h'', toks := tk + 1 } :=
      I.turnedNew (ch := [e, it]) (fun b ob hb q => (sb.2 b (fun z => hb (by simp [z]))).trans (hk b ob (fun z => hb (by simp [z])) (fun z => hb (by simp [z])) q)) hf (Nat.le_refl _) hN
    have e1 : ((i + 1 : Nat) : Int) = (i : Int) + 1 := by omega
    refine ⟨.ref s.heap.objs.size, _, I1, rfl, ⟨_, x, rfl, I.hok.fresh (Nat.le_refl _), rfl, fun ys hy => by rw [I.tuple_inj hy hq]; exact hx⟩, ⟨⟨y, by rw [e1]; exact he'⟩, st'.1.at fun o q => (sb.2 it (Ne.symm h1)).trans q⟩, fun b hb => ?_⟩
    have hb' : b ≠ s.heap.objs.size := by
      rcases List.mem_cons.mp hb with z | z
      · rw [z]; exact Nat.ne_of_lt hel
      · rw [List.mem_singleton.mp z]; exact Nat.ne_of_lt hil
    rw [upd_ne hb']
    exact (hf b hb).1
  done := by
    intro X hP hw hK hc i pins s σ H E I hf st hg
    subst hP hw hK
    obtain ⟨⟨old, he⟩, hit⟩ := st
    obtain ⟨xs, hq, hx⟩ := hg
    obtain ⟨its, rv, p, hz⟩ := I.tuple hq
    have p' : s.heap.IsTuple a its.toArray := p
    obtain ⟨f0, f1, f2, f3, f4, f5⟩ := hf it (by simp)
    have hn : i = its.toArray.size := by have := rv.length; simp; omega
    subst hn
    exact wpAny_pyNext_enum_endD (Draws.tuple (A := X.A.in1) (I.ok.hd hc) it a h3 its.toArray) he ⟨hit, p'⟩ fun h' eb => ⟨rfl, I.turned (t' := s.toks) (fun b o hb q => eb b o hb q) f0 f1 f3 f4 f5⟩
  self := fun A i s Q E st h => let ⟨⟨_, he⟩, _⟩ := st; wpAny_pyIter_enum he h
theorem walk_enumT {K : PySem.W.Frag} {a : Addr} {xs : List V} : Walk (Itet K a) xs.length (fun H => SqT K H a xs) (YPair (fun i => some (.int (i : Nat))) (fun i => xs[i]?)) :=
  ⟨fun i _ hi q => ⟨xs, xs[i], q, List.getElem?_eq_getElem hi⟩, fun _ q => ⟨xs, q, rfl⟩, fun i H v H' _ q y => by
    obtain ⟨T, x, k1, k2, k3, k4⟩ := y
    exact ⟨T, .int (i : Nat), x, k1, k2, k3, rfl, k4 xs q⟩⟩
def iEnumT (K : PySem.W.Frag) (ta : TA) : TI := fun σ H R => ta σ H fun vs H1 => ∃ a xs, vs = [.ref a] ∧ SqT K H1 a xs ∧ R (Itet K a) H1
theorem pi_enumT {X : Cx} {e : Expr} {ta : TA} {p pos tpos : Pos} {elts : List Expr} {kk : Nat} (hg : Gl X "enumerate") (hm : X.mg "enumerate" = none) (ha : PA X [e] ta) (hs : starEach [e] X.env = [(false, eval e X.env)] := by rfl) :
    PI X (.Tuple elts kk tpos) (.Call (.Name "enumerate" p) [e] [] pos) (iEnumT X.K ta) := by
  refine ⟨fun pins s σ H R I h => Call_ (ld_blt I hg hm boot_enumerate (PyProof.Rows.callWith_type1 (thn (ha.run pos pins s σ H _ I h) fun us s1 ⟨vs, H1, I1, r1, a, xs, ex, hq, q⟩ => ?_) hs rfl))⟩
  subst ex
  obtain ⟨u, rfl, r⟩ := r1.one
  cases r
  obtain ⟨its, rv, pt, hz⟩ := I1.tuple hq
  have pt' : s1.heap.IsTuple a its.toArray := pt
  have hal : a < s1.heap.objs.size := let ⟨_, e1, _⟩ := pt'; Heap.lt_size e1
  refine EW.callEnumT pt' fun h' he hit hk => wpAny_pyIter_enum he ?_
  have h1 : (s1.heap.objs.size + 1 : Nat) ≠ s1.heap.objs.size := Nat.succ_ne_self _
  refine ⟨s1.heap.objs.size + 1, [s1.heap.objs.size + 1, s1.heap.objs.size], _, _, H1, rfl, I1.kept (t' := s1.toks) hk, turn_enumT a (s1.heap.objs.size + 1) s1.heap.objs.size h1 (Nat.ne_of_gt (Nat.lt_succ_of_lt hal)) (Nat.ne_of_lt hal), ⟨⟨.none, he⟩, hit⟩, fun b hb => ?_, q⟩
  have hle : s1.heap.objs.size ≤ b := by
    rcases List.mem_cons.mp hb with z | z
    · rw [z]; exact Nat.le_succ _
    · rw [List.mem_singleton.mp z]; exact Nat.le_refl _
  exact I1.fpOk hle (I1.hok.fresh hle)
/-! ### len(set(t)), t a tuple of ints -/
def tLenSetT (K : PySem.W.Frag) (ta : TE) : TE := fun σ H Q => ta σ H fun x H1 => ∃ (l : Addr) (ns : List Int), x = V.ref l ∧ SqT K H1 l (ns.map V.int) ∧ ns.length < 64 ∧ ∀ ds : List Int, ds.Nodup → (∀ k, k ∈ ds ↔ k ∈ ns) → Q (.int ds.length) H1
theorem pe_lenSetT {X : Cx} {a : Expr} {ta : TE} {p p2 q pos : Pos} (hc : X.calm = true) (hg : Gl X "len") (hm : X.mg "len" = none) (hg2 : Gl X "set") (hm2 : X.mg "set" = none) (ha : PE X a ta)
    (na : starEach [a] X.env = (false, eval a X.env) :: starEach [] X.env := by rfl) : PE X (.Call (.Name "len" p) [.Call (.Name "set" p2) [a] [] q] [] pos) (tLenSetT X.K ta) := by
  refine ⟨fun pins s σ H Q I h => Call_ (ld_blt I hg hm PySem.boot_len (PyProof.Rows.callWith_builtin1 (PyProof.Rows.args_cons (Call_ (ld_blt I hg2 hm2 PyProof.Rows.boot_set
    (PyProof.Rows.callWith_type1 (PyProof.Rows.args_cons (thn (ha.run pins s σ H _ I h) fun v s1 ⟨x, H1, I1, r1, l, ns, ex, hq, hlt, q1⟩ => PyProof.Rows.args_nil ?_) na) na rfl))) rfl) rfl rfl))⟩
  subst ex
  cases r1
  obtain ⟨its, r, pl, hz⟩ := I1.tuple hq
  refine call_set_tupI ns (I1.ok.hd hc) (show s1.heap.IsTuple l its.toArray from pl) (by simpa using r.ints) (by unfold scanBound; omega) fun h' tk c hS hcl hk => PyProof.Rows.args_nil ?_
  obtain ⟨o, es, ep, t, ho, hex, hd, _, hnd, hmem, _, hf, hn, _⟩ := hS
  have I2 : Inv X pins σ H1 { s1 with heap := h', toks := tk } := I1.kept hk
  have hlen : (es.toList.map L2.keyOf).length = es.size := by rw [List.length_map, Array.length_toList]
  refine call_len_set ho hex hd hf (by rw [hn]; omega) ⟨.int (es.toList.map L2.keyOf).length, H1, I2.tok _, ⟨_, by rw [hlen]⟩, q1 _ hnd fun k => by rw [← hmem k, decide_eq_true_iff]⟩
/-! ### a dict comprehension that is given a name at once -/
section
variable {X : Cx}
theorem dcG_core {pins : List (Addr × Obj)} {s : Shared} {σ : L2.St} {H : Hp} {Q : VK} {o0 : HO} {kx vx tg iter : Expr} {ifs : List Expr} {scope : Scope} {own : List (Str × Nat)} {pos pos' : Pos} {wi : TI} {g : TG} {tt : TT} {tk tv : TE} {use : Option (Value → Sem Unit)} {Qf : Value → Shared → Prop} (n0 : NilD o0) (hu : X.A.units < cLine) (hc : X.calm = true) (hN : X.N.Nodup)
    (I : Inv X pins σ H s) (hi : PI X tg iter wi) (ok : BlkOk X.N X.env.scope scope own)
    (hg : ∀ (s : Shared) (H : Hp) (C : Addr) (cl : List (Str × Addr)) (fp : List Addr), PG (X.blk s H scope (compEnvC scope cl C X.env) fp) tg g) (ht : ∀ (s : Shared) (H : Hp) (C : Addr) (cl : List (Str × Addr)) (fp : List Addr), PTs (X.blk s H scope (compEnvC scope cl C X.env) fp) ifs tt)
    (hk : ∀ (s : Shared) (H : Hp) (C : Addr) (cl : List (Str × Addr)) (fp : List Addr), PE (X.blk s H scope (compEnvC scope cl C X.env) fp) kx tk)
    (hv : ∀ (s : Shared) (H : Hp) (C : Addr) (cl : List (Str × Addr)) (fp : List Addr), PE (X.blk s H scope (compEnvC scope cl C X.env) fp) vx tv) (hs : ∀ x, foldedSetIterable iter X.env x = pure x)
    (h : tDcG o0 wi g tt tk tv (own.map (·.2)) σ H Q)
    (hRR : ∀ D C s' m H', Inv X pins σ H' s' → Q (.ref D) H' → s'.heap.Ns C m → FpOk X pins H' C → compPost (model X.prog X.w) X.A X.xe use Qf (.ref D) C (.ok .next) s') :
    wpAny (model X.prog X.w) X.A (comprehension (.DictComp kx vx [⟨tg, iter, ifs, 0⟩] scope pos) scope X.env pos' newDict false (eval iter X.env) use) Qf X.xe s := by
  have cl : ∀ y ∈ scope.names, y.2 = .free → ∃ c, X.env.cells.lookup y.1 = some c := fun y hy e => (ok.free y hy e).elim (fun k => I.ok.has _ (.inl k)) (fun k => I.ok.has _ (.inr k))
  refine wpAny_comprehension_free (use := use) rfl hs (closure_ok cl) ok.kind (fun y hy e => by rw [ok.uniq y hy, e]) (thn (hi.run pins s σ H _ I h) fun xv s1 hx => thn hx fun itv s2 h2 => ?_)
  obtain ⟨it, fp, tn, J, H2, e, I2, T, st2, f2, q⟩ := h2
  subst e
  refine wpAny_newObj_type (newEnv_comp ?_)
  generalize hD : s2.heap.objs.size = D
  obtain ⟨W, ⟨m0, w0⟩, turn⟩ := q D (I2.hok.fresh (Nat.le_of_eq hD))
  -- the new dict
  have h3 : ∃ s3 : Shared, ({ s2 with heap := s2.heap.push { cls := .type "dict", data := .dict #[] } } : Shared) = s3 := ⟨_, rfl⟩
  obtain ⟨s3, hs3⟩ := h3
  have hh3 : s3.heap = s2.heap.push { cls := .type "dict", data := .dict #[] } := by rw [← hs3]
  have h4 : ∃ H3, upd H2 D o0 = H3 := ⟨_, rfl⟩
  obtain ⟨H3, hH3⟩ := h4
  have I3 : Inv X pins σ H3 s3 := by
    rw [← hs3, ← hH3]
    refine I2.laid (t' := s2.toks) (fun b o e => Heap.get?_push_of_some _ e) (Nat.le_of_eq hD) ?_
    rw [← hD]
    exact n0.ok s2.heap I2.big
  rw [hH3] at w0
  have lt2 : ∀ b ∈ fp, b < s2.heap.objs.size := fun b hb => let ⟨o, e, _⟩ := T.obj _ _ st2 b hb; Heap.lt_size e
  have f3 : ∀ b ∈ fp, FpOk X pins H3 b ∧ b < s3.heap.objs.size := fun b hb => by
    refine ⟨⟨?_, (f2 b hb).2⟩, by rw [hh3, Heap.size_push]; exact Nat.lt_succ_of_lt (lt2 b hb)⟩
    rw [← hH3, upd_ne (by rw [← hD]; exact Nat.ne_of_lt (lt2 b hb))]
    exact (f2 b hb).1
  have I4 := block_start I3 ok hN f3
  rw [hs3]
  show codeAny _ _ (.compStart (.DictComp kx vx [⟨tg, iter, ifs, 0⟩] scope pos) 0 (.ref it) (.ref D) (compEnvC scope (cellsFrom (s3.heap.objs.size + 1) scope.names (cloFrom X.env.cells scope.names [])) s3.heap.objs.size X.env)) (compPost (model X.prog X.w) X.A X.xe use Qf (.ref D) s3.heap.objs.size) { s3 with heap := pushCells (s3.heap.push { cls := .type "dict", data := .dict #[] }) scope.names }
  have pg := hg s3 H3 s3.heap.objs.size (cellsFrom (s3.heap.objs.size + 1) scope.names (cloFrom X.env.cells scope.names [])) fp
  have pt := ht s3 H3 s3.heap.objs.size (cellsFrom (s3.heap.objs.size + 1) scope.names (cloFrom X.env.cells scope.names [])) fp
  have pk := hk s3 H3 s3.heap.objs.size (cellsFrom (s3.heap.objs.size + 1) scope.names (cloFrom X.env.cells scope.names [])) fp
  have pv := hv s3 H3 s3.heap.objs.size (cellsFrom (s3.heap.objs.size + 1) scope.names (cloFrom X.env.cells scope.names [])) fp
  generalize hce : compEnvC scope (cellsFrom (s3.heap.objs.size + 1) scope.names (cloFrom X.env.cells scope.names [])) s3.heap.objs.size X.env = ce at I4 pg pt pk pv ⊢
  have cL : ce.locals = s3.heap.objs.size := by rw [← hce]; rfl
  have st4 : tn 0 (pushCells (s3.heap.push { cls := .type "dict", data := .dict #[] }) scope.names) := T.keep _ _ _ st2 fun b _ o e => pushCells_keeps _ _ _ _ (Heap.get?_push_of_some _ (by rw [hh3]; exact Heap.get?_push_of_some _ e))
  generalize hs4 : ({ s3 with heap := pushCells (s3.heap.push { cls := .type "dict", data := .dict #[] }) scope.names } : Shared) = s4 at I4 ⊢
  have st4' : tn 0 s4.heap := by rw [← hs4]; exact st4
  have stat : ∀ {σ' : L2.St} {H' : Hp} {s' : Shared}, Inv (X.blk s3 H3 scope ce fp) [] σ' H' s' → (∀ b ∈ fp, H' b = none) → ∀ b ∈ fp, FpOk (X.blk s3 H3 scope ce fp) [] H' b := fun I' hn b hb =>
    ⟨hn b hb, (I'.ok.exf b hb).1, I'.ok.exfs b hb, .inl hb, fun x c e => (I'.ok.exf b hb).2 x c e, fun p hp => by cases hp⟩
  have loop : codeAny (model X.prog X.w) X.A (.compLoop (.DictComp kx vx [⟨tg, iter, ifs, 0⟩] scope pos) 0 (.ref it) (.ref D) ce) (compPost (model X.prog X.w) X.A X.xe use Qf (.ref D) s3.heap.objs.size) s4 := by
    refine compLoop_anyD (fun n s' => ∃ i H', Inv (X.blk s3 H3 scope ce fp) [] (wipe σ (own.map (·.2))) H' s' ∧ tn i s'.heap ∧ (∀ b ∈ fp, H' b = none) ∧ W i n H') ?_ m0 ⟨0, H3, I4, st4', fun b hb => (f3 b hb).1.1, w0⟩
    rintro n s5 ⟨i, H5, I5, st5, n5, w5⟩
    rcases turn i n H5 w5 with ⟨stop, qq⟩ | ⟨go, Nx, hNx, step⟩
    · refine thnF (T.done (X.blk s3 H3 scope ce fp) rfl rfl rfl hc i [] s5 _ H5 (fun _ _ => False) I5 (stat I5 n5) st5 stop) fun r s6 ⟨hr, I6⟩ => ?_
      subst hr
      have I7 : Inv X pins σ H5 s6 := I3.call' (ch := fp) I6.os I6.base I6.hok I6.bare fun b hb => ⟨(f3 b hb).1.2.2.2.1, (f3 b hb).1.2.1, (f3 b hb).1.2.2.2.2.1, (f3 b hb).1.2.2.2.2.2⟩
      have nC : H5 s3.heap.objs.size = none := by rw [← cL]; exact I6.free
      obtain ⟨m, hn, _⟩ := I6.loc
      exact hRR D s3.heap.objs.size s6 m H5 I7 qq (by rw [← cL]; exact hn) (I3.fpOk (Nat.le_refl _) nC)
    · refine thnF (T.item (X.blk s3 H3 scope ce fp) rfl rfl rfl hc i [] s5 _ H5 (fun _ _ => False) I5 (stat I5 n5) st5 go) fun r s6 ⟨u, hr, h6⟩ => ?_
      subst hr
      refine thnF h6 fun _ s7 ⟨x, H7, I7, r7, y7, st7, n7⟩ => ?_
      refine thnF (pg.run _ s7 _ H7 x u _ (I7.pinned (stat I7 n7) (T.obj _ _ st7)) r7 (step x H7 y7)) fun _ s8 ⟨σ8, H8, I8, hw8, q8⟩ => ?_
      refine thnF (pt.run _ s8 σ8 H8 _ I8 q8) fun b s9 ⟨H9, I9, q9⟩ => ?_
      have fin : ∀ {s' : Shared} {H' : Hp}, Inv (X.blk s3 H3 scope ce fp) ([] ++ pinsAt fp s7.heap) σ8 H' s' → Nx H' → ∃ m, m < n ∧ ∃ i H', Inv (X.blk s3 H3 scope ce fp) [] (wipe σ (own.map (·.2))) H' s' ∧ tn i s'.heap ∧ (∀ b ∈ fp, H' b = none) ∧ W i m H' := fun {s' H'} I' nx => by
        obtain ⟨m', hm, w'⟩ := hNx H' nx
        have pin' : ∀ b ∈ fp, ∀ o, s7.heap.get? b = some o → s'.heap.get? b = some o ∧ H' b = none := fun b hb o e =>
          let z := I'.pin (b, o) (List.mem_append_right _ (List.mem_append_right _ (mem_pinsAt hb e)))
          ⟨z.1, z.2.1⟩
        refine ⟨m', hm, i + 1, H', (I'.unpinned (pins := [])).weak (by rw [← hw8, wipe_length]) (fun j v e => (wipe_some (by rw [hw8]; exact e)).1), T.keep _ _ _ st7 fun b hb o e => (pin' b hb o e).1, fun b hb => ?_, w'⟩
        obtain ⟨o, e, _⟩ := T.obj _ _ st7 b hb
        exact (pin' b hb o e).2
      cases b with
      | false => exact fin I9 q9
      | true =>
        refine thnF (pk.run _ s9 σ8 H9 _ I9 q9) fun z s10 ⟨yk, H10, I10, r10, q10⟩ => ?_
        refine thnF (pv.run _ s10 σ8 H10 _ I10 q10) fun z2 s11 ⟨yv, H11, I11, r11, H12, dp, nx⟩ => ?_
        exact put_by (X := X.blk s3 H3 scope ce fp) hu I11 dp r10 r11 fun s12 I12 => fin I12 nx
  exact codeAny_compStart_dict loop (T.self X.A 0 _ _ _ st4' loop)
theorem ps_setDcG {i : Nat} {y : Str} {py : Pos} {o0 : HO} {kx vx tg iter : Expr} {ifs : List Expr} {scope : Scope} {own : List (Str × Nat)} {pos spos : Pos} {wi : TI} {g : TG} {tt : TT} {tk tv : TE} (n0 : NilD o0) (hu : X.A.units < cLine) (hc : X.calm = true) (hN : X.N.Nodup) (hy : X.N[i]? = some y) (hyl : X.env.scope.names.lookup y = some .local)
    (hsw : swapsWith (.DictComp kx vx [⟨tg, iter, ifs, 0⟩] scope pos) (some (.Name y py)) spos.line X.env = pure true) (hi : PI X tg iter wi) (ok : BlkOk X.N X.env.scope scope own)
    (hg : ∀ (s : Shared) (H : Hp) (C : Addr) (cl : List (Str × Addr)) (fp : List Addr), PG (X.blk s H scope (compEnvC scope cl C X.env) fp) tg g) (ht : ∀ (s : Shared) (H : Hp) (C : Addr) (cl : List (Str × Addr)) (fp : List Addr), PTs (X.blk s H scope (compEnvC scope cl C X.env) fp) ifs tt)
    (hk : ∀ (s : Shared) (H : Hp) (C : Addr) (cl : List (Str × Addr)) (fp : List Addr), PE (X.blk s H scope (compEnvC scope cl C X.env) fp) kx tk)
    (hv : ∀ (s : Shared) (H : Hp) (C : Addr) (cl : List (Str × Addr)) (fp : List Addr), PE (X.blk s H scope (compEnvC scope cl C X.env) fp) vx tv) (hs : ∀ x, foldedSetIterable iter X.env x = pure x := by intro _; rfl) :
    PS X (.Assign [.Name y py] (.DictComp kx vx [⟨tg, iter, ifs, 0⟩] scope pos) spos) (tAsg (tDcG o0 wi g tt tk tv (own.map (·.2))) (gName i)) := by
  refine ⟨fun pins s σ H D I h => ?_⟩
  rw [exec_Assign_Name_used _ _ _ _ hsw]
  refine wpAny_bind (wpAny_standAt (wpAny_bind ?_))
  show wpAny _ X.A (do let _ ← comprehension (.DictComp kx vx [⟨tg, iter, ifs, 0⟩] scope pos) scope X.env (firstIterPos [⟨tg, iter, ifs, 0⟩] pos) newDict false (eval iter X.env) (some (assign (.Name y py) X.env))) _ _ s
  have hh : tDcG o0 wi g tt tk tv (own.map (·.2)) σ H (fun x H1 => gName i x σ H1 D.nx) := h
  refine wpAny_bind (thn (dcG_core (Qf := fun _ s' => SP X pins D .next s') n0 hu hc hN I hi ok hg ht hk hv hs hh fun L C s' m H' J' q hn f => ?_) fun _ s' hq => wpAny_pure (wpAny_pure hq))
  obtain ⟨f0, f1, f2, f3, f4, f5⟩ := f
  refine wpAny_assign_Name (store_ok2 (v := V.ref L) J' hN hy (.inl hyl) rfl (fun s2 I2 ⟨a, sb, ha⟩ => ⟨m, hn.sameBut sb (ha.elim (fun z => by rw [z]; exact f1) fun z e => f4 y a z e.symm), fun h3 sb3 => ?_⟩) (.inr hyl))
  exact ⟨_, H', I2.turned (t' := s2.toks) (fun b o hb e => (sb3.2 b hb).trans e) f0 f1 f3 f4 f5, q⟩
theorem swD_true {kx vx : Expr} {gs : List Comprehension} {scope : Scope} {pos py : Pos} {y : Str} {l : Nat} {env : Env} (hkind : env.scope.kind = .function) (hloc : env.scope.names.lookup y = some .local) (hline : (py.line == pos.line) = true)
    (hany : (scope.names.any fun (n, k) => n == y && (k == .local || k == .cell)) = false) : swapsWith (.DictComp kx vx gs scope pos) (some (.Name y py)) l env = pure true := by
  have e1 : env.kindOf y = some .local := hloc
  have e2 : env.blockKind = .function := by unfold Env.blockKind; rw [hkind]; rfl
  unfold swapsWith
  simp only [e2, e1, hany, Expr.pos, hline]
  rfl
end
/-! ### parts and sums of tuples, whatever they are -/
section
variable {K : PySem.W.Frag} {H : Hp} {a b : Addr} {xs ys : List V} {Q : VK}
theorem cut_from (xs : List V) (c : Nat) : cutV xs (some (c : Int)) none = xs.drop c := by
  unfold cutV
  rw [HT.sIx_none, HT.sIx_nat]
  by_cases h : c ≤ xs.length
  · rw [Nat.min_eq_left h, List.take_of_length_le (by rw [List.length_drop]; exact Nat.le_refl _)]
  · rw [Nat.min_eq_right (by omega), List.drop_length, List.drop_of_length_le (by omega), List.take_nil]
theorem cut_to (xs : List V) (c : Nat) : cutV xs none (some (c : Int)) = xs.take c := by
  unfold cutV
  rw [HT.sIx_none, HT.sIx_nat, List.drop_zero, Nat.sub_zero]
  by_cases h : c ≤ xs.length
  · rw [Nat.min_eq_left h]
  · rw [Nat.min_eq_right (by omega), List.take_length, List.take_of_length_le (by omega)]
theorem slA_from {c : Nat} (h : SqT K H a xs) (q : ∀ p H', Same H H' → SqT K H' p (xs.drop c) → Q (.ref p) H') : rSlA K (.ref a) (some (c : Int)) none H Q := by
  refine ⟨a, xs, rfl, h, fun w => q a H (.refl _) ?_, fun _ p np => q p _ (same_upd np) (SqT.of (by rw [upd_same, cut_from]))⟩
  have w := w.1
  rw [HT.sIx_nat] at w
  by_cases e : c = 0
  · rw [e, List.drop_zero]; exact h
  · have e2 : xs = [] := List.eq_nil_of_length_eq_zero (by omega)
    subst e2
    rw [List.drop_nil]
    exact h
theorem slA_to {c : Nat} (h : SqT K H a xs) (q : ∀ p H', Same H H' → SqT K H' p (xs.take c) → Q (.ref p) H') : rSlA K (.ref a) none (some (c : Int)) H Q := by
  refine ⟨a, xs, rfl, h, fun w => q a H (.refl _) ?_, fun _ p np => q p _ (same_upd np) (SqT.of (by rw [upd_same, cut_to]))⟩
  have w := w.2
  rw [HT.sIx_nat] at w
  rw [List.take_of_length_le (by omega)]
  exact h
theorem catA_of (ha : SqT K H a xs) (hb : SqT K H b ys) (hl : xs.length + ys.length ≤ sizeLine) (q : ∀ p H', Same H H' → SqT K H' p (xs ++ ys) → Q (.ref p) H') : rCatA K (.ref a) (.ref b) H Q :=
  ⟨a, b, xs, ys, rfl, rfl, ha, hb, hl, fun e => q b H (.refl _) (by rw [e]; exact hb), fun _ e => q a H (.refl _) (by rw [e, List.append_nil]; exact ha), fun _ _ p np => q p _ (same_upd np) (SqT.of upd_same)⟩
end
end EL
/-! ### sets of up to 1,200 tuples whose hashes are all different: no entry is ever compared -/
namespace SG
open PySem PySem.Spec PyProof.Rows L2
def Mk (m : Nat) : Prop := m ∈ [7, 31, 127, 511, 2047]
/-- the places that i -> 5 i + 1 visits, as bits -/
def vis (m : Nat) : Nat → Nat → Nat → Nat
  | 0, _, acc => acc
  | f + 1, i, acc => vis m f ((i * 5 + 1) % (m + 1)) (acc ||| (1 <<< i))
theorem vis_bit (m : Nat) : ∀ f k acc j, (vis m f (lcgN m k) acc).testBit j = true → acc.testBit j = true ∨ ∃ b, b < f ∧ lcgN m (k + b) = j
  | 0, _, _, _, h => .inl h
  | f + 1, k, acc, j, h => by
    have h' : (vis m f (lcgN m (k + 1)) (acc ||| (1 <<< lcgN m k))).testBit j = true := h
    rcases vis_bit m f (k + 1) _ j h' with c | ⟨b, hb, e⟩
    · rw [Nat.testBit_or, Bool.or_eq_true] at c
      rcases c with c | c
      · exact .inl c
      · refine .inr ⟨0, Nat.succ_pos _, ?_⟩
        rw [Nat.one_shiftLeft, Nat.testBit_two_pow] at c
        simpa using c
    · exact .inr ⟨b + 1, by omega, by rw [← e]; congr 1; omega⟩
theorem vis_all {m : Nat} (e : vis m (m + 1) 0 0 = 2 ^ (m + 1) - 1) {j : Nat} (hj : j ≤ m) : ∃ b, b ≤ m ∧ lcgN m b = j := by
  have t : (vis m (m + 1) (lcgN m 0) 0).testBit j = true := by
    show (vis m (m + 1) 0 0).testBit j = true
    rw [e, Nat.testBit_two_pow_sub_one]
    simp; omega
  rcases vis_bit m (m + 1) 0 0 j t with c | ⟨b, hb, q⟩
  · simp at c
  · exact ⟨b, by omega, by rw [← q, Nat.zero_add]⟩
theorem mk_all {m : Nat} (h : Mk m) : vis m (m + 1) 0 0 = 2 ^ (m + 1) - 1 ∧ lcgN m (m + 1) = 0 := by
  unfold Mk at h
  simp only [List.mem_cons, List.not_mem_nil, or_false] at h
  rcases h with e | e | e | e | e <;> subst e <;> exact ⟨by decide +kernel, by decide +kernel⟩
theorem lcg_turn {m : Nat} (h : Mk m) : ∀ k, lcgN m (m + 1 + k) = lcgN m k
  | 0 => (mk_all h).2
  | k + 1 => congrArg (fun z => (z * 5 + 1) % (m + 1)) (lcg_turn h k)
theorem goes_to {m : Nat} (h : Mk m) (i j : Nat) (hi : i ≤ m) (hj : j ≤ m) : ∃ k, k ≤ m ∧ lcgI m i k = j := by
  obtain ⟨x, hx, rfl⟩ := vis_all (mk_all h).1 hi
  obtain ⟨y, hy, rfl⟩ := vis_all (mk_all h).1 hj
  by_cases c : x ≤ y
  · exact ⟨y - x, by omega, by rw [lcgN_add]; congr 1; omega⟩
  · exact ⟨m + 1 + y - x, by omega, by rw [lcgN_add, show x + (m + 1 + y - x) = m + 1 + y by omega, lcg_turn h]⟩
theorem run_to {m : Nat} (hm : Mk m) (h : Int) {j : Nat} (hj : j ≤ m) : ∃ n, n ≤ m + 12 ∧ runI m (SetTable.bits h) n = j :=
  let ⟨k, a, b⟩ := goes_to hm _ j (runI_le m (SetTable.bits h) 12) hj
  ⟨12 + k, by omega, (runI_tail (bits_lt h) k).trans b⟩
/-! ### the probe ends at an empty slot -/
theorem go_end (t : SetTable) (dm : t.dummies = #[]) (at_ : Nat → Int) (h : Int) (ne : ∀ i, i < t.place.size → at_ i ≠ h) :
    ∀ (f K : Nat) (p : SetTable.Probe), p.dummy = none → K < f → (nth t.mask p K).j ∉ t.place.toList → ∃ j, SetTable.probe.go t at_ h f p = some (.empty j none)
  | 0, _, _, _, z, _ => absurd z (Nat.not_lt_zero _)
  | f + 1, K, p, hd, hK, hn => by
    unfold SetTable.probe.go
    have hs : t.slot p.j = .empty ∨ ∃ i, t.slot p.j = .live i ∧ i < t.place.size ∧ p.j ∈ t.place.toList := by
      unfold SetTable.slot
      dsimp only
      by_cases c : (t.place[SetTable.below t.place p.j]? == some p.j) = true
      · rw [if_pos c]
        have c' := beq_iff_eq.mp c
        obtain ⟨u, v⟩ := Array.getElem?_eq_some_iff.mp c'
        exact .inr ⟨_, rfl, u, by rw [← v]; exact Array.getElem_mem_toList u⟩
      · rw [if_neg c, dm, L2.has_none]
        exact .inl rfl
    rcases hs with e | ⟨i, e, li, mem⟩
    · rw [e]
      exact ⟨p.j, by simp only [hd]⟩
    · rw [e]
      dsimp only
      rw [if_neg (by simpa using ne i li)]
      cases K with
      | zero => exact absurd mem hn
      | succ K =>
        refine go_end t dm at_ h ne f K (t.advance p) ?_ (by omega) hn
        rw [adv_eq]
        unfold adv
        split <;> exact hd
theorem probe_end (t : SetTable) (dm : t.dummies = #[]) (mk : Mk t.mask) (few : t.place.size ≤ t.mask) (at_ : Nat → Int) (h : Int) (ne : ∀ i, i < t.place.size → at_ i ≠ h) :
    ∃ j, t.probe at_ h (t.probeStart h) = some (.empty j none) := by
  obtain ⟨j, hj, hn⟩ := st_missing t.place.toList (t.mask + 1) (by rw [Array.length_toList]; omega)
  obtain ⟨n, hl, e⟩ := run_to mk h (Nat.le_of_lt_succ hj)
  obtain ⟨K, hK, e2⟩ := run_nth t.mask (SetTable.bits h) n
  refine go_end t dm at_ h ne _ K _ rfl (by unfold SetTable.turns; omega) ?_
  rw [start_run, e2]
  show runI t.mask (SetTable.bits h) n ∉ _
  rw [e]
  exact hn
/-! ### the table laid anew -/
theorem free_end (m : Nat) (ow : Array (Option Nat)) : ∀ (f n i b : Nat), n < f → oAt ow (itL m i b n).1 = none → ∃ j, SetTable.layClean.free m ow f i b = some j ∧ oAt ow j = none
  | 0, _, _, _, z, _ => absurd z (Nat.not_lt_zero _)
  | f + 1, n, i, b, hn, e => by
    rw [free_succ]
    cases q : (List.range (SetTable.runEnd m i + 1 - i)).find? fun k => (oAt ow (i + k)).isNone with
    | some k => exact ⟨i + k, rfl, by simpa using List.find?_some q⟩
    | none =>
      have z := List.find?_eq_none.mp q 0 (List.mem_range.mpr (by have := runEnd_ge m i; omega))
      cases n with
      | zero =>
        exfalso
        apply z
        have e' : oAt ow i = none := e
        rw [Nat.add_zero, e'] <;> rfl
      | succ n => exact free_end m ow f n _ _ (by omega) e
theorem some_less {l : List (Option Nat)} : (l.filterMap id).length < l.length → ∃ j : Nat, l[j]? = some none := by
  induction l with
  | nil => intro h; exact absurd h (Nat.not_lt_zero _)
  | cons x l ih =>
    intro h
    cases x with
    | none => exact ⟨0, rfl⟩
    | some y =>
      obtain ⟨j, hj⟩ := ih (by simpa using h)
      exact ⟨j + 1, by simpa using hj⟩
theorem put_one {k : Nat} : ∀ {l : List (Option Nat)} {j : Nat}, l[j]? = some none → ((l.set j (some k)).filterMap id).length = (l.filterMap id).length + 1 ∧ ∀ x ∈ (l.set j (some k)).filterMap id, x = k ∨ x ∈ l.filterMap id
  | [], j, h => by simp at h
  | x :: l, 0, h => by
    have e : x = none := by simpa using h
    subst e
    exact ⟨rfl, fun x hx => by simpa using hx⟩
  | x :: l, j + 1, h => by
    obtain ⟨a, b⟩ := put_one (k := k) (l := l) (j := j) (by simpa using h)
    cases x with
    | none => exact ⟨a, b⟩
    | some y =>
      refine ⟨by simpa using a, fun x hx => ?_⟩
      have hx' : x = y ∨ x ∈ (l.set j (some k)).filterMap id := by simpa using hx
      rcases hx' with e | hx'
      · exact .inr (by rw [e]; simp)
      · rcases b x hx' with c | c
        · exact .inl c
        · exact .inr (by simp at c ⊢; exact .inr c)
structure Ow (m k : Nat) (ow : Array (Option Nat)) : Prop where
  size : ow.size = m + 1
  many : (ow.toList.filterMap id).length = k
  less : ∀ x ∈ ow.toList.filterMap id, x < k
theorem Ow.new (m : Nat) : Ow m 0 (Array.replicate (m + 1) none) := by
  have e : (Array.replicate (m + 1) (none : Option Nat)).toList.filterMap id = [] := by
    rw [Array.toList_replicate]
    exact List.filterMap_eq_nil_iff.mpr fun x hx => (List.mem_replicate.mp hx).2
  exact ⟨Array.size_replicate, by rw [e] <;> rfl, by rw [e]; intro x hx; cases hx⟩
theorem Ow.more {m k : Nat} {ow : Array (Option Nat)} (mk : Mk m) (o : Ow m k ow) (hk : k ≤ m) (h : Int) : ∃ ow', stepF m (some (ow, k)) h = some (ow', k + 1) ∧ Ow m (k + 1) ow' := by
  obtain ⟨j, hj⟩ := some_less (l := ow.toList) (by rw [o.many, Array.length_toList, o.size]; omega)
  have hjm : j ≤ m := by
    have := (List.getElem?_eq_some_iff.mp hj).1
    rw [Array.length_toList, o.size] at this
    omega
  obtain ⟨n, hn, e⟩ := run_to mk h hjm
  obtain ⟨i, fr, oi⟩ := free_end m ow (SetTable.turns m) n (SetTable.bits h % (m + 1)) (SetTable.bits h) (by unfold SetTable.turns; omega) (by
    rw [itL_run, e]
    show ow.getD j (some 0) = none
    rw [Array.getD_eq_getD_getElem?, ← Array.getElem?_toList, hj] <;> rfl)
  have hi : ow.toList[i]? = some none := by
    have q : ow.getD i (some 0) = none := oi
    rw [Array.getD_eq_getD_getElem?, ← Array.getElem?_toList] at q
    cases z : ow.toList[i]? with
    | none => rw [z] at q; cases q
    | some y => rw [z] at q; exact congrArg some q
  obtain ⟨a, b⟩ := put_one (k := k) hi
  have tl : (ow.setIfInBounds i (some k)).toList = ow.toList.set i (some k) := Array.toList_setIfInBounds
  refine ⟨_, stepF_some fr, by rw [Array.size_setIfInBounds]; exact o.size, by rw [tl, a, o.many], fun x hx => ?_⟩
  rw [tl] at hx
  rcases b x hx with c | c
  · omega
  · have := o.less x c
    omega
theorem ow_fold {m : Nat} (mk : Mk m) : ∀ (hs : List Int) (k : Nat) (ow : Array (Option Nat)), Ow m k ow → k + hs.length ≤ m + 1 → ∃ ow', hs.foldl (stepF m) (some (ow, k)) = some (ow', k + hs.length) ∧ Ow m (k + hs.length) ow'
  | [], k, ow, o, _ => ⟨ow, rfl, o⟩
  | h :: hs, k, ow, o, l => by
    rw [List.length_cons] at l
    obtain ⟨ow1, e1, o1⟩ := o.more mk (by omega) h
    obtain ⟨ow2, e2, o2⟩ := ow_fold mk hs (k + 1) ow1 o1 (by omega)
    refine ⟨ow2, ?_, ?_⟩
    · rw [List.foldl_cons, e1, e2, List.length_cons, Nat.add_right_comm, Nat.add_assoc]
    · rw [List.length_cons, show k + (hs.length + 1) = k + 1 + hs.length by omega]
      exact o2
theorem live_snd {m : Nat} {ow : Array (Option Nat)} (h : ow.size = m + 1) : (liveOf m ow).map (·.2) = ow.toList.filterMap id := by
  unfold liveOf
  rw [List.map_filterMap]
  have e : (fun j => Option.map (fun x : Nat × Nat => x.2) (Option.map (fun k => (j, k)) (ow.getD j none))) = fun j => id (ow.getD j none) := by
    funext j
    cases ow.getD j none <;> rfl
  rw [e]
  show List.filterMap (id ∘ fun j => ow.getD j none) _ = _
  rw [← List.filterMap_map]
  congr 1
  refine List.ext_getElem? fun i => ?_
  rw [List.getElem?_map]
  by_cases c : i < m + 1
  · rw [List.getElem?_range c, ← h] at *
    rw [List.getElem?_eq_getElem (by rw [Array.length_toList]; exact c)]
    simp [Array.getD_eq_getD_getElem?, c]
  · rw [List.getElem?_eq_none (by rw [List.length_range]; omega), List.getElem?_eq_none (by rw [Array.length_toList]; omega)] <;> rfl
theorem laid_anew (t : SetTable) {hs : Array Int} {wanted M : Nat} (hw : SetTable.sizeAbove wanted - 1 = M) (mk : Mk M) (hn : hs.size ≤ M) :
    ∃ t' order, t.relaid hs wanted = some (t', order) ∧ order.size = hs.size ∧ (∀ k ∈ order.toList, k < hs.size) ∧ t'.place.size = hs.size ∧ t'.dummies = #[] ∧ t'.mask = M ∧ t'.plain = t.plain := by
  obtain ⟨ow, e, o⟩ := ow_fold mk hs.toList 0 _ (Ow.new M) (by rw [Array.length_toList]; omega)
  rw [Nat.zero_add, Array.length_toList] at e o
  have q := live_snd o.size
  refine ⟨tabOf t M ow, ((liveOf M ow).map (·.2)).toArray, ?_, ?_, ?_, ?_, rfl, rfl, rfl⟩
  · rw [relaid_eq, hw, layClean_eq, e] <;> rfl
  · rw [List.size_toArray, q, o.many]
  · intro k hk
    refine o.less k ?_
    rw [← q]
    simpa using hk
  · show ((liveOf M ow).map (·.1)).toArray.size = _
    rw [List.size_toArray, List.length_map, ← o.many, ← q, List.length_map]
end SG
namespace SG
open PySem PySem.Spec PyProof.Rows L2
section
variable {P : Program} {w : World} {A : Around} {E : Value → Shared → Prop} {s : Shared} {a : Addr} {hs : List Int} {n : Nat}
/-- a set of n entries whose hashes are among hs -/
structure So (h : Heap) (a : Addr) (hs : List Int) (n : Nat) (es : Array (Int × Value)) (ep : Nat) (t : SetTable) (o : Obj) : Prop where
  ob : h.get? a = some o
  exact_ : o.ExactSet
  dat : o.data = .set es ep t
  many : es.size = n
  hash : ∀ e ∈ es.toList, e.1 ∈ hs
  pl : t.place.size = n
  dm : t.dummies = #[]
  mko : Mk t.mask
  plain : t.plain = true
  room : n * 5 < t.mask * 3
variable {es : Array (Int × Value)} {ep : Nat} {t : SetTable} {o : Obj}
theorem So.fits {h : Heap} (S : So h a hs n es ep t o) : t.fits es.size = true := by
  have h1 := S.pl
  have h2 := S.room
  unfold SetTable.fits SetTable.fill
  rw [S.dm, S.many, h1]
  show ((n == n) && decide (n + 0 ≤ t.mask)) = true
  rw [beq_self_eq_true, Bool.true_and, decide_eq_true_eq]
  omega
theorem mk_odd {m : Nat} (h : Mk m) : m % 2 = 1 := by
  unfold Mk at h
  simp only [List.mem_cons, List.not_mem_nil, or_false] at h
  omega
theorem So.look {h : Heap} (hh : s.heap = h) (S : So h a hs n es ep t o) (x : Value) {k : Int} (nk : k ∉ hs) {Q : SetFound → Shared → Prop} (q : ∀ j, Q (.free j false) s) : wpAny (model P w) A (setSearch a x k true) Q E s := by
  subst hh
  unfold setSearch
  rw [show (100000 : Nat) = 99999 + 1 from rfl, setSearchFrom_succ]
  refine wpAny_bind (wpAny_setState_of S.ob S.dat S.fits ?_)
  dsimp only
  refine wp_if_neg (by unfold SetTable.gaveWay; rw [mk_odd S.mko]; decide) ?_
  try refine wpAny_bind (wpAny_pure ?_)
  obtain ⟨j, e⟩ := probe_end t S.dm S.mko (by have := S.pl; have := S.room; omega) (fun i => (es[i]?.map (·.1)).getD 0) k fun i hi e => by
    have hi' : i < es.size := by rw [S.many, ← S.pl]; exact hi
    have e' : ((es[i]?.map fun z => z.1).getD 0) = k := e
    rw [Array.getElem?_eq_getElem hi'] at e'
    exact nk (e' ▸ S.hash _ (Array.getElem_mem_toList hi'))
  rw [show (none : Option SetTable.Probe).getD (t.probeStart k) = t.probeStart k from rfl, e]
  dsimp only
  exact wpAny_pure (q j)
theorem ins_len {α : Type} (xs : Array α) (p : Nat) (x : α) : (SetTable.insertAt xs p x).size = xs.size + 1 := by
  unfold SetTable.insertAt
  rw [Array.size_append, Array.size_push, Array.size_extract, Array.size_extract]
  omega
theorem ins_mem {α : Type} {xs : Array α} {p : Nat} {x y : α} (h : y ∈ (SetTable.insertAt xs p x).toList) : y = x ∨ y ∈ xs.toList := by
  unfold SetTable.insertAt at h
  rw [Array.toList_append, Array.toList_push, List.mem_append, List.mem_append, List.mem_singleton, Array.toList_extract, Array.toList_extract] at h
  rcases h with (h | h) | h
  · exact .inr (List.mem_of_mem_take (by simpa [List.extract] using h))
  · exact .inl h
  · exact .inr (List.mem_of_mem_drop (List.mem_of_mem_take (by simpa [List.extract] using h)))
/-- the table as it grows -/
theorem grow_at {m n : Nat} (mk : Mk m) (r : n * 5 < m * 3) (f : (n + 1) * 5 ≥ m * 3) (few : n + 1 < 1228) : ∃ M, SetTable.sizeAbove (SetTable.grown (n + 1)) - 1 = M ∧ Mk M ∧ SetTable.sizeAbove (SetTable.grown (n + 1)) ≤ 2048 ∧ (n + 1) * 5 < M * 3 := by
  unfold Mk at mk
  simp only [List.mem_cons, List.not_mem_nil, or_false] at mk
  rcases mk with e | e | e | e | e <;> subst e
  · obtain rfl : n = 4 := by omega
    exact ⟨31, by decide +kernel, by unfold Mk; decide, by decide +kernel, by decide⟩
  · obtain rfl : n = 18 := by omega
    exact ⟨127, by decide +kernel, by unfold Mk; decide, by decide +kernel, by decide⟩
  · obtain rfl : n = 76 := by omega
    exact ⟨511, by decide +kernel, by unfold Mk; decide, by decide +kernel, by decide⟩
  · obtain rfl : n = 306 := by omega
    exact ⟨2047, by decide +kernel, by unfold Mk; decide, by decide +kernel, by decide⟩
  · omega
theorem big_line : 5000 ≤ sizeLine := by rw [sizeLine_eq]; decide
theorem relay_n {h : Heap} (hh : s.heap = h) (ob : h.get? a = some o) (ex : o.ExactSet) (dat : o.data = .set es ep t) (many : es.size = n) (hash : ∀ e ∈ es.toList, e.1 ∈ hs) (pl : t.place.size = n) (dm : t.dummies = #[]) (le : n ≤ t.mask) (plain : t.plain = true)
    {wanted M : Nat} (hw : SetTable.sizeAbove wanted - 1 = M) (mk : Mk M) (h2 : SetTable.sizeAbove wanted ≤ 2048) (room : n * 5 < M * 3) {Q : Unit → Shared → Prop}
    (q : ∀ h' es' ep' t' o', Heap.SameBut a h h' → So h' a hs n es' ep' t' o' → Q () { s with heap := h' }) : wpAny (model P w) A (setRelay a wanted) Q E s := by
  subst hh
  have hf : t.fits es.size = true := by
    unfold SetTable.fits SetTable.fill
    rw [dm, many, pl]
    show ((n == n) && decide (n + 0 ≤ t.mask)) = true
    rw [beq_self_eq_true, Bool.true_and, decide_eq_true_eq]
    exact le
  obtain ⟨t', od, e, o1, o2, o3, o4, o5, o6⟩ := laid_anew t (hs := es.map (·.1)) (wanted := wanted) hw mk (by rw [Array.size_map, many]; omega)
  rw [Array.size_map, many] at o1 o2 o3
  have z : (od.filterMap (es[·]?)).toList = od.toList.filterMap (es[·]?) := Array.toList_filterMap
  have all : ∀ l : List Nat, (∀ k ∈ l, k < n) → (l.filterMap (es[·]?)).length = l.length := by
    intro l
    induction l with
    | nil => intro _; rfl
    | cons k l ih =>
      intro hl
      have hk : k < es.size := by rw [many]; exact hl k List.mem_cons_self
      rw [List.filterMap_cons_some (Array.getElem?_eq_getElem hk), List.length_cons, ih (fun y hy => hl y (List.mem_cons_of_mem _ hy)), List.length_cons]
  have hz : (od.filterMap (es[·]?)).size = n := by rw [← Array.length_toList, z, all _ o2, Array.length_toList, o1]
  rw [setRelay_eq]
  refine wpAny_bind (wpAny_setState_of ob dat hf ?_)
  dsimp only
  have bl := big_line
  refine wp_if_neg (by omega) ?_
  try refine wpAny_bind (wpAny_pure ?_)
  rw [e]
  dsimp only
  refine wpAny_bind ?_
  refine wp_if_neg (by rw [hz, many]; simp) ?_
  try refine wpAny_bind (wpAny_pure ?_)
  refine wpAny_pure ?_
  dsimp only
  have hm : Mk M := mk
  have hM : M ≤ 2047 := by omega
  refine wpAny_storeSet_of ob dat ?_ (by rw [hz]; omega)
  exact q _ _ (ep + 1) t' _ (Heap.SameBut.update ..) ⟨store_at ob dat, ⟨ex.1, ex.2.1, ex.2.2⟩, rfl, hz, fun y hy => by
    rw [z] at hy
    obtain ⟨k, _, ek⟩ := List.mem_filterMap.mp hy
    exact hash y (by obtain ⟨u, v⟩ := Array.getElem?_eq_some_iff.mp ek; rw [← v]; exact Array.getElem_mem_toList u), o3, o4, by rw [o5]; exact mk, by rw [o6]; exact plain, by rw [o5]; exact room⟩
/-- one more -/
theorem So.add {h : Heap} (hh : s.heap = h) (S : So h a hs n es ep t o) {x : Addr} {k : List Int} (hx : IsT P w h k x) (nk : thash P w k ∉ hs) (few : n + 1 < 1228) {Q : Bool → Shared → Prop}
    (q : ∀ h' es' ep' t' o', Heap.SameBut a h h' → So h' a (thash P w k :: hs) (n + 1) es' ep' t' o' → Q true { s with heap := h' }) : wpAny (model P w) A (setAddHashed a (.ref x) (thash P w k)) Q E s := by
  subst hh
  have bl := big_line
  unfold setAddHashed
  refine wpAny_holding ?_
  rw [show (100000 : Nat) = 99999 + 1 from rfl, setAddHashedIn_succ]
  refine wpAny_bind (wpAny_setState_of S.ob S.dat S.fits ?_)
  dsimp only
  refine wp_if_neg (by simp [byScan, Value.scannable]) ?_
  try refine wpAny_bind (wpAny_pure ?_)
  refine wpAny_bind (S.look rfl (.ref x) nk fun j => ?_)
  dsimp only
  refine wpAny_bind (wpAny_setState_of S.ob S.dat S.fits ?_)
  dsimp only
  have e1 : (t.put j).1.place.size = n + 1 := by
    show (SetTable.insertAt t.place _ j).size = _
    rw [ins_len, S.pl]
  have e2 : (t.put j).1.dummies = #[] := put_dm S.dm j
  have e3 : (t.put j).1.mask = t.mask := rfl
  have e4 : (t.put j).1.plain = true := S.plain
  generalize t.put j = pt at e1 e2 e3 e4 ⊢
  obtain ⟨u, p⟩ := pt
  dsimp only at e1 e2 e3 e4 ⊢
  first
    | (refine wpAny_bind ?_; refine wp_if_pos e4 ?_; refine hashBy_tup hx ?_)
    | refine wp_if_pos e4 (wpAny_bind (hashBy_tup hx ?_))
  simp only [if_true]
  have f1 : (SetTable.insertAt es p (thash P w k, Value.ref x)).size = n + 1 := by rw [ins_len, S.many]
  have f2 : ∀ y ∈ (SetTable.insertAt es p (thash P w k, Value.ref x)).toList, y.1 ∈ thash P w k :: hs := fun y hy => by
    rcases ins_mem hy with c | c
    · rw [c]; exact List.mem_cons_self
    · exact List.mem_cons_of_mem _ (S.hash y c)
  generalize SetTable.insertAt es p (thash P w k, Value.ref x) = fs at f1 f2 ⊢
  refine wpAny_bind (wpAny_storeSet_of S.ob S.dat ?_ (by rw [f1]; omega))
  have sb : Heap.SameBut a s.heap (s.heap.update a (Obj.putSet fs u)) := Heap.SameBut.update ..
  have st := store_at (es' := fs) (t' := u) S.ob S.dat
  generalize s.heap.update a (Obj.putSet fs u) = g at sb st ⊢
  have rm := S.room
  by_cases c : u.tooFull = true
  · have c' : (n + 1) * 5 ≥ t.mask * 3 := by
      have z := c
      unfold SetTable.tooFull SetTable.fill at z
      rw [e1, e2, e3, decide_eq_true_eq] at z
      exact z
    obtain ⟨M, g1, g2, g3, g4⟩ := grow_at S.mko S.room c' few
    rw [S.many]
    first
      | (refine wpAny_bind ?_; refine wp_if_pos (by simp [c]) ?_)
      | (refine wp_if_pos (by simp [c]) ?_; refine wpAny_bind ?_)
    have lm : n + 1 ≤ t.mask := by
      have := S.mko
      unfold Mk at this
      simp only [List.mem_cons, List.not_mem_nil, or_false] at this
      omega
    refine relay_n (s := { s with heap := g }) rfl st ⟨S.exact_.1, S.exact_.2.1, S.exact_.2.2⟩ rfl f1 f2 e1 e2 (by rw [e3]; exact lm) e4 g1 g2 g3 g4 fun h' es' ep' t' o' sb' S' => ?_
    exact wpAny_pure (q h' es' ep' t' o' (sb.trans sb') S')
  · first
      | refine wp_if_neg (by simp [c]) ?_
      | (refine wpAny_bind ?_; refine wp_if_neg (by simp [c]) ?_; refine wpAny_pure ?_)
    have c' : ¬ (n + 1) * 5 ≥ t.mask * 3 := fun z => c (by
      unfold SetTable.tooFull SetTable.fill
      rw [e1, e2, e3, decide_eq_true_eq]
      exact z)
    exact wpAny_pure (q g fs (ep + 1) u _ sb ⟨st, ⟨S.exact_.1, S.exact_.2.1, S.exact_.2.2⟩, rfl, f1, f2, e1, e2, by rw [e3]; exact S.mko, e4, by rw [e3]; omega⟩)
end
end SG
namespace SG
open PySem PySem.Spec PyProof.Rows L2
section
variable {P : Program} {w : World} {A : Around} {E : Value → Shared → Prop} {s : Shared}
/-- a new set -/
abbrev fset (w : World) : Obj := { cls := .type "set", dict := none, data := .set #[] 0 (.fresh 0 0 (!w.params.followText "set-order")) }
theorem So.new {h : Heap} {a : Addr} (g : h.get? a = some (fset w)) : So h a [] 0 #[] 0 (.fresh 0 0 (!w.params.followText "set-order")) (fset w) :=
  ⟨g, ⟨rfl, rfl, rfl⟩, rfl, rfl, (fun _ z => nomatch z), rfl, rfl, List.mem_cons_self, rfl, by show 0 * 5 < 7 * 3; decide⟩
abbrev hsh (P : Program) (w : World) (ks : List (Addr × List Int)) (i : Nat) : List Int := ((ks.take i).map fun p => thash P w p.2).reverse
theorem hsh_next {ks : List (Addr × List Int)} {i : Nat} {p : Addr × List Int} (h : ks[i]? = some p) : hsh P w ks (i + 1) = thash P w p.2 :: hsh P w ks i := by
  show ((ks.take (i + 1)).map _).reverse = _
  rw [take_next h, List.map_append, List.reverse_append] <;> rfl
theorem hsh_out {ks : List (Addr × List Int)} (nd : (ks.map fun p => thash P w p.2).Nodup) {i : Nat} {p : Addr × List Int} (h : ks[i]? = some p) : thash P w p.2 ∉ hsh P w ks i := by
  intro z
  have z' := List.mem_reverse.mp z
  rw [List.map_take] at z'
  obtain ⟨j, hj, e⟩ := List.getElem_of_mem z'
  rw [List.length_take] at hj
  rw [List.getElem_take] at e
  obtain ⟨hi, e2⟩ := List.getElem?_eq_some_iff.mp h
  have l : i < (ks.map fun p => thash P w p.2).length := by rw [List.length_map]; exact hi
  refine List.pairwise_iff_getElem.mp nd j i (by omega) l (by omega) ?_
  rw [e, List.getElem_map, e2]
/-- the loop of set.update over what yields the tuples ks -/
theorem upd_loop {I : Addr} {fp wr : List Addr} {G : Array GenState → Array GenState → Prop} {n : Nat} {Pv : Nat → Value → Prop} {St : Nat → Shared → Prop} {R : Result → Shared → Prop}
    (W : WalksS P w A.in1 I fp wr G n Pv St) {z : Addr} (zf : z ∉ fp) {ks : List (Addr × List Int)} (hn : n = ks.length) (few : n < 1228) (nd : (ks.map fun p => thash P w p.2).Nodup) (pv : ∀ i v, Pv i v → ∃ p, ks[i]? = some p ∧ v = .ref p.1)
    (g : Heap) (tup : ∀ p ∈ ks, IsT P w g p.2 p.1) (gz : g.get? z = none) (gw : ∀ b ∈ wr, g.get? b = none) (hu : A.in1.units < cLine) :
    ∀ (d i : Nat) (s : Shared), n - i = d → i ≤ n → St i s → (∀ b o, g.get? b = some o → s.heap.get? b = some o) → (∃ es ep t o, So s.heap z (hsh P w ks i) i es ep t o) →
      (∀ s', Moved (z :: wr) G s s' → (∃ hs es ep t o, So s'.heap z hs n es ep t o) → (∀ b o, g.get? b = some o → s'.heap.get? b = some o) → R (.ok (.ret .none)) s') →
      codeAny (model P w) A (.builtin "set.update.loop" ⟨[.ref z, .ref I], []⟩) R s := by
  have zw : z ∉ wr := fun c => zf (W.sub _ c)
  have wz : ∀ b ∈ wr, b ∈ z :: wr := fun b c => List.mem_cons_of_mem _ c
  have stay : ∀ {s s' : Shared}, Moved wr G s s' → (∀ b o, g.get? b = some o → s.heap.get? b = some o) → ∀ b o, g.get? b = some o → s'.heap.get? b = some o := fun m k b o e =>
    m.heap b o (fun c => by rw [gw b c] at e; cases e) (k b o e)
  intro d
  induction d with
  | zero =>
    intro i s hd hi st kp ⟨es, ep, t, o, S⟩ fin
    obtain rfl : i = n := by omega
    refine codeAny_builtin F.entry_set_update_loop ?_
    rw [Around.under_plainId F.plain_set_update_loop _]
    show wpAny _ A.in1 (pyNext (.ref I) >>= _) _ _ s
    refine wpAny_bind (W.done s _ _ st fun s' m => ?_)
    show wpAny _ A.in1 (ret Value.none) _ _ s'
    exact wpAny_pure (fin s' (m.mono wz) ⟨_, es, ep, t, o, m.heap z o zw S.ob, S.2, S.3, S.4, S.5, S.6, S.7, S.8, S.9, S.10⟩ (stay m kp))
  | succ d ih =>
    intro i s hd hi st kp ⟨es, ep, t, o, S⟩ fin
    have lt : i < n := by omega
    refine codeAny_builtin F.entry_set_update_loop ?_
    rw [Around.under_plainId F.plain_set_update_loop _]
    show wpAny _ A.in1 (pyNext (.ref I) >>= _) _ _ s
    refine wpAny_bind (W.item i s _ _ lt st fun v s1 pvi st1 m => ?_)
    obtain ⟨p, hp, rfl⟩ := pv i v pvi
    have kp1 := stay m kp
    have S1 : So s1.heap z (hsh P w ks i) i es ep t o := ⟨m.heap z o zw S.ob, S.2, S.3, S.4, S.5, S.6, S.7, S.8, S.9, S.10⟩
    have ip : IsT P w s1.heap p.2 p.1 := isT_keep (tup p (List.mem_of_getElem? hp)) kp1
    show wpAny _ A.in1 (holding [Value.ref p.1] (setAdd z (.ref p.1)) >>= _) _ _ s1
    refine wpAny_bind (wpAny_holding ?_)
    unfold setAdd
    refine wpAny_holding ?_
    refine wpAny_bind (wpAny_pyHash_tuple hu ip ?_)
    refine So.add (s := { s1 with toks := s1.toks + (p.2.length + 1) }) rfl S1 ip (hsh_out nd hp) (by omega) fun h2 es2 ep2 t2 o2 sb S2 => ?_
    rw [← hsh_next hp] at S2
    have kp2 : ∀ b o, g.get? b = some o → h2.get? b = some o := fun b o e => (sb.2 b (fun c => by rw [c, gz] at e; cases e)).trans (kp1 b o e)
    refine wpAny_pure ⟨plainId_quiet F.plain_set_update_loop _, ih (i + 1) _ (by omega) lt (W.frame _ s1 _ _ st1 (Nat.le_add_right _ _) fun b hb o e => ?_) kp2 ⟨es2, ep2, t2, o2, S2⟩ fun s3 m3 S3 kp3 => ?_⟩
    · rw [sb.2 b (fun c : b = z => zf (c ▸ hb))]
      exact e
    · refine fin s3 (Moved.trans W.gtrans ((m.mono wz).then_heap (Nat.le_add_right _ _) fun b o hb e => ?_) m3) S3 kp3
      rw [sb.2 b (fun c : b = z => hb (c ▸ List.mem_cons_self))]
      exact e
set_option maxHeartbeats 3200000 in
/-- set(xs), xs a list of tuples whose hashes are all different -/
theorem call_setG {l : Addr} {items : Array Value} {ks : List (Addr × List Int)} {Q : Value → Shared → Prop} (hh : A.handled = none) (hl : s.heap.IsList l items) (hit : items.toList = ks.map fun p => Value.ref p.1)
    (tup : ∀ p ∈ ks, IsT P w s.heap p.2 p.1) (nd : (ks.map fun p => thash P w p.2).Nodup) (few : ks.length < 1228) (hu : A.units + 3 < cLine)
    (q : ∀ (h' : Heap) (tk : Nat), (∃ hs es ep t o, So h' s.heap.objs.size hs ks.length es ep t o) → (∀ b o, s.heap.get? b = some o → h'.get? b = some o) → Q (.ref s.heap.objs.size) { s with heap := h', toks := tk }) :
    wpAny (model P w) A (call (.type "set") [.ref l]) Q E s := by
  have si : items.size = ks.length := by rw [← Array.length_toList, hit, List.length_map]
  have out : ∀ b, s.heap.objs.size ≤ b → s.heap.get? b = none := fun b hb => by
    cases c : s.heap.get? b with
    | none => rfl
    | some o => exact absurd (Heap.lt_size c) (Nat.not_lt.mpr hb)
  have cs := F.called_set
  obtain ⟨c, tl, mro⟩ := cs.mro
  have made := cs.made
  have sub := cs.sub
  refine wpAny_call (codeAny_of_tree ?_)
  show wpAny _ _ (callAny (.type "set") _) _ _ _
  refine wpAny_pure ⟨Code.quiet_builtin _ (by decide +kernel), codeAny_builtin F.entry_type_call ?_⟩
  rw [Around.under_plain (weight_type_call_type "set" [.ref l] []) rfl]
  have q1 := cs.notType
  have q2 := cs.canCreate
  have q3 := F.typeCall_set_1 (.ref l)
  repeat (any_goals (first | assumption | wp_step))
  have fr : (s.heap.push (fset w)).get? s.heap.objs.size = some (fset w) := Heap.get?_push_size _ rfl
  refine codeAny_mono (code_set_led1 (.ref l) (E := E) (Q₁ := fun x s1 => x = .ref s.heap.objs.size ∧ s1 = { s with heap := s.heap.push (fset w) }) ⟨rfl, rfl⟩) fun r s1 hr => ?_
  cases r with
  | error e => exact hr
  | ok fl =>
    cases fl with
    | ret x =>
      obtain ⟨rfl, rfl⟩ := hr
      have ty : Shared.TypeIs { s with heap := s.heap.push (fset w) } (.ref s.heap.objs.size) "set" := ⟨_, fr, rfl⟩
      have i1 := cs.init.lookup
      have i2 := cs.init.bind (.ref s.heap.objs.size)
      repeat (any_goals (first | assumption | wp_step))
      refine codeAny_mono (codeAny_call_builtin (R := wants (fun r s2 => r = .none ∧ ∃ h' tk, s2 = { s with heap := h', toks := tk } ∧ (∃ hs es ep t o, So h' s.heap.objs.size hs ks.length es ep t o) ∧
          (∀ b o, s.heap.get? b = some o → h'.get? b = some o)) E) cs.init.plain F.entry_set_init (check_set_init_1 ty ?_)) fun r2 s2 hr2 => ?_
      · obtain ⟨⟨oc, od, odt, osl⟩, ol, hc, nl, hd⟩ := hl
        dsimp only at hc hd
        subst hc
        subst hd
        have ol2 : (s.heap.push (fset w)).get? l = some { cls := .type "list", dict := od, data := .seq items nl, slots := osl } := Heap.get?_push_of_some _ ol
        have l2 : (s.heap.push (fset w)).IsList l items := ⟨_, ol2, rfl, nl, rfl⟩
        have n1 := F.sub_list_set
        have n2 := F.sub_list_frozenset
        have n3 : (Value.type "list" == Value.type "dict") = false := by decide
        unfold Builtin.«set.__init__» noKeywords Builtin.Frozenset.updateFrom
        generalize eI : pyIter = PI
        wp_walk
        subst eI
        refine wpAny_pyIter_list l2 ?_
        refine wpAny_bind (wpAny_runValue ?_)
        have ll : l < s.heap.objs.size := Heap.lt_size ol
        have sz : (s.heap.push (fset w)).objs.size = s.heap.objs.size + 1 := Heap.size_push ..
        refine upd_loop (ks := ks) (z := s.heap.objs.size) ((Walks.list (by simp [hh]) (s.heap.push (fset w)).objs.size l (by rw [sz]; exact Nat.ne_of_lt (Nat.lt_succ_of_lt ll)) items).toS) (by rw [sz]; simp only [List.mem_cons, List.not_mem_nil, or_false, not_or]; exact ⟨Nat.ne_of_lt (Nat.lt_succ_self _), Nat.ne_of_gt ll⟩)
          si (by omega) nd (fun i v hv => ?_) s.heap tup (out _ (Nat.le_refl _)) (fun b hb => out b (by rw [List.mem_singleton.mp hb, sz]; exact Nat.le_succ _)) hu (items.size - 0) 0 _ (by omega) (Nat.zero_le _)
          ⟨⟨_, Heap.get?_push_size _ rfl, rfl, rfl⟩, l2.push _⟩ (fun b o e => Heap.get?_push_of_some _ (Heap.get?_push_of_some _ e)) ?_ ?_
        · have hv' : items.toList[i]? = some v := by rw [Array.getElem?_toList]; exact hv
          rw [hit, List.getElem?_map, Option.map_eq_some_iff] at hv'
          obtain ⟨p, a, b⟩ := hv'
          exact ⟨p, a, b.symm⟩
        · exact ⟨#[], 0, _, _, So.new (w := w) (Heap.get?_push_of_some _ fr)⟩
        · intro s3 m S3 k3
          obtain ⟨h3, g3, d3, t3, os3⟩ := s3
          have a1 : g3 = s.gens := m.gens
          have a2 : d3 = s.drawn := m.drawn
          have a3 : os3 = s.os := m.os
          subst a1 a2 a3
          rw [si] at S3
          show wpAny _ _ _ _ _ _
          refine wpAny_pure ?_
          show wpAny _ _ (ret Value.none) _ _ _
          exact wpAny_pure ⟨rfl, h3, t3, rfl, S3, k3⟩
      · cases r2 with
        | error e => exact hr2
        | ok f2 =>
          cases f2 with
          | ret r =>
            obtain ⟨rfl, h3, t3, rfl, S3, k3⟩ := hr2
            repeat (any_goals (first | assumption | wp_step))
            exact q _ _ S3 k3
          | _ => exact hr2.elim
    | _ => exact hr.elim
end
section
variable {X : Cx}
/-- len(set(xs)), xs a list of tuples of ints whose hashes are all different -/
def tLenG (K : PySem.W.Frag) (P : Program) (w : World) (ta : TE) : TE := fun σ H Q => ta σ H fun x H1 => ∃ (l : Addr) (ks : List (Addr × List Int)), x = V.ref l ∧ SqL K H1 l (ks.map fun p => V.ref p.1) ∧ (∀ p ∈ ks, SqT K H1 p.1 (p.2.map V.int)) ∧ (ks.map fun p => thash P w p.2).Nodup ∧ ks.length < 1228 ∧ Q (.int ks.length) H1
theorem pe_lenG {a : Expr} {ta : TE} {p p2 q pos : Pos} (hc : X.calm = true) (hu : X.A.units + 64 < cLine) (hg : Gl X "len") (hm : X.mg "len" = none) (hg2 : Gl X "set") (hm2 : X.mg "set" = none) (ha : PE X a ta)
    (na : starEach [a] X.env = (false, eval a X.env) :: starEach [] X.env := by rfl) : PE X (.Call (.Name "len" p) [.Call (.Name "set" p2) [a] [] q] [] pos) (tLenG X.K X.prog X.w ta) := by
  constructor
  intro pins s σ H Q I h
  refine Call_ (ld_blt I hg hm PySem.boot_len ?_)
  refine PyProof.Rows.callWith_builtin1 (PyProof.Rows.args_cons ?_ rfl) rfl rfl
  refine Call_ (ld_blt I hg2 hm2 PyProof.Rows.boot_set ?_)
  refine PyProof.Rows.callWith_type1 (PyProof.Rows.args_cons (thn (ha.run pins s σ H _ I h) fun v s1 ⟨x, H1, I1, r1, z⟩ => PyProof.Rows.args_nil ?_) na) na rfl
  obtain ⟨l, ks, rfl, sq, tup, nd, few, z⟩ := z
  cases r1
  obtain ⟨its, rv, pl, _⟩ := I1.list sq
  refine call_setG (P := X.prog) (w := X.w) (ks := ks) (I1.ok.hd hc) pl.isList (by simpa using refs_of_vals rv) (fun p hp => I1.isT (tup p hp)) nd few (by omega) fun h' tk S k => ?_
  obtain ⟨hs, es, ep, t, o, S⟩ := S
  refine PyProof.Rows.args_nil ?_
  have I2 : Inv X pins σ H1 { s1 with heap := h', toks := tk } := I1.kept k
  exact call_len_set S.ob S.exact_ S.dat S.fits (by rw [S.many] <;> omega) ⟨.int ks.length, H1, I2.tok _, ⟨_, by rw [S.many]⟩, z⟩
end
end SG
/-! ### list(d.values()) -/
namespace EL
open PySem PySem.Spec PyProof.Rows L2 He TL
section
variable {X : Cx} {e : Expr} {te : TE} {p pos apos cpos : Pos}
def tListVals (te : TE) : TE := fun σ H Q => te σ H fun x H1 => ∃ (d : Addr) (kvs : List (Key × V)), x = .ref d ∧ H1 d = some (.dK kvs) ∧ ∀ q, H1 q = none → Q (.ref q) (upd H1 q (.lst (kvs.map (·.2))))
theorem kv_get {kvs : List (Key × V)} {vs : List (Key × Value)} (r : KV kvs vs) {j : Nat} {x : V} {v : Value} {k : Key} (h1 : (kvs.map (·.2))[j]? = some x) (h2 : vs[j]? = some (k, v)) : RelV x v := by
  obtain ⟨y, a, b⟩ := KV.at' r h2
  rw [List.getElem?_map, a] at h1
  cases h1
  exact b
theorem pe_listVals (hc : X.calm = true) (he : PE X e te) (hg : Gl X "list") (hm : X.mg "list" = none) (hv : bootBuiltins "list" = some (.type "list")) (hb : attributeBase e "values" X.env (eval e X.env) = eval e X.env := by rfl) (hl : (apos.endLine == cpos.line) = true := by rfl)
    (st : starEach [.Call (.Attribute e "values" apos) [] [] cpos] X.env = (false, eval (.Call (.Attribute e "values" apos) [] [] cpos) X.env) :: starEach [] X.env := by rfl) :
    PE X (.Call (.Name "list" p) [.Call (.Attribute e "values" apos) [] [] cpos] [] pos) (tListVals te) := by
  constructor
  intro pins s σ H Q I hq
  refine wpAny_Call_Name_kw (ld_blt I hg hm hv ?_)
  refine PyProof.Rows.callWith_type1 ?_ st rfl
  rw [st]
  show wpAny _ _ (spliced ((false, eval (.Call (.Attribute e "values" apos) [] [] cpos) X.env) :: backTo pos (starEach [] X.env))) _ _ s
  refine Calls.spliced_cons ?_
  refine wpAny_Call_method (T := "dict") (id := "dict.values") hb rfl hl F.plainAttrs_dict F.slot_dict_values F.type_dict_values (thn (he.run pins s σ H _ I hq) fun u s1 ⟨x, H1, I1, rx, d, kvs, ex, hd, z⟩ => ?_)
  subst ex
  cases (show u = Value.ref d from rx)
  obtain ⟨big, sys, vs, kv, dof⟩ := I1.hok d _ hd
  obtain ⟨ep, at_⟩ := dof.dictAt
  have ln : kvs.length = vs.length := Paired.length kv
  have I2 : Inv X pins σ H1 { s1 with heap := s1.heap.push { cls := .type "dict_values", data := .fields #[.ref d] } } := I1.kept (t' := s1.toks) fun b o g => Heap.get?_push_of_some _ g
  refine ⟨dof.typeIs, dof.mapOf.noDict, ?_⟩
  show wpAny _ _ (callWith cpos (.builtin "dict.values") [.ref d] [] []) _ X.xe s1
  refine method_meetsIn F.slot_dict_values F.entry_dict_values rfl (PySem.evalArgs_none ⟨rfl, dof.typeIs, F.args_dict_values_1 _, _, meets_dict_values (mixKind X.prog X.w) d sys, ⟨vs, dof⟩, ?_⟩)
  refine Calls.spliced_nil ?_
  refine PySem.W.kdl_call (PySem.W.kdl_values (knd := mixKind X.prog X.w) (kvs := vs) (ep := ep)) (I1.ok.hd hc) ⟨⟨_, Heap.get?_push_size _ rfl, rfl, rfl⟩, at_.push _⟩ (by omega) fun h' tk acc c hk hS hacc => ?_
  refine ⟨.ref _, _, I2.laid (t' := tk) hk (Nat.le_refl _) (show ObjOk X.prog X.w _ _ _ (.lst (kvs.map (·.2))) from ⟨by rw [List.length_map]; exact big, acc.toList, c, ?_, by simpa using hS⟩), rfl, z _ (I2.hok.fresh (Nat.le_refl _))⟩
  have el : acc.toList.length = acc.size := by simp
  refine vals_of_at (by rw [List.length_map, el, hacc.1, ln]) fun j x w h1 h2 => ?_
  obtain ⟨k, hw⟩ := hacc.2 j w (by rw [← Array.getElem?_toList]; exact h2)
  exact kv_get kv h1 hw
end
end EL
namespace EL
open PySem PySem.W
/-! the end by the kit's word k_head: what its hook says holds the written objects -/
theorem inK_of {K : Params → Frag} {as : List Addr} {e} {w : World} {h : Heap} (Y : (kHook K as e).says w h) : (K w.params).In h := Y
theorem says_of {K : Frag} {h : Heap} (_ : K.In h) (fa : List He.Fa) (fn : List DefE) (xn : List DefX) (ex : Frag → Bool) (c : obsX fa fn xn ex K = valX fn xn) : SaysX fa fn xn ex K := c
end EL
namespace K24
open PySem PySem.Spec PyProof.Rows L2 He TL EL
def topS (i : Nat) : Stmt := PySem.Challenge.pw_endlessasks_k24_all_shapes.main.body.getD i (.Pass ⟨0, 0, 0, 0⟩)
abbrev s_is_whole : Stmt := (topS 1)
abbrev s_is_shape : Stmt := (topS 3)
abbrev s_opened : Stmt := (topS 4)
abbrev s_extended : Stmt := (topS 5)
abbrev s_all_shapes : Stmt := (topS 6)
abbrev s_shape_count : Stmt := (topS 7)
abbrev s__law_pool : Stmt := (topS 9)
abbrev s__law_take : Stmt := (topS 10)
abbrev s__law_less : Stmt := (topS 11)
abbrev s__law_unlike : Stmt := (topS 12)
abbrev s__law_ranks : Stmt := (topS 13)
abbrev s__law_count : Stmt := (topS 14)
abbrev s_law : Stmt := (topS 15)
theorem sc_is_whole : FnScope ["thing"] ["thing"] (defScope s_is_whole) := ⟨rfl, rfl, rfl, by decide +kernel, rfl, by decide +kernel, by decide +kernel⟩
theorem sc_is_shape : FnScope ["thing", "constants", "rank", "present", "at"] ["thing", "constants"] (defScope s_is_shape) := ⟨rfl, rfl, rfl, by decide +kernel, rfl, by decide +kernel, by decide +kernel⟩
theorem sc_opened : FnScope ["shape", "rank", "one"] ["shape", "rank"] (defScope s_opened) := ⟨rfl, rfl, rfl, by decide +kernel, rfl, by decide +kernel, by decide +kernel⟩
theorem sc_extended : FnScope ["shape", "many", "rank", "found"] ["shape"] (defScope s_extended) := ⟨rfl, rfl, rfl, by decide +kernel, rfl, by decide +kernel, by decide +kernel⟩
theorem sc_all_shapes : FnScope ["many", "constants", "found", "turn", "shape", "more"] ["many", "constants"] (defScope s_all_shapes) := ⟨rfl, rfl, rfl, by decide +kernel, rfl, by decide +kernel, by decide +kernel⟩
theorem sc_shape_count : FnScope ["many", "constants", "counts", "turn", "more", "ranks", "ways"] ["many", "constants"] (defScope s_shape_count) := ⟨rfl, rfl, rfl, by decide +kernel, rfl, by decide +kernel, by decide +kernel⟩
theorem sc__law_pool : FnScope ["_law_script", "_law_k", "_law_cell", "_law_number", "_law_mixed"] ["_law_script", "_law_k"] (defScope s__law_pool) := ⟨rfl, rfl, rfl, by decide +kernel, rfl, by decide +kernel, by decide +kernel⟩
theorem sc__law_take : FnScope ["_law_pool_here", "_law_many", "_law_digit"] ["_law_pool_here", "_law_many"] (defScope s__law_take) := ⟨rfl, rfl, rfl, by decide +kernel, rfl, by decide +kernel, by decide +kernel⟩
theorem sc__law_less : FnScope ["_law_one", "_law_other"] ["_law_one", "_law_other"] (defScope s__law_less) := ⟨rfl, rfl, rfl, by decide +kernel, rfl, by decide +kernel, by decide +kernel⟩
theorem sc__law_unlike : FnScope ["_law_values", "_law_found", "_law_one", "_law_at"] ["_law_values"] (defScope s__law_unlike) := ⟨rfl, rfl, rfl, by decide +kernel, rfl, by decide +kernel, by decide +kernel⟩
theorem sc__law_ranks : FnScope ["_law_values", "_law_unlike_here", "_law_one"] ["_law_values"] (defScope s__law_ranks) := ⟨rfl, rfl, rfl, by decide +kernel, rfl, by decide +kernel, by decide +kernel⟩
theorem sc__law_count : FnScope ["_law_many", "_law_ranks_here", "_law_row", "_law_turn", "_law_more", "_law_at"] ["_law_many", "_law_ranks_here"] (defScope s__law_count) := ⟨rfl, rfl, rfl, by decide +kernel, rfl, by decide +kernel, by decide +kernel⟩
theorem sc_law : FnScope ["_law_script", "_law_many", "_law_constants", "_law_found", "_law_shape", "_law_k", "_law_pool_here", "_law_values", "_law_at", "_law_turn"] ["_law_script"] (defScope s_law) := ⟨rfl, rfl, rfl, by decide +kernel, rfl, by decide +kernel, by decide +kernel⟩
structure Txt (K : PySem.W.Frag) (mg : Str → Option Value) : Prop where
  g_is_whole : mg "is_whole" = some (.ref (ga K "is_whole"))
  g_is_shape : mg "is_shape" = some (.ref (ga K "is_shape"))
  g_opened : mg "opened" = some (.ref (ga K "opened"))
  g_extended : mg "extended" = some (.ref (ga K "extended"))
  g_all_shapes : mg "all_shapes" = some (.ref (ga K "all_shapes"))
  g_shape_count : mg "shape_count" = some (.ref (ga K "shape_count"))
  g__law_pool : mg "_law_pool" = some (.ref (ga K "_law_pool"))
  g__law_take : mg "_law_take" = some (.ref (ga K "_law_take"))
  g__law_less : mg "_law_less" = some (.ref (ga K "_law_less"))
  g__law_unlike : mg "_law_unlike" = some (.ref (ga K "_law_unlike"))
  g__law_ranks : mg "_law_ranks" = some (.ref (ga K "_law_ranks"))
  g__law_count : mg "_law_count" = some (.ref (ga K "_law_count"))
  g_law : mg "law" = some (.ref (ga K "law"))
  z_isinstance : mg "isinstance" = none
  z_int : mg "int" = none
  z_bool : mg "bool" = none
  z_all : mg "all" = none
  z_tuple : mg "tuple" = none
  z_len : mg "len" = none
  z_range : mg "range" = none
  z_sum : mg "sum" = none
  z_list : mg "list" = none
  z_max : mg "max" = none
  z_min : mg "min" = none
  z_set : mg "set" = none
  f_is_whole : ∃ fd, FunD K "is_whole" "is_whole" (defArgs s_is_whole) (defBody s_is_whole) (defScope s_is_whole) ([] : List V) [] (ga K "is_whole") fd
  f_is_shape : ∃ fd, FunD K "is_shape" "is_shape" (defArgs s_is_shape) (defBody s_is_shape) (defScope s_is_shape) ([] : List V) [] (ga K "is_shape") fd
  f_opened : ∃ fd, FunD K "opened" "opened" (defArgs s_opened) (defBody s_opened) (defScope s_opened) ([] : List V) [] (ga K "opened") fd
  f_extended : ∃ fd, FunD K "extended" "extended" (defArgs s_extended) (defBody s_extended) (defScope s_extended) ([] : List V) [] (ga K "extended") fd
  f_all_shapes : ∃ fd, FunD K "all_shapes" "all_shapes" (defArgs s_all_shapes) (defBody s_all_shapes) (defScope s_all_shapes) ([] : List V) [] (ga K "all_shapes") fd
  f_shape_count : ∃ fd, FunD K "shape_count" "shape_count" (defArgs s_shape_count) (defBody s_shape_count) (defScope s_shape_count) ([] : List V) [] (ga K "shape_count") fd
  f__law_pool : ∃ fd, FunD K "_law_pool" "_law_pool" (defArgs s__law_pool) (defBody s__law_pool) (defScope s__law_pool) ([] : List V) [] (ga K "_law_pool") fd
  f__law_take : ∃ fd, FunD K "_law_take" "_law_take" (defArgs s__law_take) (defBody s__law_take) (defScope s__law_take) ([] : List V) [] (ga K "_law_take") fd
  f__law_less : ∃ fd, FunD K "_law_less" "_law_less" (defArgs s__law_less) (defBody s__law_less) (defScope s__law_less) ([] : List V) [] (ga K "_law_less") fd
  f__law_unlike : ∃ fd, FunD K "_law_unlike" "_law_unlike" (defArgs s__law_unlike) (defBody s__law_unlike) (defScope s__law_unlike) ([] : List V) [] (ga K "_law_unlike") fd
  f__law_ranks : ∃ fd, FunD K "_law_ranks" "_law_ranks" (defArgs s__law_ranks) (defBody s__law_ranks) (defScope s__law_ranks) ([] : List V) [] (ga K "_law_ranks") fd
  f__law_count : ∃ fd, FunD K "_law_count" "_law_count" (defArgs s__law_count) (defBody s__law_count) (defScope s__law_count) ([] : List V) [] (ga K "_law_count") fd
  f_law : ∃ fd, FunD K "law" "law" (defArgs s_law) (defBody s_law) (defScope s_law) ([] : List V) [] (ga K "law") fd
end K24
namespace K24
open PySem PySem.Spec PyProof.Rows L2 He TL EL
def dd_is_whole : EL.DefE := ⟨fun K => (ga K "is_whole"), "is_whole", "is_whole", defArgs s_is_whole, defBody s_is_whole, defScope s_is_whole, [], []⟩
def dd_is_shape : EL.DefE := ⟨fun K => (ga K "is_shape"), "is_shape", "is_shape", defArgs s_is_shape, defBody s_is_shape, defScope s_is_shape, [], []⟩
def dd_opened : EL.DefE := ⟨fun K => (ga K "opened"), "opened", "opened", defArgs s_opened, defBody s_opened, defScope s_opened, [], []⟩
def dd_extended : EL.DefE := ⟨fun K => (ga K "extended"), "extended", "extended", defArgs s_extended, defBody s_extended, defScope s_extended, [], []⟩
def dd_all_shapes : EL.DefE := ⟨fun K => (ga K "all_shapes"), "all_shapes", "all_shapes", defArgs s_all_shapes, defBody s_all_shapes, defScope s_all_shapes, [], []⟩
def dd_shape_count : EL.DefE := ⟨fun K => (ga K "shape_count"), "shape_count", "shape_count", defArgs s_shape_count, defBody s_shape_count, defScope s_shape_count, [], []⟩
def dd__law_pool : EL.DefE := ⟨fun K => (ga K "_law_pool"), "_law_pool", "_law_pool", defArgs s__law_pool, defBody s__law_pool, defScope s__law_pool, [], []⟩
def dd__law_take : EL.DefE := ⟨fun K => (ga K "_law_take"), "_law_take", "_law_take", defArgs s__law_take, defBody s__law_take, defScope s__law_take, [], []⟩
def dd__law_less : EL.DefE := ⟨fun K => (ga K "_law_less"), "_law_less", "_law_less", defArgs s__law_less, defBody s__law_less, defScope s__law_less, [], []⟩
def dd__law_unlike : EL.DefE := ⟨fun K => (ga K "_law_unlike"), "_law_unlike", "_law_unlike", defArgs s__law_unlike, defBody s__law_unlike, defScope s__law_unlike, [], []⟩
def dd__law_ranks : EL.DefE := ⟨fun K => (ga K "_law_ranks"), "_law_ranks", "_law_ranks", defArgs s__law_ranks, defBody s__law_ranks, defScope s__law_ranks, [], []⟩
def dd__law_count : EL.DefE := ⟨fun K => (ga K "_law_count"), "_law_count", "_law_count", defArgs s__law_count, defBody s__law_count, defScope s__law_count, [], []⟩
def dd_law : EL.DefE := ⟨fun K => (ga K "law"), "law", "law", defArgs s_law, defBody s_law, defScope s_law, [], []⟩
def fn : List EL.DefE := [dd_is_whole, dd_is_shape, dd_opened, dd_extended, dd_all_shapes, dd_shape_count, dd__law_pool, dd__law_take, dd__law_less, dd__law_unlike, dd__law_ranks, dd__law_count, dd_law]
def fa : List He.Fa := [.glo "is_whole", .glo "is_shape", .glo "opened", .glo "extended", .glo "all_shapes", .glo "shape_count", .glo "_law_pool", .glo "_law_take", .glo "_law_less", .glo "_law_unlike", .glo "_law_ranks", .glo "_law_count", .glo "law", .free "isinstance", .free "int", .free "bool", .free "all", .free "tuple", .free "len", .free "range", .free "sum", .free "list", .free "max", .free "min", .free "set"]
def exL (K : PySem.W.Frag) : List Bool := []
def ex (K : PySem.W.Frag) : Bool := (exL K).all id
theorem txt_of {K : PySem.W.Frag} {h : Heap} {mg : Str → Option Value} (X : K.In h) (G : h.Ns mainGlobals mg) (c : EL.SaysE fa fn ex K) : Txt K mg := by
  have m := c.ex_
  exact ⟨He.glo_ok X G (c.fact 0 (by rfl)),
    He.glo_ok X G (c.fact 1 (by rfl)),
    He.glo_ok X G (c.fact 2 (by rfl)),
    He.glo_ok X G (c.fact 3 (by rfl)),
    He.glo_ok X G (c.fact 4 (by rfl)),
    He.glo_ok X G (c.fact 5 (by rfl)),
    He.glo_ok X G (c.fact 6 (by rfl)),
    He.glo_ok X G (c.fact 7 (by rfl)),
    He.glo_ok X G (c.fact 8 (by rfl)),
    He.glo_ok X G (c.fact 9 (by rfl)),
    He.glo_ok X G (c.fact 10 (by rfl)),
    He.glo_ok X G (c.fact 11 (by rfl)),
    He.glo_ok X G (c.fact 12 (by rfl)),
    He.free_ok X G (c.fact 13 (by rfl)),
    He.free_ok X G (c.fact 14 (by rfl)),
    He.free_ok X G (c.fact 15 (by rfl)),
    He.free_ok X G (c.fact 16 (by rfl)),
    He.free_ok X G (c.fact 17 (by rfl)),
    He.free_ok X G (c.fact 18 (by rfl)),
    He.free_ok X G (c.fact 19 (by rfl)),
    He.free_ok X G (c.fact 20 (by rfl)),
    He.free_ok X G (c.fact 21 (by rfl)),
    He.free_ok X G (c.fact 22 (by rfl)),
    He.free_ok X G (c.fact 23 (by rfl)),
    He.free_ok X G (c.fact 24 (by rfl)),
    c.def_ 0 (d := dd_is_whole) rfl,
    c.def_ 1 (d := dd_is_shape) rfl,
    c.def_ 2 (d := dd_opened) rfl,
    c.def_ 3 (d := dd_extended) rfl,
    c.def_ 4 (d := dd_all_shapes) rfl,
    c.def_ 5 (d := dd_shape_count) rfl,
    c.def_ 6 (d := dd__law_pool) rfl,
    c.def_ 7 (d := dd__law_take) rfl,
    c.def_ 8 (d := dd__law_less) rfl,
    c.def_ 9 (d := dd__law_unlike) rfl,
    c.def_ 10 (d := dd__law_ranks) rfl,
    c.def_ 11 (d := dd__law_count) rfl,
    c.def_ 12 (d := dd_law) rfl⟩
def loose : List Str := [("is_whole" : Str), ("is_shape" : Str), ("opened" : Str), ("extended" : Str), ("all_shapes" : Str), ("shape_count" : Str), ("_law_pool" : Str), ("_law_take" : Str), ("_law_less" : Str), ("_law_unlike" : Str), ("_law_ranks" : Str), ("_law_count" : Str)]
end K24
namespace K24
open PySem PySem.Spec PyProof.Rows L2 He TL EL
theorem mapAt {α β : Type} {f : α → β} {l : List α} {i : Nat} {a : α} (h : l[i]? = some a) : (l.map f)[i]? = some (f a) := by rw [List.getElem?_map, h]; rfl
theorem valV_none {κ : Type} [DecidableEq κ] {k : κ} : ∀ {kn : List (κ × V)}, valV kn k = none → k ∉ kn.map (·.1)
  | [], _ => by simp
  | p :: r, h => by
    by_cases e : p.1 = k
    · rw [valV_pos e] at h; cases h
    · rw [valV_neg e] at h
      intro z
      rcases List.mem_cons.mp z with z | z
      · exact e z.symm
      · exact valV_none h z
/-! signs and values -/
inductive Sg where
  | lt | le | eq | ne
  deriving DecidableEq
def Sg.s : Sg → Str
  | .lt => "<"
  | .le => "<="
  | .eq => "="
  | .ne => "!="
def valD (x : Int × Int) : PyData := .tuple [.int x.1, .int x.2]
/-- a value: lowest terms, not too great -/
structure Vl (x : Int × Int) : Prop where
  low : Low x.1 x.2
  top : x.1.natAbs < 2 ^ 70
  bot : x.2.natAbs < 2 ^ 70
def Sg.holds : Sg → Int × Int → Int × Int → Bool
  | .lt, x, y => decide (x.1 * y.2 < y.1 * x.2)
  | .le, x, y => !decide (y.1 * x.2 < x.1 * y.2)
  | .eq, x, y => decide (x = y)
  | .ne, x, y => !decide (x = y)
theorem Sg.inj {p q : Sg} : (p.s == q.s) = decide (p = q) := by cases p <;> cases q <;> decide +kernel
theorem isVal_of {x : Int × Int} (h : Low x.1 x.2) : isValD (valD x) = true := by
  show (!decide (x.2 < 1) && decide (cd x.1 x.2 = 1)) = true
  rw [decide_eq_false (by have := h.1; omega), decide_eq_true h.2]
  rfl
theorem eqv_int (i j : Int) : PyData.eqv (.int i) (.int j) = decide (i = j) := by
  show (i == j) = _
  by_cases h : i = j
  · subst h; simp
  · rw [decide_eq_false h, beq_eq_false_iff_ne.mpr h]
theorem eqv_valD (x y : Int × Int) : PyData.eqv (valD x) (valD y) = decide (x = y) := by
  show (PyData.eqv (.int x.1) (.int y.1) && (PyData.eqv (.int x.2) (.int y.2) && true)) = _
  rw [eqv_int, eqv_int, Bool.and_true, ← Bool.decide_and]
  exact decide_eq_decide.mpr ⟨fun h => Prod.ext h.1 h.2, fun h => by subst h; exact ⟨rfl, rfl⟩⟩
theorem Pd.valD (x : Int × Int) : Pd (valD x) := ⟨rfl, rfl, by show 1 ≤ 16; decide⟩
section
variable {K : PySem.W.Frag}
theorem dp_val {H : Hp} {v : V} {x : Int × Int} (h : Dp K H v (valD x)) : ∃ q, v = .ref q ∧ SqT K H q [.int x.1, .int x.2] := by
  cases h with
  | tup hS hA =>
    cases hA with
    | cons h1 hA =>
      cases hA with
      | cons h2 hA =>
        cases hA
        cases h1
        cases h2
        exact ⟨_, rfl, hS⟩
theorem DpAll.at {H : Hp} : ∀ {ds : List PyData} {vs : List V} {i : Nat} {d : PyData}, DpAll K H vs ds → ds[i]? = some d → ∃ v, vs[i]? = some v ∧ Dp K H v d
  | _, _, 0, _, .cons a b, e => by cases e; exact ⟨_, rfl, a⟩
  | _, _, i + 1, _, .cons a b, e => DpAll.at (i := i) b e
theorem vl_mul {x y : Int × Int} (h1 : Vl x) (h2 : Vl y) : CMulW x.1 y.2 := wide_mul h1.top h2.bot (by decide) (by decide) (by decide)
theorem getM {α β : Type} {f : α → β} {l : List α} {i : Nat} {d : β} (h : (l.map f)[i]? = some d) : ∃ a, l[i]? = some a ∧ f a = d := by
  rw [List.getElem?_map] at h
  cases e : l[i]? with
  | none => rw [e] at h; cases h
  | some a => rw [e] at h; exact ⟨a, rfl, Option.some.inj h⟩
theorem tk1 {α : Type} {l : List α} {i : Nat} {a : α} (h : l[i]? = some a) : l.take (i + 1) = l.take i ++ [a] := by
  rw [List.take_add_one, h]
  rfl
theorem DpAll.app {H : Hp} : ∀ {ds es : List PyData} {vs us : List V}, DpAll K H vs ds → DpAll K H us es → DpAll K H (vs ++ us) (ds ++ es)
  | _, _, _, _, .nil, h => h
  | _, _, _, _, .cons a b, h => .cons a (DpAll.app b h)
end
/-! values in order -/
abbrev ltV (x y : Int × Int) : Prop := x.1 * y.2 < y.1 * x.2
theorem ltV_trans {x y z : Int × Int} (hx : 0 < x.2) (hy : 0 < y.2) (hz : 0 < z.2) (h1 : ltV x y) (h2 : ltV y z) : ltV x z := by
  unfold ltV at *
  have a : x.1 * y.2 * z.2 < y.1 * x.2 * z.2 := Int.mul_lt_mul_of_pos_right h1 hz
  have b : y.1 * z.2 * x.2 < z.1 * y.2 * x.2 := Int.mul_lt_mul_of_pos_right h2 hx
  have c : y.1 * x.2 * z.2 = y.1 * z.2 * x.2 := by rw [Int.mul_assoc, Int.mul_comm x.2 z.2, ← Int.mul_assoc]
  have d : x.1 * z.2 * y.2 < z.1 * x.2 * y.2 := by
    rw [Int.mul_assoc, Int.mul_comm z.2 y.2, ← Int.mul_assoc, Int.mul_assoc z.1, Int.mul_comm x.2 y.2, ← Int.mul_assoc]
    omega
  exact Int.lt_of_mul_lt_mul_right d (Int.le_of_lt hy)
theorem ltV_irrefl (x : Int × Int) : ¬ ltV x x := Int.lt_irrefl _
theorem ltV_eq {x y : Int × Int} (hx : Low x.1 x.2) (hy : Low y.1 y.2) (h1 : ¬ ltV x y) (h2 : ¬ ltV y x) : x = y := by
  unfold ltV at *
  obtain ⟨a, b⟩ := low_unique hx hy (by omega)
  exact Prod.ext a b
def insV (x : Int × Int) : List (Int × Int) → List (Int × Int)
  | [] => [x]
  | y :: r => if ltV y x then y :: insV x r else if y = x then y :: r else x :: y :: r
def asc (xs : List (Int × Int)) : List (Int × Int) := xs.foldl (fun acc x => insV x acc) []
theorem asc_snoc (xs : List (Int × Int)) (x : Int × Int) : asc (xs ++ [x]) = insV x (asc xs) := by
  unfold asc
  rw [List.foldl_append]
  rfl
theorem insV_at {x : Int × Int} : ∀ {l : List (Int × Int)} {k : Nat}, k ≤ l.length → (∀ i y, i < k → l[i]? = some y → ltV y x) → (∀ y, l[k]? = some y → ¬ ltV y x) → insV x l = if l[k]? = some x then l else l.take k ++ [x] ++ l.drop k
  | [], k, hk, _, _ => by
    cases Nat.le_zero.mp hk
    rfl
  | y :: r, 0, _, _, h2 => by
    have h := h2 y rfl
    show (if ltV y x then y :: insV x r else if y = x then y :: r else x :: y :: r) = if some y = some x then y :: r else x :: y :: r
    rw [if_neg h]
    by_cases e : y = x
    · rw [if_pos e, if_pos (by rw [e])]
    · rw [if_neg e, if_neg (fun z => e (Option.some.inj z))]
  | y :: r, k + 1, hk, h1, h2 => by
    have h := h1 0 y (by omega) rfl
    show (if ltV y x then y :: insV x r else if y = x then y :: r else x :: y :: r) = _
    rw [if_pos h, insV_at (l := r) (k := k) (Nat.le_of_succ_le_succ hk) (fun i z hi hz => h1 (i + 1) z (by omega) hz) (fun z hz => h2 z hz)]
    show y :: (if r[k]? = some x then r else r.take k ++ [x] ++ r.drop k) = if r[k]? = some x then y :: r else y :: (r.take k ++ [x] ++ r.drop k)
    split <;> rfl
theorem insV_mem {x z : Int × Int} : ∀ {l : List (Int × Int)}, z ∈ insV x l ↔ z = x ∨ z ∈ l
  | [] => by simp [insV]
  | y :: r => by
    unfold insV
    split
    · rw [List.mem_cons, insV_mem (l := r), List.mem_cons]
      constructor
      · rintro (h | h | h) <;> simp [h]
      · rintro (h | h | h) <;> simp [h]
    · split
      · rename_i e
        rw [List.mem_cons, e]
        constructor
        · rintro (h | h) <;> simp [h]
        · rintro (h | h | h) <;> simp [h]
      · simp
theorem asc_mem (xs : List (Int × Int)) (z : Int × Int) : z ∈ asc xs ↔ z ∈ xs := by
  have h : ∀ (l acc : List (Int × Int)), z ∈ l.foldl (fun acc x => insV x acc) acc ↔ z ∈ acc ∨ z ∈ l := by
    intro l
    induction l with
    | nil => intro acc; simp
    | cons b r ih =>
      intro acc
      show z ∈ r.foldl _ (insV b acc) ↔ _
      rw [ih, insV_mem, List.mem_cons]
      constructor
      · rintro ((h | h) | h) <;> simp [h]
      · rintro (h | h | h) <;> simp [h]
  have := h xs []
  simpa [asc] using this
theorem insV_len (x : Int × Int) : ∀ l : List (Int × Int), (insV x l).length ≤ l.length + 1
  | [] => Nat.le_refl _
  | y :: r => by
    have := insV_len x r
    unfold insV
    split
    · simp only [List.length_cons]; omega
    · split <;> simp only [List.length_cons] <;> omega
theorem asc_len (xs : List (Int × Int)) : (asc xs).length ≤ xs.length := by
  have h : ∀ (l acc : List (Int × Int)), (l.foldl (fun acc x => insV x acc) acc).length ≤ acc.length + l.length := by
    intro l
    induction l with
    | nil => intro acc; exact Nat.le_refl _
    | cons b r ih =>
      intro acc
      have h1 := ih (insV b acc)
      have h2 := insV_len b acc
      show (r.foldl _ (insV b acc)).length ≤ acc.length + (r.length + 1)
      omega
  have := h xs []
  simpa [asc] using this
abbrev SrtV (l : List (Int × Int)) : Prop := l.Pairwise ltV
theorem insV_srt {x : Int × Int} (hx : Low x.1 x.2) : ∀ {l : List (Int × Int)}, (∀ y ∈ l, Low y.1 y.2) → SrtV l → SrtV (insV x l)
  | [], _, _ => by simp [insV, SrtV]
  | y :: r, hl, hs => by
    obtain ⟨h1, h2⟩ := List.pairwise_cons.mp hs
    have hy := hl y (by simp)
    unfold insV
    split
    · rename_i hlt
      refine List.pairwise_cons.mpr ⟨fun z hz => ?_, insV_srt hx (fun z hz => hl z (by simp [hz])) h2⟩
      rcases insV_mem.mp hz with rfl | hz
      · exact hlt
      · exact h1 z hz
    · split
      · exact hs
      · rename_i hn he
        have hxy : ltV x y := Decidable.byContradiction fun hc => he (ltV_eq hy hx hn hc)
        refine List.pairwise_cons.mpr ⟨fun z hz => ?_, hs⟩
        rcases List.mem_cons.mp hz with rfl | hz
        · exact hxy
        · exact ltV_trans hx.1 hy.1 (hl z (by simp [hz])).1 hxy (h1 z hz)
theorem asc_srt {xs : List (Int × Int)} (h : ∀ x ∈ xs, Low x.1 x.2) : SrtV (asc xs) := by
  have key : ∀ (l acc : List (Int × Int)), (∀ x ∈ l, Low x.1 x.2) → (∀ x ∈ acc, Low x.1 x.2) → SrtV acc → SrtV (l.foldl (fun acc x => insV x acc) acc) := by
    intro l
    induction l with
    | nil => intro acc _ _ h; exact h
    | cons b r ih =>
      intro acc hl ha hs
      refine ih (insV b acc) (fun x hx => hl x (by simp [hx])) (fun x hx => ?_) (insV_srt (hl b (by simp)) ha hs)
      rcases insV_mem.mp hx with rfl | hx
      · exact hl _ (by simp)
      · exact ha x hx
  exact key xs [] h (by simp) .nil
theorem srt_unique : ∀ {l m : List (Int × Int)}, (∀ x ∈ l, Low x.1 x.2) → (∀ x ∈ m, Low x.1 x.2) → SrtV l → SrtV m → (∀ z, z ∈ l ↔ z ∈ m) → l = m
  | [], [], _, _, _, _, _ => rfl
  | [], y :: r, _, _, _, _, h => absurd ((h y).mpr (by simp)) (by simp)
  | y :: r, [], _, _, _, _, h => absurd ((h y).mp (by simp)) (by simp)
  | x :: l, y :: m, hl, hm, sl, sm, h => by
    obtain ⟨l1, l2⟩ := List.pairwise_cons.mp sl
    obtain ⟨m1, m2⟩ := List.pairwise_cons.mp sm
    have lx := hl x (by simp)
    have ly := hm y (by simp)
    have e : x = y := by
      rcases List.mem_cons.mp ((h x).mp (by simp)) with e | hx
      · exact e
      · rcases List.mem_cons.mp ((h y).mpr (by simp)) with e | hy
        · exact e.symm
        · exact absurd (ltV_trans lx.1 ly.1 lx.1 (l1 y hy) (m1 x hx)) (ltV_irrefl x)
    subst e
    congr 1
    refine srt_unique (fun z hz => hl z (by simp [hz])) (fun z hz => hm z (by simp [hz])) l2 m2 fun z => ⟨fun hz => ?_, fun hz => ?_⟩
    · rcases List.mem_cons.mp ((h z).mp (by simp [hz])) with rfl | hz'
      · exact absurd (l1 z hz) (ltV_irrefl z)
      · exact hz'
    · rcases List.mem_cons.mp ((h z).mpr (by simp [hz])) with rfl | hz'
      · exact absurd (m1 z hz) (ltV_irrefl z)
      · exact hz'
theorem asc_same {xs ys : List (Int × Int)} (hx : ∀ x ∈ xs, Low x.1 x.2) (hy : ∀ x ∈ ys, Low x.1 x.2) (h : ∀ z, z ∈ xs ↔ z ∈ ys) : asc xs = asc ys :=
  srt_unique (fun x h' => hx x ((asc_mem xs x).mp h')) (fun x h' => hy x ((asc_mem ys x).mp h')) (asc_srt hx) (asc_srt hy) fun z => by rw [asc_mem, asc_mem]; exact h z

section
variable {P : Program} {w : World} {K : PySem.W.Frag} {mg : Str → Option Value} {base : Heap}
/-! ascending -/
def spAsc (K : PySem.W.Frag) : Sp := fun args H Q _ => ∃ (a : Addr) (vs : List V) (xs : List (Int × Int)), args = [.ref a] ∧ SqL K H a vs ∧ DpAll K H vs (xs.map valD) ∧ (∀ x ∈ xs, Vl x) ∧ xs.length ≤ 1000000 ∧
  ∀ p us H', H p = none → Same H H' → H' p = some (.lst us) → DpAll K H' us ((asc xs).map valD) → (∀ z ∈ us.zip (asc xs), z ∈ vs.zip xs) → Q (.ref p) H'
theorem pds_val (xs : List (Int × Int)) : Pds (xs.map valD) := fun d hd => by
  obtain ⟨x, _, rfl⟩ := List.mem_map.mp hd
  exact Pd.valD x
theorem insV_list {K : PySem.W.Frag} {H : Hp} {us : List V} {l : List (Int × Int)} {x : Int × Int} {v : V} {k : Nat} (h : DpAll K H us (l.map valD)) (hv : Dp K H v (valD x)) : DpAll K H (us.take k ++ [v] ++ us.drop k) ((l.take k ++ [x] ++ l.drop k).map valD) := by
  have tk : ∀ (k : Nat) (us : List V) (ds : List PyData), DpAll K H us ds → DpAll K H (us.take k) (ds.take k) ∧ DpAll K H (us.drop k) (ds.drop k) := by
    intro k
    induction k with
    | zero => intro us ds h; exact ⟨.nil, h⟩
    | succ k ih =>
      intro us ds h
      cases h with
      | nil => exact ⟨.nil, .nil⟩
      | cons a b => exact ⟨.cons a (ih _ _ b).1, (ih _ _ b).2⟩
  obtain ⟨h1, h2⟩ := tk k us _ h
  rw [List.map_append, List.map_append, List.map_take, List.map_drop]
  exact DpAll.app (DpAll.app h1 (.cons hv .nil)) h2
theorem ins_zip {α β : Type} {v : α} {x : β} {z : α × β} : ∀ {k : Nat} {us : List α} {L : List β}, us.length = L.length → z ∈ (us.take k ++ [v] ++ us.drop k).zip (L.take k ++ [x] ++ L.drop k) → z = (v, x) ∨ z ∈ us.zip L
  | 0, us, L, _, h => by
    simpa using h
  | k + 1, [], [], _, h => by
    simp at h; exact .inl h
  | k + 1, a :: us, b :: L, hl, h => by
    rw [List.take_succ_cons, List.take_succ_cons, List.drop_succ_cons, List.drop_succ_cons] at h
    simp only [List.cons_append, List.zip_cons_cons, List.mem_cons] at h
    rcases h with h | h
    · exact .inr (by rw [h]; exact List.mem_cons_self)
    · rcases ins_zip (Nat.succ.inj hl) h with h | h
      · exact .inl h
      · exact .inr (List.mem_cons_of_mem _ h)
theorem srt_lt {L : List (Int × Int)} (h : SrtV L) {i j : Nat} {x y : Int × Int} (hx : L[i]? = some x) (hy : L[j]? = some y) (hij : i < j) : ltV x y := by
  obtain ⟨h1, rfl⟩ := List.getElem?_eq_some_iff.mp hx
  obtain ⟨h2, rfl⟩ := List.getElem?_eq_some_iff.mp hy
  exact List.pairwise_iff_getElem.mp h i j h1 h2 hij

end
theorem same_upN {H H' : Hp} {a : Addr} {o : HO} (s : Same H H') (n : H a = none) : Same H (upd H' a o) := fun b ob hb => by
  rw [upd_ne (by intro z; rw [z, n] at hb; cases hb)]
  exact s _ _ hb
/-! ranks -/
abbrev nv (n : Nat) : V := .int (n : Nat)
/-! shapes: the mathematics -/
abbrev Vq := Int × Int
/-- no rank is left out -/
def Cov (rs : List Int) : Prop := ∀ x ∈ rs, 0 ≤ x ∧ ∀ k : Nat, (k : Int) < x → (k : Int) ∈ rs
theorem Cov.nat {rs : List Int} (c : Cov rs) {i : Nat} {a : Int} (h : rs[i]? = some a) : ∃ n : Nat, a = n := Int.eq_ofNat_of_zero_le (c a (List.mem_of_getElem? h)).1
theorem cov_uniq {rs rs' : List Int} (hl : rs.length = rs'.length) (h : ∀ (i j : Nat) a b a' b', rs[i]? = some a → rs[j]? = some b → rs'[i]? = some a' → rs'[j]? = some b' → (a < b ↔ a' < b')) (c : Cov rs) (c' : Cov rs') : rs = rs' := by
  have key : ∀ n : Nat, ∀ (i : Nat) (a' : Int), rs[i]? = some (n : Int) → rs'[i]? = some a' → a' = n := by
    intro n
    induction n using Nat.strongRecOn with
    | _ n ih =>
      intro i a' h1 h2
      obtain ⟨m, rfl⟩ := c'.nat h2
      have ge : n ≤ m := by
        cases n with
        | zero => exact Nat.zero_le _
        | succ k =>
          obtain ⟨j, hj⟩ := List.getElem?_of_mem ((c _ (List.mem_of_getElem? h1)).2 k (by omega))
          obtain ⟨b', hb'⟩ : ∃ b', rs'[j]? = some b' := ⟨_, List.getElem?_eq_getElem (by rw [← hl]; exact (List.getElem?_eq_some_iff.mp hj).1)⟩
          have e := ih k (by omega) j b' hj hb'
          subst e
          have := (h j i _ _ _ _ hj h1 hb' h2).mp (by omega)
          omega
      by_cases e : m = n
      · rw [e]
      · obtain ⟨j, hj⟩ := List.getElem?_of_mem ((c' _ (List.mem_of_getElem? h2)).2 n (by omega))
        obtain ⟨b, hb⟩ : ∃ b, rs[j]? = some b := ⟨_, List.getElem?_eq_getElem (by rw [hl]; exact (List.getElem?_eq_some_iff.mp hj).1)⟩
        have lt := (h j i _ _ _ _ hb h1 hj h2).mpr (by omega)
        obtain ⟨k, rfl⟩ := c.nat hb
        have := ih k (by omega) j _ hb hj
        omega
  refine List.ext_getElem? fun i => ?_
  by_cases hi : i < rs.length
  · obtain ⟨a, ha⟩ : ∃ a, rs[i]? = some a := ⟨_, List.getElem?_eq_getElem hi⟩
    obtain ⟨a', ha'⟩ : ∃ a, rs'[i]? = some a := ⟨_, List.getElem?_eq_getElem (by rw [← hl]; exact hi)⟩
    obtain ⟨n, rfl⟩ := c.nat ha
    rw [ha, ha', key n i a' ha ha']
  · rw [List.getElem?_eq_none (by omega), List.getElem?_eq_none (by omega)]
/-- the ranks stand as the values do -/
def Ord (L : List Vq) (rs : List Int) : Prop := L.length = rs.length ∧ ∀ (i j : Nat) x y a b, L[i]? = some x → L[j]? = some y → rs[i]? = some a → rs[j]? = some b → (ltV x y ↔ a < b)
theorem ord_uniq {L : List Vq} {rs rs' : List Int} (o : Ord L rs) (o' : Ord L rs') (c : Cov rs) (c' : Cov rs') : rs = rs' := by
  refine cov_uniq (o.1.symm.trans o'.1) (fun i j a b a' b' h1 h2 h3 h4 => ?_) c c'
  obtain ⟨x, hx⟩ : ∃ x, L[i]? = some x := ⟨_, List.getElem?_eq_getElem (by rw [o.1]; exact (List.getElem?_eq_some_iff.mp h1).1)⟩
  obtain ⟨y, hy⟩ : ∃ x, L[j]? = some x := ⟨_, List.getElem?_eq_getElem (by rw [o.1]; exact (List.getElem?_eq_some_iff.mp h2).1)⟩
  rw [← o.2 i j x y a b hx hy h1 h2, o'.2 i j x y a' b' hx hy h3 h4]
/-- the ranks of values -/
def ixA (L : List Vq) (x : Vq) : Nat := ((asc L).findIdx? fun y => decide (y = x)).getD 0
def rk (L : List Vq) : List Int := L.map fun x => ((ixA L x : Nat) : Int)
theorem ixA_get {L : List Vq} {x : Vq} (h : x ∈ L) : (asc L)[ixA L x]? = some x ∧ ∀ m, m < ixA L x → ∀ y, (asc L)[m]? = some y → y ≠ x := by
  unfold ixA
  cases e : (asc L).findIdx? fun y => decide (y = x) with
  | none =>
    have := List.findIdx?_eq_none_iff.mp e x ((asc_mem _ _).mpr h)
    simp at this
  | some i =>
    obtain ⟨hi, h1, h2⟩ := List.findIdx?_eq_some_iff_getElem.mp e
    refine ⟨by rw [Option.getD_some, List.getElem?_eq_getElem hi, of_decide_eq_true h1], fun m hm y hy z => ?_⟩
    rw [Option.getD_some] at hm
    obtain ⟨hm', rfl⟩ := List.getElem?_eq_some_iff.mp hy
    have := h2 m hm
    rw [z] at this
    simp at this
theorem rk_len (L : List Vq) : (rk L).length = L.length := by unfold rk; rw [List.length_map]
theorem rk_at {L : List Vq} {i : Nat} {x : Vq} (h : L[i]? = some x) : (rk L)[i]? = some ((ixA L x : Nat) : Int) := mapAt (f := fun x => ((ixA L x : Nat) : Int)) h
theorem rk_ord {L : List Vq} (hL : ∀ x ∈ L, Low x.1 x.2) : Ord L (rk L) := by
  refine ⟨(rk_len L).symm, fun i j x y a b h1 h2 h3 h4 => ?_⟩
  rw [rk_at h1] at h3
  rw [rk_at h2] at h4
  cases h3
  cases h4
  have hx := (ixA_get (List.mem_of_getElem? h1)).1
  have hy := (ixA_get (List.mem_of_getElem? h2)).1
  have S := asc_srt hL
  rcases Nat.lt_trichotomy (ixA L x) (ixA L y) with z | z | z
  · exact ⟨fun _ => by omega, fun _ => srt_lt S hx hy z⟩
  · rw [z] at hx
    rw [hx] at hy
    cases hy
    exact ⟨fun k => absurd k (ltV_irrefl _), fun k => by omega⟩
  · refine ⟨fun k => ?_, fun k => by omega⟩
    have q := srt_lt S hy hx z
    unfold ltV at k q
    omega
theorem rk_cov {L : List Vq} (hL : ∀ x ∈ L, Low x.1 x.2) : Cov (rk L) := by
  intro a ha
  obtain ⟨x, hx, rfl⟩ := List.mem_map.mp ha
  refine ⟨Int.natCast_nonneg _, fun k hk => ?_⟩
  obtain ⟨h1, _⟩ := ixA_get hx
  have hl := (List.getElem?_eq_some_iff.mp h1).1
  obtain ⟨y, hy⟩ : ∃ y, (asc L)[k]? = some y := ⟨_, List.getElem?_eq_getElem (by omega)⟩
  have my : y ∈ L := (asc_mem _ _).mp (List.mem_of_getElem? hy)
  refine List.mem_map.mpr ⟨y, my, ?_⟩
  have h2 := (ixA_get my).1
  have S := asc_srt hL
  have e : ixA L y = k := by
    rcases Nat.lt_trichotomy (ixA L y) k with z | z | z
    · exact absurd (srt_lt S h2 hy z) (ltV_irrefl _)
    · exact z
    · exact absurd (srt_lt S hy h2 z) (ltV_irrefl _)
  rw [e]
theorem rk_of {L : List Vq} {rs : List Int} (hL : ∀ x ∈ L, Low x.1 x.2) (o : Ord L rs) (c : Cov rs) : rk L = rs := ord_uniq (rk_ord hL) o (rk_cov hL) c
/-! the shapes of so many constants -/
def isSh (c : Nat) (rs : List Int) : Prop := c ≤ rs.length ∧ Cov rs ∧ ∀ (i : Nat) a b, i + 1 < c → rs[i]? = some a → rs[i + 1]? = some b → a < b
/-- the number of unlike ranks, by any list of them -/
theorem cov_iff {rs ds : List Int} (nd : ds.Nodup) (hm : ∀ k, k ∈ ds ↔ k ∈ rs) : (∀ k : Nat, k < ds.length → (k : Int) ∈ rs) ↔ Cov rs := by
  have sub : ∀ (l m : List Int), l.Nodup → (∀ x ∈ l, x ∈ m) → l.length ≤ m.length := by
    intro l
    induction l with
    | nil => intro m _ _; exact Nat.zero_le _
    | cons x l ih =>
      intro m hn hs
      obtain ⟨h1, h2⟩ := List.nodup_cons.mp hn
      have hx := hs x (by simp)
      have := ih (m.erase x) h2 fun y hy => (List.mem_erase_of_ne (show y ≠ x from fun z => h1 (z ▸ hy))).mpr (hs y (by simp [hy]))
      rw [List.length_erase_of_mem hx] at this
      have := List.length_pos_of_mem hx
      simp only [List.length_cons]
      omega
  have rng : ∀ n : Nat, ((List.range n).map fun k => ((k : Nat) : Int)).Nodup := fun n => by
    refine List.Pairwise.map _ (fun a b h z => h (by omega)) (List.nodup_range (n := n))
  constructor
  · intro h
    -- the unlike ones are just 0 .. n - 1
    have all : ∀ x ∈ rs, 0 ≤ x ∧ x < (ds.length : Nat) := fun x hx => by
      by_cases hh : 0 ≤ x ∧ x < (ds.length : Nat)
      · exact hh
      · exfalso
        have := sub (x :: (List.range ds.length).map fun k => ((k : Nat) : Int)) ds (List.nodup_cons.mpr ⟨fun z => by
          obtain ⟨k, hk, rfl⟩ := List.mem_map.mp z
          have := List.mem_range.mp hk
          exact hh ⟨by omega, by omega⟩, rng _⟩) fun y hy => by
            rcases List.mem_cons.mp hy with rfl | hy
            · exact (hm _).mpr hx
            · obtain ⟨k, hk, rfl⟩ := List.mem_map.mp hy
              exact (hm _).mpr (h k (List.mem_range.mp hk))
        rw [List.length_cons, List.length_map, List.length_range] at this
        omega
    exact fun x hx => ⟨(all x hx).1, fun k hk => h k (by have := (all x hx).2; omega)⟩
  · intro c k hk
    -- were k not there, all would lie below k
    by_cases hh : (k : Int) ∈ rs
    · exact hh
    · exfalso
      have lt : ∀ x ∈ ds, x ∈ (List.range k).map fun k => ((k : Nat) : Int) := fun x hx => by
        have hx := (hm x).mp hx
        obtain ⟨h0, h1⟩ := c x hx
        obtain ⟨n, rfl⟩ := Int.eq_ofNat_of_zero_le h0
        refine List.mem_map.mpr ⟨n, List.mem_range.mpr ?_, rfl⟩
        rcases Nat.lt_trichotomy n k with z | z | z
        · exact z
        · subst z; exact absurd hx hh
        · exact absurd (h1 k (by omega)) hh
      have := sub ds _ nd lt
      rw [List.length_map, List.length_range] at this
      omega
/-! picking -/
theorem pick_rk {L : List Vq} (hL : ∀ x ∈ L, Low x.1 x.2) {ps : List Nat} {qs : List Int} (hps : ∀ p ∈ ps, p < L.length) (hl : qs.length = ps.length)
    (ho : ∀ (i j p p' : Nat) a b a' b', ps[i]? = some p → ps[j]? = some p' → (rk L)[p]? = some a → (rk L)[p']? = some b → qs[i]? = some a' → qs[j]? = some b' → (a < b ↔ a' < b')) (c : Cov qs) : rk (ps.filterMap fun p => L[p]?) = qs := by
  have e : ps.filterMap (fun p => L[p]?) = ps.map fun p => L.getD p (0, 0) := by
    clear ho hl
    induction ps with
    | nil => rfl
    | cons p ps ih =>
      have hp := hps p (by simp)
      rw [List.filterMap_cons, List.map_cons, List.getElem?_eq_getElem hp]
      show L[p] :: _ = _
      rw [ih fun q hq => hps q (by simp [hq]), List.getD_eq_getElem?_getD, List.getElem?_eq_getElem hp]
      rfl
  have mem : ∀ x ∈ ps.map (fun p => L.getD p (0, 0)), Low x.1 x.2 := fun x hx => by
    obtain ⟨p, hp, rfl⟩ := List.mem_map.mp hx
    rw [List.getD_eq_getElem?_getD, List.getElem?_eq_getElem (hps p hp)]
    exact hL _ (List.getElem_mem _)
  rw [e]
  refine rk_of mem ⟨by rw [List.length_map, hl], fun i j x y a' b' h1 h2 h3 h4 => ?_⟩ c
  obtain ⟨p, hp, rfl⟩ := getM h1
  obtain ⟨p', hp', rfl⟩ := getM h2
  have lp := hps p (List.mem_of_getElem? hp)
  have lp' := hps p' (List.mem_of_getElem? hp')
  have g : ∀ {p : Nat} (h : p < L.length), L[p]? = some (L.getD p (0, 0)) := fun {p} h => by
    rw [List.getD_eq_getElem?_getD, List.getElem?_eq_getElem h]
    rfl
  have k1 := rk_at (g lp)
  have k2 := rk_at (g lp')
  rw [(rk_ord hL).2 p p' _ _ _ _ (g lp) (g lp') k1 k2, ho i j p p' _ _ a' b' hp hp' k1 k2 h3 h4]
/-! dicts of ranks -/
theorem keys_put {kn : List (Key × V)} {k : Key} {v : V} : (putK kn k v).map (·.1) = if (valV kn k).isSome = true then kn.map (·.1) else kn.map (·.1) ++ [k] := by
  unfold putK
  rw [valV_any]
  split
  · rw [List.map_map]
    refine List.map_congr_left fun p _ => ?_
    show (if p.1 = k then (p.1, v) else p).1 = p.1
    split <;> rfl
  · rw [List.map_append]
    rfl
structure Kds (kn : List (Key × V)) (rs : List Int) : Prop where
  nd : (kn.map (·.1)).Nodup
  ky : ∀ p ∈ kn, ∃ r : Int, p.1 = Sum.inl r
  vl : ∀ r : Int, valV kn (.inl r) = if r ∈ rs then some (.bl true) else none
  len : kn.length ≤ rs.length
theorem Kds.nil : Kds [] [] := ⟨List.nodup_nil, by simp, fun r => by simp [valV_nil], Nat.le_refl _⟩
theorem Kds.put {kn : List (Key × V)} {rs : List Int} (d : Kds kn rs) (r : Int) : Kds (putK kn (.inl r) (.bl true)) (rs ++ [r]) := by
  have hk := keys_put (kn := kn) (k := .inl r) (v := .bl true)
  have hv := d.vl r
  have vl : ∀ q : Int, valV (putK kn (.inl r) (.bl true)) (.inl q) = if q ∈ rs ++ [r] then some (.bl true) else none := fun q => by
    rw [valV_put, d.vl q]
    by_cases e : q = r
    · subst e
      simp
    · rw [if_neg (fun z => e (by injection z))]
      have e2 : q ∈ rs ++ [r] ↔ q ∈ rs := by simp [e]
      by_cases h : q ∈ rs
      · rw [if_pos h, if_pos (e2.mpr h)]
      · rw [if_neg h, if_neg (fun z => h (e2.mp z))]
  by_cases hr : r ∈ rs
  · rw [if_pos hr] at hv
    rw [hv] at hk
    have hk : (putK kn (.inl r) (.bl true)).map (·.1) = kn.map (·.1) := hk
    refine ⟨by rw [hk]; exact d.nd, fun p hp => ?_, vl, ?_⟩
    · have : p.1 ∈ (putK kn (.inl r) (.bl true)).map (·.1) := List.mem_map.mpr ⟨p, hp, rfl⟩
      rw [hk] at this
      obtain ⟨p', hp', e⟩ := List.mem_map.mp this
      rw [← e]
      exact d.ky p' hp'
    · have := congrArg List.length hk
      rw [List.length_map, List.length_map] at this
      rw [this, List.length_append]
      have := d.len
      omega
  · rw [if_neg hr] at hv
    rw [putK_new _ hv] at vl ⊢
    clear hk
    refine ⟨?_, fun p hp => ?_, vl, ?_⟩
    · rw [List.map_append]
      refine List.nodup_append.mpr ⟨d.nd, by simp, fun a ha b hb => ?_⟩
      rw [List.map_singleton, List.mem_singleton] at hb
      subst hb
      exact fun e => valV_none hv (by have e' : a = .inl r := e; rw [← e']; exact ha)
    · rcases List.mem_append.mp hp with hp | hp
      · exact d.ky p hp
      · exact ⟨r, by rw [List.mem_singleton.mp hp]⟩
    · rw [List.length_append, List.length_append]
      have := d.len
      simp only [List.length_singleton]
      omega
/-- the keys as ints -/
def kI : List (Key × V) → List Int
  | [] => []
  | (.inl r, _) :: kn => r :: kI kn
  | (.inr _, _) :: kn => kI kn
theorem kI_map : ∀ {kn : List (Key × V)}, (∀ p ∈ kn, ∃ r : Int, p.1 = Sum.inl r) → kn.map (·.1) = (kI kn).map Sum.inl
  | [], _ => rfl
  | (.inl r, v) :: kn, h => by
    show Sum.inl r :: kn.map (·.1) = Sum.inl r :: (kI kn).map Sum.inl
    rw [kI_map fun p hp => h p (List.mem_cons_of_mem _ hp)]
  | (.inr z, v) :: kn, h => by
    obtain ⟨r, e⟩ := h (.inr z, v) List.mem_cons_self
    cases e
theorem valV_isSome {kn : List (Key × V)} {k : Key} : (valV kn k).isSome = true ↔ k ∈ kn.map (·.1) := by
  rw [← valV_any, List.any_eq_true]
  constructor
  · rintro ⟨p, hp, e⟩
    exact List.mem_map.mpr ⟨p, hp, of_decide_eq_true e⟩
  · intro h
    obtain ⟨p, hp, e⟩ := List.mem_map.mp h
    exact ⟨p, hp, decide_eq_true e⟩
theorem Kds.ints {kn : List (Key × V)} {rs : List Int} (d : Kds kn rs) : (kI kn).Nodup ∧ (∀ k, k ∈ kI kn ↔ k ∈ rs) ∧ (kI kn).length = kn.length := by
  have e := kI_map d.ky
  refine ⟨?_, fun k => ?_, ?_⟩
  · have nd := d.nd
    rw [e] at nd
    exact List.Pairwise.of_map Sum.inl (fun a b h z => h (congrArg Sum.inl z)) nd
  · have h1 : k ∈ kI kn ↔ (Sum.inl k : Key) ∈ kn.map (·.1) := by
      rw [e]
      constructor
      · exact fun h => List.mem_map.mpr ⟨k, h, rfl⟩
      · intro h
        obtain ⟨a, ha, ea⟩ := List.mem_map.mp h
        injection ea with ea
        rw [← ea]
        exact ha
    rw [h1, ← valV_isSome, d.vl k]
    by_cases h : k ∈ rs
    · simp [h]
    · simp [h]
  · have := congrArg List.length e
    rw [List.length_map, List.length_map] at this
    exact this.symm

section
variable {P : Program} {w : World} {K : PySem.W.Frag} {mg : Str → Option Value} {base : Heap}
/-! is_whole -/
def spIsWhole (K : PySem.W.Frag) : Sp := fun vs H Q _ => ∃ v th, vs = [v] ∧ ThOk K H v th ∧ Q (.bl (isWholeT th)) H
theorem d_is_whole (T : Txt K mg) : Dn P w K mg base CX0 1 "is_whole" (spIsWhole K) := by
  obtain ⟨fd, F⟩ := T.f_is_whole
  refine dnN T.g_is_whole F (fun _ _ _ _ _ _ us hl => match us, hl with | [_], _ => rfl) sc_is_whole (fun vs H Q E h => ?_) (fun cdv A outer s H vs Q E hr h => ?_)
  · obtain ⟨v, th, rfl, _⟩ := h
    rfl
  · obtain ⟨v, th, rfl, ht, q⟩ := h
    obtain ⟨t, ty, ki⟩ := ht.ty
    refine ⟨_, PSs.nox (pss_one (ps_ret (pe_and (pe_callB call_isi (by rfl) T.z_isinstance (by decide +kernel) (pa_cons (pv 0) (pa_cons (pe_bltn (v := .ty "int") (by rfl) T.z_int (by decide +kernel) rfl) pa_nil))) (pe_one (pe_not (pe_callB call_isi (by rfl) T.z_isinstance (by decide +kernel) (pa_cons (pv 0) (pa_cons (pe_bltn (v := .ty "bool") (by rfl) T.z_bool (by decide +kernel) rfl) pa_nil)))))))), ?_⟩
    refine ⟨_, rfl, _, _, t, _, _, rfl, .ty _, ty, ki .int, _, rfl, ie (fun h1 => ?_) (fun h1 => ?_)⟩
    · refine ⟨_, rfl, _, _, t, _, _, rfl, .ty _, ty, ki .bl, _, rfl, ?_⟩
      have e : isWholeT th = !th.is .bl := by unfold isWholeT; rw [h1]; rfl
      rw [e] at q
      exact q
    · have e : isWholeT th = false := by unfold isWholeT; rw [h1]; rfl
      rw [e] at q
      exact q
/-! is_shape -/
def spIsSh (K : PySem.W.Frag) : Sp := fun vs H Q _ => ∃ a rs c, vs = [.ref a, nv c] ∧ ((SqL K H a (rs.map V.int) ∧ Q (.bl false) H) ∨
  (SqT K H a (rs.map V.int) ∧ c ≤ rs.length ∧ rs.length ≤ 100 ∧ ∀ (b : Bool) H', (b = true ↔ isSh c rs) → Same H H' → Q (.bl b) H'))
theorem d_is_shape (T : Txt K mg) : Dn P w K mg base CX0 2 "is_shape" (spIsSh K) := by
  obtain ⟨fd, F⟩ := T.f_is_shape
  have D_is_whole := d_is_whole (P := P) (w := w) (base := base) T
  refine dnN T.g_is_shape F (fun _ _ _ _ _ _ us hl => match us, hl with | [_, _], _ => rfl) sc_is_shape (fun vs H Q E h => ?_) (fun cdv A outer s H vs Q E hr h => ?_)
  · obtain ⟨a, rs, c, rfl, _⟩ := h
    rfl
  · obtain ⟨a, rs, c, rfl, hh⟩ := h
    refine ⟨_, PSs.nox (pss_cons (ps_if (PW.pt (pw_or (pt_not (pt_val (pe_callB call_isi (by rfl) T.z_isinstance (by decide +kernel) (pa_cons (pv 0) (pa_cons (pe_bltn (v := .ty "tuple") (by rfl) T.z_tuple (by decide +kernel) rfl) pa_nil))))) (pw_or1 (pt_cmpR op_lt (pe_callB call_len_seq (by rfl) T.z_len (by decide +kernel) (pa_cons (pv 0) pa_nil)) (pv 1) (nomark _))))) (pss_one (ps_ret pe_bl)) pss_nil)
      (pss_cons (ps_if (pt_not (pt_val (pe_callB (cr_all rfl) (by rfl) T.z_all (by decide +kernel) (pa_cons (pe_lc (own := [("rank", 2)]) (tt := tYes) (by rfl) sc_is_shape.nd (pi_tup (pv 0)) (blkOk_by (own := [("rank", 2)]) (N := ["thing", "constants", "rank", "present", "at"]) (sc := defScope s_is_shape) (by decide +kernel)) (fun _ _ _ _ _ => (pg_name (i := 2) sc_is_shape.nd rfl (.inl rfl))) (fun _ _ _ _ _ => pts_nil) (fun _ _ _ _ _ => (cl D_is_whole (hr.mono (by decide)) (pa_cons (pv 2) pa_nil)))) pa_nil)))) (pss_one (ps_ret pe_bl)) pss_nil)
      (pss_cons (ps_set (i := 3) sc_is_shape.nd rfl (.inr rfl) (pe_dcG (own := [("rank", 2)]) (tt := tYes) NilD.k hr.units0 (by rfl) sc_is_shape.nd (pi_tup (pv 0)) (blkOk_by (own := [("rank", 2)]) (N := ["thing", "constants", "rank", "present", "at"]) (sc := defScope s_is_shape) (by decide +kernel)) (fun _ _ _ _ _ => (pg_name (i := 2) sc_is_shape.nd rfl (.inl rfl))) (fun _ _ _ _ _ => pts_nil) (fun _ _ _ _ _ => (pv 2)) (fun _ _ _ _ _ => pe_bl)))
      (pss_cons (ps_if (pt_not (pt_val (pe_callB (cr_all rfl) (by rfl) T.z_all (by decide +kernel) (pa_cons (pe_lc (own := [("rank", 2)]) (tt := tYes) (by rfl) sc_is_shape.nd (pi_range1 (by rfl) T.z_range (pa_cons (pe_callB call_lenD (by rfl) T.z_len (by decide +kernel) (pa_cons (pv 3) pa_nil)) pa_nil)) (blkOk_by (own := [("rank", 2)]) (N := ["thing", "constants", "rank", "present", "at"]) (sc := defScope s_is_shape) (by decide +kernel)) (fun _ _ _ _ _ => (pg_name (i := 2) sc_is_shape.nd rfl (.inl rfl))) (fun _ _ _ _ _ => pts_nil) (fun _ _ _ _ _ => (pe_cmp (pc_din (hu_of hr) (pv 2) (pv 3)) rfl))) pa_nil)))) (pss_one (ps_ret pe_bl)) pss_nil)
      (pss_one (ps_ret (pe_callB (cr_all rfl) (by rfl) T.z_all (by decide +kernel) (pa_cons (pe_lc (own := [("at", 4)]) (tt := tYes) (by rfl) sc_is_shape.nd (pi_range1 (by rfl) T.z_range (pa_cons (pe_op op_sub (pv 1) pe_int) pa_nil)) (blkOk_by (own := [("at", 4)]) (N := ["thing", "constants", "rank", "present", "at"]) (sc := defScope s_is_shape) (by decide +kernel)) (fun _ _ _ _ _ => (pg_name (i := 4) sc_is_shape.nd rfl (.inl rfl))) (fun _ _ _ _ _ => pts_nil) (fun _ _ _ _ _ => (pe_cmpR op_lt (pe_ix (show IxR _ (rIxT K) from ix_tup) (pv 0) (pv 4) (fun _ _ => rfl)) (pe_ix (show IxR _ (rIxT K) from ix_tup) (pv 0) (pe_op op_add (pv 4) pe_int) (fun _ _ => rfl)) (nomark _)))) pa_nil)))))))), ?_⟩
    rcases hh with ⟨hL, hQ⟩ | ⟨hT, hc, hn, hQ⟩
    · refine ⟨_, rfl, _, _, _, _, _, rfl, .ty _, SqL.ty hL, kit_ty (kit_k .tup .lst), _, rfl, iteT ?_⟩
      exact hQ
    · refine ⟨_, rfl, _, _, _, _, _, rfl, .ty _, SqT.ty hT, kit_ty (kit_k .tup .tup), _, rfl, iteF ?_⟩
      refine ⟨_, rfl, _, _, rfl, .inr hT, _, rfl, _, _, rfl, rfl, _, rfl, if_neg_of (decide_eq_false (by rw [List.length_map]; omega)) ?_⟩
      -- all whole
      refine ⟨_, rfl, a, rfl, ⟨_, hT⟩, fun L nL => ?_⟩
      refine lc_it (walk_tup (xs := rs.map V.int)) (fun i H' => H' = upd H L (.lst ((List.replicate i true).map V.bl))) rfl (fun i H' _ e => by rw [e]; exact Same.seqT (same_upd nL) hT) ?_ ?_
      · rintro i v H' H'' hi e ⟨rfl, hv⟩
        subst e
        obtain ⟨r, hr2, rfl⟩ := getM hv
        refine ⟨rfl, tYes_of ⟨_, rfl, .int r, .d (.int r), rfl, .int r, _, upd_same, ?_, ?_⟩⟩
        · rw [List.length_map, List.length_replicate]
          rw [List.length_map] at hi
          exact Nat.lt_of_lt_of_le hi (Nat.le_trans hn (by decide))
        · rw [upd_upd, List.replicate_succ', List.map_append]
          rfl
      · rintro H1 rfl
        refine ⟨L, _, rfl, SqL.of upd_same, _, rfl, ?_⟩
        have hall : ∀ n, (List.replicate n true).all id = true := fun n => by
          induction n with
          | zero => rfl
          | succ n ih => rw [List.replicate_succ, List.all_cons, ih]; rfl
        rw [hall]
        refine iteF ?_
        have s1 : Same H (upd H L (.lst ((List.replicate (rs.map V.int).length true).map V.bl))) := same_upd nL
        generalize upd H L _ = H1 at s1
        -- the unlike ones
        refine ⟨_, rfl, a, rfl, ⟨_, Same.seqT s1 hT⟩, fun D nD => ?_⟩
        refine dcG_it (walk_tup (xs := rs.map V.int)) (fun i H' => ∃ kn, H' = upd H1 D (.dK kn) ∧ Kds kn (rs.take i)) ⟨[], rfl, .nil⟩ (fun i H' _ e => by obtain ⟨kn, e, _⟩ := e; rw [e]; exact Same.seqT (s1.trans (same_upd nD)) hT) ?_ ?_
        · rintro i v H' H'' hi ⟨kn, e, kd⟩ ⟨e', hv⟩
          subst e' e
          obtain ⟨r, hr2, rfl⟩ := getM hv
          refine ⟨rfl, tYes_of ?_⟩
          refine ⟨_, rfl, _, DPut.k (k := .inl r) upd_same (Nat.lt_of_le_of_lt kd.len (Nat.lt_of_le_of_lt (by rw [List.length_take]; omega : (rs.take i).length ≤ 100) (by decide))), ?_⟩
          rw [upd_upd]
          refine ⟨_, rfl, ?_⟩
          rw [tk1 hr2]
          exact kd.put r
        · rintro H2 ⟨kn, rfl, kd⟩
          rw [List.length_map, List.take_length] at kd
          have s2 : Same H (upd H1 D (.dK kn)) := s1.trans (same_upd nD)
          obtain ⟨dn, dm, dl⟩ := kd.ints
          generalize eH2 : upd H1 D (.dK kn) = H2 at s2
          have D2 : H2 D = some (.dK kn) := eH2 ▸ upd_same
          clear eH2
          have hcov : Cov rs ↔ ∀ k : Nat, k < kn.length → (k : Int) ∈ rs := by rw [← cov_iff dn dm, dl]
          refine ⟨_, rfl, D, _, rfl, D2, kn.length, rfl, by omega, (by have := kd.len; omega), fun L2' nL2 => ?_⟩
          refine lc_it walk_range (fun i H' => H' = upd H2 L2' (.lst (((List.range i).map fun k : Nat => decide ((k : Int) ∈ rs)).map V.bl))) rfl (fun _ _ _ _ => trivial) ?_ ?_
          · rintro i v H' H'' hi e ⟨rfl, rfl⟩
            subst e
            have hi : i < kn.length := by omega
            have hLD : D ≠ L2' := fun z => by rw [← z, D2] at nL2; cases nL2
            show gName 2 (V.int (0 + (i : Int))) _ _ _
            rw [Int.zero_add]
            refine ⟨rfl, tYes_of ⟨_, rfl, _, rfl, D, _, rfl, DGet.k (k := .inl (i : Int)) (by rw [upd_ne hLD]; exact D2), ?_⟩⟩
            refine ⟨_, upd_same, ?_, ?_⟩
            · rw [List.length_map, List.length_map, List.length_range]
              exact Nat.lt_of_lt_of_le hi (Nat.le_trans kd.len (Nat.le_trans hn (by decide)))
            · rw [upd_upd, List.range_succ, List.map_append, List.map_append, kd.vl (i : Int)]
              by_cases h : (i : Int) ∈ rs
              · simp [h]
              · simp [h]
          · rintro H3 rfl
            refine ⟨L2', _, rfl, SqL.of upd_same, _, rfl, ?_⟩
            have e0 : ((kn.length : Nat) : Int).toNat = kn.length := Int.toNat_natCast _
            have s3 : Same H (upd H2 L2' (.lst (((List.range (((kn.length : Nat) : Int)).toNat).map fun k : Nat => decide ((k : Int) ∈ rs)).map V.bl))) := s2.trans (same_upd nL2)
            generalize upd H2 L2' _ = H3 at s3
            rw [e0]
            by_cases hC : Cov rs
            · have hb : ((List.range kn.length).map fun k : Nat => decide ((k : Int) ∈ rs)).all id = true := by
                rw [List.all_eq_true]
                intro b hb
                obtain ⟨k, hk, rfl⟩ := List.mem_map.mp hb
                exact decide_eq_true (hcov.mp hC k (List.mem_range.mp hk))
              rw [hb]
              refine iteF ?_
              -- the constants ascend
              refine ⟨_, rfl, _, _, rfl, rfl, (c : Int) - 1, rfl, by omega, by omega, fun L3 nL3 => ?_⟩
              have asat : ∀ i : Nat, (i : Int) < (c : Int) - 1 → ∃ x y, rs[i]? = some x ∧ rs[i + 1]? = some y := fun i hi => ⟨_, _, List.getElem?_eq_getElem (by omega), List.getElem?_eq_getElem (by omega)⟩
              refine lc_it walk_range (fun i H' => Same H3 H' ∧ ∃ bs : List Bool, H' L3 = some (.lst (bs.map V.bl)) ∧ bs.length = i ∧ ((bs.all id = true) ↔ ∀ (k : Nat) x y, k < i → rs[k]? = some x → rs[k + 1]? = some y → x < y)) ⟨same_upd nL3, [], upd_same, rfl, fun _ k x y h => absurd h (Nat.not_lt_zero _), fun _ => rfl⟩ (fun _ _ _ _ => trivial) ?_ ?_
              · rintro i v H' H'' hi ⟨s4, bs, h1, h2, h3⟩ ⟨rfl, rfl⟩
                have hi' : (i : Int) < (c : Int) - 1 := by omega
                obtain ⟨x, y, hx, hy⟩ := asat i hi'
                show gName 4 (V.int (0 + (i : Int))) _ _ _
                rw [Int.zero_add]
                have hT4 := Same.seqT (s3.trans s4) hT
                refine ⟨rfl, tYes_of ⟨_, rfl, _, rfl, _, _, _, _, rfl, rfl, hT4, atI_nat (mapAt (f := V.int) hx), _, rfl, _, rfl, _, _, rfl, rfl, a, _, _, _, rfl, rfl, hT4, (show atI (rs.map V.int) ((i : Int) + 1) = some (.int y) by rw [show ((i : Int) + 1) = ((i + 1 : Nat) : Int) by omega]; exact atI_nat (mapAt (f := V.int) hy)), _, _, rfl, rfl, _, h1, ?_, same_upN s4 nL3, bs ++ [decide (x < y)], ?_, ?_, ?_⟩⟩
                · rw [List.length_map, h2]
                  exact Nat.lt_of_le_of_lt (by omega : i ≤ 100) (by decide)
                · rw [upd_same, List.map_append]
                  rfl
                · rw [List.length_append, h2]
                  rfl
                · rw [List.all_append, Bool.and_eq_true, h3]
                  simp only [List.all_cons, List.all_nil, Bool.and_true, id, decide_eq_true_eq]
                  constructor
                  · rintro ⟨k1, k2⟩ k x' y' hk hx' hy'
                    by_cases e : k = i
                    · subst e
                      rw [hx] at hx'
                      rw [hy] at hy'
                      cases hx'
                      cases hy'
                      exact k2
                    · exact k1 k x' y' (by omega) hx' hy'
                  · exact fun k => ⟨fun m x' y' hm => k m x' y' (by omega), k i x y (by omega) hx hy⟩
              · rintro H4 ⟨s4, bs, h1, h2, h3⟩
                refine ⟨L3, bs, rfl, SqL.of h1, hQ _ H4 ?_ (s3.trans s4)⟩
                rw [h3]
                exact ⟨fun k => ⟨hc, hC, fun i x y hi hx hy => k i x y (by omega) hx hy⟩, fun k i x y hi hx hy => k.2.2 i x y (by omega) hx hy⟩
            · have hb : ((List.range kn.length).map fun k : Nat => decide ((k : Int) ∈ rs)).all id = false := by
                cases hx : ((List.range kn.length).map fun k : Nat => decide ((k : Int) ∈ rs)).all id with
                | false => rfl
                | true =>
                  refine absurd (hcov.mpr fun k hk => ?_) hC
                  exact of_decide_eq_true (List.all_eq_true.mp hx _ (List.mem_map.mpr ⟨k, List.mem_range.mpr hk, rfl⟩))
              rw [hb]
              refine iteT ?_
              exact hQ false H3 ⟨fun z => (by cases z), fun z => absurd z.2.1 hC⟩ s3

end
end K24
namespace K24
open PySem PySem.Spec PyProof.Rows L2 He TL EL
/-! lists of tuples -/
structure Tups (K : PySem.W.Frag) (H : Hp) (as : List Addr) (rss : List (List Int)) : Prop where
  len : as.length = rss.length
  at_ : ∀ (i : Nat) a rs, as[i]? = some a → rss[i]? = some rs → SqT K H a (rs.map V.int)
theorem Tups.same {K : PySem.W.Frag} {H H' : Hp} {as : List Addr} {rss : List (List Int)} (t : Tups K H as rss) (s : Same H H') : Tups K H' as rss := ⟨t.len, fun i a rs h1 h2 => Same.seqT s (t.at_ i a rs h1 h2)⟩
theorem Tups.nil {K : PySem.W.Frag} {H : Hp} : Tups K H [] [] := ⟨rfl, fun i a rs h1 _ => by simp at h1⟩
theorem Tups.snoc {K : PySem.W.Frag} {H : Hp} {as : List Addr} {rss : List (List Int)} (t : Tups K H as rss) {a : Addr} {rs : List Int} (h : SqT K H a (rs.map V.int)) : Tups K H (as ++ [a]) (rss ++ [rs]) := by
  refine ⟨by rw [List.length_append, List.length_append, t.len]; rfl, fun i b qs h1 h2 => ?_⟩
  by_cases c : i < as.length
  · rw [List.getElem?_append_left c] at h1
    rw [List.getElem?_append_left (by rw [← t.len]; exact c)] at h2
    exact t.at_ i b qs h1 h2
  · rw [List.getElem?_append_right (by omega)] at h1
    rw [List.getElem?_append_right (by rw [← t.len]; omega), ← t.len] at h2
    have e : i - as.length = 0 := by
      have := (List.getElem?_eq_some_iff.mp h1).1
      simp at this
      omega
    rw [e] at h1 h2
    cases h1
    cases h2
    exact h
theorem Tups.get {K : PySem.W.Frag} {H : Hp} {as : List Addr} {rss : List (List Int)} (t : Tups K H as rss) {i : Nat} {v : V} (h : (as.map V.ref)[i]? = some v) : ∃ a rs, v = .ref a ∧ as[i]? = some a ∧ rss[i]? = some rs ∧ SqT K H a (rs.map V.int) := by
  obtain ⟨a, ha, rfl⟩ := getM h
  obtain ⟨rs, hrs⟩ : ∃ rs, rss[i]? = some rs := ⟨_, List.getElem?_eq_getElem (by rw [← t.len]; exact (List.getElem?_eq_some_iff.mp ha).1)⟩
  exact ⟨a, rs, rfl, ha, hrs, t.at_ i a rs ha hrs⟩
theorem Tups.md {K : PySem.W.Frag} {S : List Addr} {H H' : Hp} {as : List Addr} {rss : List (List Int)} (t : Tups K H as rss) (m : Md S H H') : Tups K H' as rss := ⟨t.len, fun i a rs h1 h2 => m.sqT (t.at_ i a rs h1 h2)⟩
/-- one more at the end of a new list -/
theorem Tups.put {K : PySem.W.Frag} {H H1 : Hp} {R p : Addr} {as : List Addr} {rss : List (List Int)} {rs : List Int} (nR : H1 R = none) (s : Same H1 H) (h : H R = some (.lst (as.map V.ref))) (t : Tups K H as rss) (hp : SqT K H p (rs.map V.int)) :
    Same H1 (upd H R (.lst (as.map V.ref ++ [.ref p]))) ∧ ∃ bs : List Addr, upd H R (.lst (as.map V.ref ++ [.ref p])) R = some (.lst (bs.map V.ref)) ∧ Tups K (upd H R (.lst (as.map V.ref ++ [.ref p]))) bs (rss ++ [rs]) :=
  ⟨same_upN s nR, as ++ [p], by rw [upd_same, List.map_append]; rfl, (t.snoc hp).md (Md.upd (S := [R]) h rfl (by simp))⟩
section
variable {P : Program} {w : World} {K : PySem.W.Frag} {mg : Str → Option Value} {base : Heap}
/-! opened -/
def opI (r : Int) (x : Int) : Int := x + (if decide (r ≤ x) = true then 1 else 0)
def spOpened (K : PySem.W.Frag) : Sp := fun vs H Q _ => ∃ (a : Addr) (rs : List Int) (r : Int), vs = [.ref a, .int r] ∧ SqT K H a (rs.map V.int) ∧ rs.length ≤ 100 ∧
  ∀ p H', H p = none → Same H H' → H' p = some (.tup ((rs.map (opI r)).map V.int)) → Q (.ref p) H'
theorem d_opened (T : Txt K mg) : Dn P w K mg base CX0 1 "opened" (spOpened K) := by
  obtain ⟨fd, F⟩ := T.f_opened
  refine dnN T.g_opened F (fun _ _ _ _ _ _ us hl => match us, hl with | [_, _], _ => rfl) sc_opened (fun vs H Q E h => ?_) (fun cdv A outer s H vs Q E hr h => ?_)
  · obtain ⟨a, rs, r, rfl, _⟩ := h
    rfl
  · obtain ⟨a, rs, r, rfl, hT, hl, hQ⟩ := h
    refine ⟨_, PSs.nox (pss_one (ps_ret (pe_callTy call_tuple_of (by rfl) T.z_tuple (by decide +kernel) (pa_cons (pe_lc (own := [("one", 2)]) (tt := tYes) (by rfl) sc_opened.nd (pi_tup (pv 0)) (blkOk_by (own := [("one", 2)]) (N := ["shape", "rank", "one"]) (sc := defScope s_opened) (by decide +kernel)) (fun _ _ _ _ _ => (pg_name (i := 2) sc_opened.nd rfl (.inl rfl))) (fun _ _ _ _ _ => pts_nil) (fun _ _ _ _ _ => (pe_op op_add (pv 2) (pe_callTy call_int1 (by rfl) T.z_int (by decide +kernel) (pa_cons (pe_cmpR op_ge (pv 2) (pv 1) (nomark _)) pa_nil))))) pa_nil)))), ?_⟩
    refine ⟨_, rfl, a, rfl, ⟨_, hT⟩, fun R nR => ?_⟩
    have hRa : ∀ {o : HO}, SqT K (upd H R o) a (rs.map V.int) := fun {o} => Same.seqT (same_upd nR) hT
    refine lc_it (walk_tup (xs := rs.map V.int)) (fun i H' => H' = upd H R (.lst (((rs.map (opI r)).take i).map V.int))) rfl (fun i H' _ e => by rw [e]; exact hRa) ?_ ?_
    · rintro i v H' H'' hi e ⟨rfl, hv⟩
      subst e
      obtain ⟨x, hx, rfl⟩ := getM hv
      refine ⟨rfl, tYes_of ⟨_, rfl, _, rfl, _, rfl, _, _, rfl, rfl, .inr ⟨_, rfl, _, _, rfl, rfl, _, upd_same, ?_, ?_⟩⟩⟩
      · rw [List.length_map, List.length_take]
        exact Nat.lt_of_le_of_lt (Nat.min_le_left _ _) (Nat.lt_of_lt_of_le hi (by rw [List.length_map]; exact Nat.le_trans hl (by decide)))
      · rw [upd_upd, tk1 (mapAt (f := opI r) hx), List.map_append]
        rfl
    · rintro H1 rfl
      rw [List.length_map, ← List.length_map (f := opI r), List.take_length]
      refine ⟨R, _, rfl, .inl ⟨SqL.of upd_same, fun p np => ?_⟩⟩
      exact hQ p _ (by by_cases c : p = R
                       · exact c ▸ nR
                       · rw [upd_ne c] at np; exact np) ((same_upd nR).trans (same_upd np)) upd_same
/-! extended -/
def uq : List Int → List Int
  | [] => []
  | x :: r => if x ∈ uq r then uq r else x :: uq r
theorem uq_mem {k : Int} : ∀ {rs : List Int}, k ∈ uq rs ↔ k ∈ rs
  | [] => Iff.rfl
  | x :: r => by
    unfold uq
    by_cases c : x ∈ uq r
    · rw [if_pos c, uq_mem (rs := r), List.mem_cons]
      exact ⟨.inr, fun h => h.elim (fun e => e ▸ uq_mem.mp c) id⟩
    · rw [if_neg c, List.mem_cons, List.mem_cons, uq_mem (rs := r)]
theorem uq_nd : ∀ rs : List Int, (uq rs).Nodup
  | [] => List.nodup_nil
  | x :: r => by
    unfold uq
    by_cases c : x ∈ uq r
    · rw [if_pos c]; exact uq_nd r
    · rw [if_neg c]; exact List.nodup_cons.mpr ⟨c, uq_nd r⟩
theorem nd_sub : ∀ (l m : List Int), l.Nodup → (∀ x ∈ l, x ∈ m) → l.length ≤ m.length := by
  intro l
  induction l with
  | nil => intro m _ _; exact Nat.zero_le _
  | cons x l ih =>
    intro m hn hs
    obtain ⟨h1, h2⟩ := List.nodup_cons.mp hn
    have hx := hs x (by simp)
    have := ih (m.erase x) h2 fun y hy => (List.mem_erase_of_ne (show y ≠ x from fun z => h1 (z ▸ hy))).mpr (hs y (by simp [hy]))
    rw [List.length_erase_of_mem hx] at this
    have := List.length_pos_of_mem hx
    simp only [List.length_cons]
    omega
/-- the number of unlike ranks -/
def dN (rs : List Int) : Nat := (uq rs).length
theorem dN_of {rs ds : List Int} (nd : ds.Nodup) (hm : ∀ k, k ∈ ds ↔ k ∈ rs) : ds.length = dN rs :=
  Nat.le_antisymm (nd_sub _ _ nd fun x hx => uq_mem.mpr ((hm x).mp hx)) (nd_sub _ _ (uq_nd rs) fun x hx => (hm x).mpr (uq_mem.mp hx))
theorem dN_le (rs : List Int) : dN rs ≤ rs.length := nd_sub _ _ (uq_nd rs) fun x hx => uq_mem.mp hx
def exA (rs : List Int) (d : Nat) : List (List Int) := (List.range d).map fun k => rs ++ [((k : Nat) : Int)]
def exB (rs : List Int) (d : Nat) : List (List Int) := (List.range d).map fun k => rs.map (opI (k : Nat)) ++ [((k : Nat) : Int)]
def extL (rs : List Int) : List (List Int) := exA rs (dN rs) ++ exB rs (dN rs + 1)
def spExt (K : PySem.W.Frag) : Sp := fun vs H Q _ => ∃ (a : Addr) (rs : List Int), vs = [.ref a] ∧ SqT K H a (rs.map V.int) ∧ rs.length ≤ 100 ∧
  ∀ p as H', H p = none → Same H H' → H' p = some (.lst (as.map V.ref)) → Tups K H' as (extL rs) → Q (.ref p) H'
theorem d_extended (T : Txt K mg) : Dn P w K mg base CX0 2 "extended" (spExt K) := by
  obtain ⟨fd, F⟩ := T.f_extended
  have D_opened := d_opened (P := P) (w := w) (base := base) T
  refine dnN T.g_extended F (fun _ _ _ _ _ _ us hl => match us, hl with | [_], _ => rfl) sc_extended (fun vs H Q E h => ?_) (fun cdv A outer s H vs Q E hr h => ?_)
  · obtain ⟨a, rs, rfl, _⟩ := h
    rfl
  · obtain ⟨a, rs, rfl, hT, hl, hQ⟩ := h
    refine ⟨_, PSs.nox (pss_cons (ps_set (i := 1) sc_extended.nd rfl (.inl rfl) (pe_callB call_lenD (by rfl) T.z_len (by decide +kernel) (pa_cons (pe_dcG (own := [("rank", 2)]) (tt := tYes) NilD.k hr.units0 (by rfl) sc_extended.nd (pi_tup (pv 0)) (blkOk_by (own := [("rank", 2)]) (N := ["shape", "many", "rank", "found"]) (sc := defScope s_extended) (by decide +kernel)) (fun _ _ _ _ _ => (pg_name (i := 2) sc_extended.nd rfl (.inl rfl))) (fun _ _ _ _ _ => pts_nil) (fun _ _ _ _ _ => (pv 2)) (fun _ _ _ _ _ => pe_bl)) pa_nil)))
      (pss_cons (ps_setLc (i := 3) (own := [("rank", 2)]) (tt := tYes) (by rfl) sc_extended.nd rfl rfl (sw_true rfl rfl rfl (by decide +kernel)) (pi_range1 (by rfl) T.z_range (pa_cons (pv 1) pa_nil)) (blkOk_by (own := [("rank", 2)]) (N := ["shape", "many", "rank", "found"]) (sc := defScope s_extended) (by decide +kernel)) (fun _ _ _ _ _ => (pg_name (i := 2) sc_extended.nd rfl (.inl rfl))) (fun _ _ _ _ _ => pts_nil) (fun _ _ _ _ _ => (pe_op (show OpR _ _ (rCatA K) from op_catA) (pv 0) (pe_tup (pa_cons (pv 2) pa_nil)))))
      (pss_cons (ps_for PassesOwn.never rfl (pi_range1 (by rfl) T.z_range (pa_cons (pe_op op_add (pv 1) pe_int) pa_nil)) (pg_name (i := 2) sc_extended.nd rfl (.inl rfl))
      (pss_one (ps_expr (pe_bm PySem.F.plainAttrs_list PySem.F.slot_list_append PySem.F.type_list_append mt_append (pv 3) (pa_cons (pe_op (show OpR _ _ (rCatA K) from op_catA) (cl D_opened (hr.mono (by decide)) (pa_cons (pv 0) (pa_cons (pv 2) pa_nil))) (pe_tup (pa_cons (pv 2) pa_nil))) pa_nil)))))
      (pss_one (ps_ret (pv 3)))))), ?_⟩
    refine ⟨_, rfl, a, rfl, ⟨_, hT⟩, fun D nD => ?_⟩
    refine dcG_it (walk_tup (xs := rs.map V.int)) (fun i H' => ∃ kn, H' = upd H D (.dK kn) ∧ Kds kn (rs.take i)) ⟨[], rfl, .nil⟩ (fun i H' _ e => by obtain ⟨kn, e, _⟩ := e; rw [e]; exact Same.seqT (same_upd nD) hT) ?_ ?_
    · rintro i v H' H'' hi ⟨kn, e, kd⟩ ⟨e', hv⟩
      subst e' e
      obtain ⟨r, hr2, rfl⟩ := getM hv
      refine ⟨rfl, tYes_of ?_⟩
      refine ⟨_, rfl, _, DPut.k (k := .inl r) upd_same (Nat.lt_of_le_of_lt kd.len (Nat.lt_of_le_of_lt (by rw [List.length_take]; omega : (rs.take i).length ≤ 100) (by decide))), ?_⟩
      rw [upd_upd]
      refine ⟨_, rfl, ?_⟩
      rw [tk1 hr2]
      exact kd.put r
    · rintro H1 ⟨kn, rfl, kd⟩
      rw [List.length_map, List.take_length] at kd
      obtain ⟨dn, dm, dl⟩ := kd.ints
      have eD : kn.length = dN rs := by rw [← dl]; exact dN_of dn dm
      have s1 : Same H (upd H D (.dK kn)) := same_upd nD
      have eH1 : upd H D (.dK kn) D = some (.dK kn) := upd_same
      generalize upd H D (.dK kn) = H1 at s1 eH1
      have nle : dN rs ≤ 100 := Nat.le_trans (dN_le rs) hl
      refine ⟨D, kn, rfl, eH1, ?_⟩
      rw [eD]
      generalize eN : dN rs = n at nle
      refine ⟨_, rfl, _, rfl, by omega, by omega, fun R nR => ?_⟩
      have e0 : ((n : Nat) : Int).toNat = n := Int.toNat_natCast _
      refine lc_it walk_range (fun i H' => Same H1 H' ∧ ∃ as : List Addr, H' R = some (.lst (as.map V.ref)) ∧ Tups K H' as ((exA rs n).take i)) ⟨same_upd nR, [], upd_same, .nil⟩ (fun _ _ _ _ => trivial) ?_ ?_
      · rintro i v H' H'' hi ⟨s2, as, h1, tp⟩ ⟨rfl, rfl⟩
        have hi : i < n := by omega
        show gName 2 (V.int (0 + (i : Int))) _ _ _
        rw [Int.zero_add]
        refine ⟨rfl, tYes_of ?_⟩
        refine ⟨_, rfl, _, rfl, (by show 1 ≤ sizeLine; decide), fun q nq => ?_⟩
        have s3 : Same H'' (upd H'' q (.tup [nv i])) := same_upd nq
        refine catA_of (ys := [nv i]) (Same.seqT (s1.trans (s2.trans s3)) hT) (SqT.of upd_same) (by rw [List.length_map]; exact Nat.le_trans (show rs.length + 1 ≤ 1000 by omega) (by decide)) fun p H4 s4 hp => ?_
        have nRp : as.length = i := by rw [tp.len, List.length_take]; unfold exA; rw [List.length_map, List.length_range]; omega
        refine ⟨_, (s3.trans s4) _ _ h1, by rw [List.length_map, nRp]; exact Nat.lt_of_lt_of_le hi (Nat.le_trans nle (by decide)), ?_⟩
        rw [tk1 (show (exA rs n)[i]? = some (rs ++ [((i : Nat) : Int)]) from by unfold exA; rw [List.getElem?_map, List.getElem?_range hi]; rfl)]
        exact Tups.put nR (s2.trans (s3.trans s4)) ((s3.trans s4) _ _ h1) (tp.same (s3.trans s4)) (by rw [List.map_append]; exact hp)
      · rintro H2 ⟨s2, as, h1, tp⟩
        rw [e0, List.take_of_length_le (by unfold exA; rw [List.length_map, List.length_range]; exact Nat.le_refl _)] at tp
        have le1 : (exA rs n).length = n := by unfold exA; rw [List.length_map, List.length_range]
        have le2 : (exB rs (n + 1)).length = n + 1 := by unfold exB; rw [List.length_map, List.length_range]
        have e1 : ((n : Int) + 1).toNat = n + 1 := by omega
        refine ⟨_, rfl, _, _, rfl, rfl, (n : Int) + 1, rfl, by omega, by omega, for_range (n := ((n : Int) + 1).toNat) (fun i σ H' => (∃ o, σ = [some (.ref a), some (nv n), o, some (.ref R)]) ∧ Same H1 H' ∧ ∃ as : List Addr, H' R = some (.lst (as.map V.ref)) ∧ Tups K H' as (exA rs n ++ (exB rs (n + 1)).take i))
          ⟨⟨_, rfl⟩, s2, as, h1, by rw [List.take_zero, List.append_nil]; exact tp⟩ ?_ ?_⟩
        · rintro i σ H' hi ⟨⟨o, rfl⟩, s3, as, h1, tp⟩
          have hi : i < n + 1 := by omega
          show gName 2 (V.int (0 + (i : Int))) _ _ _
          rw [Int.zero_add]
          refine ⟨_, rfl, .inl ⟨rfl, _, SqL.of h1⟩, ?_⟩
          refine ⟨_, rfl, _, rfl, a, rs, (i : Int), rfl, Same.seqT (s1.trans s3) hT, hl, fun q1 H3 nq1 s4 hq1 => ?_⟩
          refine ⟨_, rfl, (by show 1 ≤ sizeLine; decide), fun q nq => ?_⟩
          have s5 : Same H3 (upd H3 q (.tup [nv i])) := same_upd nq
          refine catA_of (ys := [nv i]) (SqT.of (s5 _ _ hq1)) (SqT.of upd_same) (by rw [List.length_map, List.length_map]; exact Nat.le_trans (show rs.length + 1 ≤ 1000 by omega) (by decide)) fun p H4 s6 hp => ?_
          have la : as.length ≤ 1000 := by rw [tp.len, List.length_append, List.length_take]; omega
          have s46 := s4.trans (s5.trans s6)
          refine ⟨R, _, _, rfl, rfl, s46 _ _ h1, by rw [List.length_map]; exact Nat.lt_of_le_of_lt la (by decide), ?_⟩
          refine ⟨⟨_, rfl⟩, ?_⟩
          rw [tk1 (show (exB rs (n + 1))[i]? = some (rs.map (opI (i : Nat)) ++ [((i : Nat) : Int)]) from by unfold exB; rw [List.getElem?_map, List.getElem?_range hi]; rfl), ← List.append_assoc]
          exact Tups.put nR (s3.trans s46) (s46 _ _ h1) (tp.same s46) (by rw [List.map_append]; exact hp)
        · rintro σ H' ⟨⟨o, rfl⟩, s3, as, h1, tp⟩
          rw [e1, List.take_of_length_le (by omega)] at tp
          refine ⟨_, rfl, hQ R as H' (by cases c : H R with | none => rfl | some o => rw [s1 _ _ c] at nR; cases nR) (s1.trans s3) h1 ?_⟩
          unfold extL
          rw [eN]
          exact tp
end
end K24
namespace K24
open PySem PySem.Spec PyProof.Rows L2 He TL EL
theorem any_it {J : It} {n : Nat} {G : Hp → Prop} {Y : Nat → Hp → V → Hp → Prop} (w : L2.Walk J n G Y) {St : (Hp → Prop) → V → Hp → Prop} {H0 : Hp} {Qd : Hp → Prop} (Pv : Nat → Hp → Prop) (h0 : Pv 0 H0) (hG : ∀ i H, i ≤ n → Pv i H → G H)
    (hs : ∀ i x H H', i < n → Pv i H → Y i H x H' → St (Pv (i + 1)) x H') (hd : ∀ H, Pv n H → Qd H) :
    ∃ W : Nat → Nat → Hp → Prop, (∃ m, W 0 m H0) ∧ ∀ i m H, W i m H → (J.stop i H ∧ Qd H) ∨ (J.go i H ∧ ∃ Nx : Hp → Prop, (∀ H', Nx H' → ∃ m', m' < m ∧ W (i + 1) m' H') ∧ ∀ x H', J.yld i H x H' → St Nx x H') := by
  refine ⟨fun i m H => m + i = n ∧ Pv i H, ⟨n, rfl, h0⟩, fun i m H ⟨hm, p⟩ => ?_⟩
  have q := hG i H (by omega) p
  cases m with
  | zero =>
    have e : i = n := by omega
    subst e
    exact .inl ⟨w.stops H q, hd H p⟩
  | succ m => exact .inr ⟨w.goes i H (by omega) q, Pv (i + 1), fun H' p' => ⟨m, Nat.lt_succ_self m, by omega, p'⟩, fun x H' y => hs i x H H' (by omega) p (w.yields i H x H' (by omega) q y)⟩
section
variable {P : Program} {w : World} {K : PySem.W.Frag} {mg : Str → Option Value} {base : Heap}
/-! all_shapes -/
def allS (c : Nat) : Nat → List (List Int)
  | 0 => [(List.range c).map fun k => ((k : Nat) : Int)]
  | m + 1 => (allS c m).flatMap extL
theorem ext_len {rs qs : List Int} (h : qs ∈ extL rs) : qs.length = rs.length + 1 := by
  unfold extL exA exB at h
  rcases List.mem_append.mp h with h | h
  · obtain ⟨k, _, rfl⟩ := List.mem_map.mp h
    simp
  · obtain ⟨k, _, rfl⟩ := List.mem_map.mp h
    simp
theorem all_len {c : Nat} : ∀ {m : Nat} {rs : List Int}, rs ∈ allS c m → rs.length = c + m
  | 0, rs, h => by rw [List.mem_singleton.mp h]; simp
  | m + 1, rs, h => by
    obtain ⟨qs, h1, h2⟩ := List.mem_flatMap.mp h
    rw [ext_len h2, all_len h1, Nat.add_assoc]
theorem flat_pre {α β : Type} {f : α → List β} {L : List α} {j : Nat} {x : α} (h : L[j]? = some x) (k : Nat) : ((L.take j).flatMap f ++ (f x).take k).length ≤ (L.flatMap f).length := by
  obtain ⟨hj, rfl⟩ := List.getElem?_eq_some_iff.mp h
  have e : L = L.take j ++ L[j] :: L.drop (j + 1) := by rw [List.getElem_cons_drop, List.take_append_drop]
  have e2 : (L.flatMap f).length = ((L.take j).flatMap f).length + ((f L[j]).length + ((L.drop (j + 1)).flatMap f).length) := by
    conv => lhs; rw [e]
    rw [List.flatMap_append, List.flatMap_cons, List.length_append, List.length_append]
  rw [e2, List.length_append, List.length_take]
  omega
theorem flat_next {α β : Type} {f : α → List β} {L : List α} {j : Nat} {x : α} (h : L[j]? = some x) : (L.take (j + 1)).flatMap f = (L.take j).flatMap f ++ f x := by
  rw [tk1 h, List.flatMap_append]
  simp
def fewS (c m : Nat) : Bool := (List.range (m + 1)).all fun i => decide ((allS c i).length ≤ 1000)
def spAll (K : PySem.W.Frag) : Sp := fun vs H Q _ => ∃ m c : Nat, vs = [nv m, nv c] ∧ m ≤ 50 ∧ c ≤ 50 ∧ fewS c m = true ∧
  ∀ p as H', H p = none → Same H H' → H' p = some (.lst (as.map V.ref)) → Tups K H' as (allS c m) → Q (.ref p) H'
theorem d_all_shapes (T : Txt K mg) : Dn P w K mg base CX0 3 "all_shapes" (spAll K) := by
  obtain ⟨fd, F⟩ := T.f_all_shapes
  have D_extended := d_extended (P := P) (w := w) (base := base) T
  refine dnN T.g_all_shapes F (fun _ _ _ _ _ _ us hl => match us, hl with | [_, _], _ => rfl) sc_all_shapes (fun vs H Q E h => ?_) (fun cdv A outer s H vs Q E hr h => ?_)
  · obtain ⟨m, c, rfl, _⟩ := h
    rfl
  · obtain ⟨m, c, rfl, hm, hc, hf, hQ⟩ := h
    refine ⟨_, PSs.nox (pss_cons (ps_set (i := 2) sc_all_shapes.nd rfl (.inl rfl) (pe_lst (pa_cons (pe_tupRg rfl (by rfl) T.z_tuple (show PRg _ _ _ from prg_1 (by rfl) T.z_range (pv 1))) pa_nil)))
      (pss_cons (ps_for PassesOwn.never rfl (pi_range1 (by rfl) T.z_range (pa_cons (pv 0) pa_nil)) (pg_name (i := 3) sc_all_shapes.nd rfl (.inl rfl))
      (pss_one (ps_setLc2 (i := 2) (own := [("shape", 4), ("more", 5)]) (vs1 := [5]) (tt := tYes) (tt1 := tYes) (by rfl) sc_all_shapes.nd rfl rfl (sw_true rfl rfl rfl (by decide +kernel)) (pi_list (pv 2)) (blkOk_by (own := [("shape", 4), ("more", 5)]) (N := ["many", "constants", "found", "turn", "shape", "more"]) (sc := defScope s_all_shapes) (by decide +kernel)) (by decide) (fun _ _ _ _ _ => (pg_name (i := 4) sc_all_shapes.nd rfl (.inl rfl))) (fun _ _ _ _ _ => pts_nil) (fun _ _ _ _ _ => (show PI _ _ _ (iList K (tCallS (spExt K) (fun _ => E0) (tCons (tVar 4) tNil))) from pi_list (cl D_extended (hr.mono (by decide)) (pa_cons (pv 4) pa_nil)))) (fun _ _ _ _ _ => (pg_name (i := 5) sc_all_shapes.nd rfl (.inl rfl))) (fun _ _ _ _ _ => pts_nil) (fun _ _ _ _ _ => (pv 5)))))
      (pss_one (ps_ret (pv 2))))), ?_⟩
    have few : ∀ i, i ≤ m → (allS c i).length ≤ 1000 := fun i hi => of_decide_eq_true (List.all_eq_true.mp hf i (List.mem_range.mpr (by omega)))
    refine ⟨_, rfl, (c : Int), rfl, RgOk.of_le (by omega) (by omega) (by omega) (by omega), fun t nt => ?_⟩
    generalize eH1 : upd H t _ = H1
    have s1 : Same H H1 := eH1 ▸ same_upd nt
    have e1 : H1 t = some _ := eH1 ▸ upd_same
    refine ⟨(by show 1 ≤ sizeLine; decide), fun q nq => ?_⟩
    generalize eH2 : upd H1 q _ = H2
    have s2 : Same H1 H2 := eH2 ▸ same_upd nq
    have e2 : H2 q = some _ := eH2 ▸ upd_same
    have et : rgV 0 (c : Int) = ((List.range c).map fun k => ((k : Nat) : Int)).map V.int := by
      unfold rgV
      rw [List.map_map, show ((c : Int) - 0).toNat = c by omega]
      refine List.map_congr_left fun k _ => ?_
      show V.int (0 + (k : Int)) = V.int (k : Int)
      rw [Int.zero_add]
    have e0 : ((m : Nat) : Int).toNat = m := Int.toNat_natCast _
    have nH : ∀ {b : Addr} {H' : Hp}, Same H H' → H' b = none → H b = none := fun {b H'} s n => by
      cases c : H b with
      | none => rfl
      | some o => rw [s _ _ c] at n; cases n
    refine ⟨_, rfl, _, rfl, by omega, by omega, for_range (n := ((m : Nat) : Int).toNat) (fun i σ H' => ∃ q : Addr, (∃ x y z, σ = [some (nv m), some (nv c), some (.ref q), x, y, z]) ∧ H q = none ∧ Same H H' ∧ ∃ as : List Addr, H' q = some (.lst (as.map V.ref)) ∧ Tups K H' as (allS c i))
      ⟨q, ⟨_, _, _, rfl⟩, nH s1 nq, s1.trans s2, [t], e2, Tups.snoc (rss := []) .nil (SqT.of (by rw [← et]; exact s2 _ _ e1))⟩ ?_ ?_⟩
    · rintro i σ H' hi ⟨q, ⟨x, y, z, rfl⟩, nq, s3, as, h1, tp⟩
      have hi : i < m := by omega
      refine ⟨_, rfl, q, rfl, ⟨_, SqL.of h1⟩, fun D nD => ?_⟩
      have hDq : q ≠ D := fun z => by rw [← z, h1] at nD; cases nD
      refine any_it (walk_list (xs := as.map V.ref)) (fun j H2 => Same H' H2 ∧ ∃ bs : List Addr, H2 D = some (.lst (bs.map V.ref)) ∧ Tups K H2 bs (((allS c i).take j).flatMap extL)) ⟨same_upd nD, [], upd_same, .nil⟩ (fun j H2 _ h => SqL.of (h.1 _ _ h1)) ?_ ?_
      · rintro j v H2 H3 hj ⟨s4, bs, h2, tb⟩ ⟨rfl, hv⟩
        obtain ⟨a, rs, rfl, ha, hrs, hT⟩ := (tp.same s4).get hv
        have lrs : rs.length ≤ 100 := by rw [all_len (List.mem_of_getElem? hrs)]; omega
        refine ⟨rfl, tYes_of ?_⟩
        refine ⟨_, rfl, a, rs, rfl, hT, lrs, fun p cs H4 np s5 hp tc => ?_⟩
        have hpD : p ≠ D := fun z => by rw [z, h2] at np; cases np
        refine ⟨p, rfl, ⟨_, SqL.of hp⟩, any_it (walk_list (xs := cs.map V.ref)) (fun k H5 => Same H' H5 ∧ Md [D] H4 H5 ∧ ∃ bs : List Addr, H5 D = some (.lst (bs.map V.ref)) ∧ Tups K H5 bs (((allS c i).take j).flatMap extL ++ (extL rs).take k)) ⟨s4.trans s5, .refl _ _, bs, s5 _ _ h2, by rw [List.take_zero, List.append_nil]; exact tb.same s5⟩ (fun k H5 _ h => SqL.of (h.2.1.out _ _ hp (by simpa using hpD))) ?_ ?_⟩
        · rintro k v H5 H6 hk ⟨s6, m6, bs, h5, t5⟩ ⟨rfl, hv⟩
          obtain ⟨b, qs, rfl, hb, hqs, hTb⟩ := (tc.md m6).get hv
          refine ⟨rfl, tYes_of ⟨_, rfl, _, h5, ?_, ?_⟩⟩
          · rw [List.length_map, t5.len]
            exact Nat.lt_of_le_of_lt (Nat.le_trans (flat_pre hrs k) (few (i + 1) hi)) (by decide)
          · obtain ⟨g1, g2⟩ := Tups.put nD s6 h5 t5 hTb
            refine ⟨g1, m6.trans (Md.upd h5 rfl (by simp)), ?_⟩
            rw [tk1 hqs, ← List.append_assoc]
            exact g2
        · rintro H5 ⟨s6, m6, bs, h5, t5⟩
          rw [List.length_map, tc.len, List.take_length, ← flat_next hrs] at t5
          exact ⟨s6, bs, h5, t5⟩
      · rintro H2 ⟨s4, bs, h2, tb⟩
        rw [List.length_map, tp.len, List.take_length] at tb
        exact ⟨D, ⟨_, _, _, rfl⟩, nH s3 nD, s3.trans s4, bs, h2, tb⟩
    · rintro σ H' ⟨q, ⟨x, y, z, rfl⟩, nq, s3, as, h1, tp⟩
      rw [e0] at tp
      exact ⟨_, rfl, hQ q as H' nq s3 h1 tp⟩
end
end K24
namespace K24
open PySem PySem.Spec PyProof.Rows L2 He TL EL
/-! counts -/
abbrev Ct := List (Nat × Nat)
def kvD (l : Ct) : List (Key × V) := l.map fun p => ((Sum.inl ((p.1 : Nat) : Int) : Key), nv p.2)
def getC : Ct → Nat → Option Nat
  | [], _ => none
  | p :: r, k => if p.1 = k then some p.2 else getC r k
def putC : Ct → Nat → Nat → Ct
  | [], k, v => [(k, v)]
  | p :: r, k, v => if p.1 = k then (p.1, v) :: r else p :: putC r k v
def addC (l : Ct) (k v : Nat) : Ct := putC l k ((getC l k).getD 0 + v)
def stepC (l : Ct) (p : Nat × Nat) : Ct := addC (addC l p.1 (p.1 * p.2)) (p.1 + 1) ((p.1 + 1) * p.2)
def cntS (c : Nat) : Nat → Ct
  | 0 => [(c, 1)]
  | m + 1 => (cntS c m).foldl stepC []
theorem key_ne {a b : Nat} (h : a ≠ b) : (Sum.inl ((a : Nat) : Int) : Key) ≠ Sum.inl ((b : Nat) : Int) := fun e => h (by injection e; omega)
theorem valV_kvD : ∀ (l : Ct) (k : Nat), valV (kvD l) (.inl ((k : Nat) : Int)) = (getC l k).map nv
  | [], _ => rfl
  | p :: r, k => by
    show valV ((Sum.inl ((p.1 : Nat) : Int), nv p.2) :: kvD r) _ = (if p.1 = k then some p.2 else getC r k).map nv
    by_cases e : p.1 = k
    · rw [if_pos e, valV_pos (by rw [e])]
      rfl
    · rw [if_neg e, valV_neg (key_ne e), valV_kvD r k]
theorem getC_key : ∀ {l : Ct} {k : Nat}, k ∉ l.map (·.1) → getC l k = none
  | [], _, _ => rfl
  | p :: r, k, h => by
    simp only [List.map_cons, List.mem_cons, not_or] at h
    show (if p.1 = k then some p.2 else getC r k) = none
    rw [if_neg (fun e => h.1 e.symm), getC_key h.2]
theorem putK_kvD : ∀ (l : Ct) (k v : Nat), (l.map (·.1)).Nodup → putK (kvD l) (.inl ((k : Nat) : Int)) (nv v) = kvD (putC l k v)
  | [], _, _, _ => rfl
  | p :: r, k, v, nd => by
    obtain ⟨h1, h2⟩ := List.nodup_cons.mp nd
    have ih := putK_kvD r k v h2
    show putK ((Sum.inl ((p.1 : Nat) : Int), nv p.2) :: kvD r) _ _ = kvD (if p.1 = k then (p.1, v) :: r else p :: putC r k v)
    by_cases e : p.1 = k
    · rw [if_pos e]
      subst e
      unfold putK
      rw [if_pos (by simp)]
      show (if (Sum.inl ((p.1 : Nat) : Int) : Key) = Sum.inl ((p.1 : Nat) : Int) then _ else _) :: (kvD r).map _ = _ :: kvD r
      rw [if_pos rfl]
      congr 1
      have : ∀ q ∈ kvD r, (if q.1 = (Sum.inl ((p.1 : Nat) : Int) : Key) then (q.1, nv v) else q) = q := fun q hq => by
        obtain ⟨x, hx, rfl⟩ := List.mem_map.mp hq
        exact if_neg (key_ne fun z => h1 (List.mem_map.mpr ⟨x, hx, z⟩))
      rw [List.map_congr_left this, List.map_id']
    · rw [if_neg e]
      unfold putK at ih ⊢
      rw [List.any_cons, decide_eq_false (key_ne e), Bool.false_or]
      by_cases c : (kvD r).any (fun p => decide (p.1 = (Sum.inl ((k : Nat) : Int) : Key))) = true
      · rw [if_pos c] at ih ⊢
        rw [List.map_cons, if_neg (key_ne e), ih]
        rfl
      · rw [if_neg c] at ih ⊢
        rw [List.cons_append, ih]
        rfl
theorem putC_keys : ∀ (l : Ct) (k v : Nat), (putC l k v).map (·.1) = if k ∈ l.map (·.1) then l.map (·.1) else l.map (·.1) ++ [k]
  | [], k, v => by simp [putC]
  | p :: r, k, v => by
    show (if p.1 = k then (p.1, v) :: r else p :: putC r k v).map (·.1) = _
    by_cases e : p.1 = k
    · rw [if_pos e, if_pos (by simp [e])]
      rfl
    · rw [if_neg e, List.map_cons, putC_keys r k v]
      by_cases c : k ∈ r.map (·.1)
      · rw [if_pos c, if_pos (by rw [List.map_cons]; exact List.mem_cons_of_mem _ c), List.map_cons]
      · rw [if_neg c, if_neg (by rw [List.map_cons, List.mem_cons]; exact fun z => z.elim (fun z => e z.symm) c), List.map_cons, List.cons_append]
theorem putC_nd {l : Ct} {k v : Nat} (h : (l.map (·.1)).Nodup) : ((putC l k v).map (·.1)).Nodup := by
  rw [putC_keys]
  by_cases c : k ∈ l.map (·.1)
  · rw [if_pos c]; exact h
  · rw [if_neg c]
    refine List.nodup_append.mpr ⟨h, by simp, fun a ha b hb => ?_⟩
    rw [List.mem_singleton.mp hb]
    exact fun z => c (z ▸ ha)
/-- what is checked of a count beforehand: all states are small -/
def smC (l : Ct) : Bool := decide (l.length ≤ 60) && l.all fun p => decide (p.1 ≤ 100) && decide (p.2 < 2 ^ 40)
def okC (c m : Nat) : Bool := (List.range (m + 1)).all fun i => smC (cntS c i) && (List.range ((cntS c i).length + 1)).all fun j => smC (((cntS c i).take j).foldl stepC [])
theorem addC_nd {l : Ct} {k v : Nat} (h : (l.map (·.1)).Nodup) : ((addC l k v).map (·.1)).Nodup := putC_nd h
theorem step_nd {l : Ct} {p : Nat × Nat} (h : (l.map (·.1)).Nodup) : ((stepC l p).map (·.1)).Nodup := addC_nd (addC_nd h)
theorem fold_nd : ∀ (ps : Ct) {l : Ct}, (l.map (·.1)).Nodup → ((ps.foldl stepC l).map (·.1)).Nodup
  | [], _, h => h
  | p :: ps, l, h => fold_nd ps (step_nd h)
theorem addC_len (l : Ct) (k v : Nat) : (addC l k v).length ≤ l.length + 1 := by
  have h := congrArg List.length (putC_keys l k ((getC l k).getD 0 + v))
  rw [List.length_map] at h
  unfold addC
  rw [h]
  split
  · rw [List.length_map]; omega
  · rw [List.length_append, List.length_map]; simp
theorem get0 (l : Ct) (k : Nat) : ((valV (kvD l) (.inl ((k : Nat) : Int))).getD (.int 0)) = nv ((getC l k).getD 0) := by
  rw [valV_kvD]
  cases getC l k <;> rfl
theorem sm_of {l : Ct} (h : smC l = true) : l.length ≤ 60 ∧ ∀ p ∈ l, p.1 ≤ 100 ∧ p.2 < 2 ^ 40 := by
  unfold smC at h
  rw [Bool.and_eq_true, decide_eq_true_eq, List.all_eq_true] at h
  refine ⟨h.1, fun p hp => ?_⟩
  have := h.2 p hp
  rw [Bool.and_eq_true, decide_eq_true_eq, decide_eq_true_eq] at this
  exact this
theorem smul {a b : Nat} (ha : a ≤ 101) (hb : b < 2 ^ 40) : CMulW (a : Int) (b : Int) := wide_mul (a := 70) (b := 70) (by rw [Int.natAbs_natCast]; exact Nat.lt_of_le_of_lt ha (by decide)) (by rw [Int.natAbs_natCast]; exact Nat.lt_trans hb (by decide)) (by decide) (by decide) (by decide)
section
variable {P : Program} {w : World} {K : PySem.W.Frag} {mg : Str → Option Value} {base : Heap}
def spCnt (K : PySem.W.Frag) : Sp := fun vs H Q _ => ∃ m c : Nat, vs = [nv m, nv c] ∧ m ≤ 50 ∧ c ≤ 50 ∧ okC c m = true ∧ ∀ H', Same H H' → Q (.int (((cntS c m).map fun p => ((p.2 : Nat) : Int)).sum)) H'
theorem d_shape_count (T : Txt K mg) : Dn P w K mg base CX0 1 "shape_count" (spCnt K) := by
  obtain ⟨fd, F⟩ := T.f_shape_count
  refine dnN T.g_shape_count F (fun _ _ _ _ _ _ us hl => match us, hl with | [_, _], _ => rfl) sc_shape_count (fun vs H Q E h => ?_) (fun cdv A outer s H vs Q E hr h => ?_)
  · obtain ⟨m, c, rfl, _⟩ := h
    rfl
  · obtain ⟨m, c, rfl, hm, hc, hf, hQ⟩ := h
    refine ⟨_, PSs.nox (pss_cons (ps_set (i := 2) sc_shape_count.nd rfl (.inl rfl) (pe_disp (pps_cons (pv 1) pe_int pps_nil) rfl rfl (by simp) (by decide)))
      (pss_cons (ps_for PassesOwn.never rfl (pi_range1 (by rfl) T.z_range (pa_cons (pv 0) pa_nil)) (pg_name (i := 3) sc_shape_count.nd rfl (.inl rfl))
      (pss_cons (ps_set (i := 4) sc_shape_count.nd rfl (.inl rfl) pe_dnewK)
      (pss_cons (ps_lock (ps_for PassesOwn.never rfl (pi_items (pv 2)) (pg_tup rfl (pgs_cons (pg_name (i := 5) sc_shape_count.nd rfl (.inl rfl)) (pgs_cons (pg_name (i := 6) sc_shape_count.nd rfl (.inl rfl)) pgs_nil)))
      (pss_cons (ps_dput (hu_of hr) (pv 4) (pv 5) (pe_op op_add (pe_dget2 (hu_of hr) (pv 4) (pv 5) pe_int ⟨by rfl, by rfl, by rfl, by rfl⟩) (pe_op op_mulW (pv 5) (pv 6))) rfl)
      (pss_one (ps_dput (hu_of hr) (pv 4) (pe_op op_add (pv 5) pe_int) (pe_op op_add (pe_dget2 (hu_of hr) (pv 4) (pe_op op_add (pv 5) pe_int) pe_int ⟨by rfl, by rfl, by rfl, by rfl⟩) (pe_op op_mulW (pe_op op_add (pv 5) pe_int) (pv 6))) rfl)))))
      (pss_one (ps_set (i := 2) sc_shape_count.nd rfl (.inl rfl) (pv 4))))))
      (pss_one (ps_ret (pe_callB (cr_sum rfl) (by rfl) T.z_sum (by decide +kernel) (pa_cons (pe_listVals rfl (pv 2) (by rfl) T.z_list (by first | rfl | decide +kernel)) pa_nil)))))), ?_⟩
    have ok : ∀ i, i ≤ m → smC (cntS c i) = true ∧ ∀ j, j ≤ (cntS c i).length → smC (((cntS c i).take j).foldl stepC []) = true := fun i hi => by
      have h := List.all_eq_true.mp hf i (List.mem_range.mpr (by omega))
      rw [Bool.and_eq_true, List.all_eq_true] at h
      exact ⟨h.1, fun j hj => h.2 j (List.mem_range.mpr (by omega))⟩
    have nH : ∀ {b : Addr} {H' : Hp}, Same H H' → H' b = none → H b = none := fun {b H'} s n => by
      cases c : H b with
      | none => rfl
      | some o => rw [s _ _ c] at n; cases n
    have e0 : ((m : Nat) : Int).toNat = m := Int.toNat_natCast _
    intro q nq
    refine ⟨_, rfl, upd_same, [(.inl (c : Int), .int 1)], rfl, Nat.le_trans (Nat.le_refl 1) (by decide), ?_⟩
    rw [upd_upd]
    have s1 : Same H (upd H q (.dK (kvD (cntS c 0)))) := same_upd nq
    have e1 : upd H q (.dK (kvD (cntS c 0))) q = some (.dK (kvD (cntS c 0))) := upd_same
    show gName 2 (V.ref q) _ (upd H q (.dK (kvD (cntS c 0)))) _
    generalize upd H q (.dK (kvD (cntS c 0))) = H1 at s1 e1
    refine ⟨_, rfl, _, rfl, by omega, by omega, for_range (n := ((m : Nat) : Int).toNat) (fun i σ H' => ∃ q : Addr, (∃ x y z u, σ = [some (nv m), some (nv c), some (.ref q), x, y, z, u]) ∧ H q = none ∧ Same H H' ∧ H' q = some (.dK (kvD (cntS c i))))
      ⟨q, ⟨_, _, _, _, rfl⟩, nq, s1, e1⟩ ?_ ?_⟩
    · rintro i σ H' hi ⟨q, ⟨x, y, z, u, rfl⟩, nq, s3, h1⟩
      have hi : i < m := by omega
      obtain ⟨ok1, ok2⟩ := ok i (by omega)
      obtain ⟨len1, sm1⟩ := sm_of ok1
      intro p np
      generalize eH2 : upd H' p _ = H2
      have s4 : Same H' H2 := eH2 ▸ same_upd np
      have e4 : H2 p = some _ := eH2 ▸ upd_same
      have hqp : q ≠ p := fun z => by rw [← z, h1] at np; cases np
      refine ⟨q, _, s4 _ _ h1, trivial, fun od => ?_⟩
      generalize eH3 : upd H2 q _ = H3
      have k3 : H3 q = some (.frz od (.dK (kvD (cntS c i)))) := eH3 ▸ upd_same
      have m3 : Md [q] H2 H3 := eH3 ▸ Md.upd (s4 _ _ h1) rfl (by simp)
      have p3 : H3 p = some (.dK []) := m3.out _ _ e4 (by simpa using hqp.symm)
      have back : ∀ {H' : Hp}, Md [p] H3 H' → Same H (upd H' q (.dK (kvD (cntS c i)))) := fun {H'} m5 b o hb => by
        have hbp : b ≠ p := fun z => by rw [z, nH s3 np] at hb; cases hb
        have hbq : b ≠ q := fun z => by rw [z, nq] at hb; cases hb
        rw [upd_ne hbq]
        exact m5.out _ _ (m3.out _ _ ((s3.trans s4) _ _ hb) (by simpa using hbq)) (by simpa using hbp)
      have lk : (kvD (cntS c i)).length = (cntS c i).length := by unfold kvD; rw [List.length_map]
      refine ⟨_, rfl, q, od, _, rfl, k3, for_it walk_items (fun j σ H' => (∃ t x y, σ = [some (nv m), some (nv c), some (.ref q), t, some (.ref p), x, y]) ∧ Md [p] H3 H' ∧ H' p = some (.dK (kvD (((cntS c i).take j).foldl stepC [])))) ⟨⟨_, _, _, rfl⟩, .refl _ _, p3⟩ (fun j σ H' _ h => h.2.1.out _ _ k3 (by simpa using hqp)) ?_ ?_⟩
      · rintro j xv σ H' H'' hj ⟨⟨t, x, y, rfl⟩, m5, e5⟩ ⟨tp, x', y', rfl, ntp, rfl, hx, hy⟩
        have s6 : Same H' (upd H' tp (.tup [x', y'])) := same_upd ntp
        have e6 := s6 _ _ e5
        have t6 : upd H' tp (.tup [x', y']) tp = some (.tup [x', y']) := upd_same
        have m6 : Md [p] H3 (upd H' tp (.tup [x', y'])) := m5.trans (.of s6)
        generalize upd H' tp (.tup [x', y']) = H6 at e6 t6 m6
        obtain ⟨kv, hk, rfl⟩ := Option.map_eq_some_iff.mp hx
        obtain ⟨kv', hk', rfl⟩ := Option.map_eq_some_iff.mp hy
        rw [hk] at hk'
        cases hk'
        obtain ⟨pr, hpr, rfl⟩ := getM hk
        obtain ⟨b1, b2⟩ := sm1 pr (List.mem_of_getElem? hpr)
        have hj' : j < (cntS c i).length := (List.getElem?_eq_some_iff.mp hpr).1
        obtain ⟨l1, _⟩ := sm_of (ok2 j (by omega))
        have nd1 : ((((cntS c i).take j).foldl stepC []).map (·.1)).Nodup := fold_nd _ List.nodup_nil
        have hst : ((cntS c i).take (j + 1)).foldl stepC [] = stepC (((cntS c i).take j).foldl stepC []) pr := by rw [tk1 hpr, List.foldl_append]; rfl
        rw [hst]
        generalize ((cntS c i).take j).foldl stepC [] = L at e6 l1 nd1
        obtain ⟨k, v⟩ := pr
        have c1 : CMulW (k : Int) (v : Int) := smul (Nat.le_trans b1 (by decide)) b2
        have c2 : CMulW ((k : Int) + 1) (v : Int) := smul (a := k + 1) (Nat.succ_le_succ b1) b2
        refine ⟨tp, _, rfl, SqT.of t6, rfl, _, _, rfl, _, _, rfl, rfl, ?_⟩
        refine ⟨_, rfl, p, rfl, .inl ⟨_, .inl e6⟩, _, rfl, _, DGet.k (k := .inl (k : Int)) e6, _, rfl, _, rfl, _, _, rfl, rfl, c1, _, _, get0 L k, rfl, ?_⟩
        have a1 : V.int ((((getC L k).getD 0 : Nat) : Int) + (k : Int) * (v : Int)) = nv ((getC L k).getD 0 + k * v) := by show V.int _ = V.int _; simp
        have p1 : DPut H6 p (V.int (k : Int)) (V.int ((((getC L k).getD 0 : Nat) : Int) + (k : Int) * (v : Int))) (upd H6 p (.dK (kvD (addC L k (k * v))))) := by
          rw [a1]
          have h := DPut.k (v := nv ((getC L k).getD 0 + k * v)) (k := .inl (k : Int)) e6 (Nat.lt_of_le_of_lt (show _ ≤ 100 by unfold kvD; rw [List.length_map]; omega) (by decide))
          rw [putK_kvD L k _ nd1] at h
          exact h
        refine ⟨_, rfl, _, rfl, p, _, rfl, p1, ?_⟩
        have e7 : upd H6 p (.dK (kvD (addC L k (k * v)))) p = some (.dK (kvD (addC L k (k * v)))) := upd_same
        have m7 : Md [p] H3 (upd H6 p (.dK (kvD (addC L k (k * v))))) := m6.trans (Md.upd e6 rfl (by simp))
        generalize upd H6 p (.dK (kvD (addC L k (k * v)))) = H7 at e7 m7
        have nd2 : ((addC L k (k * v)).map (·.1)).Nodup := addC_nd nd1
        have l2 := addC_len L k (k * v)
        have hst2 : stepC L (k, v) = addC (addC L k (k * v)) (k + 1) ((k + 1) * v) := rfl
        rw [hst2]
        generalize addC L k (k * v) = M at e7 nd2 l2
        refine ⟨_, rfl, p, rfl, .inl ⟨_, .inl e7⟩, _, rfl, _, _, rfl, rfl, _, DGet.k (k := .inl ((k + 1 : Nat) : Int)) e7, _, rfl, _, _, rfl, rfl, _, rfl, _, _, rfl, rfl, c2, _, _, get0 M (k + 1), rfl, ?_⟩
        have a2 : V.int ((((getC M (k + 1)).getD 0 : Nat) : Int) + ((k : Int) + 1) * (v : Int)) = nv ((getC M (k + 1)).getD 0 + (k + 1) * v) := by show V.int _ = V.int _; simp
        have p2 : DPut H7 p (V.int ((k : Int) + 1)) (V.int ((((getC M (k + 1)).getD 0 : Nat) : Int) + ((k : Int) + 1) * (v : Int))) (upd H7 p (.dK (kvD (addC M (k + 1) ((k + 1) * v))))) := by
          rw [a2]
          have h := DPut.k (v := nv ((getC M (k + 1)).getD 0 + (k + 1) * v)) (k := .inl ((k + 1 : Nat) : Int)) e7 (Nat.lt_of_le_of_lt (show _ ≤ 100 by unfold kvD; rw [List.length_map]; omega) (by decide))
          rw [putK_kvD M (k + 1) _ nd2] at h
          exact h
        refine ⟨_, rfl, _, rfl, _, _, rfl, rfl, p, _, rfl, p2, ?_⟩
        exact ⟨⟨_, _, _, rfl⟩, m7.trans (Md.upd e7 rfl (by simp)), upd_same⟩
      · rintro σ H' ⟨⟨t, x, y, rfl⟩, m5, e5⟩
        rw [lk, List.take_length] at e5
        refine ⟨m5.out _ _ k3 (by simpa using hqp), _, rfl, p, ⟨_, _, _, _, rfl⟩, nH s3 np, back m5, ?_⟩
        rw [upd_ne hqp.symm]
        exact e5
    · rintro σ H' ⟨q, ⟨x, y, z, u, rfl⟩, nq, s3, h1⟩
      rw [e0] at h1
      refine ⟨_, rfl, q, _, rfl, h1, fun p np => ?_⟩
      refine ⟨p, (cntS c m).map fun p => ((p.2 : Nat) : Int), rfl, SqL.of ?_, ?_⟩
      · rw [upd_same]
        unfold kvD
        rw [List.map_map, List.map_map]
        rfl
      · exact hQ _ (s3.trans (same_upd np))
end
end K24
namespace K24
open PySem PySem.Spec PyProof.Rows L2 He TL EL
section
variable {P : Program} {w : World} {K : PySem.W.Frag} {mg : Str → Option Value} {base : Heap}
theorem dp_len {α : Type} {f : α → PyData} {H : Hp} {vs : List V} {l : List α} (h : DpAll K H vs (l.map f)) : vs.length = l.length := by rw [DpAll.length h, List.length_map]
theorem dp_td {H : Hp} : ∀ (k : Nat) {us : List V} {ds : List PyData}, DpAll K H us ds → DpAll K H (us.take k) (ds.take k) ∧ DpAll K H (us.drop k) (ds.drop k)
  | 0, _, _, h => ⟨.nil, h⟩
  | k + 1, _, _, .nil => ⟨.nil, .nil⟩
  | k + 1, _, _, .cons a b => ⟨.cons a (dp_td k b).1, (dp_td k b).2⟩
theorem dp_at {H : Hp} : ∀ {ds : List PyData} {vs : List V} {i : Nat} {d : PyData}, DpAll K H vs ds → ds[i]? = some d → ∃ v, vs[i]? = some v ∧ Dp K H v d
  | _, _, 0, _, .cons a b, e => by cases e; exact ⟨_, rfl, a⟩
  | _, _, i + 1, _, .cons a b, e => dp_at (i := i) b e
/-! _law_pool, _law_take -/
/-- the law's pool: [digits, state] -/
def Pool (H : Hp) (p : Addr) : Prop := ∃ a b : Int, H p = some (.lst [.int a, .int b]) ∧ 0 ≤ a ∧ 0 ≤ b ∧ b < 2147483647
theorem Pool.same {H H' : Hp} {p : Addr} (s : Same H H') (h : Pool H p) : Pool H' p := by
  obtain ⟨a, b, h1, h2⟩ := h
  exact ⟨a, b, s _ _ h1, h2⟩
theorem Pool.md {S : List Addr} {H H' : Hp} {p : Addr} (h : Pool H p) (m : Md S H H') (n : p ∉ S) : Pool H' p := by
  obtain ⟨a, b, h1, h2⟩ := h
  exact ⟨a, b, m.out _ _ h1 n, h2⟩
theorem Pool.mdB {H H' : Hp} {p : Addr} (h : Pool H p) (b : But p H H') : Md [p] H H' := by
  obtain ⟨a, c, h1, _⟩ := h
  exact b.md h1 rfl
theorem pw18 : ((10 : Int) ^ (18 : Int).toNat) = 1000000000000000000 := by decide +kernel
theorem mul70 {i j : Int} (h1 : i.natAbs < 2 ^ 70) (h2 : j.natAbs < 2 ^ 70) : CMulW i j := wide_mul h1 h2 (by decide) (by decide) (by decide)
def spPool (K : PySem.W.Frag) : Sp := fun vs H Q _ => ∃ (sc : Addr) (ns : List Int) (k : Nat), vs = [.ref sc, .int (k : Nat)] ∧ SqL K H sc (ns.map V.int) ∧ k ≤ 1000 ∧ ns.length ≤ 1000 ∧ ∀ p H', H p = none → Same H H' → Pool H' p → Q (.ref p) H'
theorem d_pool (T : Txt K mg) : Dn P w K mg base CX0 1 "_law_pool" (spPool K) := by
  obtain ⟨fd, F⟩ := T.f__law_pool
  refine dnN T.g__law_pool F (fun _ _ _ _ _ _ us hl => match us, hl with | [_, _], _ => rfl) sc__law_pool (fun vs H Q E h => ?_) (fun cdv A outer s H vs Q E hr h => ?_)
  · obtain ⟨sc, ns, k, rfl, _⟩ := h
    rfl
  · obtain ⟨sc, ns, k, rfl, hS, hk, hn, hQ⟩ := h
    refine ⟨_, PSs.nox (pss_cons (ps_set (i := 2) sc__law_pool.nd rfl (.inl rfl) (pe_ix ix_list (pe_op op_cat (pe_slice sl_list (pv 0) (po_some (pv 1)) (po_some (pe_op op_add (pv 1) pe_int))) (pe_lst (pa_cons pe_int pa_nil))) pe_int (fun _ _ => rfl)))
      (pss_mid (ps_set (i := 3) sc__law_pool.nd rfl (.inl rfl) (pe_ifExp (pt_cmpR op_ge (pv 2) pe_int (nomark _)) (pv 2) (pe_op op_sub (pe_un un_neg pe_int) (pv 2))))
      (pss_cons (ps_set (i := 4) sc__law_pool.nd rfl (.inl rfl) (pe_op op_mod (pe_op op_mulW (pe_callTy call_int1 (by rfl) T.z_int (by decide +kernel) (pa_cons (pe_op op_add (pe_op op_add (pe_op op_add (pe_op op_mod (pv 3) pe_int) (pe_op op_mulW (pe_op op_mulW pe_int (pv 1)) (pv 1))) (pe_op op_mulW pe_int (pv 1))) pe_int) pa_nil)) pe_int) pe_int))
      (pss_one (ps_ret (pe_lst (pa_cons (pe_op op_mul (pv 3) (pe_callTy call_int1 (by rfl) T.z_int (by decide +kernel) (pa_cons (pe_cmpR op_ge (pv 3) (pe_op op_pow pe_int pe_int) (nomark _)) pa_nil))) (pa_cons (pe_op op_mod (pe_op op_mulW (pv 4) (pv 4)) pe_int) pa_nil)))))))), ?_⟩
    have head : ∃ c : Int, atI (cutV (ns.map V.int) (some (k : Int)) (some ((k : Int) + 1)) ++ [.int 0]) 0 = some (.int c) := by
      have hm : ∀ x ∈ cutV (ns.map V.int) (some (k : Int)) (some ((k : Int) + 1)), ∃ c : Int, x = .int c := fun x hx => by
        unfold cutV at hx
        obtain ⟨c, _, e⟩ := List.mem_map.mp (List.mem_of_mem_drop (List.mem_of_mem_take hx))
        exact ⟨c, e.symm⟩
      cases hc : cutV (ns.map V.int) (some (k : Int)) (some ((k : Int) + 1)) with
      | nil => exact ⟨0, rfl⟩
      | cons x r =>
        obtain ⟨c, e⟩ := hm x (by rw [hc]; exact List.mem_cons_self)
        exact ⟨c, by rw [e]; exact atI_nat (j := 0) rfl⟩
    obtain ⟨c, hc⟩ := head
    have hcut := cutV_length (ns.map V.int) (some (k : Int)) (some ((k : Int) + 1))
    rw [List.length_map] at hcut
    have hpw : CPow 10 18 := ⟨by decide, by decide, by decide⟩
    refine ⟨_, rfl, _, rfl, _, rfl, _, rfl, _, _, rfl, rfl, _, rfl, sc, _, rfl, hS, fun l1 n1 => ?_⟩
    generalize eH1 : upd H l1 _ = H1
    have s1 : Same H H1 := eH1 ▸ same_upd n1
    have e1 : H1 l1 = some _ := eH1 ▸ upd_same
    refine ⟨(by show 1 ≤ sizeLine; decide), fun l2 n2 => ?_⟩
    generalize eH2 : upd H1 l2 _ = H2
    have s2 : Same H1 H2 := eH2 ▸ same_upd n2
    have e2 : H2 l2 = some _ := eH2 ▸ upd_same
    refine ⟨l1, l2, _, _, rfl, rfl, s2 _ _ e1, e2, (by rw [List.length_singleton]; exact Nat.le_trans (by omega : _ ≤ 1001) (by decide)), fun l3 n3 => ?_⟩
    generalize eH3 : upd H2 l3 _ = H3
    have s3 : Same H2 H3 := eH3 ▸ same_upd n3
    have e3 : H3 l3 = some _ := eH3 ▸ upd_same
    have s03 := s1.trans (s2.trans s3)
    refine ⟨_, _, _, _, rfl, rfl, SqL.of e3, hc, ?_⟩
    -- the number
    have fin : ∀ n : Int, 0 ≤ n → ∀ m : Int, 0 ≤ m → m < 2147483647 → ∀ p H4, H3 p = none → Same H3 H4 → H4 p = some (.lst [.int (n * (if decide (1000000000000000000 ≤ n) = true then 1 else 0)), .int (m * m % 2147483629)]) → Q (.ref p) H4 := fun n hn m h0 h1 p H4 np s4 p4 => by
      refine hQ p H4 (by
        cases hh : H p with
        | none => rfl
        | some o => rw [s03 _ _ hh] at np; cases np) (s03.trans s4) ⟨_, _, p4, ?_, Int.emod_nonneg _ (by decide), Int.lt_trans (Int.emod_lt_of_pos _ (by decide)) (by decide)⟩
      split <;> omega
    have rest : ∀ n : Int, 0 ≤ n → ∃ b : Int, (n % 2147483629 + 7919 * k * k + 31 * k + 17) * 48271 % 2147483647 = b ∧ 0 ≤ b ∧ b < 2147483647 := fun n _ => ⟨_, rfl, Int.emod_nonneg _ (by decide), Int.emod_lt_of_pos _ (by decide)⟩
    have small : ∀ n : Int, 0 ≤ n % 2147483629 ∧ n % 2147483629 < 2147483629 := fun n => ⟨Int.emod_nonneg _ (by decide), Int.emod_lt_of_pos _ (by decide)⟩
    have k70 : ((k : Nat) : Int).natAbs < 2 ^ 70 := Nat.lt_of_le_of_lt (by omega : ((k : Nat) : Int).natAbs ≤ 1000) (by decide)
    have kk : (7919 * (k : Int) * (k : Int)).natAbs ≤ 7919 * 1000 * 1000 := by
      rw [Int.natAbs_mul, Int.natAbs_mul]
      exact Nat.mul_le_mul (Nat.mul_le_mul (Nat.le_refl _) (by omega)) (by omega)
    have m1 : CMulW 7919 (k : Int) := mul70 (by decide) k70
    have m2 : CMulW (7919 * (k : Int)) (k : Int) := mul70 (Nat.lt_of_le_of_lt (by omega : (7919 * (k : Int)).natAbs ≤ 7919000) (by decide)) k70
    have m3 : CMulW 31 (k : Int) := mul70 (by decide) k70
    have m4 : ∀ n : Int, CMulW (n % 2147483629 + 7919 * k * k + 31 * k + 17) 48271 := fun n => by
      have := small n
      exact mul70 (Nat.lt_of_le_of_lt (by omega : (n % 2147483629 + 7919 * (k : Int) * (k : Int) + 31 * (k : Int) + 17).natAbs ≤ 2147483629 + 7919 * 1000 * 1000 + 31000 + 17) (by decide)) (by decide)
    refine ⟨fun σ' H' => H3 = H' ∧ ∃ n : Int, 0 ≤ n ∧ σ' = [some (.ref sc), some (.int k), some (.int c), some (.int n), none], ?_, ?_⟩
    · refine ⟨_, rfl, _, _, rfl, rfl, _, rfl, ie (fun c1 => ?_) (fun c1 => ?_)⟩
      · exact ⟨_, rfl, rfl, c, of_decide_eq_true c1, rfl⟩
      · have c1 := of_decide_eq_false c1
        exact ⟨_, rfl, _, rfl, _, _, rfl, rfl, rfl, -1 - c, by omega, rfl⟩
    · rintro σ' H' ⟨rfl, n, hn0, rfl⟩
      obtain ⟨b, hb, b0, b1⟩ := rest n hn0
      refine ⟨_, rfl, _, _, rfl, rfl, (by show (0 : Int) < 2147483629; decide), _, rfl, _, _, rfl, rfl, m1, _, rfl, _, _, rfl, rfl, m2, _, _, rfl, rfl, _, rfl, _, _, rfl, rfl, m3, _, _, rfl, rfl, _, _, rfl, rfl, .inl ⟨_, rfl, ?_⟩⟩
      refine ⟨_, _, rfl, rfl, m4 n, _, _, rfl, rfl, (by show (0 : Int) < 2147483647; decide), ?_⟩
      show gName 4 (V.int ((n % 2147483629 + 7919 * k * k + 31 * k + 17) * 48271 % 2147483647)) _ _ _
      rw [hb]
      have mb : CMulW b b := mul70 (Nat.lt_of_lt_of_le (by omega : b.natAbs < 2147483647) (by decide)) (Nat.lt_of_lt_of_le (by omega : b.natAbs < 2147483647) (by decide))
      refine ⟨_, rfl, _, rfl, _, _, rfl, rfl, hpw, _, _, rfl, rfl, .inr ⟨_, rfl, ?_⟩⟩
      refine ⟨_, _, rfl, rfl, (by refine .inr ?_; split <;> exact ⟨by decide, by decide⟩), _, rfl, _, rfl, _, _, rfl, rfl, mb, _, _, rfl, rfl, (by show (0 : Int) < 2147483629; decide), (by show 2 ≤ sizeLine; decide), fun p np => ?_⟩
      generalize eH4 : upd H3 p _ = H4
      have s4 : Same H3 H4 := eH4 ▸ same_upd np
      have p4 : H4 p = some _ := eH4 ▸ upd_same
      rw [pw18] at p4
      exact fin n hn0 b b0 b1 p H4 np s4 p4
def spTake : Sp := fun vs H Q _ => ∃ (p : Addr) (L : Int), vs = [.ref p, .int L] ∧ 0 < L ∧ L ≤ 10000000000000000000 ∧ Pool H p ∧ ∀ (n : Int) (H' : Hp), 0 ≤ n → n < L → Pool H' p → But p H H' → Q (.int n) H'
theorem d_take (T : Txt K mg) : Dn P w K mg base CX0 1 "_law_take" spTake := by
  obtain ⟨fd, F⟩ := T.f__law_take
  refine dnN T.g__law_take F (fun _ _ _ _ _ _ us hl => match us, hl with | [_, _], _ => rfl) sc__law_take (fun vs H Q E h => ?_) (fun cdv A outer s H vs Q E hr h => ?_)
  · obtain ⟨p, L, rfl, _⟩ := h
    rfl
  · obtain ⟨p, L, rfl, hL0, hL1, ⟨a, b, hp, ha, hb0, hb1⟩, hQ⟩ := h
    refine ⟨_, PSs.nox (pss_cons (ps_if (pt_cmpR op_gt (pe_ix ix_list (pv 0) pe_int (fun _ _ => rfl)) pe_int (nomark _)) (pss_cons (ps_set (i := 2) sc__law_take.nd rfl (.inl rfl) (pe_op op_mod (pe_callTy call_int1 (by rfl) T.z_int (by decide +kernel) (pa_cons (pe_ix ix_list (pv 0) pe_int (fun _ _ => rfl)) pa_nil)) (pv 1)))
      (pss_cons (ps_asg (pe_op op_fdivW (pe_ix ix_list (pv 0) pe_int (fun _ _ => rfl)) (pv 1)) (pg_sub (pv 0) pe_int set_list))
      (pss_one (ps_ret (pv 2))))) pss_nil)
      (pss_cons (ps_asg (pe_op op_mod (pe_callTy call_int1 (by rfl) T.z_int (by decide +kernel) (pa_cons (pe_op op_add (pe_op op_mulW (pe_ix ix_list (pv 0) pe_int (fun _ _ => rfl)) pe_int) pe_int) pa_nil)) pe_int) (pg_sub (pv 0) pe_int set_list))
      (pss_one (ps_ret (pe_op op_mod (pe_op op_fdivW (pe_op op_mod (pe_callTy call_int1 (by rfl) T.z_int (by decide +kernel) (pa_cons (pe_op op_mulW (pe_ix ix_list (pv 0) pe_int (fun _ _ => rfl)) (pe_ix ix_list (pv 0) pe_int (fun _ _ => rfl))) pa_nil)) pe_int) pe_int) (pv 1)))))), ?_⟩
    refine ⟨_, rfl, _, _, 0, _, rfl, rfl, SqL.of hp, atI_nat (j := 0) rfl, _, _, rfl, rfl, _, rfl, ie (fun c1 => ?_) (fun c1 => ?_)⟩
    · have hdv : CDivW a L := wide_div hL0 (b := 64) (by omega) (by decide) (by decide)
      refine ⟨_, rfl, _, _, 0, _, rfl, rfl, SqL.of hp, atI_nat (j := 0) rfl, .inl ⟨_, rfl, ?_⟩⟩
      refine ⟨_, rfl, _, _, rfl, rfl, hL0, ?_⟩
      refine ⟨_, rfl, _, _, 0, _, rfl, rfl, SqL.of hp, atI_nat (j := 0) rfl, _, rfl, _, _, rfl, rfl, hdv, _, rfl, p, _, 0, 0, rfl, rfl, hp, rfl, ?_⟩
      refine ⟨_, rfl, ?_⟩
      exact hQ (a % L) _ (Int.emod_nonneg _ (by omega)) (Int.emod_lt_of_pos _ hL0) ⟨a / L, b, upd_same, Int.ediv_nonneg ha (by omega), hb0, hb1⟩ but_upd
    · have hm : CMulW b 48271 := mul70 (Nat.lt_of_lt_of_le (by omega : b.natAbs < 2147483647) (by decide)) (by decide)
      refine ⟨_, rfl, _, _, 1, _, rfl, rfl, SqL.of hp, atI_nat (j := 1) rfl, _, _, rfl, rfl, hm, _, _, rfl, rfl, .inl ⟨_, rfl, ?_⟩⟩
      refine ⟨_, _, rfl, rfl, (by show (0 : Int) < 2147483647; decide), _, rfl, p, _, 1, 1, rfl, rfl, hp, rfl, ?_⟩
      have h0 : 0 ≤ (b * 48271 + 12345) % 2147483647 := Int.emod_nonneg _ (by decide)
      have h1 : (b * 48271 + 12345) % 2147483647 < 2147483647 := Int.emod_lt_of_pos _ (by decide)
      generalize e2 : upd H p _ = H2
      have p2 : H2 p = some (.lst [.int a, .int ((b * 48271 + 12345) % 2147483647)]) := e2 ▸ upd_same
      have b2 : But p H H2 := e2 ▸ but_upd
      clear e2
      generalize (b * 48271 + 12345) % 2147483647 = r at p2 h0 h1
      have hm2 : CMulW r r := mul70 (Nat.lt_of_lt_of_le (by omega : r.natAbs < 2147483647) (by decide)) (Nat.lt_of_lt_of_le (by omega : r.natAbs < 2147483647) (by decide))
      refine ⟨_, rfl, _, _, 1, _, rfl, rfl, SqL.of p2, atI_nat (j := 1) rfl, _, rfl, _, _, 1, _, rfl, rfl, SqL.of p2, atI_nat (j := 1) rfl, _, _, rfl, rfl, hm2, .inl ⟨_, rfl, ?_⟩⟩
      refine ⟨_, _, rfl, rfl, (by show (0 : Int) < 2147483629; decide), _, _, rfl, rfl, (⟨by decide, by decide⟩ : CDivW _ 64), _, rfl, _, _, rfl, rfl, hL0, ?_⟩
      exact hQ _ H2 (Int.emod_nonneg _ (by omega)) (Int.emod_lt_of_pos _ hL0) ⟨a, r, p2, ha, h0, h1⟩ b2
/-! _law_less, _law_unlike, _law_ranks -/
def BWv (z : Int × Int) : Prop := Low z.1 z.2 ∧ z.1.natAbs < 2 ^ 300 ∧ z.2.natAbs < 2 ^ 300
theorem bwv_mul {x y : Int × Int} (h1 : BWv x) (h2 : BWv y) : CMulW x.1 y.2 := wide_mul h1.2.1 h2.2.2 (by decide) (by decide) (by decide)
def spLLess (K : PySem.W.Frag) : Sp := fun vs H Q _ => ∃ v1 v2 x y, vs = [v1, v2] ∧ Dp K H v1 (valD x) ∧ Dp K H v2 (valD y) ∧ CMulW x.1 y.2 ∧ CMulW y.1 x.2 ∧ Q (.bl (decide (ltV x y))) H
theorem d_lless (T : Txt K mg) : Dn P w K mg base CX0 1 "_law_less" (spLLess K) := by
  obtain ⟨fd, F⟩ := T.f__law_less
  refine dnN T.g__law_less F (fun _ _ _ _ _ _ us hl => match us, hl with | [_, _], _ => rfl) sc__law_less (fun vs H Q E h => ?_) (fun cdv A outer s H vs Q E hr h => ?_)
  · obtain ⟨v1, v2, x, y, rfl, _⟩ := h
    rfl
  · obtain ⟨v1, v2, x, y, rfl, d1, d2, m1, m2, hq⟩ := h
    obtain ⟨p, rfl, h1⟩ := dp_val d1
    obtain ⟨q, rfl, h2⟩ := dp_val d2
    refine ⟨_, PSs.nox (pss_one (ps_ret (pe_cmpR op_lt (pe_op op_mulW (pe_ix ix_tup (pv 0) pe_int (fun _ _ => rfl)) (pe_ix ix_tup (pv 1) pe_int (fun _ _ => rfl))) (pe_op op_mulW (pe_ix ix_tup (pv 1) pe_int (fun _ _ => rfl)) (pe_ix ix_tup (pv 0) pe_int (fun _ _ => rfl))) (nomark _)))), ?_⟩
    exact ⟨_, rfl, _, _, 0, _, rfl, rfl, h1, atI_nat (j := 0) rfl, _, rfl, _, _, 1, _, rfl, rfl, h2, atI_nat (j := 1) rfl, _, _, rfl, rfl, m1,
      _, rfl, _, _, 0, _, rfl, rfl, h2, atI_nat (j := 0) rfl, _, rfl, _, _, 1, _, rfl, rfl, h1, atI_nat (j := 1) rfl, _, _, rfl, rfl, m2, _, _, rfl, rfl, hq⟩
def spUnl (K : PySem.W.Frag) : Sp := fun args H Q _ => ∃ (a : Addr) (vs : List V) (xs : List (Int × Int)), args = [.ref a] ∧ SqL K H a vs ∧ DpAll K H vs (xs.map valD) ∧ (∀ x ∈ xs, BWv x) ∧ xs.length ≤ 1000 ∧
  ∀ p us H', H p = none → Same H H' → H' p = some (.lst us) → DpAll K H' us ((asc xs).map valD) → (∀ z ∈ us.zip (asc xs), z ∈ vs.zip xs) → Q (.ref p) H'
theorem d_unlike (T : Txt K mg) : Dn P w K mg base CX0 2 "_law_unlike" (spUnl K) := by
  obtain ⟨fd, F⟩ := T.f__law_unlike
  have D__law_less := d_lless (P := P) (w := w) (base := base) T
  refine dnN T.g__law_unlike F (fun _ _ _ _ _ _ us hl => match us, hl with | [_], _ => rfl) sc__law_unlike (fun vs H Q E h => ?_) (fun cdv A outer s H vs Q E hr h => ?_)
  · obtain ⟨a, vs, xs, rfl, _⟩ := h
    rfl
  · obtain ⟨a, vs, xs, rfl, hS, hA, hV, hl, hQ⟩ := h
    refine ⟨_, PSs.nox (pss_cons (ps_set (i := 1) sc__law_unlike.nd rfl (.inl rfl) (pe_lst pa_nil))
      (pss_cons (ps_for PassesOwn.never rfl (pi_list (pv 0)) (pg_name (i := 2) sc__law_unlike.nd rfl (.inl rfl))
      (pss_cons (ps_set (i := 3) sc__law_unlike.nd rfl (.inl rfl) pe_int)
      (pss_mid (ps_while PassesOwn.never (PW.pt (pw_and (pt_cmpR op_lt (pv 3) (pe_callB call_len_seq (by rfl) T.z_len (by decide +kernel) (pa_cons (pv 1) pa_nil)) (nomark _)) (pw_and1 (pt_val (cl D__law_less (hr.mono (by decide)) (pa_cons (pe_ix ix_list (pv 1) (pv 3) (fun _ _ => rfl)) (pa_cons (pv 2) pa_nil)))))))
      (pss_one (ps_set (i := 3) sc__law_unlike.nd rfl (.inl rfl) (pe_op op_add (pv 3) pe_int))))
      (pss_one (ps_if (pt_cmpR (op_neD hr.units) (pe_slice sl_list (pv 1) (po_some (pv 3)) (po_some (pe_op op_add (pv 3) pe_int))) (pe_lst (pa_cons (pv 2) pa_nil)) (nomark _)) (pss_one (ps_expr (pe_bm PySem.F.plainAttrs_list PySem.F.slot_list_insert PySem.F.type_list_insert mt_insert (pv 1) (pa_cons (pv 3) (pa_cons (pv 2) pa_nil))))) pss_nil)))))
      (pss_one (ps_ret (pv 1))))), ?_⟩
    refine ⟨(by show 0 ≤ sizeLine; decide), fun p np => ?_⟩
    generalize eH1 : upd H p _ = H1
    have s1 : Same H H1 := eH1 ▸ same_upd np
    have e1 : H1 p = some _ := eH1 ▸ upd_same
    have sm : ∀ {H' : Hp}, Md [p] H1 H' → Same H H' := fun {H'} m => (Md.newM (S := []) m (Md.of s1) np).same
    have lv : vs.length = xs.length := by rw [DpAll.length hA, List.length_map]
    refine ⟨_, rfl, a, rfl, ⟨_, s1.seq hS⟩, for_list (K := K) (a := a) (xs := vs) (fun i σ H' => (∃ o1 o2, σ = [some (.ref a), some (.ref p), o1, o2]) ∧ ∃ us, H' p = some (.lst us) ∧ DpAll K H' us ((asc (xs.take i)).map valD) ∧ Md [p] H1 H' ∧ ∀ z ∈ us.zip (asc (xs.take i)), z ∈ vs.zip xs) ⟨⟨none, none, rfl⟩, [], e1, .nil, .refl _ _, by simp [asc]⟩ (fun i σ H' _ h => ?_) ?_ ?_⟩
    · obtain ⟨_, us, _, _, m, _⟩ := h
      exact (sm m).seq hS
    · rintro i v σ H' hg ⟨⟨o1, o2, rfl⟩, us, eu, au, m, hu⟩
      obtain ⟨d, hd, hdp⟩ := DpAll.get hA hg
      obtain ⟨x, hx, rfl⟩ := getM hd
      have hdp' := m.dp (Pd.valD x).nl (Dp.same s1 hdp)
      have vx := hV x (List.mem_of_getElem? hx)
      have hA1 : asc (xs.take (i + 1)) = insV x (asc (xs.take i)) := by rw [tk1 hx, asc_snoc]
      have hLm : ∀ y ∈ asc (xs.take i), BWv y := fun y hy => hV y (List.mem_of_mem_take ((asc_mem _ _).mp hy))
      have hLl : (asc (xs.take i)).length ≤ 1000 := Nat.le_trans (asc_len _) (by rw [List.length_take]; omega)
      have hLs : SrtV (asc (xs.take i)) := asc_srt fun y hy => (hV y (List.mem_of_mem_take hy)).1
      generalize hL : asc (xs.take i) = L at au hA1 hu hLm hLl hLs
      have lu : us.length = L.length := by rw [DpAll.length au, List.length_map]
      have at_ : ∀ {k : Nat} {y : Int × Int}, L[k]? = some y → ∃ u, us[k]? = some u ∧ Dp K H' u (valD y) := fun {k y} hk => dp_at au (mapAt (f := valD) hk)
      refine ⟨fun σ' H2 => H' = H2 ∧ ∃ k : Nat, σ' = [some (.ref a), some (.ref p), some v, some (.int (k : Nat))] ∧ k ≤ L.length ∧ (∀ j y, j < k → L[j]? = some y → ltV y x) ∧ (∀ y, L[k]? = some y → ¬ ltV y x), ?_, ?_⟩
      · refine ⟨fun mm σ' H2 => H' = H2 ∧ ∃ k : Nat, mm = L.length - k ∧ k ≤ L.length ∧ σ' = [some (.ref a), some (.ref p), some v, some (.int (k : Nat))] ∧ ∀ j y, j < k → L[j]? = some y → ltV y x, ⟨L.length, rfl, 0, rfl, Nat.zero_le _, rfl, fun j y hj => absurd hj (Nat.not_lt_zero _)⟩, ?_⟩
        rintro mm σ' H2 ⟨rfl, k, rfl, hk, rfl, hlo⟩
        refine ⟨_, rfl, _, rfl, _, _, rfl, .inl (SqL.of eu), _, _, rfl, rfl, _, rfl, ?_⟩
        by_cases hkl : k < L.length
        · refine if_pos_of (decide_eq_true (by omega)) ?_
          obtain ⟨y, hy⟩ : ∃ y, L[k]? = some y := ⟨_, List.getElem?_eq_getElem hkl⟩
          obtain ⟨uk, huk, dk⟩ := at_ hy
          have vy := hLm y (List.mem_of_getElem? hy)
          refine ⟨_, rfl, _, rfl, _, _, _, _, rfl, rfl, SqL.of eu, atI_nat huk, _, rfl, uk, v, y, x, rfl, dk, hdp', bwv_mul vy vx, bwv_mul vx vy, _, rfl, ie (fun c2 => ?_) (fun c2 => ?_)⟩
          · have c2 := of_decide_eq_true c2
            refine ⟨_, fun σ' H2 hN => hN, _, rfl, _, _, rfl, rfl, ?_⟩
            refine ⟨L.length - (k + 1), by omega, rfl, k + 1, rfl, hkl, rfl, fun j z hj hz => ?_⟩
            by_cases hjk : j = k
            · rw [hjk, hy] at hz
              cases hz
              exact c2
            · exact hlo j z (by omega) hz
          · have c2 := of_decide_eq_false c2
            exact ⟨rfl, k, rfl, hk, hlo, fun z hz => by rw [hy] at hz; cases hz; exact c2⟩
        · refine if_neg_of (decide_eq_false (by omega)) ?_
          exact ⟨rfl, k, rfl, hk, hlo, fun z hz => absurd (List.getElem?_eq_some_iff.mp hz).1 hkl⟩
      · rintro σ' H2 ⟨rfl, k, rfl, hk, h1, h2⟩
        have hI := insV_at hk h1 h2
        have hcut : cutV us (some (k : Int)) (some ((k : Int) + 1)) = (us.drop k).take 1 := by
          unfold cutV
          have hk' : min k us.length = k := Nat.min_eq_left (by rw [lu]; exact hk)
          rw [show ((k : Int) + 1) = ((k + 1 : Nat) : Int) by omega, HT.sIx_nat, HT.sIx_nat, hk']
          by_cases e : k + 1 ≤ us.length
          · rw [show min (k + 1) us.length = k + 1 from Nat.min_eq_left e, show k + 1 - k = 1 by omega]
          · rw [List.drop_of_length_le (by omega), List.take_nil, List.take_nil]
        refine ⟨_, rfl, _, rfl, _, rfl, _, rfl, _, _, rfl, rfl, _, rfl, p, _, rfl, SqL.of eu, fun l1 n1 => ?_⟩
        rw [hcut]
        generalize eH3 : upd H' l1 _ = H3
        have s3 : Same H' H3 := eH3 ▸ same_upd n1
        have e3 : H3 l1 = some _ := eH3 ▸ upd_same
        refine ⟨_, rfl, (by show 1 ≤ sizeLine; decide), fun l2 n2 => ?_⟩
        generalize eH4 : upd H3 l2 _ = H4
        have s4 : Same H3 H4 := eH4 ▸ same_upd n2
        have e4 : H4 l2 = some _ := eH4 ▸ upd_same
        have s34 := s3.trans s4
        have dcut : DpAll K H4 ((us.drop k).take 1) (((L.drop k).take 1).map valD) := by
          rw [List.map_take, List.map_drop]
          exact (dp_td 1 (dp_td k (DpAll.same s34 au)).2).1
        refine ⟨.list (((L.drop k).take 1).map valD), .list [valD x], .lst (SqL.of (s4 _ _ e3)) dcut, .lst (SqL.of e4) (.cons (Dp.same s34 hdp') .nil), Pds.shaped (pds_val _), Pds.shaped (pds_val [x]), _, rfl, ?_⟩
        have eu4 := s34 _ _ eu
        have m4 : Md [p] H1 H4 := m.trans (.of s34)
        have heq : PyData.eqv (.list (((L.drop k).take 1).map valD)) (.list [valD x]) = decide (L[k]? = some x) := by
          cases hy : L[k]? with
          | none =>
            rw [List.drop_of_length_le (List.getElem?_eq_none_iff.mp hy)]
            rfl
          | some y =>
            have hd := List.drop_eq_getElem_cons (List.getElem?_eq_some_iff.mp hy).1
            rw [(List.getElem?_eq_some_iff.mp hy).2] at hd
            rw [hd]
            show (PyData.eqv (valD y) (valD x) && true) = _
            rw [Bool.and_true, eqv_valD]
            exact decide_eq_decide.mpr ⟨fun z => by rw [z], Option.some.inj⟩
        rw [heq]
        by_cases hyx : L[k]? = some x
        · refine if_neg_of (by rw [decide_eq_true hyx]; rfl) ?_
          refine ⟨⟨_, _, rfl⟩, us, eu4, ?_, m4, ?_⟩
          · rw [hA1, hI, if_pos hyx]
            exact DpAll.same s34 au
          · rw [hA1, hI, if_pos hyx]
            exact hu
        · refine if_pos_of (by rw [decide_eq_false hyx]; rfl) ?_
          refine ⟨_, rfl, .inl ⟨rfl, _, SqL.of eu4⟩, _, rfl, _, rfl, p, us, _, _, rfl, rfl, eu4, (by rw [lu]; exact Nat.lt_of_le_of_lt hLl (by decide)), by omega, by omega, ?_⟩
          have mu : Md [p] H4 (upd H4 p (.lst (us.take ((k : Nat) : Int).toNat ++ [v] ++ us.drop ((k : Nat) : Int).toNat))) := Md.upd eu4 rfl (by simp)
          refine ⟨⟨_, _, rfl⟩, _, upd_same, ?_, m4.trans mu, fun z hz => ?_⟩
          · rw [hA1, hI, if_neg hyx]
            exact mu.dpAll (pds_val _).nl (insV_list (DpAll.same s34 au) (Dp.same s34 hdp'))
          · rw [hA1, hI, if_neg hyx] at hz
            rcases ins_zip lu hz with hz | hz
            · rw [hz]
              exact List.mem_of_getElem? (List.getElem?_zip_eq_some.mpr ⟨hg, hx⟩)
            · exact hu z hz
    · rintro σ H' ⟨⟨o1, o2, rfl⟩, us, eu, au, m, hu⟩
      rw [lv, List.take_length] at au hu
      exact ⟨_, rfl, hQ p us H' np (sm m) eu au hu⟩
def spRanks (K : PySem.W.Frag) : Sp := fun args H Q _ => ∃ (a : Addr) (vs : List V) (xs : List (Int × Int)), args = [.ref a] ∧ SqL K H a vs ∧ DpAll K H vs (xs.map valD) ∧ (∀ x ∈ xs, BWv x) ∧ xs.length ≤ 1000 ∧ ∀ p H', Same H H' → H' p = some (.tup ((rk xs).map V.int)) → Q (.ref p) H'
theorem d_ranks (T : Txt K mg) : Dn P w K mg base CX0 3 "_law_ranks" (spRanks K) := by
  obtain ⟨fd, F⟩ := T.f__law_ranks
  have D__law_unlike := d_unlike (P := P) (w := w) (base := base) T
  refine dnN T.g__law_ranks F (fun _ _ _ _ _ _ us hl => match us, hl with | [_], _ => rfl) sc__law_ranks (fun vs H Q E h => ?_) (fun cdv A outer s H vs Q E hr h => ?_)
  · obtain ⟨a, vs, xs, rfl, _⟩ := h
    rfl
  · obtain ⟨a, vs, xs, rfl, hS, hA, hV, hl, hQ⟩ := h
    refine ⟨_, PSs.nox (pss_cons (ps_set (i := 1) sc__law_ranks.nd rfl (.inr rfl) (cl D__law_unlike (hr.mono (by decide)) (pa_cons (pv 0) pa_nil)))
      (pss_one (ps_ret (pe_callTy call_tuple_of (by rfl) T.z_tuple (by decide +kernel) (pa_cons (pe_lc (own := [("_law_one", 2)]) (tt := tYes) (by rfl) sc__law_ranks.nd (pi_list (pv 0)) (blkOk_by (own := [("_law_one", 2)]) (N := ["_law_values", "_law_unlike_here", "_law_one"]) (sc := defScope s__law_ranks) (by decide +kernel)) (fun _ _ _ _ _ => (pg_name (i := 2) sc__law_ranks.nd rfl (.inl rfl))) (fun _ _ _ _ _ => pts_nil) (fun _ _ _ _ _ => (show PE _ _ (tBM K "list" (rIndexD K) (tVar 1) (tCons (tVar 2) tNil)) from pe_bm PySem.F.plainAttrs_list PySem.F.slot_list_index PySem.F.type_list_index (show MtR _ "list.index" (rIndexD K) from mt_indexD (u65 hr)) (pv 1) (pa_cons (pv 2) pa_nil)))) pa_nil))))), ?_⟩
    have lv : vs.length = xs.length := dp_len hA
    refine ⟨_, rfl, a, vs, xs, rfl, hS, hA, hV, hl, fun p us H1 np s1 p1 d1 _ => ?_⟩
    have hS1 := Same.seq s1 hS
    have hA1 := DpAll.same s1 hA
    refine ⟨_, rfl, a, rfl, ⟨_, hS1⟩, fun R nR => ?_⟩
    have hRp : p ≠ R := fun z => by rw [← z, p1] at nR; cases nR
    refine lc_it (walk_list (xs := vs)) (fun i H' => H' = upd H1 R (.lst (((rk xs).take i).map V.int))) rfl (fun i H' _ e => by rw [e]; exact Same.seq (same_upd nR) hS1) ?_ ?_
    · rintro i v H' H'' hi e ⟨rfl, hv⟩
      subst e
      obtain ⟨d, hd, hdp⟩ := DpAll.get hA1 hv
      obtain ⟨x, hx', rfl⟩ := getM hd
      have m := List.mem_of_getElem? hx'
      obtain ⟨g1, g2⟩ := ixA_get m
      have sR : Same H1 (upd H1 R (.lst (((rk xs).take i).map V.int))) := same_upd nR
      refine ⟨rfl, tYes_of ⟨_, rfl, .inl ⟨rfl, _, SqL.of (sR _ _ p1)⟩, _, rfl, p, v, valD x, (asc xs).map valD, ixA xs x, valD x, rfl, rfl, .lst (SqL.of (sR _ _ p1)) (DpAll.same sR d1), Dp.same sR hdp, Pds.shaped (pds_val _), (Pd.valD x).shaped, mapAt g1, by rw [eqv_valD]; exact decide_eq_true rfl, fun k z' hk hz' => ?_, _, upd_same, ?_, ?_⟩⟩
      · obtain ⟨y, hy, rfl⟩ := getM hz'
        rw [eqv_valD]
        exact decide_eq_false (g2 k hk y hy)
      · rw [List.length_map, List.length_take]
        exact Nat.lt_of_le_of_lt (Nat.min_le_left _ _) (Nat.lt_of_lt_of_le hi (Nat.le_trans (by omega : vs.length ≤ 1000) (by decide)))
      · rw [upd_upd, tk1 (rk_at hx'), List.map_append]
        rfl
    · rintro H5 rfl
      have s5 : Same H (upd H1 R (.lst (((rk xs).take vs.length).map V.int))) := s1.trans (same_upd nR)
      rw [lv, ← rk_len xs, List.take_length] at s5 ⊢
      refine ⟨R, _, rfl, .inl ⟨SqL.of upd_same, fun t nt => ?_⟩⟩
      exact hQ t _ (s5.trans (same_upd nt)) upd_same

end
end K24
namespace K24
open PySem PySem.Spec PyProof.Rows L2 He TL EL
/-! the law's own count -/
def at0 (l : List Nat) (i : Nat) : Nat := (l[i]?).getD 0
def stepR (row : List Nat) (more : List Nat) (i : Nat) : List Nat :=
  let a := more.set i (at0 more i + i * at0 row i)
  if i + 1 < row.length then a.set (i + 1) (at0 a (i + 1) + (i + 1) * at0 row i) else a
def rowN (row : List Nat) (j : Nat) : List Nat := (List.range j).foldl (stepR row) (List.replicate row.length 0)
def lcnt (c m : Nat) : Nat → List Nat
  | 0 => List.replicate c 0 ++ [1] ++ List.replicate m 0
  | i + 1 => rowN (lcnt c m i) (lcnt c m i).length
def smR (l : List Nat) : Bool := decide (l.length ≤ 100) && l.all fun x => decide (x < 2 ^ 40)
def okR (c m : Nat) : Bool := (List.range (m + 1)).all fun i => smR (lcnt c m i)
theorem step_len (row more : List Nat) (i : Nat) : (stepR row more i).length = more.length := by
  unfold stepR
  dsimp only
  split
  · rw [List.length_set, List.length_set]
  · rw [List.length_set]
theorem row_len (row : List Nat) : ∀ j, (rowN row j).length = row.length := by
  intro j
  unfold rowN
  have key : ∀ (l : List Nat) (a : List Nat), (l.foldl (stepR row) a).length = a.length := by
    intro l
    induction l with
    | nil => intro a; rfl
    | cons x l ih => intro a; rw [List.foldl_cons, ih, step_len]
  rw [key, List.length_replicate]
theorem row_succ (row : List Nat) (j : Nat) : rowN row (j + 1) = stepR row (rowN row j) j := by
  unfold rowN
  rw [List.range_succ, List.foldl_append]
  rfl
theorem at0_some {l : List Nat} {i : Nat} (h : i < l.length) : l[i]? = some (at0 l i) := by unfold at0; rw [List.getElem?_eq_getElem h]; rfl
theorem ixNn {n j : Nat} (hj : j < n) : ixN n (j : Int) = some j := by
  unfold ixN
  rw [if_pos (by omega), if_pos (by omega), Int.toNat_natCast]
theorem rep0 (k : Nat) : (List.replicate k [V.int 0]).flatten = (List.replicate k 0).map nv := by
  induction k with
  | zero => rfl
  | succ k ih =>
    rw [List.replicate_succ, List.flatten_cons, ih, List.replicate_succ]
    rfl
theorem sm_R {l : List Nat} (h : smR l = true) : l.length ≤ 100 ∧ ∀ i, at0 l i < 2 ^ 40 := by
  unfold smR at h
  rw [Bool.and_eq_true, decide_eq_true_eq, List.all_eq_true] at h
  refine ⟨h.1, fun i => ?_⟩
  by_cases c : i < l.length
  · exact of_decide_eq_true (h.2 _ (List.mem_of_getElem? (at0_some c)))
  · unfold at0
    rw [List.getElem?_eq_none (by omega)]
    decide
theorem nvadd (a b c : Nat) : V.int ((a : Int) + (b : Int) * (c : Int)) = nv (a + b * c) := by show V.int _ = V.int _; simp
theorem nvadd1 (a b c : Nat) : V.int ((a : Int) + ((b : Int) + 1) * (c : Int)) = nv (a + (b + 1) * c) := by show V.int _ = V.int _; simp
section
variable {P : Program} {w : World} {K : PySem.W.Frag} {mg : Str → Option Value} {base : Heap}
def spLC (K : PySem.W.Frag) : Sp := fun vs H Q _ => ∃ m c : Nat, vs = [nv m, nv c] ∧ m ≤ 50 ∧ c ≤ 50 ∧ okR c m = true ∧ ∀ H', Same H H' → Q (.int (((lcnt c m m).map fun x => ((x : Nat) : Int)).sum)) H'
theorem d_lcount (T : Txt K mg) : Dn P w K mg base CX0 1 "_law_count" (spLC K) := by
  obtain ⟨fd, F⟩ := T.f__law_count
  refine dnN T.g__law_count F (fun _ _ _ _ _ _ us hl => match us, hl with | [_, _], _ => rfl) sc__law_count (fun vs H Q E h => ?_) (fun cdv A outer s H vs Q E hr h => ?_)
  · obtain ⟨m, c, rfl, _⟩ := h
    rfl
  · obtain ⟨m, c, rfl, hm, hc, hf, hQ⟩ := h
    refine ⟨_, PSs.nox (pss_cons (ps_set (i := 2) sc__law_count.nd rfl (.inl rfl) (pe_op op_cat (pe_op op_cat (pe_op op_rep (pe_lst (pa_cons pe_int pa_nil)) (pv 1)) (pe_lst (pa_cons pe_int pa_nil))) (pe_op op_rep (pe_lst (pa_cons pe_int pa_nil)) (pv 0))))
      (pss_cons (ps_for PassesOwn.never rfl (pi_range1 (by rfl) T.z_range (pa_cons (pv 0) pa_nil)) (pg_name (i := 3) sc__law_count.nd rfl (.inl rfl))
      (pss_cons (ps_set (i := 4) sc__law_count.nd rfl (.inl rfl) (pe_op op_rep (pe_lst (pa_cons pe_int pa_nil)) (pe_callB call_len_seq (by rfl) T.z_len (by decide +kernel) (pa_cons (pv 2) pa_nil))))
      (pss_cons (ps_for PassesOwn.never rfl (pi_range1 (by rfl) T.z_range (pa_cons (pe_callB call_len_seq (by rfl) T.z_len (by decide +kernel) (pa_cons (pv 2) pa_nil)) pa_nil)) (pg_name (i := 5) sc__law_count.nd rfl (.inl rfl))
      (pss_cons (ps_asg (pe_op op_add (pe_ix ix_list (pv 4) (pv 5) (fun _ _ => rfl)) (pe_op op_mulW (pv 5) (pe_ix ix_list (pv 2) (pv 5) (fun _ _ => rfl)))) (pg_sub (pv 4) (pv 5) set_list))
      (pss_one (ps_if (pt_cmpR op_lt (pe_op op_add (pv 5) pe_int) (pe_callB call_len_seq (by rfl) T.z_len (by decide +kernel) (pa_cons (pv 2) pa_nil)) (nomark _)) (pss_one (ps_asg (pe_op op_add (pe_ix ix_list (pv 4) (pe_op op_add (pv 5) pe_int) (fun _ _ => rfl)) (pe_op op_mulW (pe_op op_add (pv 5) pe_int) (pe_ix ix_list (pv 2) (pv 5) (fun _ _ => rfl)))) (pg_sub (pv 4) (pe_op op_add (pv 5) pe_int) set_list))) pss_nil))))
      (pss_one (ps_set (i := 2) sc__law_count.nd rfl (.inl rfl) (pv 4))))))
      (pss_one (ps_ret (pe_callB (cr_sum rfl) (by rfl) T.z_sum (by decide +kernel) (pa_cons (pv 2) pa_nil)))))), ?_⟩
    have ok : ∀ i, i ≤ m → (lcnt c m i).length ≤ 100 ∧ ∀ j, at0 (lcnt c m i) j < 2 ^ 40 := fun i hi => sm_R (List.all_eq_true.mp hf i (List.mem_range.mpr (by omega)))
    have nH : ∀ {b : Addr} {H' : Hp}, Same H H' → H' b = none → H b = none := fun {b H'} s n => by
      cases c : H b with
      | none => rfl
      | some o => rw [s _ _ c] at n; cases n
    have e0 : ((m : Nat) : Int).toNat = m := Int.toNat_natCast _
    have ec : ((c : Nat) : Int).toNat = c := Int.toNat_natCast _
    refine ⟨(by show 1 ≤ sizeLine; decide), fun l1 n1 => ?_⟩
    generalize eH1 : upd H l1 _ = H1
    have s1 : Same H H1 := eH1 ▸ same_upd n1
    have h1 : H1 l1 = some _ := eH1 ▸ upd_same
    refine ⟨_, rfl, l1, (c : Int), _, rfl, rfl, h1, by omega, by omega, (by rw [ec]; exact Nat.le_trans (show 1 * c ≤ 100 by omega) (by decide)), fun l2 n2 => ?_⟩
    rw [ec, rep0]
    generalize eH2 : upd H1 l2 _ = H2
    have s2 : Same H1 H2 := eH2 ▸ same_upd n2
    have h2 : H2 l2 = some _ := eH2 ▸ upd_same
    refine ⟨(by show 1 ≤ sizeLine; decide), fun l3 n3 => ?_⟩
    generalize eH3 : upd H2 l3 _ = H3
    have s3 : Same H2 H3 := eH3 ▸ same_upd n3
    have h3 : H3 l3 = some _ := eH3 ▸ upd_same
    refine ⟨l2, l3, _, _, rfl, rfl, s3 _ _ h2, h3, (by rw [List.length_map, List.length_replicate]; exact Nat.le_trans (show c + 1 ≤ 100 by omega) (by decide)), fun l4 n4 => ?_⟩
    generalize eH4 : upd H3 l4 _ = H4
    have s4 : Same H3 H4 := eH4 ▸ same_upd n4
    have h4 : H4 l4 = some _ := eH4 ▸ upd_same
    refine ⟨(by show 1 ≤ sizeLine; decide), fun l5 n5 => ?_⟩
    generalize eH5 : upd H4 l5 _ = H5
    have s5 : Same H4 H5 := eH5 ▸ same_upd n5
    have h5 : H5 l5 = some _ := eH5 ▸ upd_same
    refine ⟨_, rfl, l5, (m : Int), _, rfl, rfl, h5, by omega, by omega, (by rw [e0]; exact Nat.le_trans (show 1 * m ≤ 100 by omega) (by decide)), fun l6 n6 => ?_⟩
    rw [e0, rep0]
    generalize eH6 : upd H5 l6 _ = H6
    have s6 : Same H5 H6 := eH6 ▸ same_upd n6
    have h6 : H6 l6 = some _ := eH6 ▸ upd_same
    refine ⟨l4, l6, _, _, rfl, rfl, s6 _ _ (s5 _ _ h4), h6, (by rw [List.length_append, List.length_map, List.length_map, List.length_replicate, List.length_replicate]; exact Nat.le_trans (show c + 1 + m ≤ 200 by omega) (by decide)), fun q nq => ?_⟩
    have eq0 : (List.replicate c 0).map nv ++ [V.int 1] ++ (List.replicate m 0).map nv = (lcnt c m 0).map nv := by
      show _ = (List.replicate c 0 ++ [1] ++ List.replicate m 0).map nv
      rw [List.map_append, List.map_append]
      rfl
    rw [eq0]
    generalize eH7 : upd H6 q _ = H7
    have s7 : Same H6 H7 := eH7 ▸ same_upd nq
    have h7 : H7 q = some _ := eH7 ▸ upd_same
    have s07 : Same H H7 := s1.trans (s2.trans (s3.trans (s4.trans (s5.trans (s6.trans s7)))))
    have s06 : Same H H6 := s1.trans (s2.trans (s3.trans (s4.trans (s5.trans s6))))
    refine ⟨_, rfl, _, rfl, by omega, by omega, for_range (n := ((m : Nat) : Int).toNat) (fun i σ H' => ∃ q : Addr, (∃ x y z, σ = [some (nv m), some (nv c), some (.ref q), x, y, z]) ∧ H q = none ∧ Same H H' ∧ H' q = some (.lst ((lcnt c m i).map nv)))
      ⟨q, ⟨_, _, _, rfl⟩, nH s06 nq, s07, h7⟩ ?_ ?_⟩
    · rintro i σ H' hi ⟨q, ⟨x, y, z, rfl⟩, nq, sH, hq⟩
      have hi : i < m := by omega
      obtain ⟨len1, sm1⟩ := ok i (by omega)
      obtain ⟨len2, sm2⟩ := ok (i + 1) hi
      have hnx : lcnt c m (i + 1) = rowN (lcnt c m i) (lcnt c m i).length := rfl
      rw [hnx] at sm2
      generalize lcnt c m i = row at len1 sm1 hq hnx sm2
      have lr : (row.map nv).length = row.length := List.length_map _
      have en : ((row.length : Nat) : Int).toNat = row.length := Int.toNat_natCast _
      refine ⟨(by show 1 ≤ sizeLine; decide), fun k1 m1 => ?_⟩
      generalize eJ1 : upd H' k1 _ = J1
      have t1 : Same H' J1 := eJ1 ▸ same_upd m1
      have g1 : J1 k1 = some _ := eJ1 ▸ upd_same
      refine ⟨_, rfl, q, _, rfl, .inl (SqL.of (t1 _ _ hq)), ?_⟩
      rw [lr]
      refine ⟨k1, _, _, rfl, rfl, g1, by omega, by omega, (by rw [en]; exact Nat.le_trans (show 1 * row.length ≤ 100 by omega) (by decide)), fun p np => ?_⟩
      rw [en, rep0]
      have npH : H p = none := nH (sH.trans t1) np
      generalize eJ2 : upd J1 p _ = J2
      have t2 : Same J1 J2 := eJ2 ▸ same_upd np
      have g2 : J2 p = some _ := eJ2 ▸ upd_same
      have hqp : q ≠ p := fun z => by rw [← z, t1 _ _ hq] at np; cases np
      have q2 := t2 _ _ (t1 _ _ hq)
      have sJ : Same H J2 := sH.trans (t1.trans t2)
      refine ⟨_, rfl, q, _, rfl, .inl (SqL.of q2), ?_⟩
      rw [lr]
      -- no entry is ever great: what is put is a part of the row to come
      refine ⟨_, rfl, by omega, by omega, for_range (n := ((row.length : Nat) : Int).toNat) (fun j σ H' => (∃ t z, σ = [some (nv m), some (nv c), some (.ref q), t, some (.ref p), z]) ∧ Same H H' ∧ H' q = some (.lst (row.map nv)) ∧ H' p = some (.lst ((rowN row j).map nv)))
        ⟨⟨_, _, rfl⟩, sJ, q2, g2⟩ ?_ ?_⟩
      · rintro j σ H8 hj ⟨⟨t, z, rfl⟩, s8, q8, p8⟩
        have hj : j < row.length := by omega
        have bj := sm1 j
        have rl := row_len row j
        rw [row_succ]
        show gName 5 (V.int (0 + (j : Int))) _ _ _
        rw [Int.zero_add]
        generalize rowN row j = mo at p8 rl
        have gm : (mo.map nv)[j]? = some (nv (at0 mo j)) := mapAt (f := nv) (at0_some (by omega))
        have gr : (row.map nv)[j]? = some (nv (at0 row j)) := mapAt (f := nv) (at0_some hj)
        have c1 : CMulW (j : Int) ((at0 row j : Nat) : Int) := smul (by omega) bj
        have c2 : CMulW ((j : Int) + 1) ((at0 row j : Nat) : Int) := smul (a := j + 1) (by omega) bj
        refine ⟨_, rfl, _, rfl, p, _, _, _, rfl, rfl, SqL.of p8, atI_nat gm, _, rfl, _, rfl, _, rfl, q, _, _, _, rfl, rfl, SqL.of q8, atI_nat gr, _, _, rfl, rfl, c1, _, _, rfl, rfl, ?_⟩
        refine ⟨_, rfl, _, rfl, p, _, _, _, rfl, rfl, p8, ixNn (by rw [List.length_map]; omega), ?_⟩
        refine Eq.mpr (congrArg _ (show upd H8 p (.lst ((mo.map nv).set j (V.int ((at0 mo j : Nat) + (j : Int) * (at0 row j : Nat))))) = upd H8 p (.lst ((mo.set j (at0 mo j + j * at0 row j)).map nv)) by rw [nvadd, ← List.map_set])) ?_
        have q9 : upd H8 p (.lst ((mo.set j (at0 mo j + j * at0 row j)).map nv)) q = some (.lst (row.map nv)) := by rw [upd_ne hqp]; exact q8
        have p9 : upd H8 p (.lst ((mo.set j (at0 mo j + j * at0 row j)).map nv)) p = some (.lst ((mo.set j (at0 mo j + j * at0 row j)).map nv)) := upd_same
        have s9 : Same H (upd H8 p (.lst ((mo.set j (at0 mo j + j * at0 row j)).map nv))) := same_upN s8 npH
        generalize upd H8 p _ = H9 at q9 p9 s9
        have la : (mo.set j (at0 mo j + j * at0 row j)).length = row.length := by rw [List.length_set, rl]
        have hst : stepR row mo j = if j + 1 < row.length then (mo.set j (at0 mo j + j * at0 row j)).set (j + 1) (at0 (mo.set j (at0 mo j + j * at0 row j)) (j + 1) + (j + 1) * at0 row j) else mo.set j (at0 mo j + j * at0 row j) := rfl
        rw [hst]
        generalize mo.set j (at0 mo j + j * at0 row j) = a at p9 la
        refine ⟨_, rfl, _, _, rfl, rfl, _, rfl, q, _, rfl, .inl (SqL.of q9), _, _, rfl, rfl, _, rfl, ?_⟩
        rw [lr]
        by_cases hl : j + 1 < row.length
        · rw [if_pos hl]
          refine if_pos_of (decide_eq_true (by omega)) ?_
          have ga : (a.map nv)[j + 1]? = some (nv (at0 a (j + 1))) := mapAt (f := nv) (at0_some (by omega))
          refine ⟨_, rfl, _, rfl, _, _, rfl, rfl, p, _, _, _, rfl, rfl, SqL.of p9, (show atI (a.map nv) ((j : Int) + 1) = some _ from atI_nat (j := j + 1) ga), _, rfl, _, _, rfl, rfl, _, rfl, _, rfl, q, _, _, _, rfl, rfl, SqL.of q9, atI_nat gr, _, _, rfl, rfl, c2, _, _, rfl, rfl, ?_⟩
          refine ⟨_, rfl, _, rfl, _, _, rfl, rfl, p, _, _, j + 1, rfl, rfl, p9, (show ixN _ ((j : Int) + 1) = some (j + 1) from ixNn (j := j + 1) (by rw [List.length_map]; omega)), ?_⟩
          refine Eq.mpr (congrArg _ (show upd H9 p (.lst ((a.map nv).set (j + 1) (V.int ((at0 a (j + 1) : Nat) + ((j : Int) + 1) * (at0 row j : Nat))))) = upd H9 p (.lst ((a.set (j + 1) (at0 a (j + 1) + (j + 1) * at0 row j)).map nv)) by rw [nvadd1, ← List.map_set])) ?_
          refine ⟨⟨_, _, rfl⟩, same_upN s9 npH, ?_, upd_same⟩
          rw [upd_ne hqp]
          exact q9
        · rw [if_neg hl]
          refine if_neg_of (decide_eq_false (by omega)) ?_
          exact ⟨⟨_, _, rfl⟩, s9, q9, p9⟩
      · rintro σ H8 ⟨⟨t, z, rfl⟩, s8, q8, p8⟩
        rw [en, ← hnx] at p8
        exact ⟨_, rfl, p, ⟨_, _, _, rfl⟩, npH, s8, p8⟩
    · rintro σ H' ⟨q, ⟨x, y, z, rfl⟩, nq, s3, h1⟩
      rw [e0] at h1
      refine ⟨_, rfl, q, (lcnt c m m).map fun x => ((x : Nat) : Int), rfl, SqL.of ?_, hQ _ s3⟩
      rw [h1, List.map_map]
      rfl
end
end K24
namespace K24
open PySem PySem.Spec PyProof.Rows L2 He TL EL
/-! all shapes are there, and no others -/
theorem rng_nd (n : Nat) : ((List.range n).map fun k => ((k : Nat) : Int)).Nodup := List.Pairwise.map _ (fun a b h z => h (by omega)) (List.nodup_range (n := n))
theorem cov_lt {rs : List Int} (c : Cov rs) {k : Nat} : (k : Int) ∈ rs ↔ k < dN rs := by
  constructor
  · intro h
    have := nd_sub ((List.range (k + 1)).map fun j => ((j : Nat) : Int)) (uq rs) (rng_nd _) fun x hx => by
      obtain ⟨j, hj, rfl⟩ := List.mem_map.mp hx
      have hj := List.mem_range.mp hj
      refine uq_mem.mpr ?_
      by_cases e : j = k
      · rw [e]; exact h
      · exact (c _ h).2 j (by omega)
    rw [List.length_map, List.length_range] at this
    exact this
  · intro h
    by_cases m : (k : Int) ∈ rs
    · exact m
    · exfalso
      have := nd_sub (uq rs) ((List.range k).map fun j => ((j : Nat) : Int)) (uq_nd rs) fun x hx => by
        have hx := uq_mem.mp hx
        obtain ⟨h0, h1⟩ := c x hx
        obtain ⟨n, rfl⟩ := Int.eq_ofNat_of_zero_le h0
        refine List.mem_map.mpr ⟨n, List.mem_range.mpr ?_, rfl⟩
        rcases Nat.lt_trichotomy n k with z | z | z
        · exact z
        · subst z; exact absurd hx m
        · exact absurd (h1 k (by omega)) m
      rw [List.length_map, List.length_range] at this
      exact absurd h (Nat.not_lt.mpr this)
theorem opI_lt {r x : Int} (h : x < r) : opI r x = x := by unfold opI; rw [decide_eq_false (by omega)]; simp
theorem opI_ge {r x : Int} (h : r ≤ x) : opI r x = x + 1 := by unfold opI; rw [decide_eq_true h]; simp
theorem cov_A {rs : List Int} (c : Cov rs) {k : Nat} (h : k < dN rs) : Cov (rs ++ [(k : Int)]) := by
  intro x hx
  have hx : x ∈ rs := by
    rcases List.mem_append.mp hx with z | z
    · exact z
    · rw [List.mem_singleton.mp z]; exact (cov_lt c).mpr h
  exact ⟨(c x hx).1, fun j hj => List.mem_append_left _ ((c x hx).2 j hj)⟩
theorem cov_B {rs : List Int} (c : Cov rs) {k : Nat} (h : k ≤ dN rs) : Cov (rs.map (opI (k : Nat)) ++ [(k : Int)]) := by
  have low : ∀ j : Nat, j < k → (j : Int) ∈ rs.map (opI (k : Nat)) ++ [(k : Int)] := fun j hj => List.mem_append_left _ (List.mem_map.mpr ⟨(j : Int), (cov_lt c).mpr (by omega), opI_lt (by omega)⟩)
  intro x hx
  rcases List.mem_append.mp hx with z | z
  · obtain ⟨y, hy, rfl⟩ := List.mem_map.mp z
    obtain ⟨h0, h1⟩ := c y hy
    by_cases e : y < (k : Int)
    · rw [opI_lt e]
      exact ⟨h0, fun j hj => low j (by omega)⟩
    · rw [opI_ge (by omega)]
      refine ⟨by omega, fun j hj => ?_⟩
      rcases Nat.lt_trichotomy j k with q | q | q
      · exact low j q
      · rw [q]; exact List.mem_append_right _ (List.mem_singleton.mpr rfl)
      · refine List.mem_append_left _ (List.mem_map.mpr ⟨((j - 1 : Nat) : Int), ?_, ?_⟩)
        · by_cases e2 : ((j - 1 : Nat) : Int) = y
          · rw [e2]; exact hy
          · exact h1 (j - 1) (by omega)
        · rw [opI_ge (by omega)]
          omega
  · rw [List.mem_singleton.mp z]
    exact ⟨by omega, fun j hj => low j (by omega)⟩
theorem opI_mono {r x y : Int} (h : x < y) : opI r x < opI r y := by
  unfold opI
  by_cases a : r ≤ x
  · rw [decide_eq_true a, decide_eq_true (by omega)]; simp; omega
  · rw [decide_eq_false a]
    by_cases b : r ≤ y
    · rw [decide_eq_true b]; simp; omega
    · rw [decide_eq_false b]; simp; omega
theorem ext_sh {c : Nat} {rs qs : List Int} (s : isSh c rs) (h : qs ∈ extL rs) : isSh c qs := by
  obtain ⟨s1, s2, s3⟩ := s
  unfold extL exA exB at h
  have get : ∀ {f : Int → Int} {k a : Int} {i : Nat}, i < c → (rs.map f ++ [k])[i]? = some a → ∃ y, rs[i]? = some y ∧ f y = a := fun {f k a i} hi e => by
    rw [List.getElem?_append_left (by rw [List.length_map]; omega)] at e
    exact getM e
  rcases List.mem_append.mp h with h | h
  · obtain ⟨k, hk, rfl⟩ := List.mem_map.mp h
    refine ⟨by rw [List.length_append]; omega, cov_A s2 (List.mem_range.mp hk), fun i a b hi ha hb => ?_⟩
    rw [List.getElem?_append_left (by omega)] at ha hb
    exact s3 i a b hi ha hb
  · obtain ⟨k, hk, rfl⟩ := List.mem_map.mp h
    refine ⟨by rw [List.length_append, List.length_map]; omega, cov_B s2 (by have := List.mem_range.mp hk; omega), fun i a b hi ha hb => ?_⟩
    obtain ⟨x, hx, rfl⟩ := get (by omega) ha
    obtain ⟨y, hy, rfl⟩ := get (by omega) hb
    exact opI_mono (s3 i x y hi hx hy)
theorem rng_at {n i : Nat} {a : Int} (h : ((List.range n).map fun k => ((k : Nat) : Int))[i]? = some a) : a = (i : Nat) ∧ i < n := by
  obtain ⟨k, hk, rfl⟩ := getM h
  obtain ⟨h1, h2⟩ := List.getElem?_eq_some_iff.mp hk
  rw [List.getElem_range] at h2
  rw [List.length_range] at h1
  exact ⟨by rw [h2], h1⟩
theorem base_sh (c : Nat) : isSh c ((List.range c).map fun k => ((k : Nat) : Int)) := by
  refine ⟨by rw [List.length_map, List.length_range]; exact Nat.le_refl _, fun x hx => ?_, fun i a b hi ha hb => ?_⟩
  · obtain ⟨k, hk, rfl⟩ := List.mem_map.mp hx
    exact ⟨by omega, fun j hj => List.mem_map.mpr ⟨j, List.mem_range.mpr (by have := List.mem_range.mp hk; omega), rfl⟩⟩
  · have := (rng_at ha).1
    have := (rng_at hb).1
    omega
theorem all_sh {c : Nat} : ∀ {m : Nat} {rs : List Int}, rs ∈ allS c m → isSh c rs
  | 0, rs, h => by rw [List.mem_singleton.mp h]; exact base_sh c
  | m + 1, rs, h => by
    obtain ⟨qs, h1, h2⟩ := List.mem_flatMap.mp h
    exact ext_sh (all_sh h1) h2
/-- the shape without its last rank -/
def shut (x y : Int) : Int := if x < y then y - 1 else y
theorem open_shut {x y : Int} (h : y ≠ x) : opI x (shut x y) = y := by
  unfold shut
  by_cases c : x < y
  · rw [if_pos c, opI_ge (by omega)]; omega
  · rw [if_neg c, opI_lt (by omega)]
theorem sh_last {c : Nat} {init : List Int} {x : Int} (s : isSh c (init ++ [x])) (hc : c ≤ init.length) : ∃ rs, isSh c rs ∧ rs.length = init.length ∧ init ++ [x] ∈ extL rs := by
  obtain ⟨_, cv, od⟩ := s
  have od' : ∀ (i : Nat) a b, i + 1 < c → init[i]? = some a → init[i + 1]? = some b → a < b := fun i a b hi ha hb => od i a b hi (by rw [List.getElem?_append_left (by omega)]; exact ha) (by rw [List.getElem?_append_left (by omega)]; exact hb)
  obtain ⟨x0, xl⟩ := cv x (List.mem_append_right _ (List.mem_singleton.mpr rfl))
  obtain ⟨n, rfl⟩ := Int.eq_ofNat_of_zero_le x0
  by_cases m : (n : Int) ∈ init
  · have ci : Cov init := fun y hy => ⟨(cv y (List.mem_append_left _ hy)).1, fun j hj => by
      rcases List.mem_append.mp ((cv y (List.mem_append_left _ hy)).2 j hj) with z | z
      · exact z
      · rw [List.mem_singleton.mp z]; exact m⟩
    refine ⟨init, ⟨hc, ci, od'⟩, rfl, ?_⟩
    unfold extL exA
    exact List.mem_append_left _ (List.mem_map.mpr ⟨n, List.mem_range.mpr ((cov_lt ci).mp m), rfl⟩)
  · have ne : ∀ y ∈ init, y ≠ (n : Int) := fun y hy z => m (z ▸ hy)
    have back : (init.map (shut (n : Int))).map (opI (n : Int)) = init := by
      rw [List.map_map]
      have : ∀ y ∈ init, (opI (n : Int) ∘ shut (n : Int)) y = y := fun y hy => open_shut (ne y hy)
      rw [List.map_congr_left this, List.map_id']
    have low : ∀ j : Nat, j < n → (j : Int) ∈ init.map (shut (n : Int)) := fun j hj => by
      have hj' : (j : Int) ∈ init := by
        rcases List.mem_append.mp (xl j (by omega)) with z | z
        · exact z
        · have := List.mem_singleton.mp z; omega
      refine List.mem_map.mpr ⟨_, hj', ?_⟩
      unfold shut
      rw [if_neg (by omega)]
    have ci : Cov (init.map (shut (n : Int))) := fun y hy => by
      obtain ⟨z, hz, rfl⟩ := List.mem_map.mp hy
      obtain ⟨z0, zl⟩ := cv z (List.mem_append_left _ hz)
      have nz := ne z hz
      unfold shut
      by_cases c1 : (n : Int) < z
      · rw [if_pos c1]
        refine ⟨by omega, fun j hj => ?_⟩
        by_cases c2 : j < n
        · exact low j c2
        · have hj' : ((j + 1 : Nat) : Int) ∈ init := by
            rcases List.mem_append.mp (zl (j + 1) (by omega)) with q | q
            · exact q
            · have := List.mem_singleton.mp q; omega
          have e : shut (n : Int) ((j + 1 : Nat) : Int) = (j : Int) := by
            unfold shut
            rw [if_pos (by omega)]
            omega
          exact List.mem_map.mpr ⟨_, hj', e⟩
      · rw [if_neg c1]
        exact ⟨z0, fun j hj => low j (by omega)⟩
    have lenN : n ≤ dN (init.map (shut (n : Int))) := by
      cases n with
      | zero => exact Nat.zero_le _
      | succ k => exact (cov_lt ci).mp (low k (Nat.lt_succ_self k))
    refine ⟨init.map (shut (n : Int)), ⟨by rw [List.length_map]; exact hc, ci, fun i a b hi ha hb => ?_⟩, List.length_map _, ?_⟩
    · obtain ⟨y, hy, rfl⟩ := getM ha
      obtain ⟨z, hz, rfl⟩ := getM hb
      have l := od' i y z hi hy hz
      have n1 := ne y (List.mem_of_getElem? hy)
      have n2 := ne z (List.mem_of_getElem? hz)
      unfold shut
      by_cases c1 : (n : Int) < y
      · rw [if_pos c1, if_pos (by omega)]; omega
      · rw [if_neg c1]
        by_cases c2 : (n : Int) < z
        · rw [if_pos c2]; omega
        · rw [if_neg c2]; exact l
    · unfold extL exB
      refine List.mem_append_right _ (List.mem_map.mpr ⟨n, List.mem_range.mpr (by omega), ?_⟩)
      rw [back]
theorem all_have {c : Nat} : ∀ {m : Nat} {rs : List Int}, isSh c rs → rs.length = c + m → rs ∈ allS c m
  | 0, rs, s, hl => by
    have asc : ∀ (d i : Nat) a b, i + 1 + d < c → rs[i]? = some a → rs[i + 1 + d]? = some b → a < b := by
      intro d
      induction d with
      | zero => exact fun i a b hi ha hb => s.2.2 i a b hi ha hb
      | succ d ih =>
        intro i a b hi ha hb
        obtain ⟨z, hz⟩ : ∃ z, rs[i + 1 + d]? = some z := ⟨_, List.getElem?_eq_getElem (by omega)⟩
        exact Int.lt_trans (ih i a z (by omega) ha hz) (s.2.2 (i + 1 + d) z b (by omega) hz hb)
    have lt : ∀ (i j : Nat) a b, i < j → rs[i]? = some a → rs[j]? = some b → a < b := fun i j a b h ha hb => by
      have := (List.getElem?_eq_some_iff.mp hb).1
      exact asc (j - i - 1) i a b (by omega) ha (by rw [show i + 1 + (j - i - 1) = j by omega]; exact hb)
    refine List.mem_singleton.mpr (cov_uniq (by rw [List.length_map, List.length_range]; exact hl) (fun i j a b a' b' h1 h2 h3 h4 => ?_) s.2.1 (base_sh c).2.1)
    have e1 := (rng_at h3).1
    have e2 := (rng_at h4).1
    rcases Nat.lt_trichotomy i j with z | z | z
    · exact ⟨fun _ => by rw [e1, e2]; exact Int.ofNat_lt.mpr z, fun _ => lt i j a b z h1 h2⟩
    · subst z
      rw [h1] at h2
      cases h2
      rw [e1, e2]
      exact ⟨fun k => absurd k (Int.lt_irrefl _), fun k => absurd k (Int.lt_irrefl _)⟩
    · have q := lt j i b a z h2 h1
      rw [e1, e2]
      exact ⟨fun k => absurd (Int.lt_trans k q) (Int.lt_irrefl _), fun k => absurd (Int.lt_trans k (Int.ofNat_lt.mpr z)) (Int.lt_irrefl _)⟩
  | m + 1, rs, s, hl => by
    have hne : rs ≠ [] := fun z => by rw [z] at hl; simp at hl
    have e := List.dropLast_concat_getLast hne
    have hd : rs.dropLast.length = c + m := by rw [List.length_dropLast, hl]; omega
    rw [← e] at s
    obtain ⟨qs, h1, h2, h3⟩ := sh_last s (by omega)
    rw [e] at h3
    exact List.mem_flatMap.mpr ⟨qs, all_have h1 (by rw [h2, hd]), h3⟩
end K24
namespace K24
open PySem PySem.Spec PyProof.Rows L2 He TL EL
/-! what is reckoned by the kernel: hashes, counts -/
def th (k : List Int) : Int := reduceHash (Builtin.Tuple.tupleHashOf (k.map hashInt))
theorem th_eq (P : Program) (w : World) (k : List Int) : thash P w k = th k := rfl
def PL : List (Nat × Nat) := [(0, 0), (0, 2), (1, 0), (1, 3), (2, 0), (2, 2), (3, 0), (3, 1), (4, 0), (4, 1)]
def cntOk (p : Nat × Nat) : Bool := okC p.2 p.1 && okR p.2 p.1 && decide ((((cntS p.2 p.1).map fun q => ((q.2 : Nat) : Int)).sum) = (((lcnt p.2 p.1 p.1).map fun x => ((x : Nat) : Int)).sum))
def chk (p : Nat × Nat) : Bool := fewS p.2 p.1 && cntOk p && decide ((((allS p.2 p.1).length : Nat) : Int) = (((lcnt p.2 p.1 p.1).map fun x => ((x : Nat) : Int)).sum)) && decide (((allS p.2 p.1).map th).Nodup)
theorem chk_all : PL.all chk = true := by decide +kernel
theorem cnt6 : ((List.range 5).all fun k => cntOk (6, k)) = true := by decide +kernel
end K24
namespace K24
open PySem PySem.Spec PyProof.Rows L2 He TL EL
abbrev rLenS (K : PySem.W.Frag) : List V → Hp → VK → Prop := fun xs H Q => ∃ p ys, xs = [V.ref p] ∧ (SqL K H p ys ∨ SqT K H p ys) ∧ Q (V.int (ys.length : Nat)) H
section
variable {P : Program} {w : World} {K : PySem.W.Frag} {mg : Str → Option Value} {base : Heap}
theorem low1 (a : Int) : Low a 1 := ⟨by decide, by unfold cd; rw [show (1 : Int).natAbs = 1 from rfl, Nat.gcd_one_right]; rfl⟩
theorem bw1 {a : Int} (h : a.natAbs ≤ 1000) : BWv (a, 1) := ⟨low1 a, Nat.lt_of_le_of_lt h (by decide), by show (1 : Int).natAbs < 2 ^ 300; decide⟩
def tD (rs : List Int) : PyData := .tuple (rs.map PyData.int)
theorem pds_int (rs : List Int) : Pds (rs.map PyData.int) ∧ PyData.depthAll (rs.map PyData.int) = 0 := by
  refine ⟨fun d hd => ?_, ?_⟩
  · obtain ⟨t, _, rfl⟩ := List.mem_map.mp hd
    exact ⟨rfl, rfl, by show 0 ≤ 16; decide⟩
  · induction rs with
    | nil => rfl
    | cons x r ih =>
      show max 0 (PyData.depthAll (r.map PyData.int)) = 0
      rw [ih]
      rfl
theorem pd_tD (rs : List Int) : Pd (tD rs) := by
  obtain ⟨p, e⟩ := pds_int rs
  exact ⟨p.nl, p.cl, by show PyData.depthAll (rs.map PyData.int) + 1 ≤ 16; rw [e]; decide⟩
theorem dp_int {H : Hp} : ∀ rs : List Int, DpAll K H (rs.map V.int) (rs.map PyData.int)
  | [] => .nil
  | _ :: W => .cons (.int _) (dp_int W)
theorem dp_tD {H : Hp} {b : Addr} {rs : List Int} (h : SqT K H b (rs.map V.int)) : Dp K H (.ref b) (tD rs) := .tup h (dp_int rs)
theorem dp_tups {H : Hp} : ∀ {as : List Addr} {rss : List (List Int)}, Tups K H as rss → DpAll K H (as.map V.ref) (rss.map tD)
  | [], [], _ => .nil
  | a :: as, rs :: rss, t => .cons (dp_tD (t.at_ 0 a rs rfl rfl)) (dp_tups ⟨by have := t.len; simpa using this, fun i b qs h1 h2 => t.at_ (i + 1) b qs (by simpa using h1) (by simpa using h2)⟩)
  | [], _ :: _, t => by have := t.len; simp at this
  | _ :: _, [], t => by have := t.len; simp at this
/-- the law's values -/
def cvL (c : Nat) : List (Int × Int) := (List.range c).map fun k => (2 * ((k : Nat) : Int), (1 : Int))
theorem cv_at {c i : Nat} (h : i < c) : (cvL c)[i]? = some (2 * ((i : Nat) : Int), (1 : Int)) := by unfold cvL; rw [List.getElem?_map, List.getElem?_range h]; rfl
theorem cv_len (c : Nat) : (cvL c).length = c := by unfold cvL; rw [List.length_map, List.length_range]
theorem cv_bw {c : Nat} (hc : c ≤ 3) : ∀ x ∈ cvL c, BWv x := fun x hx => by
  obtain ⟨k, hk, rfl⟩ := List.mem_map.mp hx
  have := List.mem_range.mp hk
  exact bw1 (by omega)
theorem rk_in {c m : Nat} {dv : List (Int × Int)} (hl : dv.length = m) (hc : c ≤ 3) (hd : ∀ x ∈ dv, BWv x) : rk (cvL c ++ dv) ∈ allS c m := by
  have low : ∀ x ∈ cvL c ++ dv, Low x.1 x.2 := fun x hx => (List.mem_append.mp hx).elim (fun z => (cv_bw hc x z).1) fun z => (hd x z).1
  have ll : (cvL c ++ dv).length = c + m := by rw [List.length_append, cv_len, hl]
  refine all_have ⟨by rw [rk_len, ll]; omega, rk_cov low, fun i a b hi ha hb => ?_⟩ (by rw [rk_len, ll])
  have e1 : (cvL c ++ dv)[i]? = some (2 * ((i : Nat) : Int), (1 : Int)) := by rw [List.getElem?_append_left (by rw [cv_len]; omega)]; exact cv_at (by omega)
  have e2 : (cvL c ++ dv)[i + 1]? = some (2 * ((i + 1 : Nat) : Int), (1 : Int)) := by rw [List.getElem?_append_left (by rw [cv_len]; omega)]; exact cv_at (by omega)
  exact ((rk_ord low).2 i (i + 1) _ _ _ _ e1 e2 ha hb).mp (by show 2 * ((i : Nat) : Int) * 1 < 2 * ((i + 1 : Nat) : Int) * 1; omega)
/-! the law -/
def spLaw (K : PySem.W.Frag) : Sp := fun vs H Q _ => ∃ (a : Addr) (ns : List Int), vs = [.ref a] ∧ SqL K H a (ns.map V.int) ∧ ns.length ≤ 63 ∧ ∀ H', Q (.bl true) H'
theorem ok_law (T : Txt K mg) {fd : FuncData} (F : FunD K "law" "law" (L2.defArgs s_law) (L2.defBody s_law) (L2.defScope s_law) [] [] (ga K "law") fd) : FnOk P w K mg base CX0 5 (ga K "law") fd ["_law_script"] (spLaw K) := by
  have D_all_shapes := d_all_shapes (P := P) (w := w) (base := base) T
  have D_shape_count := d_shape_count (P := P) (w := w) (base := base) T
  have D__law_count := d_lcount (P := P) (w := w) (base := base) T
  have D_is_shape := d_is_shape (P := P) (w := w) (base := base) T
  have D__law_pool := d_pool (P := P) (w := w) (base := base) T
  have D__law_take := d_take (P := P) (w := w) (base := base) T
  have D__law_ranks := d_ranks (P := P) (w := w) (base := base) T
  refine F.ok sc_law (fun vs H Q E h => ?_) (fun cdv A outer s H vs Q E hr h => ?_)
  · obtain ⟨a, ns, rfl, _⟩ := h
    rfl
  · obtain ⟨a, ns, rfl, hS, hl, q⟩ := h
    refine ⟨_, PSs.nox (pss_cons (ps_for PassesOwn.never rfl (pi_list (lit_l (lits_cons (lit_t (lits_cons lit_i (lits_cons lit_i lits_nil))) (lits_cons (lit_t (lits_cons lit_i (lits_cons lit_i lits_nil))) (lits_cons (lit_t (lits_cons lit_i (lits_cons lit_i lits_nil))) (lits_cons (lit_t (lits_cons lit_i (lits_cons lit_i lits_nil))) (lits_cons (lit_t (lits_cons lit_i (lits_cons lit_i lits_nil))) (lits_cons (lit_t (lits_cons lit_i (lits_cons lit_i lits_nil))) (lits_cons (lit_t (lits_cons lit_i (lits_cons lit_i lits_nil))) (lits_cons (lit_t (lits_cons lit_i (lits_cons lit_i lits_nil))) (lits_cons (lit_t (lits_cons lit_i (lits_cons lit_i lits_nil))) (lits_cons (lit_t (lits_cons lit_i (lits_cons lit_i lits_nil))) lits_nil)))))))))))) (pg_tup rfl (pgs_cons (pg_name (i := 1) sc_law.nd rfl (.inr rfl)) (pgs_cons (pg_name (i := 2) sc_law.nd rfl (.inr rfl)) pgs_nil)))
      (pss_cons (ps_set (i := 3) sc_law.nd rfl (.inl rfl) (cl D_all_shapes (hr.mono (by decide)) (pa_cons (pv 1) (pa_cons (pv 2) pa_nil))))
      (pss_cons (ps_if (PW.pt (pw_or (pt_not (pt_val (pe_callB call_isi (by rfl) T.z_isinstance (by decide +kernel) (pa_cons (pv 3) (pa_cons (pe_bltn (v := .ty "list") (by rfl) T.z_list (by decide +kernel) rfl) pa_nil))))) (pw_or1 (pt_cmpR op_ne (pe_callB call_len_seq (by rfl) T.z_len (by decide +kernel) (pa_cons (pv 3) pa_nil)) (cl D__law_count (hr.mono (by decide)) (pa_cons (pv 1) (pa_cons (pv 2) pa_nil))) (nomark _))))) (pss_one (ps_ret pe_bl)) pss_nil)
      (pss_cons (ps_if (PW.pt (pw_or (pt_cmpR op_ne (cl D_shape_count (hr.mono (by decide)) (pa_cons (pv 1) (pa_cons (pv 2) pa_nil))) (pe_callB call_len_seq (by rfl) T.z_len (by decide +kernel) (pa_cons (pv 3) pa_nil)) (nomark _)) (pw_or1 (pt_cmpR op_ne (SG.pe_lenG rfl (Nat.lt_of_succ_lt (u65 hr)) (by rfl) T.z_len (by rfl) T.z_set (pv 3)) (pe_callB call_len_seq (by rfl) T.z_len (by decide +kernel) (pa_cons (pv 3) pa_nil)) (nomark _))))) (pss_one (ps_ret pe_bl)) pss_nil)
      (pss_cons (ps_if (pt_cmpR (op_neD hr.units) (pe_lc (own := [("_law_shape", 4)]) (by rfl) sc_law.nd (pi_list (pv 3)) (blkOk_by (own := [("_law_shape", 4)]) (N := ["_law_script", "_law_many", "_law_constants", "_law_found", "_law_shape", "_law_k", "_law_pool_here", "_law_values", "_law_at", "_law_turn"]) (sc := defScope s_law) (by decide +kernel)) (fun _ _ _ _ _ => (pg_name (i := 4) sc_law.nd rfl (.inl rfl))) (fun _ _ _ _ _ => pts_one (PW.pt (pw_or (pt_cmpR op_ne (pe_callB (show CallR _ (.builtin "len") (rLenS K) from call_len_seq) (by rfl) T.z_len (by decide +kernel) (pa_cons (pv 4) pa_nil)) (pe_op op_add (pv 1) (pv 2)) (nomark _)) (pw_or1 (pt_not (pt_val (cl D_is_shape (hr.mono (by decide)) (pa_cons (pv 4) (pa_cons (pv 2) pa_nil))))))))) (fun _ _ _ _ _ => (pv 4))) (pe_lst pa_nil) (nomark _)) (pss_one (ps_ret pe_bl)) pss_nil)
      (pss_one (ps_for PassesOwn.never rfl (pi_range1 (by rfl) T.z_range (pa_cons (pe_callB (call_max2 rfl) (by rfl) T.z_max (by decide +kernel) (pa_cons pe_int (pa_cons (pe_callB (call_min2 rfl) (by rfl) T.z_min (by decide +kernel) (pa_cons pe_int (pa_cons (pe_callB call_len_seq (by rfl) T.z_len (by decide +kernel) (pa_cons (pv 0) pa_nil)) pa_nil))) pa_nil))) pa_nil)) (pg_name (i := 5) sc_law.nd rfl (.inl rfl))
      (pss_cons (ps_set (i := 6) sc_law.nd rfl (.inl rfl) (cl D__law_pool (hr.mono (by decide)) (pa_cons (pv 0) (pa_cons (pv 5) pa_nil))))
      (pss_cons (ps_setLc (i := 7) (own := [("_law_at", 8)]) (tt := tYes) (by rfl) sc_law.nd rfl rfl (sw_true rfl rfl rfl (by decide +kernel)) (pi_range1 (by rfl) T.z_range (pa_cons (pv 2) pa_nil)) (blkOk_by (own := [("_law_at", 8)]) (N := ["_law_script", "_law_many", "_law_constants", "_law_found", "_law_shape", "_law_k", "_law_pool_here", "_law_values", "_law_at", "_law_turn"]) (sc := defScope s_law) (by decide +kernel)) (fun _ _ _ _ _ => (pg_name (i := 8) sc_law.nd rfl (.inl rfl))) (fun _ _ _ _ _ => pts_nil) (fun _ _ _ _ _ => (pe_tup (pa_cons (pe_op op_mulW pe_int (pv 8)) (pa_cons pe_int pa_nil)))))
      (pss_cons (ps_for PassesOwn.never rfl (pi_range1 (by rfl) T.z_range (pa_cons (pv 1) pa_nil)) (pg_name (i := 9) sc_law.nd rfl (.inl rfl))
      (pss_one (ps_expr (pe_bm PySem.F.plainAttrs_list PySem.F.slot_list_append PySem.F.type_list_append mt_append (pv 7) (pa_cons (pe_tup (pa_cons (pe_op op_sub (cl D__law_take (hr.mono (by decide)) (pa_cons (pv 6) (pa_cons (pe_op op_add (pe_op op_mulW pe_int (pv 2)) pe_int) pa_nil))) pe_int) (pa_cons pe_int pa_nil))) pa_nil)))))
      (pss_one (ps_if (pt_cmpR (op_notInD (u65 hr)) (cl D__law_ranks (hr.mono (by decide)) (pa_cons (pv 7) pa_nil)) (pv 3) (by rfl)) (pss_one (ps_ret pe_bl)) pss_nil))))))))))))
      (pss_one (ps_ret (pe_cmpR (op_eqD hr.units) (pe_lc (own := [("_law_k", 5)]) (by rfl) sc_law.nd (pi_range1 (by rfl) T.z_range (pa_cons pe_int pa_nil)) (blkOk_by (own := [("_law_k", 5)]) (N := ["_law_script", "_law_many", "_law_constants", "_law_found", "_law_shape", "_law_k", "_law_pool_here", "_law_values", "_law_at", "_law_turn"]) (sc := defScope s_law) (by decide +kernel)) (fun _ _ _ _ _ => (pg_name (i := 5) sc_law.nd rfl (.inl rfl))) (fun _ _ _ _ _ => pts_one (pt_cmpR op_ne (cl D_shape_count (hr.mono (by decide)) (pa_cons pe_int (pa_cons (pv 5) pa_nil))) (cl D__law_count (hr.mono (by decide)) (pa_cons pe_int (pa_cons (pv 5) pa_nil))) (nomark _))) (fun _ _ _ _ _ => (pv 5))) (pe_lst pa_nil) (nomark _))))), ?_⟩
    intro v H1 s1 hx
    obtain ⟨la, xs, rfl, hla, _, hxs⟩ := (hx [] (fun _ h => nomatch h)).lst_inv
    refine ⟨la, rfl, ⟨_, SqL.of hla⟩, for_list (K := K) (a := la) (xs := xs) (fun i σ H' => (∃ o1 o2 o3 o4 o5 o6 o7 o8 o9, σ = [some (.ref a), o1, o2, o3, o4, o5, o6, o7, o8, o9]) ∧ Same H1 H') ⟨⟨_, _, _, _, _, _, _, _, _, rfl⟩, .refl _⟩ ?_ ?_ ?_⟩
    · rintro i σ H' _ ⟨_, s⟩
      exact SqL.of (s _ _ hla)
    · rintro i v σ H' hg ⟨⟨o1, o2, o3, o4, o5, o6, o7, o8, o9, rfl⟩, s2⟩
      obtain ⟨d, hd, dx⟩ := hxs.get hg
      obtain ⟨⟨m, c⟩, hp, rfl⟩ := getM (f := fun p : Nat × Nat => PyData.tuple [.int (p.1 : Nat), .int (p.2 : Nat)]) (l := PL) (show (PL.map _)[i]? = some d from hd)
      have mem := List.mem_of_getElem? hp
      obtain ⟨t, ys, rfl, hT, hy⟩ := dx.tup_inv
      cases hy with
      | cons h1 hy =>
      cases hy with
      | cons h2 hy =>
      cases hy
      cases h1
      cases h2
      have hc := List.all_eq_true.mp chk_all _ mem
      unfold chk cntOk at hc
      simp only [Bool.and_eq_true, decide_eq_true_eq] at hc
      obtain ⟨⟨⟨k1, ⟨k2, k3⟩, k4⟩, k5⟩, k6⟩ := hc
      have bd : m ≤ 4 ∧ c ≤ 3 := by
        have : ∀ p ∈ PL, p.1 ≤ 4 ∧ p.2 ≤ 3 := by decide
        exact this _ mem
      refine ⟨t, _, rfl, Same.seqT s2 hT, rfl, _, _, rfl, _, _, rfl, rfl, ?_⟩
      refine ⟨_, rfl, _, rfl, m, c, rfl, by omega, by omega, k1, fun p as H2 np s3 hp tp => ?_⟩
      have few : as.length ≤ 1000 := by rw [tp.len]; exact of_decide_eq_true (List.all_eq_true.mp k1 m (List.mem_range.mpr (Nat.lt_succ_self m)))
      have lenE : ((as.length : Nat) : Int) = (((lcnt c m m).map fun x => ((x : Nat) : Int)).sum) := by rw [tp.len]; exact k5
      refine ⟨_, rfl, _, _, _, _, _, rfl, .ty _, SqL.ty (SqL.of hp), kit_ty (kit_k .lst .lst), _, rfl, iteF ?_⟩
      refine ⟨_, rfl, p, _, rfl, .inl (SqL.of hp), ?_⟩
      rw [List.length_map]
      refine ⟨_, rfl, _, rfl, m, c, rfl, by omega, by omega, k3, fun H3 s4 => ?_⟩
      refine ⟨rfl, _, rfl, if_neg_of (by show (!decide (V.int _ = V.int _)) = false; rw [lenE, decide_eq_true rfl]; rfl) ?_⟩
      clear hxs hx D_all_shapes D__law_count F hd hg dx hT
      refine ⟨_, rfl, _, rfl, m, c, rfl, by omega, by omega, k2, fun H4 s5 => ?_⟩
      have hp4 := s5 _ _ (s4 _ _ hp)
      have tp4 := tp.same (s4.trans s5)
      refine ⟨_, rfl, p, _, rfl, .inl (SqL.of hp4), ?_⟩
      rw [List.length_map]
      refine ⟨rfl, _, rfl, if_neg_of (by show (!decide (V.int _ = V.int _)) = false; rw [k4, lenE, decide_eq_true rfl]; rfl) ?_⟩
      -- the set
      have lz := tp4.len
      have z1 : (as.zip (allS c m)).map (fun q : Addr × List Int => V.ref q.1) = as.map V.ref := by
        rw [show (fun q : Addr × List Int => V.ref q.1) = V.ref ∘ Prod.fst from rfl, ← List.map_map, List.map_fst_zip (by omega)]
      have z2 : (as.zip (allS c m)).map (fun q : Addr × List Int => thash P w q.2) = (allS c m).map th := by
        rw [show (fun q : Addr × List Int => thash P w q.2) = th ∘ Prod.snd from rfl, ← List.map_map, List.map_snd_zip (by omega)]
      have z3 : (as.zip (allS c m)).length = as.length := by rw [List.length_zip, lz, Nat.min_self]
      refine ⟨_, rfl, p, as.zip (allS c m), rfl, SqL.of (by rw [z1]; exact hp4), fun q hq => ?_, (by show ((as.zip (allS c m)).map (fun q : Addr × List Int => thash P w q.2)).Nodup; rw [z2]; exact k6), (by rw [z3]; omega), ?_⟩
      · obtain ⟨j, hj⟩ := List.getElem?_of_mem hq
        obtain ⟨e1, e2⟩ := List.getElem?_zip_eq_some.mp hj
        exact tp4.at_ j _ _ e1 e2
      rw [z3]
      refine ⟨_, rfl, p, _, rfl, .inl (SqL.of hp4), ?_⟩
      rw [List.length_map]
      refine ⟨rfl, _, rfl, if_neg_of (by show (!decide (V.int _ = V.int _)) = false; rw [decide_eq_true rfl]; rfl) ?_⟩
      -- all are shapes
      refine ⟨_, rfl, p, rfl, ⟨_, SqL.of hp4⟩, fun R nR => ?_⟩
      have hpR : p ≠ R := fun z => by rw [← z, hp4] at nR; cases nR
      refine lc_it (walk_list (xs := as.map V.ref)) (fun j H' => Same H4 H' ∧ H' R = some (.lst [])) ⟨same_upd nR, upd_same⟩ (fun j H' _ h => SqL.of (h.1 _ _ hp4)) ?_ ?_
      · rintro j v H5 H6 hj ⟨s6, r6⟩ ⟨rfl, hv⟩
        obtain ⟨b, rs, rfl, hb, hrs, hTb⟩ := (tp4.same s6).get hv
        have mrs := List.mem_of_getElem? hrs
        have lrs := all_len mrs
        refine ⟨rfl, ?_⟩
        refine ⟨_, rfl, b, _, rfl, .inr hTb, _, rfl, _, rfl, _, _, rfl, rfl, rfl, _, rfl, if_neg_of ?_ ?_⟩
        · show (!decide (V.int _ = V.int _)) = false
          rw [List.length_map, lrs, show ((c + m : Nat) : Int) = (m : Int) + (c : Int) by omega, decide_eq_true rfl]
          rfl
        refine ⟨_, rfl, _, rfl, b, rs, c, rfl, .inr ⟨hTb, by omega, by omega, fun k H7 hk s7 => ?_⟩⟩
        have hk : k = true := hk.mpr (all_sh mrs)
        subst hk
        exact ⟨true, rfl, iteF ⟨s6.trans s7, s7 _ _ r6⟩⟩
      rintro H5 ⟨s6, r6⟩
      refine ⟨(by show 0 ≤ sizeLine; decide), fun e ne => ?_⟩
      generalize eH6 : upd H5 e _ = H6
      have t6 : Same H5 H6 := eH6 ▸ same_upd ne
      have e6 : H6 e = some _ := eH6 ▸ upd_same
      refine ⟨.list [], .list [], .lst (SqL.of (t6 _ _ r6)) .nil, .lst (SqL.of e6) .nil, rfl, rfl, _, rfl, if_neg_of rfl ?_⟩
      have s06 : Same H H6 := s1.trans (s2.trans (s3.trans (s4.trans (s5.trans (s6.trans t6)))))
      have s46 : Same H4 H6 := s6.trans t6
      have s16 : Same H1 H6 := s2.trans (s3.trans (s4.trans (s5.trans s46)))
      have tp6 := tp4.same s46
      have hp6 := s46 _ _ hp4
      have hS6 := Same.seq s06 hS
      clear tp tp4 k1 k2 k3 k4 k5 k6 z1 z2 z3 lenE
      refine ⟨_, rfl, _, _, rfl, .inl hS6, _, _, rfl, _, _, rfl, _, rfl, ?_, ?_, for_range (n := _) (fun k σ H' => (∃ o4 o5 o6 o7 o8 o9, σ = [some (.ref a), some (nv m), some (nv c), some (.ref p), o4, o5, o6, o7, o8, o9]) ∧ Same H6 H') ⟨⟨_, _, _, _, _, _, rfl⟩, .refl _⟩ ?_ ?_⟩
      · split <;> split <;> omega
      · split <;> split <;> omega
      rotate_left
      · rintro σ H7 ⟨⟨o4, o5, o6, o7, o8, o9, rfl⟩, s7⟩
        exact ⟨⟨_, _, _, _, _, _, _, _, _, rfl⟩, s16.trans s7⟩
      rintro k σ H7 hk ⟨⟨o4, o5, o6, o7, o8, o9, rfl⟩, s7⟩
      have hk : k ≤ 100 := by
        revert hk
        split <;> split <;> omega
      show gName 5 (V.int (0 + (k : Int))) _ _ _
      rw [Int.zero_add]
      refine ⟨_, rfl, _, rfl, a, ns, k, rfl, Same.seq s7 hS6, by omega, by omega, fun pl H8 npl s8 P8 => ?_⟩
      refine ⟨_, rfl, _, rfl, by omega, by omega, fun L nL => ?_⟩
      have e0 : ((c : Nat) : Int).toNat = c := Int.toNat_natCast _
      have s68 := s7.trans s8
      have nH : ∀ {b : Addr} {H' : Hp}, Same H6 H' → H' b = none → H6 b = none := fun {b H'} s n => by
        cases c : H6 b with
        | none => rfl
        | some o => rw [s _ _ c] at n; cases n
      have npl6 := nH s7 npl
      have nL6 := nH s68 nL
      have hLpl : L ≠ pl := fun z => by
        obtain ⟨u, v, h, _⟩ := P8
        rw [← z, nL] at h; cases h
      refine lc_it walk_range (fun j H' => Md [L] H8 H' ∧ Same H6 H' ∧ ∃ vs, H' L = some (.lst vs) ∧ DpAll K H' vs (((cvL c).take j).map valD)) ⟨.of (same_upd nL), s68.trans (same_upd nL), [], upd_same, .nil⟩ (fun _ _ _ _ => trivial) ?_ ?_
      · rintro j v H9 H10 hj ⟨m9, s9, vs, h9, d9⟩ ⟨rfl, rfl⟩
        have hj : j < c := by omega
        show gName 8 (V.int (0 + (j : Int))) _ _ _
        rw [Int.zero_add]
        refine ⟨rfl, tYes_of ?_⟩
        refine ⟨_, rfl, _, _, rfl, rfl, smul (a := 2) (b := j) (by decide) (Nat.lt_of_le_of_lt (show j ≤ 10 by omega) (by decide)), (by show 2 ≤ sizeLine; decide), fun t nt => ?_⟩
        generalize eH11 : upd H10 t _ = H11
        have u1 : Same H10 H11 := eH11 ▸ same_upd nt
        have g1 : H11 t = some _ := eH11 ▸ upd_same
        have lv : vs.length = min j c := by rw [dp_len d9, List.length_take, cv_len]
        refine ⟨_, u1 _ _ h9, Nat.lt_of_le_of_lt (show _ ≤ 10 by omega) (by decide), ?_⟩
        have mu : Md [L] H11 (upd H11 L (.lst (vs ++ [.ref t]))) := Md.upd (u1 _ _ h9) rfl (by simp)
        refine ⟨(m9.trans (.of u1)).trans mu, same_upN (s9.trans u1) nL6, _, upd_same, ?_⟩
        rw [tk1 (cv_at hj), List.map_append]
        exact mu.dpAll (pds_val _ |>.snoc (Pd.valD _)).nl (DpAll.app (DpAll.same u1 d9) (.cons (.tup (SqT.of g1) (.cons (.int _) (.cons (.int _) .nil))) .nil))
      rintro H9 ⟨m9, s9, vs, h9, d9⟩
      rw [e0, List.take_of_length_le (by rw [cv_len]; exact Nat.le_refl _)] at d9
      have P9 := P8.md m9 (by simpa using hLpl.symm)
      have em : ((m : Nat) : Int).toNat = m := Int.toNat_natCast _
      refine ⟨_, rfl, _, rfl, by omega, by omega, for_range (n := ((m : Nat) : Int).toNat) (fun i σ H' => (∃ o4 o8 o9, σ = [some (.ref a), some (nv m), some (nv c), some (.ref p), o4, some (nv k), some (.ref pl), some (.ref L), o8, o9]) ∧ Same H6 H' ∧ Pool H' pl ∧ ∃ vs dv, H' L = some (.lst vs) ∧ DpAll K H' vs ((cvL c ++ dv).map valD) ∧ dv.length = i ∧ ∀ x ∈ dv, BWv x)
        ⟨⟨_, _, _, rfl⟩, s9, P9, vs, [], h9, by rw [List.append_nil]; exact d9, rfl, fun x h => nomatch h⟩ ?_ ?_⟩
      · rintro i σ H10 hi ⟨⟨o4, o8, o9, rfl⟩, s10, P10, vs, dv, h10, d10, l10, b10⟩
        have hi : i < m := by omega
        refine ⟨_, rfl, .inl ⟨rfl, _, SqL.of h10⟩, ?_⟩
        refine ⟨_, rfl, _, rfl, _, _, rfl, rfl, smul (a := 2) (b := c) (by decide) (Nat.lt_of_le_of_lt (show c ≤ 10 by omega) (by decide)), _, _, rfl, rfl, pl, _, rfl, by omega, by omega, P10, fun n H11 n0 n1 P11 b11 => ?_⟩
        have m11 := P10.mdB b11
        have h11 : H11 L = some (.lst vs) := m11.out _ _ h10 (by simpa using hLpl)
        have d11 := m11.dpAll (pds_val _).nl d10
        have s11 : Same H6 H11 := fun b o hb => b11 b o (s10 _ _ hb) (fun z => by rw [z, npl6] at hb; cases hb)
        refine ⟨_, _, rfl, rfl, (by show 2 ≤ sizeLine; decide), fun t nt => ?_⟩
        generalize eH12 : upd H11 t _ = H12
        have u1 : Same H11 H12 := eH12 ▸ same_upd nt
        have g1 : H12 t = some _ := eH12 ▸ upd_same
        have lv : vs.length = c + i := by rw [dp_len d10, List.length_append, cv_len, l10]
        refine ⟨L, _, _, rfl, rfl, u1 _ _ h11, Nat.lt_of_le_of_lt (show _ ≤ 10 by omega) (by decide), ?_⟩
        have mu : Md [L] H12 (upd H12 L (.lst (vs ++ [.ref t]))) := Md.upd (u1 _ _ h11) rfl (by simp)
        refine ⟨⟨_, _, _, rfl⟩, same_upN (s11.trans u1) nL6, (P11.same u1).md mu (by simpa using hLpl.symm), _, dv ++ [(n - 4, 1)], upd_same, ?_, by rw [List.length_append, l10]; rfl, fun x hx => ?_⟩
        · rw [← List.append_assoc, List.map_append]
          exact mu.dpAll (pds_val _ |>.snoc (Pd.valD _)).nl (DpAll.app (DpAll.same u1 d11) (.cons (.tup (SqT.of g1) (.cons (.int _) (.cons (.int _) .nil))) .nil))
        · rcases List.mem_append.mp hx with z | z
          · exact b10 x z
          · rw [List.mem_singleton.mp z]
            exact bw1 (by omega)
      rintro σ H10 ⟨⟨o4, o8, o9, rfl⟩, s10, P10, vs, dv, h10, d10, l10, b10⟩
      rw [em] at l10
      have inn := rk_in (c := c) l10 bd.2 b10
      have tp10 := tp6.same s10
      refine ⟨_, rfl, L, vs, cvL c ++ dv, rfl, SqL.of h10, d10, fun x hx => (List.mem_append.mp hx).elim (cv_bw bd.2 x) (b10 x), (by rw [List.length_append, cv_len, l10]; omega), fun r H11 s11 hr11 => ?_⟩
      refine ⟨_, rfl, tD (rk (cvL c ++ dv)), (allS c m).map tD, dp_tD (SqT.of hr11), .lst (SqL.of (s11 _ _ (s10 _ _ hp6))) (dp_tups (tp10.same s11)), (pd_tD _).shaped, Pds.shaped (fun d hd => by obtain ⟨rs, _, rfl⟩ := List.mem_map.mp hd; exact pd_tD rs), _, rfl, if_neg_of ?_ ?_⟩
      · have : ((allS c m).map tD).any (fun z => PyData.eqv z (tD (rk (cvL c ++ dv)))) = true := List.any_eq_true.mpr ⟨_, List.mem_map.mpr ⟨_, inn, rfl⟩, SeqAt.eqv_refl _ (pd_tD _).cl⟩
        rw [this]
        rfl
      exact ⟨⟨_, _, _, _, _, _, rfl⟩, s10.trans s11⟩
    · rintro σ H' ⟨⟨o1, o2, o3, o4, o5, o6, o7, o8, o9, rfl⟩, s2⟩
      refine ⟨_, rfl, by decide, by decide, fun R nR => ?_⟩
      refine lc_it walk_range (fun j H' => H' R = some (.lst [])) upd_same (fun _ _ _ _ => trivial) ?_ ?_
      · rintro j v H3 H4 hj r3 ⟨rfl, rfl⟩
        have hj : j < 5 := hj
        show gName 5 (V.int (0 + (j : Int))) _ _ _
        rw [Int.zero_add]
        have hc := List.all_eq_true.mp cnt6 j (List.mem_range.mpr hj)
        unfold cntOk at hc
        simp only [Bool.and_eq_true, decide_eq_true_eq] at hc
        obtain ⟨⟨k2, k3⟩, k4⟩ := hc
        refine ⟨rfl, ?_⟩
        refine ⟨_, rfl, 6, j, rfl, by decide, by omega, k2, fun H5 s5 => ?_⟩
        refine ⟨_, rfl, 6, j, rfl, by decide, by omega, k3, fun H6 s6 => ?_⟩
        exact ⟨rfl, _, rfl, if_neg_of (by show (!decide (V.int _ = V.int _)) = false; rw [k4, decide_eq_true rfl]; rfl) (s6 _ _ (s5 _ _ r3))⟩
      rintro H5 r6
      refine ⟨(by show 0 ≤ sizeLine; decide), fun e ne => ?_⟩
      generalize eH6 : upd H5 e _ = H6
      have t6 : Same H5 H6 := eH6 ▸ same_upd ne
      have e6 : H6 e = some _ := eH6 ▸ upd_same
      exact ⟨.list [], .list [], .lst (SqL.of (t6 _ _ r6)) .nil, .lst (SqL.of e6) .nil, rfl, rfl, q _⟩
end
end K24
namespace K24
open PySem PySem.Spec PyProof.Rows L2 He TL EL
theorem facts {P : Program} {w : World} {K : PySem.W.Frag} {mg : Str → Option Value} {f : Addr} (T : Txt K mg) (hfa : mg ("law" : Str) = some (.ref f)) :
    ∃ fd : FuncData, (∀ (s : Shared) (v : Value), BindsTo s fd ⟨[v], []⟩ [("_law_script", v)]) ∧ ∀ base : Heap, FnOk P w K mg base CX0 5 f fd ["_law_script"] (spLaw K) := by
  obtain ⟨fd, F⟩ := T.f_law
  have e := hfa.symm.trans T.g_law
  cases e
  have b := FunD.bindsA (ps := ["_law_script"]) F (fun _ _ _ _ _ _ us hl => match us, hl with | [_], _ => rfl)
  exact ⟨fd, fun s v => b s [v] rfl, fun base => ok_law T F⟩
end K24
open PySem PySem.W PySem.Calls PyProof.Rows
set_option maxHeartbeats 0 in
theorem PySem.Challenge.cw_endlessasks_k24_all_shapes_holds : PySem.Challenge.rw_endlessasks_k24_all_shapes.Holds := by
  w_on; o_law; k_head
  case hw => w_witness2
  case hc =>
    refine L2.walk_ofE (l := PySem.Challenge.rw_endlessasks_k24_all_shapes) (n := 63) (k := 5) (x := "_law_script") (CX := L2.CX0) rfl (by decide) (by kernel_rfl) ⟨rfl, by decide, by decide⟩ ?F (fun _ _ _ _ z => z)
    intro w mg fa h Y G hmg0
    have KX := EL.inK_of Y
    have c := (EL.says_of KX K24.fa K24.fn ([] : List EL.DefX) K24.ex (by kernel_rfl)).e
    have hmg : mg ("law" : PySem.Str) = some (.ref fa) := by
      rw [← hmg0]
    obtain ⟨fd, hb, hF⟩ := K24.facts (P := (PySem.Challenge.rw_endlessasks_k24_all_shapes).prog) (w := w) (K24.txt_of KX G c) hmg
    exact ⟨_, fd, K24.spLaw _, KX, hb, fun H a ns hl _ hS => ⟨a, ns, rfl, hS, hl, fun _ => rfl⟩, fun base _ _ => hF base⟩
