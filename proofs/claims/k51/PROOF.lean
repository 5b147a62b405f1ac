import PyProof.Rows.All
import Wide.All
import OpenK.AllK
import Wide.FinOn
import KE.KStateDown
import HandS.ForMost
import HandS.ForExc
import HandS.More
import HandS.Wide
import HandS.IsInst
import HandS.ExcIs
import HandS.FStr
import HandS.Defaults
import HandS.TupAny
import HandS.TupLe
import HandS.Deep
import HandS.Flow
import HandS.Walk
import HandS.Head0
import HandS.Head1
import HandS.Head2
import HandS.HeadEnd
import HandS.HeadHook1
import HandS.HeadHook2
import HandS.HeadNt
import HandS.ExcField
import KE.KExcSuper
import HandS.SlotsOwn
import KE.KOpsOwn
import HandS.Star
import HandS.DictComp
import HandS.Conv
import HandS.HeadHook3
import HandS.WrittenGet
import HandS.Style
import KE.KExcIs
import KE.KEqDict
import HandS.Zip
import KE.KDictCopyH
import HandS.HotCalls
import HandS.SuiteRaise
import KE.KDictZip
import KE.KDictItemsList
import HandS.ListItems
import HandS.DictTup
import KE.GoesEnum
import HandS.TupSets
import HandS.TupAny
import HandS.SortInts
import PySem.Challenge.RW_endlessasks_k51_stocks_chosen
set_option Elab.async false
set_option linter.all false
set_option maxRecDepth 100000
namespace EL
end EL
namespace EL
open PySem PySem.Spec PyProof.Rows L2 He
section
variable {X : Cx} {CX : CXT} {k : Nat} {f : Addr} {sp : Sp} {E : L2.St → XK} {x : Str} {p pos : Pos} {e : Expr} {es : List Expr} {t : TA}
end
end EL
namespace EL
open PySem PySem.Spec PyProof.Rows L2 He
abbrev AlM : Type := AlD × Bool
end EL
namespace EL
open PySem PySem.Spec PyProof.Rows L2 He
section
variable {P : Program} {w : World} {K : PySem.W.Frag} {mg : Str → Option Value} {base : Heap} {CX : CXT} {k : Nat} {x : Str} {sp : Sp} {params : Arguments} {body : List Stmt} {scope : Scope} {dvs : List V} {fd : FuncData} {ps N : List Str}
end
inductive Kd where
  | non | bl | int | str | lst | tup | dct
  deriving DecidableEq
def kdN : Kd → String
  | .non => "NoneType"
  | .bl => "bool"
  | .int => "int"
  | .str => "str"
  | .lst => "list"
  | .tup => "tuple"
  | .dct => "dict"
end EL
namespace EL
open PySem PySem.Spec PyProof.Rows L2 He TL
section
variable {K : PySem.W.Frag} {x qual : Str} {params : Arguments} {body : List Stmt} {scope : Scope} {dvs : List V} {kws : List (Str × V)} {f : Addr} {fd : FuncData} {ps : List Str}
end
section
variable {X : Cx} {CX : CXT} {k : Nat} {f : Addr} {fd : FuncData} {ps ks : List Str} {sp : Sp} {E : XK} {x : Str} {p pos : Pos} {kws : List Keyword} {tk : TA} {g : List Value → List Value → List Value} {gV : List V → List V → List V}
end
end EL
namespace EL
open PySem PySem.Spec PyProof.Rows L2 He TL
end EL
namespace EL
open PySem PySem.Spec PyProof.Rows L2 He TL
def excCB (K : PySem.W.Frag) (D : Addr) : Bool := eqO (PySem.W.findIn K (.ref D) "__getattribute__") (some (some (.builtin "BaseException.__getattribute__"))) && (eqO (PySem.W.findIn K (.ref D) "__getattr__") (some none) &&
  (decide (PySem.W.subIn K (.ref D) (.type "BaseException") = some true) && (PySem.W.hasDictIn K D && (eqO (PySem.W.findIn K (.ref D) "__class__") (some (some (.builtin "object.__class__"))) &&
  (eqO (PySem.W.specialIn K (.builtin "object.__class__") "__get__") (some (some (.builtin "getset_descriptor.__get__"))) && (decide (PySem.W.takesIn K (.builtin "object.__class__") = some true) && decide (PySem.W.mroIn K D (.type "object") = some true)))))))
end EL
namespace EL
open PySem PySem.Spec PyProof.Rows L2 He TL
end EL
namespace EL
open PySem PySem.Spec PyProof.Rows L2 He TL
end EL
namespace EL
open PySem PySem.Spec PyProof.Rows L2 He TL ClX
def fnWA (K : PySem.W.Frag) (a : Addr) : FnW := match K.lookup a with
  | some ⟨_, _, .func fd, _⟩ => some (fd.name, fd.qualname, fd.params, fd.body, fd.scope, fd.globals, fd.closure, fd.builtins)
  | _ => none
structure DefE where
  ad : PySem.W.Frag → Addr
  name : Str
  qual : Str
  params : Arguments
  body : List Stmt
  scope : Scope
  dfl : List Dv := []
  kwd : List (Str × Dv) := []
def DefE.kws (K : PySem.W.Frag) (d : DefE) : List (Str × V) := d.kwd.map fun q => (q.1, q.2.v K)
def DefE.val (d : DefE) : FnW := some (d.name, d.qual, d.params, .stmts d.body, d.scope, mainGlobals, [], builtinsNs)
def DefE.dvs (K : PySem.W.Frag) (d : DefE) : List V := d.dfl.map (Dv.v K)
def DefE.ok (K : PySem.W.Frag) (d : DefE) : Bool := PySem.W.keepIn K (.ref (d.ad K)) && (match K.lookup (d.ad K) with
  | some ⟨_, _, .func fd, _⟩ => PySem.W.codeIn K fd.code d.qual && (dflB K fd.defaults (d.dvs K) && kwdB K fd.kwdefaults (d.kws K))
  | _ => false)
def obsE (fa : List Fa) (fn : List DefE) (ex : PySem.W.Frag → Bool) (K : PySem.W.Frag) : AlM := (((fa.all fun f => f.ok K) && fn.all fun d => d.ok K, fn.map fun d => fnWA K (d.ad K)), ex K)
def valE (fn : List DefE) : AlM := ((true, fn.map DefE.val), true)
section
variable {fa : List Fa} {fn : List DefE} {ex : PySem.W.Frag → Bool} {K : PySem.W.Frag}
end
def kdL : List Kd := [.non, .bl, .int, .str, .lst, .tup, .dct]
def ocB (K : PySem.W.Frag) (C : Addr) : Bool := (PySem.W.plainGet K C Str.empty && (PySem.W.hasDictIn K C && (PySem.W.plainOver K C && eqO (PySem.W.findIn K (.ref C) "__setattr__") (some (some (.builtin "object.__setattr__")))))) &&
  (eqO (PySem.W.findIn K (.ref C) "__class__") (some (some (.builtin "object.__class__"))) && (eqO (PySem.W.specialIn K (.builtin "object.__class__") "__get__") (some (some (.builtin "getset_descriptor.__get__"))) &&
  (decide (PySem.W.takesIn K (.builtin "object.__class__") = some true) && (decide (PySem.W.mroIn K C (.type "object") = some true) && ((kdL.all fun T => decide (PySem.W.kitOne K (.ref C) (.type (kdN T)) = some false)) &&
  ((kdL.all fun T => decide (PySem.W.kitOne K (.type (kdN T)) (.ref C) = some false)) && decide (PySem.W.kitOne K (.ref C) (.ref C) = some true)))))))
def smB (K : PySem.W.Frag) (C : Addr) (m : Str) : Bool := PySem.W.readsIn K C (.type "type") && (eqO (PySem.W.specialIn K (.ref C) "__getattribute__") (some (some (.builtin "type.__getattribute__"))) &&
  (He5.wrapB K C "staticmethod" "staticmethod.__get__" m && PySem.W.keepIn K (.ref (He5.wf K C "staticmethod" m))))
section
variable {X : Cx} {CX : CXT} {k : Nat} {C f : Addr} {m x : Str} {sp : Sp} {E : L2.St → XK} {o e : Expr} {es : List Expr} {ta : TE} {t : TA} {p apos pos : Pos} {pl : Sem Bool}
end
section
variable {P : Program} {w : World} {K : PySem.W.Frag} {mg : Str → Option Value} {base : Heap} {CX : CXT} {k : Nat} {x qual : Str} {sp : Sp} {params : Arguments} {body : List Stmt} {scope : Scope} {f : Addr} {fd : FuncData} {ps N : List Str}
end
end EL
namespace EX
open PySem PySem.W PySem.Calls PyProof.Rows PySem.HandSPX
def xiB (fl : Str) (me : Expr) (p0 p1 p2 p4 p5 q1 q2 q3 q4 : Pos) : List Stmt :=
  [.Expr (.Call (.Attribute (.Call (.Name "super" p0) [] [] p1) "__init__" p2) [me] [] p4) p5, .Assign [.Attribute (.Name "self" q1) fl q2] (.Name fl q3) q4]
/-- the message: a text, or (fs) f'..{fl}' -/
def MsgOk (fl : Str) (me : Expr) : Bool → Prop
  | false => ∃ (msg : Str) (j : Nat) (p : Pos), me = .Constant (.str msg) j p
  | true => ∃ (msg : Str) (j : Nat) (p p1 p2 p3 : Pos), me = .JoinedStr [.Constant (.str msg) j p, .FormattedValue (.Name fl p1) (-1) none p2] p3 ∧ msg.length ≤ 1000
/-- its head and its scope -/
structure XSc (params : Arguments) (scope : Scope) (fl : Str) : Prop where
  bind : ∀ (name q : Str) (body : List Stmt) (doc pm : Value) (an : Option Addr) (cdv ct : Value) (cc : Addr) (u v : Value), bindArgs (ksFn name q params body scope .none .none doc pm an cdv ct cc) ⟨[u, v], []⟩ = pure [(("self" : Str), u), (fl, v)]
  head : ∃ ar : Arg, (params.posonlyargs ++ params.args).head? = some ar ∧ ar.arg = "self"
  ks : scope.names.lookup ("super" : Str) = some .globalImplicit
  kc : scope.names.lookup ("__class__" : Str) = some .free
  kself : scope.names.lookup ("self" : Str) = some .local
  kf : scope.names.lookup fl = some .local
  kind : scope.kind = .function
  ncell : ∀ x ∈ scope.names, x.2 ≠ .cell
  co : scope.isCoroutine = false
  gen : scope.isGenerator = false
  ne : fl ≠ "self"
  dbg : (fl == ("__debug__" : Str)) = false
section
variable {prog : Program} {w : World} {A : Around} {E : Value → Shared → Prop} {R : Result → Shared → Prop} {s : Shared} {K : Frag} {C fI cc cda : Addr} {fl file : Str} {mg mb : Str → Option Value}
end
end EX
namespace EL
open PySem PySem.Spec PyProof.Rows L2 He TL
section
variable {X : Cx} {x fl file : Str}
end
end EL
namespace EL
open PySem PySem.W PySem.Spec PyProof.Rows He
def xclB (K : Frag) (C : Addr) : Bool := match K.lookup C with
  | some ⟨.type "type", _, .cls cd, sl⟩ => (match cd.mro, sl.toList with
    | .ref C' :: bm, [_, _, _, _, some (.builtin n), _] => C' == C && n == "ValueError.__new__" && !cd.hasDel && cd.hasDict && HandSPX.refsVE bm
    | _, _ => false)
  | _ => false
/-- closure, code, defaults of its __init__ -/
def xfnB (K : Frag) (C f : Addr) (q file : Str) : Bool := match K.lookup f with
  | some ⟨_, _, .func fd, _⟩ => (match fd.closure, fd.code, fd.defaults, fd.kwdefaults with
    | [(_, cc)], .ref cda, .none, .none => (match K.lookup cc with
      | some ⟨_, _, .cell (some (.ref D)), _⟩ => decide (D = C)
      | _ => false) && ((match K.lookup cda with
      | some ⟨_, _, .fields vs, _⟩ => (match (vs[2]? : Option Value) with
        | some (Value.str fi _) => decide (fi = file)
        | _ => false)
      | _ => false) && codeIn K (.ref cda) q)
    | _, _, _, _ => false)
  | _ => false
def xtB (K : Frag) (x fl file : Str) : Bool := xclB K (ga K x) && (eqO (findIn K (.ref (ga K x)) "__setattr__") (some (some (.builtin "object.__setattr__"))) && (eqO (findIn K (.ref (ga K x)) fl) (some none) &&
  (eqO (findIn K (.ref (ga K x)) "__init__") (some (some (.ref (ma K (ga K x) "__init__")))) && (decide (typeIn K (.ref (ma K (ga K x) "__init__")) = some (.type "function")) && (decide (subIn K (.ref (ga K x)) (.type "ValueError") = some true) &&
  (decide (mroIn K (ga K x) (.ref (ga K x)) = some true) && (eqO (ks_superIn K (ga K x) (ga K x) "__init__") (some (some (.builtin "ValueError.__init__"))) && (eqO (nsIn K cStatics "thirdparty.any") (some none) &&
  (keepIn K (.ref (ga K x)) && (decide (subIn K (.ref (ga K x)) (.type "BaseException") = some true) && (decide (typeIn K (.ref (ga K x)) = some (.type "type")) && (L2.xfB K (ga K x) && xfnB K (ga K x) (ma K (ga K x) "__init__") (x ++ ".__init__") file))))))))))))
/-- what of a def with a closure is looked at (the cells' places not) -/
def fnWX (K : Frag) (a : Addr) : FnW := match K.lookup a with
  | some ⟨_, _, .func fd, _⟩ => some (fd.name, fd.qualname, fd.params, fd.body, fd.scope, fd.globals, fd.closure.map fun z => (z.1, 0), fd.builtins)
  | _ => none
structure DefX where
  cls : Str
  fl : Str
  st : Stmt
  fs : Bool
def DefX.val (d : DefX) : FnW := some ("__init__", d.cls ++ ".__init__", L2.defArgs d.st, .stmts (L2.defBody d.st), L2.defScope d.st, mainGlobals, [("__class__", 0)], builtinsNs)
def DefX.ad (K : Frag) (d : DefX) : Addr := ma K (ga K d.cls) "__init__"
/-- its text, as it was written -/
structure XW (d : DefX) : Prop where
  sc : EX.XSc (L2.defArgs d.st) (L2.defScope d.st) d.fl
  body : ∃ (me : Expr) (p0 p1 p2 p4 p5 q1 q2 q3 q4 : Pos), L2.defBody d.st = EX.xiB d.fl me p0 p1 p2 p4 p5 q1 q2 q3 q4 ∧ (p2.endLine == p4.line) = true ∧ EX.MsgOk d.fl me d.fs
end EL
namespace EL
open PySem PySem.Spec PyProof.Rows L2 He TL
abbrev AlX : Type := AlM × List FnW
def obsX (fa : List Fa) (fn : List DefE) (xn : List DefX) (ex : PySem.W.Frag → Bool) (K : PySem.W.Frag) : AlX := (obsE fa fn ex K, xn.map fun d => fnWX K (d.ad K))
def valX (fn : List DefE) (xn : List DefX) : AlX := (valE fn, xn.map DefX.val)
section
variable {fa : List Fa} {fn : List DefE} {xn : List DefX} {ex : PySem.W.Frag → Bool} {K : PySem.W.Frag}
end
end EL
namespace EL
open PySem PySem.Spec PyProof.Rows L2 He TL
section
variable {X : Cx} {CX : CXT} {k : Nat} {C g : Addr} {sp : Sp} {E : XK}
end
end EL
namespace EL
open PySem PySem.Spec PyProof.Rows L2 He TL
section
variable {X : Cx} {body : List Stmt} {h₀ : ExceptHandler} {hds : List ExceptHandler} {l : List Cl1} {pos : Pos} {tb : WX → TS} {Wout : WX}
end
end EL
namespace EL
open PySem PySem.Spec PyProof.Rows L2 He TL
section
variable {X : Cx}
end
end EL
namespace EL
open PySem PySem.Spec PyProof.Rows L2 He TL
section
variable {S S' : List Addr} {H H1 H2 : Hp} {K : PySem.W.Frag} {a p : Addr} {o o' : HO}
end
def tupAB (K : PySem.W.Frag) (a : Addr) : Bool := match K.lookup a with
  | some ⟨.type c, _, .seq its _, _⟩ => decide (c = "tuple") && decide (its = #[])
  | _ => false
end EL
namespace EL
open PySem PySem.Spec PyProof.Rows L2 He TL
section
variable {X : Cx}
end
def dunB (K : PySem.W.Frag) (C : Addr) (m : Str) : Bool := eqO (PySem.W.findIn K (.ref C) m) (some (some (.ref (ma K C m)))) && PySem.W.isFn K (.ref (ma K C m))
abbrev AlY : Type := AlX × List (Option (List (Option (Str × Int))))
def obsY (fa : List Fa) (fn : List DefE) (xn : List DefX) (ts : List Tab) (ex : PySem.W.Frag → Bool) (K : PySem.W.Frag) : AlY := (obsX fa fn xn ex K, ts.map fun t => dicW K (t.1 K))
def valY (fn : List DefE) (xn : List DefX) (ts : List Tab) (w : World) : AlY := (valX fn xn, ts.map fun t => some (keysIn w.params t.2))
def SaysY (fa : List Fa) (fn : List DefE) (xn : List DefX) (ts : List Tab) (ex : PySem.W.Frag → Bool) (w : World) (K : PySem.W.Frag) : Prop := obsY fa fn xn ts ex K = valY fn xn ts w
section
variable {fa : List Fa} {fn : List DefE} {xn : List DefX} {ts : List Tab} {ex : PySem.W.Frag → Bool} {w : World} {K : PySem.W.Frag}
end
end EL
namespace EL
open PySem PySem.Spec PyProof.Rows L2 He TL
end EL
namespace EL
open PySem PySem.Spec PyProof.Rows L2 He TL
section
variable {K : PySem.W.Frag} {S S' : List Addr} {H H' : Hp}
end
section
variable {X : Cx}
end
section
variable {X : Cx} {CX : CXT} {k n : Nat} {f : Addr} {fd : FuncData} {ps ks : List Str} {sp : Sp} {E : L2.St → XK} {x : Str} {p pos : Pos} {e : Expr} {es : List Expr} {kws : List Keyword} {t tk : TA} {g : List Value → List Value → List Value} {gV : List V → List V → List V}
end
end EL
namespace EL
open PySem PySem.Spec PyProof.Rows L2 He TL
section
variable {prog : Program} {w : World} {A : Around} {E : Value → Shared → Prop} {s : Shared} {K : PySem.W.Frag} {C g x : Addr} {ox : Obj} {od : Option Obj} {b tb : Value}
end
section
variable {X : Cx} {CX : CXT} {k : Nat} {C g : Addr} {sp : Sp} {E : XK}
end
end EL
namespace EL
open PySem PySem.Spec PyProof.Rows L2 He TL
def obsZG (as : List Addr) (fa : List Fa) (fn : List DefE) (xn : List DefX) (ts : List Tab) (ex : PySem.W.Frag → Bool) (g : Addr → Option Obj) : AlY := obsY fa fn xn ts ex (frG g as)
def hookZ (as : List Addr) (fa : List Fa) (fn : List DefE) (xn : List DefX) (ts : List Tab) (ex : PySem.W.Frag → Bool) : PySem.W.Hook where
  α := AlY
  obs := fun s => obsZG as fa fn xn ts ex s.heap.get?
  val := fun w => valY fn xn ts w
  says := fun w h => ∃ K : PySem.W.Frag, K.In h ∧ SaysY fa fn xn ts ex w K
  of := fun _ _ e => ⟨_, frG_in, e⟩
  keeps := fun _ _ _ ⟨K, hK, c⟩ k => ⟨K, PySem.W.Frag.In.keeps hK k, c⟩
theorem obsZG_eq {as : List Addr} {fa : List Fa} {fn : List DefE} {xn : List DefX} {ts : List Tab} {ex : PySem.W.Frag → Bool} {g : Addr → Option Obj} {s : Shared} (h : ∀ a, g a = s.heap.get? a) : obsZG as fa fn xn ts ex g = (hookZ as fa fn xn ts ex).obs s := by
  have e : g = s.heap.get? := funext h
  rw [e] <;> rfl
end EL
namespace EL
open PySem PySem.Spec PyProof.Rows L2 He TL
open AutoSeq1 (wpAny_loadPart')
open MeetsSeq MeetsSeq2 MeetsSeq3 SeqRoads2
end EL
namespace EL
open PySem PySem.Spec PyProof.Rows L2 He TL
section
variable {X : Cx} {CX : CXT} {k : Nat} {C g : Addr} {sp : Sp} {E : XK}
end
end EL
namespace EL
open PySem PySem.Spec PyProof.Rows L2 He TL
end EL
namespace EL
open PySem PySem.Spec PyProof.Rows L2 He TL
noncomputable abbrev endR (r : PySem.W.OpenRow) (M : Nat) (w : World) (os : OsState) : Option PySem.W.SharedT := HandSHeadRun.endF (HandSHeadRun.stepQ (HandSHeadRun.denQ HandSHeadRun.tabQ) r.prog w) M r.prog w os
def RunL (r : PySem.W.OpenRow) (M : Nat) (w : World) : Prop := ∀ os : OsState, (endR r M w os).map (fun s => HandSHeadRun.looksF r.prog (PySem.W.boot_heap w.params) s.abs) = some true
def RunS (r : PySem.W.OpenRow) (q : Program) (loose : List Str) (M : Nat) (w : World) : Prop := ∀ os : OsState, (endR r M w os).map (fun s => HandSHeadRun.seenQ q loose (importedModules r.prog.main.body) (fun s => PySem.W.xlAt q [] s && PySem.W.recOk r.toRowW.records s) s.abs) = some (PySem.W.openGood q loose)
def RunO (r : PySem.W.OpenRow) (as : List Addr) (fa : List Fa) (fn : List DefE) (xn : List DefX) (ts : List Tab) (ex : PySem.W.Frag → Bool) (M : Nat) (w : World) : Prop :=
  ∀ os : OsState, (endR r M w os).map (fun s => obsZG as fa fn xn ts ex (HandSHeadRun.getT s)) = some (valY fn xn ts w)
variable {r : PySem.W.OpenRow} {q : Program} {as : List Addr} {fa : List Fa} {fn : List DefE} {xn : List DefX} {ts : List Tab} {ex : PySem.W.Frag → Bool} {M : Nat} {loose : List Str} {w : World}
theorem run_cat (n m : Nat) (h1 : RunO r as (fa.take n) (fn.take m) xn ts ex M w) (h2 : RunO r as (fa.drop n) (fn.drop m) [] [] (fun _ => true) M w) : RunO r as fa fn xn ts ex M w := by
  intro os
  have a := h1 os
  have b := h2 os
  revert a b
  generalize endR r M w os = z
  intro a b
  cases z with
  | none => cases a
  | some s =>
    have a3 := Option.some.inj a
    have b3 := Option.some.inj b
    refine congrArg some ?_
    generalize hK : frG (HandSHeadRun.getT s) as = K
    have a3 : obsY (fa.take n) (fn.take m) xn ts ex K = valY (fn.take m) xn ts w := hK ▸ a3
    have b3 : obsY (fa.drop n) (fn.drop m) [] [] (fun _ => true) K = valY (fn.drop m) [] [] w := hK ▸ b3
    show obsY fa fn xn ts ex (frG (HandSHeadRun.getT s) as) = valY fn xn ts w
    rw [hK]
    obtain ⟨a4, a5⟩ := Prod.mk.inj a3
    obtain ⟨a6, a7⟩ := Prod.mk.inj a4
    obtain ⟨a8, a9⟩ := Prod.mk.inj a6
    obtain ⟨a10, a11⟩ := Prod.mk.inj a8
    obtain ⟨b4, _⟩ := Prod.mk.inj b3
    obtain ⟨b6, _⟩ := Prod.mk.inj b4
    obtain ⟨b8, _⟩ := Prod.mk.inj b6
    obtain ⟨b10, b11⟩ := Prod.mk.inj b8
    obtain ⟨u1, u2⟩ := ba a10
    obtain ⟨v1, v2⟩ := ba b10
    refine Prod.ext (Prod.ext (Prod.ext (Prod.ext ?_ ?_) a9) a7) a5
    · show ((fa.all fun f => f.ok K) && fn.all fun d => d.ok K) = true
      have e1 : (fa.all fun f => f.ok K) = true := by
        rw [← List.take_append_drop n fa, List.all_append, u1, v1]
        rfl
      have e2 : (fn.all fun d => d.ok K) = true := by
        rw [← List.take_append_drop m fn, List.all_append, u2, v2]
        rfl
      rw [e1, e2]
      rfl
    · show (fn.map fun d => fnWA K (d.ad K)) = fn.map DefE.val
      rw [← List.take_append_drop m fn, List.map_append, List.map_append]
      exact congr (congrArg _ a11) b11
theorem run_all (h1 : RunL r M w) (h2 : RunS r q loose M w) (h3 : RunO r as fa fn xn ts ex M w) : HandSHeadRun.RunEq r q (hookZ as fa fn xn ts ex) (fun s => obsZG as fa fn xn ts ex (HandSHeadRun.getT s)) M loose w := by
  intro os
  have a := h1 os
  have b := h2 os
  have c := h3 os
  revert a b c
  show _ → _ → _ → (endR r M w os).map _ = _
  generalize endR r M w os = z
  intro a b c
  cases z with
  | none => cases a
  | some s => exact congrArg some (Prod.ext (Option.some.inj a) (Prod.ext (Option.some.inj b) (Option.some.inj c)))
end EL
namespace K51
open PySem PySem.Spec PyProof.Rows L2 He TL EL
def topS (i : Nat) : Stmt := PySem.Challenge.pw_endlessasks_k51_stocks_chosen.main.body.getD i (.Pass ⟨0, 0, 0, 0⟩)
abbrev s_NoRule___init__ : Stmt := (inClass (topS 12) 0)
def xw_NoRule : EL.DefX := ⟨"NoRule", "reason", s_NoRule___init__, true⟩
theorem xwok_NoRule : EL.XW xw_NoRule := ⟨⟨fun _ _ _ _ _ _ _ _ _ _ _ => rfl, ⟨_, rfl, rfl⟩, rfl, rfl, rfl, rfl, rfl, by decide +kernel, rfl, rfl, by decide +kernel, by decide +kernel⟩, ⟨_, _, _, _, _, _, _, _, _, _, rfl, by decide, ⟨_, _, _, _, _, _, rfl, by decide⟩⟩⟩
abbrev s_NoTable___init__ : Stmt := (inClass (topS 9) 0)
def xw_NoTable : EL.DefX := ⟨"NoTable", "name", s_NoTable___init__, false⟩
theorem xwok_NoTable : EL.XW xw_NoTable := ⟨⟨fun _ _ _ _ _ _ _ _ _ _ _ => rfl, ⟨_, rfl, rfl⟩, rfl, rfl, rfl, rfl, rfl, by decide +kernel, rfl, rfl, by decide +kernel, by decide +kernel⟩, ⟨_, _, _, _, _, _, _, _, _, _, rfl, by decide, ⟨_, _, _, rfl⟩⟩⟩
abbrev s_TwoAnswers___init__ : Stmt := (inClass (topS 14) 0)
def xw_TwoAnswers : EL.DefX := ⟨"TwoAnswers", "name", s_TwoAnswers___init__, false⟩
theorem xwok_TwoAnswers : EL.XW xw_TwoAnswers := ⟨⟨fun _ _ _ _ _ _ _ _ _ _ _ => rfl, ⟨_, rfl, rfl⟩, rfl, rfl, rfl, rfl, rfl, by decide +kernel, rfl, rfl, by decide +kernel, by decide +kernel⟩, ⟨_, _, _, _, _, _, _, _, _, _, rfl, by decide, ⟨_, _, _, rfl⟩⟩⟩
abbrev s_NoStock___init__ : Stmt := (inClass (topS 18) 0)
def xw_NoStock : EL.DefX := ⟨"NoStock", "index", s_NoStock___init__, false⟩
theorem xwok_NoStock : EL.XW xw_NoStock := ⟨⟨fun _ _ _ _ _ _ _ _ _ _ _ => rfl, ⟨_, rfl, rfl⟩, rfl, rfl, rfl, rfl, rfl, by decide +kernel, rfl, rfl, by decide +kernel, by decide +kernel⟩, ⟨_, _, _, _, _, _, _, _, _, _, rfl, by decide, ⟨_, _, _, rfl⟩⟩⟩
abbrev s_is_whole : Stmt := (topS 23)
abbrev s_is_word : Stmt := (topS 24)
abbrev s_common_divisor : Stmt := (topS 25)
abbrev s_is_value : Stmt := (topS 27)
abbrev s_less : Stmt := (topS 28)
abbrev s_is_term : Stmt := (topS 34)
abbrev s_is_atom : Stmt := (topS 35)
abbrev s_Conditions___init__ : Stmt := (inClass (topS 37) 0)
abbrev s_Conditions_atoms : Stmt := (inClass (topS 37) 1)
abbrev s_Conditions___len__ : Stmt := (inClass (topS 37) 2)
abbrev s_Conditions___eq__ : Stmt := (inClass (topS 37) 3)
abbrev s_Conditions___and__ : Stmt := (inClass (topS 37) 5)
abbrev s_Conditions___iand__ : Stmt := (inClass (topS 37) 6)
abbrev s_Cell___init__ : Stmt := (inClass (topS 38) 0)
abbrev s_Cell_of : Stmt := (inClass (topS 38) 2)
abbrev s_Maker___init__ : Stmt := (inClass (topS 39) 0)
abbrev s_Maker_terms : Stmt := (inClass (topS 39) 1)
abbrev s_Maker___len__ : Stmt := (inClass (topS 39) 2)
abbrev s_Maker___eq__ : Stmt := (inClass (topS 39) 3)
abbrev s_is_column_count : Stmt := (topS 65)
abbrev s_names_cells : Stmt := (topS 67)
abbrev s_are_row_rules : Stmt := (topS 68)
abbrev s_Schema___init__ : Stmt := (inClass (topS 69) 0)
abbrev s_Schema___len__ : Stmt := (inClass (topS 69) 1)
abbrev s_Schema___contains__ : Stmt := (inClass (topS 69) 3)
abbrev s_Schema_names : Stmt := (inClass (topS 69) 5)
abbrev s_Schema_add : Stmt := (inClass (topS 69) 6)
abbrev s_Schema_columns : Stmt := (inClass (topS 69) 7)
abbrev s_Schema_rules : Stmt := (inClass (topS 69) 8)
abbrev s_Schema_narrow : Stmt := (inClass (topS 69) 9)
abbrev s_Schema_twin : Stmt := (inClass (topS 69) 11)
abbrev s_is_stock_item : Stmt := (topS 91)
abbrev s_look_at_stock : Stmt := (topS 92)
abbrev s_is_chosen : Stmt := (topS 93)
abbrev s_with_stock : Stmt := (topS 94)
abbrev s_least_sets : Stmt := (topS 96)
abbrev s_floors : Stmt := (topS 97)
abbrev s_are_words : Stmt := (topS 101)
abbrev s_maker_of : Stmt := (topS 102)
abbrev s_Rule___init__ : Stmt := (inClass (topS 103) 0)
abbrev s_Rule_is_step : Stmt := (inClass (topS 103) 1)
abbrev s_Rule_answer : Stmt := (inClass (topS 103) 2)
abbrev s_Rule_old : Stmt := (inClass (topS 103) 3)
abbrev s_Rule_tables : Stmt := (inClass (topS 103) 4)
abbrev s_Rule_maker : Stmt := (inClass (topS 103) 5)
abbrev s_Rule_conditions : Stmt := (inClass (topS 103) 6)
abbrev s_Rule_depths : Stmt := (inClass (topS 103) 8)
abbrev s_Rule___eq__ : Stmt := (inClass (topS 103) 10)
abbrev s_base : Stmt := (topS 104)
abbrev s_Question___init__ : Stmt := (inClass (topS 106) 0)
abbrev s_Question___len__ : Stmt := (inClass (topS 106) 1)
abbrev s_Question_schema : Stmt := (inClass (topS 106) 4)
abbrev s_Question_answers : Stmt := (inClass (topS 106) 5)
abbrev s_Question_places_of : Stmt := (inClass (topS 106) 6)
abbrev s_Question_look : Stmt := (inClass (topS 106) 7)
abbrev s_Question_add : Stmt := (inClass (topS 106) 8)
abbrev s_Question_rule : Stmt := (inClass (topS 106) 9)
abbrev s_Question_narrow : Stmt := (inClass (topS 106) 10)
abbrev s_Question_without : Stmt := (inClass (topS 106) 11)
abbrev s_Question_twin : Stmt := (inClass (topS 106) 12)
abbrev s__law_begin : Stmt := (topS 108)
abbrev s__law_draw : Stmt := (topS 109)
abbrev s__law_atom : Stmt := (topS 110)
abbrev s__law_rules : Stmt := (topS 111)
abbrev s__law_item : Stmt := (topS 112)
abbrev s__law_wrong : Stmt := (topS 113)
abbrev s__law_asked : Stmt := (topS 114)
abbrev s__law_choice_refused : Stmt := (topS 115)
abbrev s__law_is : Stmt := (topS 116)
abbrev s__law_wrong_choices : Stmt := (topS 117)
abbrev s__law_begun : Stmt := (topS 118)
abbrev s__law_good : Stmt := (topS 119)
abbrev s_law : Stmt := (topS 120)
theorem sc_is_whole : FnScope ["thing"] ["thing"] (defScope s_is_whole) := ⟨rfl, rfl, rfl, by decide +kernel, rfl, by decide +kernel, by decide +kernel⟩
theorem sc_is_word : FnScope ["thing", "letter"] ["thing"] (defScope s_is_word) := ⟨rfl, rfl, rfl, by decide +kernel, rfl, by decide +kernel, by decide +kernel⟩
theorem sc_common_divisor : FnScope ["one", "other"] ["one", "other"] (defScope s_common_divisor) := ⟨rfl, rfl, rfl, by decide +kernel, rfl, by decide +kernel, by decide +kernel⟩
theorem sc_is_value : FnScope ["thing"] ["thing"] (defScope s_is_value) := ⟨rfl, rfl, rfl, by decide +kernel, rfl, by decide +kernel, by decide +kernel⟩
theorem sc_less : FnScope ["one", "other"] ["one", "other"] (defScope s_less) := ⟨rfl, rfl, rfl, by decide +kernel, rfl, by decide +kernel, by decide +kernel⟩
theorem sc_is_term : FnScope ["thing"] ["thing"] (defScope s_is_term) := ⟨rfl, rfl, rfl, by decide +kernel, rfl, by decide +kernel, by decide +kernel⟩
theorem sc_is_atom : FnScope ["thing"] ["thing"] (defScope s_is_atom) := ⟨rfl, rfl, rfl, by decide +kernel, rfl, by decide +kernel, by decide +kernel⟩
theorem sc_Conditions___init__ : FnScope ["self", "atoms", "kept", "atom"] ["self", "atoms"] (defScope s_Conditions___init__) := ⟨rfl, rfl, rfl, by decide +kernel, rfl, by decide +kernel, by decide +kernel⟩
theorem sc_Conditions_atoms : FnScope ["self"] ["self"] (defScope s_Conditions_atoms) := ⟨rfl, rfl, rfl, by decide +kernel, rfl, by decide +kernel, by decide +kernel⟩
theorem sc_Conditions___len__ : FnScope ["self"] ["self"] (defScope s_Conditions___len__) := ⟨rfl, rfl, rfl, by decide +kernel, rfl, by decide +kernel, by decide +kernel⟩
theorem sc_Conditions___eq__ : FnScope ["self", "other"] ["self", "other"] (defScope s_Conditions___eq__) := ⟨rfl, rfl, rfl, by decide +kernel, rfl, by decide +kernel, by decide +kernel⟩
theorem sc_Conditions___and__ : FnScope ["self", "other"] ["self", "other"] (defScope s_Conditions___and__) := ⟨rfl, rfl, rfl, by decide +kernel, rfl, by decide +kernel, by decide +kernel⟩
theorem sc_Conditions___iand__ : FnScope ["self", "other"] ["self", "other"] (defScope s_Conditions___iand__) := ⟨rfl, rfl, rfl, by decide +kernel, rfl, by decide +kernel, by decide +kernel⟩
theorem sc_Cell___init__ : FnScope ["self", "place", "at"] ["self", "place", "at"] (defScope s_Cell___init__) := ⟨rfl, rfl, rfl, by decide +kernel, rfl, by decide +kernel, by decide +kernel⟩
theorem sc_Cell_of : FnScope ["thing"] ["thing"] (defScope s_Cell_of) := ⟨rfl, rfl, rfl, by decide +kernel, rfl, by decide +kernel, by decide +kernel⟩
theorem sc_Maker___init__ : FnScope ["self", "terms", "kept", "term"] ["self", "terms"] (defScope s_Maker___init__) := ⟨rfl, rfl, rfl, by decide +kernel, rfl, by decide +kernel, by decide +kernel⟩
theorem sc_Maker_terms : FnScope ["self"] ["self"] (defScope s_Maker_terms) := ⟨rfl, rfl, rfl, by decide +kernel, rfl, by decide +kernel, by decide +kernel⟩
theorem sc_Maker___len__ : FnScope ["self"] ["self"] (defScope s_Maker___len__) := ⟨rfl, rfl, rfl, by decide +kernel, rfl, by decide +kernel, by decide +kernel⟩
theorem sc_Maker___eq__ : FnScope ["self", "other"] ["self", "other"] (defScope s_Maker___eq__) := ⟨rfl, rfl, rfl, by decide +kernel, rfl, by decide +kernel, by decide +kernel⟩
theorem sc_is_column_count : FnScope ["thing"] ["thing"] (defScope s_is_column_count) := ⟨rfl, rfl, rfl, by decide +kernel, rfl, by decide +kernel, by decide +kernel⟩
theorem sc_names_cells : FnScope ["conditions", "places", "sign", "left", "right", "term"] ["conditions", "places"] (defScope s_names_cells) := ⟨rfl, rfl, rfl, by decide +kernel, rfl, by decide +kernel, by decide +kernel⟩
theorem sc_are_row_rules : FnScope ["thing", "columns"] ["thing", "columns"] (defScope s_are_row_rules) := ⟨rfl, rfl, rfl, by decide +kernel, rfl, by decide +kernel, by decide +kernel⟩
theorem sc_Schema___init__ : FnScope ["self", "widths", "limits"] ["self", "widths", "limits"] (defScope s_Schema___init__) := ⟨rfl, rfl, rfl, by decide +kernel, rfl, by decide +kernel, by decide +kernel⟩
theorem sc_Schema___len__ : FnScope ["self"] ["self"] (defScope s_Schema___len__) := ⟨rfl, rfl, rfl, by decide +kernel, rfl, by decide +kernel, by decide +kernel⟩
theorem sc_Schema___contains__ : FnScope ["self", "thing"] ["self", "thing"] (defScope s_Schema___contains__) := ⟨rfl, rfl, rfl, by decide +kernel, rfl, by decide +kernel, by decide +kernel⟩
theorem sc_Schema_names : FnScope ["self"] ["self"] (defScope s_Schema_names) := ⟨rfl, rfl, rfl, by decide +kernel, rfl, by decide +kernel, by decide +kernel⟩
theorem sc_Schema_add : FnScope ["self", "name", "columns", "rules"] ["self", "name", "columns", "rules"] (defScope s_Schema_add) := ⟨rfl, rfl, rfl, by decide +kernel, rfl, by decide +kernel, by decide +kernel⟩
theorem sc_Schema_columns : FnScope ["self", "name"] ["self", "name"] (defScope s_Schema_columns) := ⟨rfl, rfl, rfl, by decide +kernel, rfl, by decide +kernel, by decide +kernel⟩
theorem sc_Schema_rules : FnScope ["self", "name"] ["self", "name"] (defScope s_Schema_rules) := ⟨rfl, rfl, rfl, by decide +kernel, rfl, by decide +kernel, by decide +kernel⟩
theorem sc_Schema_narrow : FnScope ["self", "name", "rules", "columns"] ["self", "name", "rules"] (defScope s_Schema_narrow) := ⟨rfl, rfl, rfl, by decide +kernel, rfl, by decide +kernel, by decide +kernel⟩
theorem sc_Schema_twin : FnScope ["self"] ["self"] (defScope s_Schema_twin) := ⟨rfl, rfl, rfl, by decide +kernel, rfl, by decide +kernel, by decide +kernel⟩
theorem sc_is_stock_item : FnScope ["schema", "thing"] ["schema", "thing"] (defScope s_is_stock_item) := ⟨rfl, rfl, rfl, by decide +kernel, rfl, by decide +kernel, by decide +kernel⟩
theorem sc_look_at_stock : FnScope ["question", "stock", "schema", "index", "item"] ["question", "stock"] (defScope s_look_at_stock) := ⟨rfl, rfl, rfl, by decide +kernel, rfl, by decide +kernel, by decide +kernel⟩
theorem sc_is_chosen : FnScope ["thing", "many", "least", "index"] ["thing", "many"] (defScope s_is_chosen) := ⟨rfl, rfl, rfl, by decide +kernel, rfl, by decide +kernel, by decide +kernel⟩
theorem sc_with_stock : FnScope ["question", "stock", "chosen", "other", "index", "name", "rules"] ["question", "stock", "chosen"] (defScope s_with_stock) := ⟨rfl, rfl, rfl, by decide +kernel, rfl, by decide +kernel, by decide +kernel⟩
theorem sc_least_sets : FnScope ["question", "stock", "found", "chosen", "index", "one"] ["question", "stock"] (defScope s_least_sets) := ⟨rfl, rfl, rfl, by decide +kernel, rfl, by decide +kernel, by decide +kernel⟩
theorem sc_floors : FnScope ["question", "stock", "found", "least", "index", "chosen", "other"] ["question", "stock"] (defScope s_floors) := ⟨rfl, rfl, rfl, by decide +kernel, rfl, by decide +kernel, by decide +kernel⟩
theorem sc_are_words : FnScope ["thing", "least", "word"] ["thing", "least"] (defScope s_are_words) := ⟨rfl, rfl, rfl, by decide +kernel, rfl, by decide +kernel, by decide +kernel⟩
theorem sc_maker_of : FnScope ["thing", "item"] ["thing"] (defScope s_maker_of) := ⟨rfl, rfl, rfl, by decide +kernel, rfl, by decide +kernel, by decide +kernel⟩
theorem sc_Rule___init__ : FnScope ["self", "answer", "old", "tables", "maker", "conditions", "depths"] ["self", "answer", "old", "tables", "maker", "conditions", "depths"] (defScope s_Rule___init__) := ⟨rfl, rfl, rfl, by decide +kernel, rfl, by decide +kernel, by decide +kernel⟩
theorem sc_Rule_is_step : FnScope ["self"] ["self"] (defScope s_Rule_is_step) := ⟨rfl, rfl, rfl, by decide +kernel, rfl, by decide +kernel, by decide +kernel⟩
theorem sc_Rule_answer : FnScope ["self"] ["self"] (defScope s_Rule_answer) := ⟨rfl, rfl, rfl, by decide +kernel, rfl, by decide +kernel, by decide +kernel⟩
theorem sc_Rule_old : FnScope ["self"] ["self"] (defScope s_Rule_old) := ⟨rfl, rfl, rfl, by decide +kernel, rfl, by decide +kernel, by decide +kernel⟩
theorem sc_Rule_tables : FnScope ["self"] ["self"] (defScope s_Rule_tables) := ⟨rfl, rfl, rfl, by decide +kernel, rfl, by decide +kernel, by decide +kernel⟩
theorem sc_Rule_maker : FnScope ["self"] ["self"] (defScope s_Rule_maker) := ⟨rfl, rfl, rfl, by decide +kernel, rfl, by decide +kernel, by decide +kernel⟩
theorem sc_Rule_conditions : FnScope ["self"] ["self"] (defScope s_Rule_conditions) := ⟨rfl, rfl, rfl, by decide +kernel, rfl, by decide +kernel, by decide +kernel⟩
theorem sc_Rule_depths : FnScope ["self"] ["self"] (defScope s_Rule_depths) := ⟨rfl, rfl, rfl, by decide +kernel, rfl, by decide +kernel, by decide +kernel⟩
theorem sc_Rule___eq__ : FnScope ["self", "other"] ["self", "other"] (defScope s_Rule___eq__) := ⟨rfl, rfl, rfl, by decide +kernel, rfl, by decide +kernel, by decide +kernel⟩
theorem sc_base : FnScope ["answer", "tables", "makes", "conditions", "maker", "atoms"] ["answer", "tables", "makes", "conditions"] (defScope s_base) := ⟨rfl, rfl, rfl, by decide +kernel, rfl, by decide +kernel, by decide +kernel⟩
theorem sc_Question___init__ : FnScope ["self", "schema", "answers", "steps", "extra", "name", "columns"] ["self", "schema", "answers", "steps", "extra"] (defScope s_Question___init__) := ⟨rfl, rfl, rfl, by decide +kernel, rfl, by decide +kernel, by decide +kernel⟩
theorem sc_Question___len__ : FnScope ["self"] ["self"] (defScope s_Question___len__) := ⟨rfl, rfl, rfl, by decide +kernel, rfl, by decide +kernel, by decide +kernel⟩
theorem sc_Question_schema : FnScope ["self"] ["self"] (defScope s_Question_schema) := ⟨rfl, rfl, rfl, by decide +kernel, rfl, by decide +kernel, by decide +kernel⟩
theorem sc_Question_answers : FnScope ["self"] ["self"] (defScope s_Question_answers) := ⟨rfl, rfl, rfl, by decide +kernel, rfl, by decide +kernel, by decide +kernel⟩
theorem sc_Question_places_of : FnScope ["self", "rule", "places", "place", "name"] ["self", "rule"] (defScope s_Question_places_of) := ⟨rfl, rfl, rfl, by decide +kernel, rfl, by decide +kernel, by decide +kernel⟩
theorem sc_Question_look : FnScope ["self", "rule", "name", "places", "term"] ["self", "rule"] (defScope s_Question_look) := ⟨rfl, rfl, rfl, by decide +kernel, rfl, by decide +kernel, by decide +kernel⟩
theorem sc_Question_add : FnScope ["self", "rule"] ["self", "rule"] (defScope s_Question_add) := ⟨rfl, rfl, rfl, by decide +kernel, rfl, by decide +kernel, by decide +kernel⟩
theorem sc_Question_rule : FnScope ["self", "number"] ["self", "number"] (defScope s_Question_rule) := ⟨rfl, rfl, rfl, by decide +kernel, rfl, by decide +kernel, by decide +kernel⟩
theorem sc_Question_narrow : FnScope ["self", "name", "rules", "form"] ["self", "name", "rules"] (defScope s_Question_narrow) := ⟨rfl, rfl, rfl, by decide +kernel, rfl, by decide +kernel, by decide +kernel⟩
theorem sc_Question_without : FnScope ["self", "number", "other"] ["self", "number"] (defScope s_Question_without) := ⟨rfl, rfl, rfl, by decide +kernel, rfl, by decide +kernel, by decide +kernel⟩
theorem sc_Question_twin : FnScope ["self"] ["self"] (defScope s_Question_twin) := ⟨rfl, rfl, rfl, by decide +kernel, rfl, by decide +kernel, by decide +kernel⟩
theorem sc__law_begin : FnScope ["_law_script"] ["_law_script"] (defScope s__law_begin) := ⟨rfl, rfl, rfl, by decide +kernel, rfl, by decide +kernel, by decide +kernel⟩
theorem sc__law_draw : FnScope ["_law_source", "_law_limit", "_law_cell", "_law_digit"] ["_law_source", "_law_limit"] (defScope s__law_draw) := ⟨rfl, rfl, rfl, by decide +kernel, rfl, by decide +kernel, by decide +kernel⟩
theorem sc__law_atom : FnScope ["_law_source", "_law_columns", "_law_sign", "_law_left"] ["_law_source", "_law_columns"] (defScope s__law_atom) := ⟨rfl, rfl, rfl, by decide +kernel, rfl, by decide +kernel, by decide +kernel⟩
theorem sc__law_rules : FnScope ["_law_source", "_law_columns", "_law_atoms", "_law_turn", "_law_atom_here"] ["_law_source", "_law_columns"] (defScope s__law_rules) := ⟨rfl, rfl, rfl, by decide +kernel, rfl, by decide +kernel, by decide +kernel⟩
theorem sc__law_item : FnScope ["_law_source", "_law_forms", "_law_at", "_law_atom_here"] ["_law_source", "_law_forms"] (defScope s__law_item) := ⟨rfl, rfl, rfl, by decide +kernel, rfl, by decide +kernel, by decide +kernel⟩
theorem sc__law_wrong : FnScope ["_law_source", "_law_item_here", "_law_forms", "_law_name", "_law_good_here", "_law_far", "_law_two", "_law_odd"] ["_law_source", "_law_item_here", "_law_forms"] (defScope s__law_wrong) := ⟨rfl, rfl, rfl, by decide +kernel, rfl, by decide +kernel, by decide +kernel⟩
theorem sc__law_asked : FnScope ["_law_question", "_law_stock", "_law_chosen", "_law_found", "e"] ["_law_question", "_law_stock", "_law_chosen"] (defScope s__law_asked) := ⟨rfl, rfl, rfl, by decide +kernel, rfl, by decide +kernel, by decide +kernel⟩
theorem sc__law_choice_refused : FnScope ["_law_question", "_law_stock", "_law_chosen", "e"] ["_law_question", "_law_stock", "_law_chosen"] (defScope s__law_choice_refused) := ⟨rfl, rfl, rfl, by decide +kernel, rfl, by decide +kernel, by decide +kernel⟩
theorem sc__law_is : FnScope ["_law_question", "_law_forms", "_law_added", "_law_schema", "_law_form", "_law_atoms", "_law_item_here"] ["_law_question", "_law_forms", "_law_added"] (defScope s__law_is) := ⟨rfl, rfl, rfl, by decide +kernel, rfl, by decide +kernel, by decide +kernel⟩
theorem sc__law_wrong_choices : FnScope ["_law_question", "_law_stock", "_law_many", "_law_odd"] ["_law_question", "_law_stock"] (defScope s__law_wrong_choices) := ⟨rfl, rfl, rfl, by decide +kernel, rfl, by decide +kernel, by decide +kernel⟩
theorem sc__law_begun : FnScope ["_law_forms", "_law_schema", "_law_form", "_law_question"] ["_law_forms"] (defScope s__law_begun) := ⟨rfl, rfl, rfl, by decide +kernel, rfl, by decide +kernel, by decide +kernel⟩
theorem sc__law_good : FnScope ["_law_source", "_law_forms", "_law_question", "_law_items", "_law_stock", "_law_item_here", "_law_chosen", "_law_at", "_law_added", "_law_other", "_law_one", "_law_second"] ["_law_source", "_law_forms", "_law_question", "_law_items"] (defScope s__law_good) := ⟨rfl, rfl, rfl, by decide +kernel, rfl, by decide +kernel, by decide +kernel⟩
theorem sc_law : FnScope ["_law_script", "_law_source", "_law_forms", "_law_name", "_law_columns", "_law_question", "_law_items", "_law_turn", "_law_due", "_law_stock", "_law_item_here", "_law_spoilt", "_law_at", "_law_good_here", "_law_odd"] ["_law_script"] (defScope s_law) := ⟨rfl, rfl, rfl, by decide +kernel, rfl, by decide +kernel, by decide +kernel⟩
end K51
namespace K51
open PySem PySem.Spec PyProof.Rows L2 He TL EL
def dd_is_whole : EL.DefE := ⟨fun K => (ga K "is_whole"), "is_whole", "is_whole", defArgs s_is_whole, defBody s_is_whole, defScope s_is_whole, [], []⟩
def dd_is_word : EL.DefE := ⟨fun K => (ga K "is_word"), "is_word", "is_word", defArgs s_is_word, defBody s_is_word, defScope s_is_word, [], []⟩
def dd_common_divisor : EL.DefE := ⟨fun K => (ga K "common_divisor"), "common_divisor", "common_divisor", defArgs s_common_divisor, defBody s_common_divisor, defScope s_common_divisor, [], []⟩
def dd_is_value : EL.DefE := ⟨fun K => (ga K "is_value"), "is_value", "is_value", defArgs s_is_value, defBody s_is_value, defScope s_is_value, [], []⟩
def dd_less : EL.DefE := ⟨fun K => (ga K "less"), "less", "less", defArgs s_less, defBody s_less, defScope s_less, [], []⟩
def dd_is_term : EL.DefE := ⟨fun K => (ga K "is_term"), "is_term", "is_term", defArgs s_is_term, defBody s_is_term, defScope s_is_term, [], []⟩
def dd_is_atom : EL.DefE := ⟨fun K => (ga K "is_atom"), "is_atom", "is_atom", defArgs s_is_atom, defBody s_is_atom, defScope s_is_atom, [], []⟩
def dd_Conditions___init__ : EL.DefE := ⟨fun K => (ma K (ga K "Conditions") "__init__"), "__init__", "Conditions.__init__", defArgs s_Conditions___init__, defBody s_Conditions___init__, defScope s_Conditions___init__, [.adr (dflAt ("Conditions", some "__init__") 0)], []⟩
def dd_Conditions_atoms : EL.DefE := ⟨fun K => (ma K (ga K "Conditions") "atoms"), "atoms", "Conditions.atoms", defArgs s_Conditions_atoms, defBody s_Conditions_atoms, defScope s_Conditions_atoms, [], []⟩
def dd_Conditions___len__ : EL.DefE := ⟨fun K => (ma K (ga K "Conditions") "__len__"), "__len__", "Conditions.__len__", defArgs s_Conditions___len__, defBody s_Conditions___len__, defScope s_Conditions___len__, [], []⟩
def dd_Conditions___eq__ : EL.DefE := ⟨fun K => (ma K (ga K "Conditions") "__eq__"), "__eq__", "Conditions.__eq__", defArgs s_Conditions___eq__, defBody s_Conditions___eq__, defScope s_Conditions___eq__, [], []⟩
def dd_Conditions___and__ : EL.DefE := ⟨fun K => (ma K (ga K "Conditions") "__and__"), "__and__", "Conditions.__and__", defArgs s_Conditions___and__, defBody s_Conditions___and__, defScope s_Conditions___and__, [], []⟩
def dd_Conditions___iand__ : EL.DefE := ⟨fun K => (ma K (ga K "Conditions") "__iand__"), "__iand__", "Conditions.__iand__", defArgs s_Conditions___iand__, defBody s_Conditions___iand__, defScope s_Conditions___iand__, [], []⟩
def dd_Cell___init__ : EL.DefE := ⟨fun K => (ma K (ga K "Cell") "__init__"), "__init__", "Cell.__init__", defArgs s_Cell___init__, defBody s_Cell___init__, defScope s_Cell___init__, [], []⟩
def dd_Cell_of : EL.DefE := ⟨fun K => (He5.wf K (ga K "Cell") "staticmethod" "of"), "of", "Cell.of", defArgs s_Cell_of, defBody s_Cell_of, defScope s_Cell_of, [], []⟩
def dd_Maker___init__ : EL.DefE := ⟨fun K => (ma K (ga K "Maker") "__init__"), "__init__", "Maker.__init__", defArgs s_Maker___init__, defBody s_Maker___init__, defScope s_Maker___init__, [], []⟩
def dd_Maker_terms : EL.DefE := ⟨fun K => (ma K (ga K "Maker") "terms"), "terms", "Maker.terms", defArgs s_Maker_terms, defBody s_Maker_terms, defScope s_Maker_terms, [], []⟩
def dd_Maker___len__ : EL.DefE := ⟨fun K => (ma K (ga K "Maker") "__len__"), "__len__", "Maker.__len__", defArgs s_Maker___len__, defBody s_Maker___len__, defScope s_Maker___len__, [], []⟩
def dd_Maker___eq__ : EL.DefE := ⟨fun K => (ma K (ga K "Maker") "__eq__"), "__eq__", "Maker.__eq__", defArgs s_Maker___eq__, defBody s_Maker___eq__, defScope s_Maker___eq__, [], []⟩
def dd_is_column_count : EL.DefE := ⟨fun K => (ga K "is_column_count"), "is_column_count", "is_column_count", defArgs s_is_column_count, defBody s_is_column_count, defScope s_is_column_count, [], []⟩
def dd_names_cells : EL.DefE := ⟨fun K => (ga K "names_cells"), "names_cells", "names_cells", defArgs s_names_cells, defBody s_names_cells, defScope s_names_cells, [], []⟩
def dd_are_row_rules : EL.DefE := ⟨fun K => (ga K "are_row_rules"), "are_row_rules", "are_row_rules", defArgs s_are_row_rules, defBody s_are_row_rules, defScope s_are_row_rules, [], []⟩
def dd_Schema___init__ : EL.DefE := ⟨fun K => (ma K (ga K "Schema") "__init__"), "__init__", "Schema.__init__", defArgs s_Schema___init__, defBody s_Schema___init__, defScope s_Schema___init__, [.non, .non], []⟩
def dd_Schema___len__ : EL.DefE := ⟨fun K => (ma K (ga K "Schema") "__len__"), "__len__", "Schema.__len__", defArgs s_Schema___len__, defBody s_Schema___len__, defScope s_Schema___len__, [], []⟩
def dd_Schema___contains__ : EL.DefE := ⟨fun K => (ma K (ga K "Schema") "__contains__"), "__contains__", "Schema.__contains__", defArgs s_Schema___contains__, defBody s_Schema___contains__, defScope s_Schema___contains__, [], []⟩
def dd_Schema_names : EL.DefE := ⟨fun K => (ma K (ga K "Schema") "names"), "names", "Schema.names", defArgs s_Schema_names, defBody s_Schema_names, defScope s_Schema_names, [], []⟩
def dd_Schema_add : EL.DefE := ⟨fun K => (ma K (ga K "Schema") "add"), "add", "Schema.add", defArgs s_Schema_add, defBody s_Schema_add, defScope s_Schema_add, [.non], []⟩
def dd_Schema_columns : EL.DefE := ⟨fun K => (ma K (ga K "Schema") "columns"), "columns", "Schema.columns", defArgs s_Schema_columns, defBody s_Schema_columns, defScope s_Schema_columns, [], []⟩
def dd_Schema_rules : EL.DefE := ⟨fun K => (ma K (ga K "Schema") "rules"), "rules", "Schema.rules", defArgs s_Schema_rules, defBody s_Schema_rules, defScope s_Schema_rules, [], []⟩
def dd_Schema_narrow : EL.DefE := ⟨fun K => (ma K (ga K "Schema") "narrow"), "narrow", "Schema.narrow", defArgs s_Schema_narrow, defBody s_Schema_narrow, defScope s_Schema_narrow, [], []⟩
def dd_Schema_twin : EL.DefE := ⟨fun K => (ma K (ga K "Schema") "twin"), "twin", "Schema.twin", defArgs s_Schema_twin, defBody s_Schema_twin, defScope s_Schema_twin, [], []⟩
def dd_is_stock_item : EL.DefE := ⟨fun K => (ga K "is_stock_item"), "is_stock_item", "is_stock_item", defArgs s_is_stock_item, defBody s_is_stock_item, defScope s_is_stock_item, [], []⟩
def dd_look_at_stock : EL.DefE := ⟨fun K => (ga K "look_at_stock"), "look_at_stock", "look_at_stock", defArgs s_look_at_stock, defBody s_look_at_stock, defScope s_look_at_stock, [], []⟩
def dd_is_chosen : EL.DefE := ⟨fun K => (ga K "is_chosen"), "is_chosen", "is_chosen", defArgs s_is_chosen, defBody s_is_chosen, defScope s_is_chosen, [], []⟩
def dd_with_stock : EL.DefE := ⟨fun K => (ga K "with_stock"), "with_stock", "with_stock", defArgs s_with_stock, defBody s_with_stock, defScope s_with_stock, [], []⟩
def dd_least_sets : EL.DefE := ⟨fun K => (ga K "least_sets"), "least_sets", "least_sets", defArgs s_least_sets, defBody s_least_sets, defScope s_least_sets, [], []⟩
def dd_floors : EL.DefE := ⟨fun K => (ga K "floors"), "floors", "floors", defArgs s_floors, defBody s_floors, defScope s_floors, [], []⟩
def dd_are_words : EL.DefE := ⟨fun K => (ga K "are_words"), "are_words", "are_words", defArgs s_are_words, defBody s_are_words, defScope s_are_words, [], []⟩
def dd_maker_of : EL.DefE := ⟨fun K => (ga K "maker_of"), "maker_of", "maker_of", defArgs s_maker_of, defBody s_maker_of, defScope s_maker_of, [], []⟩
def dd_Rule___init__ : EL.DefE := ⟨fun K => (ma K (ga K "Rule") "__init__"), "__init__", "Rule.__init__", defArgs s_Rule___init__, defBody s_Rule___init__, defScope s_Rule___init__, [], []⟩
def dd_Rule_is_step : EL.DefE := ⟨fun K => (ma K (ga K "Rule") "is_step"), "is_step", "Rule.is_step", defArgs s_Rule_is_step, defBody s_Rule_is_step, defScope s_Rule_is_step, [], []⟩
def dd_Rule_answer : EL.DefE := ⟨fun K => (ma K (ga K "Rule") "answer"), "answer", "Rule.answer", defArgs s_Rule_answer, defBody s_Rule_answer, defScope s_Rule_answer, [], []⟩
def dd_Rule_old : EL.DefE := ⟨fun K => (ma K (ga K "Rule") "old"), "old", "Rule.old", defArgs s_Rule_old, defBody s_Rule_old, defScope s_Rule_old, [], []⟩
def dd_Rule_tables : EL.DefE := ⟨fun K => (ma K (ga K "Rule") "tables"), "tables", "Rule.tables", defArgs s_Rule_tables, defBody s_Rule_tables, defScope s_Rule_tables, [], []⟩
def dd_Rule_maker : EL.DefE := ⟨fun K => (ma K (ga K "Rule") "maker"), "maker", "Rule.maker", defArgs s_Rule_maker, defBody s_Rule_maker, defScope s_Rule_maker, [], []⟩
def dd_Rule_conditions : EL.DefE := ⟨fun K => (ma K (ga K "Rule") "conditions"), "conditions", "Rule.conditions", defArgs s_Rule_conditions, defBody s_Rule_conditions, defScope s_Rule_conditions, [], []⟩
def dd_Rule_depths : EL.DefE := ⟨fun K => (ma K (ga K "Rule") "depths"), "depths", "Rule.depths", defArgs s_Rule_depths, defBody s_Rule_depths, defScope s_Rule_depths, [], []⟩
def dd_Rule___eq__ : EL.DefE := ⟨fun K => (ma K (ga K "Rule") "__eq__"), "__eq__", "Rule.__eq__", defArgs s_Rule___eq__, defBody s_Rule___eq__, defScope s_Rule___eq__, [], []⟩
def dd_base : EL.DefE := ⟨fun K => (ga K "base"), "base", "base", defArgs s_base, defBody s_base, defScope s_base, [.non], []⟩
def dd_Question___init__ : EL.DefE := ⟨fun K => (ma K (ga K "Question") "__init__"), "__init__", "Question.__init__", defArgs s_Question___init__, defBody s_Question___init__, defScope s_Question___init__, [.non, .adr (dflAt ("Question", some "__init__") 1)], []⟩
def dd_Question___len__ : EL.DefE := ⟨fun K => (ma K (ga K "Question") "__len__"), "__len__", "Question.__len__", defArgs s_Question___len__, defBody s_Question___len__, defScope s_Question___len__, [], []⟩
def dd_Question_schema : EL.DefE := ⟨fun K => (ma K (ga K "Question") "schema"), "schema", "Question.schema", defArgs s_Question_schema, defBody s_Question_schema, defScope s_Question_schema, [], []⟩
def dd_Question_answers : EL.DefE := ⟨fun K => (ma K (ga K "Question") "answers"), "answers", "Question.answers", defArgs s_Question_answers, defBody s_Question_answers, defScope s_Question_answers, [], []⟩
def dd_Question_places_of : EL.DefE := ⟨fun K => (ma K (ga K "Question") "places_of"), "places_of", "Question.places_of", defArgs s_Question_places_of, defBody s_Question_places_of, defScope s_Question_places_of, [], []⟩
def dd_Question_look : EL.DefE := ⟨fun K => (ma K (ga K "Question") "look"), "look", "Question.look", defArgs s_Question_look, defBody s_Question_look, defScope s_Question_look, [], []⟩
def dd_Question_add : EL.DefE := ⟨fun K => (ma K (ga K "Question") "add"), "add", "Question.add", defArgs s_Question_add, defBody s_Question_add, defScope s_Question_add, [], []⟩
def dd_Question_rule : EL.DefE := ⟨fun K => (ma K (ga K "Question") "rule"), "rule", "Question.rule", defArgs s_Question_rule, defBody s_Question_rule, defScope s_Question_rule, [], []⟩
def dd_Question_narrow : EL.DefE := ⟨fun K => (ma K (ga K "Question") "narrow"), "narrow", "Question.narrow", defArgs s_Question_narrow, defBody s_Question_narrow, defScope s_Question_narrow, [], []⟩
def dd_Question_without : EL.DefE := ⟨fun K => (ma K (ga K "Question") "without"), "without", "Question.without", defArgs s_Question_without, defBody s_Question_without, defScope s_Question_without, [], []⟩
def dd_Question_twin : EL.DefE := ⟨fun K => (ma K (ga K "Question") "twin"), "twin", "Question.twin", defArgs s_Question_twin, defBody s_Question_twin, defScope s_Question_twin, [], []⟩
def dd__law_begin : EL.DefE := ⟨fun K => (ga K "_law_begin"), "_law_begin", "_law_begin", defArgs s__law_begin, defBody s__law_begin, defScope s__law_begin, [], []⟩
def dd__law_draw : EL.DefE := ⟨fun K => (ga K "_law_draw"), "_law_draw", "_law_draw", defArgs s__law_draw, defBody s__law_draw, defScope s__law_draw, [], []⟩
def dd__law_atom : EL.DefE := ⟨fun K => (ga K "_law_atom"), "_law_atom", "_law_atom", defArgs s__law_atom, defBody s__law_atom, defScope s__law_atom, [], []⟩
def dd__law_rules : EL.DefE := ⟨fun K => (ga K "_law_rules"), "_law_rules", "_law_rules", defArgs s__law_rules, defBody s__law_rules, defScope s__law_rules, [], []⟩
def dd__law_item : EL.DefE := ⟨fun K => (ga K "_law_item"), "_law_item", "_law_item", defArgs s__law_item, defBody s__law_item, defScope s__law_item, [], []⟩
def dd__law_wrong : EL.DefE := ⟨fun K => (ga K "_law_wrong"), "_law_wrong", "_law_wrong", defArgs s__law_wrong, defBody s__law_wrong, defScope s__law_wrong, [], []⟩
def dd__law_asked : EL.DefE := ⟨fun K => (ga K "_law_asked"), "_law_asked", "_law_asked", defArgs s__law_asked, defBody s__law_asked, defScope s__law_asked, [], []⟩
def dd__law_choice_refused : EL.DefE := ⟨fun K => (ga K "_law_choice_refused"), "_law_choice_refused", "_law_choice_refused", defArgs s__law_choice_refused, defBody s__law_choice_refused, defScope s__law_choice_refused, [], []⟩
def dd__law_is : EL.DefE := ⟨fun K => (ga K "_law_is"), "_law_is", "_law_is", defArgs s__law_is, defBody s__law_is, defScope s__law_is, [], []⟩
def dd__law_wrong_choices : EL.DefE := ⟨fun K => (ga K "_law_wrong_choices"), "_law_wrong_choices", "_law_wrong_choices", defArgs s__law_wrong_choices, defBody s__law_wrong_choices, defScope s__law_wrong_choices, [], []⟩
def dd__law_begun : EL.DefE := ⟨fun K => (ga K "_law_begun"), "_law_begun", "_law_begun", defArgs s__law_begun, defBody s__law_begun, defScope s__law_begun, [], []⟩
def dd__law_good : EL.DefE := ⟨fun K => (ga K "_law_good"), "_law_good", "_law_good", defArgs s__law_good, defBody s__law_good, defScope s__law_good, [], []⟩
def dd_law : EL.DefE := ⟨fun K => (ga K "law"), "law", "law", defArgs s_law, defBody s_law, defScope s_law, [], []⟩
def fn : List EL.DefE := [dd_is_whole, dd_is_word, dd_common_divisor, dd_is_value, dd_less, dd_is_term, dd_is_atom, dd_Conditions___init__, dd_Conditions_atoms, dd_Conditions___len__, dd_Conditions___eq__, dd_Conditions___and__, dd_Conditions___iand__, dd_Cell___init__, dd_Cell_of, dd_Maker___init__, dd_Maker_terms, dd_Maker___len__, dd_Maker___eq__, dd_is_column_count, dd_names_cells, dd_are_row_rules, dd_Schema___init__, dd_Schema___len__, dd_Schema___contains__, dd_Schema_names, dd_Schema_add, dd_Schema_columns, dd_Schema_rules, dd_Schema_narrow, dd_Schema_twin, dd_is_stock_item, dd_look_at_stock, dd_is_chosen, dd_with_stock, dd_least_sets, dd_floors, dd_are_words, dd_maker_of, dd_Rule___init__, dd_Rule_is_step, dd_Rule_answer, dd_Rule_old, dd_Rule_tables, dd_Rule_maker, dd_Rule_conditions, dd_Rule_depths, dd_Rule___eq__, dd_base, dd_Question___init__, dd_Question___len__, dd_Question_schema, dd_Question_answers, dd_Question_places_of, dd_Question_look, dd_Question_add, dd_Question_rule, dd_Question_narrow, dd_Question_without, dd_Question_twin, dd__law_begin, dd__law_draw, dd__law_atom, dd__law_rules, dd__law_item, dd__law_wrong, dd__law_asked, dd__law_choice_refused, dd__law_is, dd__law_wrong_choices, dd__law_begun, dd__law_good, dd_law]
def fa : List He.Fa := [.glo "is_whole", .glo "is_word", .glo "common_divisor", .glo "is_value", .glo "less", .glo "is_term", .glo "is_atom", .glo "is_column_count", .glo "names_cells", .glo "are_row_rules", .glo "is_stock_item", .glo "look_at_stock", .glo "is_chosen", .glo "with_stock", .glo "least_sets", .glo "floors", .glo "are_words", .glo "maker_of", .glo "base", .glo "_law_begin", .glo "_law_draw", .glo "_law_atom", .glo "_law_rules", .glo "_law_item", .glo "_law_wrong", .glo "_law_asked", .glo "_law_choice_refused", .glo "_law_is", .glo "_law_wrong_choices", .glo "_law_begun", .glo "_law_good", .glo "law", .glo "NotSingle", .glo "NoPoint", .glo "NoTable", .glo "NoRow", .glo "BadRow", .glo "NoRule", .glo "TwoAnswers", .glo "TooLarge", .glo "NoStock", .glo "Conditions", .glo "Cell", .glo "Maker", .glo "Web", .glo "Frame", .glo "Reach", .glo "Schema", .glo "Tables", .glo "Rule", .glo "Question", .glo "AskError", .exc "AskError", .glo "NoValue", .exc "NoValue", .glo "NoCell", .exc "NoCell", .glo "NoCondition", .exc "NoCondition", .glo "NotMet", .exc "NotMet", .glo "NoQuestion", .exc "NoQuestion", .glo "NoNode", .exc "NoNode", .glo "NoWord", .exc "NoWord", .str "LETTERS" "abcdefghijklmnopqrstuvwxyz", .glo "SIGNS", .glo "NEGATED", .glo "PLACES", .int "MOST_COLUMNS" 3, .int "MOST_FULLS" 20000, .int "MOST_SHAPES" 6000, .int "MOST_STOCK" 5, .int "MOST_ANSWERS" 3, .glo "TABLE_PLACES", .free "ValueError", .free "super", .free "isinstance", .free "int", .free "bool", .free "str", .free "len", .free "abs", .free "tuple", .free "list", .free "staticmethod", .free "range", .free "zip", .free "all", .free "sum", .free "enumerate", .free "sorted", .free "iter", .free "dict", .free "any", .exm "NoCell" "NoCell" true, .exm "NoStock" "NoStock" true, .mkr "Conditions", .meth "Conditions" "atoms", .meth "Conditions" "__len__", .meth "Conditions" "__eq__", .meth "Conditions" "__and__", .meth "Conditions" "__iand__", .mkr "Cell", .mkr "Maker", .meth "Maker" "terms", .meth "Maker" "__len__", .meth "Maker" "__eq__", .mkr "Schema", .meth "Schema" "__len__", .meth "Schema" "__contains__", .meth "Schema" "names", .meth "Schema" "add", .meth "Schema" "columns", .meth "Schema" "rules", .meth "Schema" "narrow", .meth "Schema" "twin", .mkr "Rule", .meth "Rule" "is_step", .meth "Rule" "answer", .meth "Rule" "old", .meth "Rule" "tables", .meth "Rule" "maker", .meth "Rule" "conditions", .meth "Rule" "depths", .meth "Rule" "__eq__", .mkr "Question", .meth "Question" "__len__", .meth "Question" "schema", .meth "Question" "answers", .meth "Question" "places_of", .meth "Question" "look", .meth "Question" "add", .meth "Question" "rule", .meth "Question" "narrow", .meth "Question" "without", .meth "Question" "twin", .noat "Conditions" "kept_atoms", .noat "Cell" "place", .noat "Cell" "at", .noat "Maker" "kept_terms", .noat "Schema" "widths", .noat "Schema" "limits", .noat "Rule" "made", .noat "Rule" "source", .noat "Rule" "joined", .noat "Rule" "making", .noat "Rule" "demanded", .noat "Rule" "span", .noat "Question" "form", .noat "Question" "widths", .noat "Question" "steps", .noat "Question" "extra"]
def asL : List Addr := ([3, 31, 44, 56, 68, 122, 143, 206, 218, 239, 272, 284, 305, 308, 316, 323, 330, 345, 352, 367, 374, 381, 461, 541, 588, 1011, 1025, 1032, 1126, 1356, 1363, 1370, 1377, 1387, 1392, 1393, 1400, 1405, 1492, 1504, 1666, 1677, 1684, 1691, 1698, 1705, 1712, 1719, 1726, 1731, 1738, 1745, 1750, 1755, 30, 43, 55, 67, 121, 142, 205, 217, 238, 271, 283, 304, 315, 322, 329, 344, 351, 373, 380, 460, 540, 587, 1010, 1024, 1031, 1125, 1355, 1362, 1369, 1376, 1386, 1391, 1399, 1404, 1491, 1503, 1497, 1665, 1676, 1683, 1690, 1697, 1704, 1711, 1718, 1725, 1730, 1737, 1744, 1749, 1754, 140, 203, 236, 302, 404, 411, 418, 425, 439, 446, 479, 495, 559, 566, 573, 580, 1047, 1054, 1068, 1080, 1088, 1095, 1102, 1109, 1123, 1419, 1426, 1433, 1440, 1447, 1454, 1461, 1475, 1489, 1527, 1534, 1555, 1562, 1569, 1576, 1583, 1590, 1597, 1604, 1611, 139, 128, 202, 191, 235, 224, 301, 290, 403, 397, 410, 417, 424, 438, 445, 478, 493, 558, 565, 572, 579, 1046, 1040, 1053, 1067, 1079, 1087, 1081, 1094, 1101, 1108, 1122, 1418, 1425, 1432, 1439, 1446, 1453, 1460, 1474, 1488, 1526, 1520, 1533, 1554, 1561, 1568, 1575, 1582, 1589, 1596, 1603, 1610, 396, 492, 1519, 2] : List Nat)
def ts : List He.Tab := []
def xn : List EL.DefX := [xw_NoRule, xw_NoTable, xw_TwoAnswers, xw_NoStock]
def exL (K : PySem.W.Frag) : List Bool := [tupAB K (dflAt ("Conditions", some "__init__") 0 K), tupAB K (dflAt ("Question", some "__init__") 1 K), eqO (PySem.W.findIn K (.ref (ga K "Rule")) "__ne__") (some (some (.builtin "object.__ne__"))), excCB K (ga K "NoStock"), decide (PySem.W.kitOne K (.ref (ga K "NoStock")) (.type "ValueError") = some true), ocB K (ga K "Conditions"), ocB K (ga K "Cell"), ocB K (ga K "Maker"), ocB K (ga K "Schema"), ocB K (ga K "Rule"), ocB K (ga K "Question"), smB K (ga K "Cell") "of", dunB K (ga K "Conditions") "__eq__", dunB K (ga K "Conditions") "__and__", dunB K (ga K "Conditions") "__iand__", dunB K (ga K "Maker") "__eq__", dunB K (ga K "Rule") "__eq__", PySem.W.selfFirst K (ga K "Conditions"), PySem.W.selfFirst K (ga K "Question"), PySem.W.notFirst K (ga K "Conditions") (.ref (ga K "Conditions")), PySem.W.notFirst K (ga K "Maker") (.ref (ga K "Maker")), PySem.W.notFirst K (ga K "Schema") (.ref (ga K "Schema")), PySem.W.notFirst K (ga K "Rule") (.ref (ga K "Rule")), PySem.W.notFirst K (ga K "Question") (.ref (ga K "Question")), tupB K "PLACES" [.str "old", .str "first", .str "second"], tupB K "SIGNS" [.str "<", .str "<=", .str "=", .str "!="], tupB K "TABLE_PLACES" [.str "first", .str "second"], xtB K "NoRule" "reason" "/claim/cut.py", xtB K "NoTable" "name" "/claim/cut.py", xtB K "TwoAnswers" "name" "/claim/cut.py", xtB K "NoStock" "index" "/claim/cut.py"]
def ex (K : PySem.W.Frag) : Bool := (exL K).all id
def loose : List Str := [("_wall" : Str), ("AskError" : Str), ("NoValue" : Str), ("NoCell" : Str), ("NoCondition" : Str), ("NotSingle" : Str), ("NoPoint" : Str), ("NotMet" : Str), ("NoTable" : Str), ("NoRow" : Str), ("BadRow" : Str), ("NoRule" : Str), ("NoQuestion" : Str), ("TwoAnswers" : Str), ("TooLarge" : Str), ("NoNode" : Str), ("NoWord" : Str), ("NoStock" : Str), ("LETTERS" : Str), ("SIGNS" : Str), ("NEGATED" : Str), ("is_whole" : Str), ("is_word" : Str), ("common_divisor" : Str), ("value" : Str), ("is_value" : Str), ("less" : Str), ("stands" : Str), ("ascending" : Str), ("PLACES" : Str), ("MOST_COLUMNS" : Str), ("is_term" : Str), ("is_atom" : Str), ("value_at" : Str), ("Conditions" : Str), ("Cell" : Str), ("Maker" : Str), ("finish_order" : Str), ("parts_of" : Str), ("between" : Str), ("Web" : Str), ("is_shape" : Str), ("opened" : Str), ("extended" : Str), ("shape_count" : Str), ("picked" : Str), ("MOST_FULLS" : Str), ("MOST_SHAPES" : Str), ("ranks_stand" : Str), ("position" : Str), ("Frame" : Str), ("frames_of" : Str), ("size_over" : Str), ("size" : Str), ("look_at_size" : Str), ("Reach" : Str), ("cut_shape" : Str), ("is_column_count" : Str), ("is_row" : Str), ("names_cells" : Str), ("are_row_rules" : Str), ("Schema" : Str), ("Tables" : Str), ("is_rule_word" : Str), ("web_for" : Str), ("spot_of" : Str), ("demand_all" : Str), ("laid" : Str), ("word_web" : Str), ("row_values" : Str), ("firings_of" : Str), ("tables_of" : Str), ("equate" : Str), ("ring_words" : Str), ("numbers_to" : Str), ("closed_words" : Str), ("ring" : Str), ("ring_by" : Str), ("ends" : Str), ("MOST_STOCK" : Str), ("is_stock_item" : Str), ("look_at_stock" : Str), ("is_chosen" : Str), ("with_stock" : Str), ("all_chosen" : Str), ("least_sets" : Str), ("floors" : Str), ("MOST_ANSWERS" : Str), ("TABLE_PLACES" : Str), ("are_words" : Str), ("maker_of" : Str), ("Rule" : Str), ("base" : Str), ("values_in" : Str), ("Question" : Str), ("_law_begin" : Str), ("_law_draw" : Str), ("_law_atom" : Str), ("_law_rules" : Str), ("_law_item" : Str), ("_law_wrong" : Str), ("_law_asked" : Str), ("_law_choice_refused" : Str), ("_law_is" : Str), ("_law_wrong_choices" : Str), ("_law_begun" : Str), ("_law_good" : Str)]
abbrev R : PySem.W.OpenRow := PySem.W.OpenLaw.row PySem.Challenge.rw_endlessasks_k51_stocks_chosen
def nA1 : Nat := 100000
def nB1 : Nat := 0
abbrev hk : PySem.W.Hook := hookZ asL fa fn xn ts ex
def ob (s : PySem.W.SharedT) : AlY := obsZG asL fa fn xn ts ex (HandSHeadRun.getT s)
theorem ob_eq (s : PySem.W.SharedT) : ob s = hk.obs s.abs := obsZG_eq (HandSHeadRun.getT_eq s)
theorem run_Lf (w : World) : RunL R 14000 (w.withFollow "special-get-raises" false) := by
  intro os; kernel_rfl
theorem run_Sf (w : World) : RunS R (PySem.W.view R.prog [120]) loose 14000 (w.withFollow "special-get-raises" false) := by
  intro os; kernel_rfl
theorem run_f1 (w : World) : RunO R asL (fa.take nA1) (fn.take nB1) xn ts ex 14000 (w.withFollow "special-get-raises" false) := by
  intro os; kernel_rfl
theorem run_f2 (w : World) : RunO R asL (fa.drop nA1) (fn.drop nB1) [] [] (fun _ => true) 14000 (w.withFollow "special-get-raises" false) := by
  intro os; kernel_rfl
theorem run_Lt (w : World) : RunL R 14000 (w.withFollow "special-get-raises" true) := by
  intro os; kernel_rfl
theorem run_St (w : World) : RunS R (PySem.W.view R.prog [120]) loose 14000 (w.withFollow "special-get-raises" true) := by
  intro os; kernel_rfl
theorem run_t1 (w : World) : RunO R asL (fa.take nA1) (fn.take nB1) xn ts ex 14000 (w.withFollow "special-get-raises" true) := by
  intro os; kernel_rfl
theorem run_t2 (w : World) : RunO R asL (fa.drop nA1) (fn.drop nB1) [] [] (fun _ => true) 14000 (w.withFollow "special-get-raises" true) := by
  intro os; kernel_rfl
theorem run (w : World) : HandSHeadRun.RunEq R (PySem.W.view R.prog [120]) hk ob 14000 loose w :=
  PySem.W.byRow2 "special-get-raises" (P := fun w => HandSHeadRun.RunEq R (PySem.W.view R.prog [120]) hk ob 14000 loose w) (fun w => run_all (run_Lf w) (run_Sf w) (run_cat nA1 nB1 (run_f1 w) (run_f2 w))) (fun w => run_all (run_Lt w) (run_St w) (run_cat nA1 nB1 (run_t1 w) (run_t2 w))) w
end K51
namespace EL
/-- the greatest common divisor, as the loop leaves it -/
def cd (a b : Int) : Int := ((Nat.gcd a.natAbs b.natAbs : Nat) : Int)
def nrm (t b : Int) : Int × Int := if b < 0 then ((-t) / cd (-t) (-b), (-b) / cd (-t) (-b)) else (t / cd t b, b / cd t b)
theorem cd_pos {a b : Int} (h : b ≠ 0) : 0 < cd a b := by
  unfold cd
  have := Nat.gcd_pos_of_pos_right a.natAbs (n := b.natAbs) (by omega)
  omega
theorem cd_dvd_l (a b : Int) : cd a b ∣ a := by
  unfold cd
  exact Int.ofNat_dvd_left.mpr (Nat.gcd_dvd_left _ _)
theorem cd_dvd_r (a b : Int) : cd a b ∣ b := by
  unfold cd
  exact Int.ofNat_dvd_left.mpr (Nat.gcd_dvd_right _ _)
theorem cd_neg_l (a b : Int) : cd (-a) b = cd a b := by unfold cd; rw [Int.natAbs_neg]
theorem cd_neg_r (a b : Int) : cd a (-b) = cd a b := by unfold cd; rw [Int.natAbs_neg]
/-- a value in lowest terms -/
def Low (a b : Int) : Prop := 0 < b ∧ cd a b = 1
theorem cd_div {a b : Int} (hb : b ≠ 0) : cd (a / cd a b) (b / cd a b) = 1 := by
  have hp := cd_pos (a := a) hb
  have e : ∀ x : Int, cd a b ∣ x → (x / cd a b).natAbs = x.natAbs / Nat.gcd a.natAbs b.natAbs := fun x hx => by
    rw [Int.natAbs_ediv_of_dvd hx]
    rfl
  show ((Nat.gcd (a / cd a b).natAbs (b / cd a b).natAbs : Nat) : Int) = 1
  rw [e a (cd_dvd_l a b), e b (cd_dvd_r a b), Nat.gcd_div (Nat.gcd_dvd_left _ _) (Nat.gcd_dvd_right _ _), Nat.div_self (Nat.gcd_pos_of_pos_right _ (by omega))]
  rfl
theorem nrm_low {t b : Int} (hb : b ≠ 0) : Low (nrm t b).1 (nrm t b).2 := by
  unfold nrm
  by_cases h : b < 0
  · rw [if_pos h]
    have hp := cd_pos (a := -t) (b := -b) (by omega)
    refine ⟨?_, cd_div (by omega)⟩
    exact Int.ediv_pos_of_pos_of_dvd (by omega) (Int.le_of_lt hp) (cd_dvd_r _ _)
  · rw [if_neg h]
    have hp := cd_pos (a := t) (b := b) hb
    refine ⟨?_, cd_div hb⟩
    exact Int.ediv_pos_of_pos_of_dvd (by omega) (Int.le_of_lt hp) (cd_dvd_r _ _)
theorem nrm_eq {t b : Int} (hb : b ≠ 0) : (nrm t b).1 * b = t * (nrm t b).2 := by
  unfold nrm
  by_cases h : b < 0
  · rw [if_pos h]
    have hp := cd_pos (a := -t) (b := -b) (by omega)
    obtain ⟨u, hu⟩ := cd_dvd_l (-t) (-b)
    obtain ⟨v, hv⟩ := cd_dvd_r (-t) (-b)
    generalize cd (-t) (-b) = g at *
    have e1 : -t / g = u := by rw [hu, Int.mul_ediv_cancel_left _ (by omega)]
    have e2 : -b / g = v := by rw [hv, Int.mul_ediv_cancel_left _ (by omega)]
    show -t / g * b = t * (-b / g)
    rw [e1, e2]
    have ht : t = -(g * u) := by omega
    have hb' : b = -(g * v) := by omega
    rw [ht, hb', Int.mul_neg, Int.neg_mul, Int.mul_left_comm, Int.mul_comm g u, Int.mul_assoc, Int.mul_left_comm u g v]
  · rw [if_neg h]
    have hp := cd_pos (a := t) (b := b) hb
    obtain ⟨u, hu⟩ := cd_dvd_l t b
    obtain ⟨v, hv⟩ := cd_dvd_r t b
    generalize cd t b = g at *
    have e1 : t / g = u := by rw [hu, Int.mul_ediv_cancel_left _ (by omega)]
    have e2 : b / g = v := by rw [hv, Int.mul_ediv_cancel_left _ (by omega)]
    show t / g * b = t * (b / g)
    rw [e1, e2, hu, hv, Int.mul_left_comm, Int.mul_assoc]
/-- two values in lowest terms that stand for one fraction are one -/
theorem low_unique {a b c d : Int} (h1 : Low a b) (h2 : Low c d) (h : a * d = c * b) : a = c ∧ b = d := by
  obtain ⟨hb, g1⟩ := h1
  obtain ⟨hd, g2⟩ := h2
  have c1 : Nat.gcd a.natAbs b.natAbs = 1 := by unfold cd at g1; omega
  have c2 : Nat.gcd c.natAbs d.natAbs = 1 := by unfold cd at g2; omega
  have hn : a.natAbs * d.natAbs = c.natAbs * b.natAbs := by rw [← Int.natAbs_mul, ← Int.natAbs_mul, h]
  have d1 : b.natAbs ∣ d.natAbs := by
    have : b.natAbs ∣ a.natAbs * d.natAbs := by rw [hn]; exact Nat.dvd_mul_left _ _
    exact (Nat.Coprime.symm (show Nat.Coprime a.natAbs b.natAbs from c1)).dvd_of_dvd_mul_left this
  have d2 : d.natAbs ∣ b.natAbs := by
    have : d.natAbs ∣ c.natAbs * b.natAbs := by rw [← hn]; exact Nat.dvd_mul_left _ _
    exact (Nat.Coprime.symm (show Nat.Coprime c.natAbs d.natAbs from c2)).dvd_of_dvd_mul_left this
  have e : b = d := by
    have := Nat.dvd_antisymm d1 d2
    omega
  subst e
  exact ⟨Int.eq_of_mul_eq_mul_right (by omega) h, rfl⟩
theorem nrm_scale {t b f : Int} (hb : b ≠ 0) (hf : f ≠ 0) : nrm (t * f) (b * f) = nrm t b := by
  have hbf : b * f ≠ 0 := Int.mul_ne_zero hb hf
  have l1 := nrm_low (t := t * f) hbf
  have l2 := nrm_low (t := t) hb
  have e1 := nrm_eq (t := t * f) hbf
  have e2 := nrm_eq (t := t) hb
  have u := low_unique l1 l2 (by
    generalize (nrm (t * f) (b * f)).1 = p at *
    generalize (nrm (t * f) (b * f)).2 = q at *
    generalize (nrm t b).1 = r at *
    generalize (nrm t b).2 = s at *
    -- p * (b f) = (t f) q ; r b = t s ; want p s = r q
    have hbf2 : p * b = t * q := by
      refine Int.eq_of_mul_eq_mul_right hf ?_
      rw [Int.mul_assoc, e1, Int.mul_assoc, Int.mul_comm f q, Int.mul_assoc]
    refine Int.eq_of_mul_eq_mul_right hb ?_
    calc p * s * b = (p * b) * s := by rw [Int.mul_assoc, Int.mul_comm s b, Int.mul_assoc]
      _ = (t * q) * s := by rw [hbf2]
      _ = (t * s) * q := by rw [Int.mul_assoc, Int.mul_comm q s, Int.mul_assoc]
      _ = r * b * q := by rw [e2]
      _ = r * q * b := by rw [Int.mul_assoc, Int.mul_comm b q, Int.mul_assoc])
  exact Prod.ext u.1 u.2
theorem nrm_one (t : Int) : nrm t 1 = (t, 1) := by
  have e : cd t 1 = 1 := by unfold cd; simp
  unfold nrm
  rw [if_neg (by omega), e]
  simp
end EL
namespace EL
open PySem PySem.Spec PyProof.Rows L2 He
structure Dn (P : Program) (w : World) (K : PySem.W.Frag) (mg : Str → Option Value) (base : Heap) (CX : CXT) (k : Nat) (x : Str) (sp : Sp) : Prop where
  g : mg x = some (.ref (ga K x))
  kp : PySem.W.keepIn K (.ref (ga K x)) = true
  r : FnR P w K mg base CX k (ga K x) sp
section
variable {X : Cx} {CX : CXT} {k : Nat} {f : Addr} {sp : Sp} {E : L2.St → XK} {x : Str} {p pos : Pos} {e : Expr} {es : List Expr} {t : TA}
theorem run_fnRS {pins : List (Addr × Obj)} {σ : L2.St} {H : Hp} {s : Shared} {Q : VK} {us : List Value} {vs : List V} (F : FnR X.prog X.w X.K X.mg X.base CX k f sp) (hr : Room k X.A) (hx : PassesAt CX X σ (E σ))
    (I : Inv X pins σ H s) (r : Vals vs us) (h : sp vs H Q (E σ)) : wpAny (model X.prog X.w) X.A (call (.ref f) us) (EP X pins σ Q) X.xe s := by
  refine wpAny_call (codeAny_mono (F X.A X.stack s H us vs Q (E σ) hr I.env0 r h) fun r s' hq => ?_)
  cases r with
  | error e => exact hx pins H s e s' I hq
  | ok fl =>
    cases fl with
    | ret u => exact I.after hq
    | next => exact False.elim hq
    | brk => exact False.elim hq
    | cont => exact False.elim hq
theorem pe_fn (F : FnR X.prog X.w X.K X.mg X.base CX k f sp) (hr : Room k X.A) (hg : Gl X x) (hm : X.mg x = some (.ref f)) (hk : PySem.W.keepIn X.K (.ref f) = true) (hx : ∀ σ, PassesAt CX X σ (E σ))
    (ha : PA X (e :: es) t) (hdb : (x == ("__debug__" : Str)) = false := by decide) (he : starEach (e :: es) X.env = (false, eval e X.env) :: starEach es X.env := by rfl) (hpl : (backTo pos (starEach es X.env)).any (·.1) = false := by rfl) :
    PE X (.Call (.Name x p) (e :: es) [] pos) (tCallS sp E t) := by
  refine ⟨fun pins s σ H Q I h => ?_⟩
  refine wpAny_Call_Name_kw (ld_glob I hg hm ?_ hdb)
  refine PySem.W.callWith_K (h₀ := X.base) I.ok.mod.kin hk (thn (ha.run pos pins s σ H _ I h) fun us s1 ⟨vs, H1, I1, r, q⟩ => ⟨I1.kIn, ?_⟩) he hpl
  exact run_fnRS F hr (hx σ) I1 r q
/-- a call of a def that lets nothing out -/
theorem cl (D : Dn X.prog X.w X.K X.mg X.base CX0 k x sp) (hr : Room k X.A) (ha : PA X (e :: es) t) (hg : Gl X x := by rfl)
    (hdb : (x == ("__debug__" : Str)) = false := by decide) (he : starEach (e :: es) X.env = (false, eval e X.env) :: starEach es X.env := by rfl) (hpl : (backTo pos (starEach es X.env)).any (·.1) = false := by rfl) :
    PE X (.Call (.Name x p) (e :: es) [] pos) (tCallS sp (fun _ => E0) t) := pe_fn D.r hr hg D.g D.kp (fun _ _ _ _ _ _ _ h => h.elim) ha hdb he hpl
/-- a call of a def that may raise, where it raises nothing -/
theorem cl0 (D : Dn X.prog X.w X.K X.mg X.base (L2.CX X.prog X.w) k x sp) (hr : Room k X.A) (ha : PA X (e :: es) t) (hg : Gl X x := by rfl)
    (hdb : (x == ("__debug__" : Str)) = false := by decide) (he : starEach (e :: es) X.env = (false, eval e X.env) :: starEach es X.env := by rfl) (hpl : (backTo pos (starEach es X.env)).any (·.1) = false := by rfl) :
    PE X (.Call (.Name x p) (e :: es) [] pos) (tCallS sp (fun _ => E0) t) := pe_fn D.r hr hg D.g D.kp (fun σ pins H s e s' I h => passL pins σ H s e s' I h) ha hdb he hpl
/-- a call of a def that may raise -/
theorem clx {W : WX} (tk : Takes X W) (D : Dn X.prog X.w X.K X.mg X.base (L2.CX X.prog X.w) k x sp) (hr : Room k X.A) (ha : PA X (e :: es) t) (hg : Gl X x := by rfl)
    (hdb : (x == ("__debug__" : Str)) = false := by decide) (he : starEach (e :: es) X.env = (false, eval e X.env) :: starEach es X.env := by rfl) (hpl : (backTo pos (starEach es X.env)).any (·.1) = false := by rfl) :
    PE X (.Call (.Name x p) (e :: es) [] pos) (tCallS sp (WE W) t) := pe_fn D.r hr hg D.g D.kp (fun σ => passAt tk σ) ha hdb he hpl
/-- a module's name that holds a plain value -/
theorem pe_gv {v : V} {pos : Pos} (h : ∃ u, X.mg x = some u ∧ RelV v u) (hg : Gl X x := by rfl) (hd : (x == ("__debug__" : Str)) = false := by decide) : PE X (.Name x pos) (tC v) := by
  obtain ⟨u, h1, h2⟩ := h
  exact pe_glob hg h1 h2 hd
end
structure XC (K : PySem.W.Frag) (mg : Str → Option Value) (x : Str) : Prop where
  g : mg x = some (.ref (ga K x))
  q : PySem.W.excIn K (ga K x) veBase "ValueError.__new__" = true
  k : PySem.W.keepIn K (.ref (ga K x)) = true
  b : PySem.W.subIn K (.ref (ga K x)) (.type "BaseException") = some true
  t : PySem.W.typeIn K (.ref (ga K x)) = some (.type "type")
/-- raise C('..') -/
theorem rs {X : Cx} {W : WX} {c m : Str} {j : Nat} {p p2 pos pos2 : Pos} (hc : X.calm = true) (tk : Takes X W) (x : XC X.K X.mg c) (hg : Gl X c) (hdb : (c == ("__debug__" : Str)) = false := by decide) :
    PS X (.Raise (some (.Call (.Name c p) [.Constant (.str m) j p2] [] pos)) none pos2) (fun _ σ H => W (.ref (ga X.K c)) none σ H) :=
  ps_raise hc tk (pmk_own PySem.F.excBase_ValueError x.q x.g x.k (raises_own x.b x.t) hg hdb)
theorem same_upd {H : Hp} {p : Addr} {o : HO} (h : H p = none) : Same H (upd H p o) := fun b x e => by
  rw [upd_ne (ne_of_none e h)]
  exact e
theorem Same.seqT {K : PySem.W.Frag} {H H' : Hp} {a : Addr} {xs : List V} (e : Same H H') (h : SqT K H a xs) : SqT K H' a xs := by
  rcases h with (h | ⟨o, h⟩) | h
  · exact .inl (.inl (e _ _ h))
  · exact .inl (.inr ⟨o, e _ _ h⟩)
  · exact .inr h
/-- a new object: the heap behind is a letter -/
theorem newO {H : Hp} {o : HO} {Q : Addr → Hp → Prop} (h : ∀ p H', H p = none → Same H H' → H' p = some o → Q p H') : ∀ p, H p = none → Q p (upd H p o) := fun p hp => h p _ hp (same_upd hp) upd_same
theorem newV {H : Hp} {o : HO} {Q : V → Hp → Prop} (h : ∀ p H', H p = none → Same H H' → H' p = some o → Q (.ref p) H') : ∀ p, H p = none → Q (.ref p) (upd H p o) := fun p hp => h p _ hp (same_upd hp) upd_same
theorem ie {b : Bool} {A B : Prop} (h1 : b = true → A) (h2 : b = false → B) : if b = true then A else B := by
  cases b with
  | true => rw [if_pos rfl]; exact h1 rfl
  | false => rw [if_neg Bool.false_ne_true]; exact h2 rfl
theorem if_pos_of {b : Bool} {A B : Prop} (h : b = true) (a : A) : if b = true then A else B := by rw [if_pos h]; exact a
theorem if_neg_of {b : Bool} {A B : Prop} (h : b = false) (a : B) : if b = true then A else B := by rw [h, if_neg Bool.false_ne_true]; exact a
theorem small40 {n : Nat} (h : n ≤ 100000) : n ≤ sizeLine := Nat.le_trans h (by decide)
end EL
namespace EL
open PySem PySem.Spec PyProof.Rows L2 He
theorem xc_of {K : PySem.W.Frag} {mg : Str → Option Value} {x : Str} (g : mg x = some (.ref (ga K x))) (h : PySem.W.excIn K (ga K x) veBase "ValueError.__new__" = true ∧ PySem.W.keepIn K (.ref (ga K x)) = true ∧ PySem.W.subIn K (.ref (ga K x)) (.type "BaseException") = some true ∧
    PySem.W.typeIn K (.ref (ga K x)) = some (.type "type")) : XC K mg x := ⟨g, h.1, h.2.1, h.2.2.1, h.2.2.2⟩
theorem gv_int {mg : Str → Option Value} {x : Str} {i : Int} (h : ∃ t, mg x = some (.int i t)) : ∃ u, mg x = some u ∧ RelV (.int i) u := by
  obtain ⟨t, e⟩ := h
  exact ⟨_, e, t, rfl⟩
theorem gv_str {mg : Str → Option Value} {x z : Str} (h : ∃ t, mg x = some (.str z t)) : ∃ u, mg x = some u ∧ RelV (.str z) u := by
  obtain ⟨t, e⟩ := h
  exact ⟨_, e, t, rfl⟩
def obsM (fa : List Fa) (fn : List DefD) (ex : PySem.W.Frag → Bool) (K : PySem.W.Frag) : AlM := (obsD fa fn K, ex K)
def obsMG (n : Nat) (fa : List Fa) (fn : List DefD) (ex : PySem.W.Frag → Bool) (g : Addr → Option Obj) : AlM := obsM fa fn ex (frG g (asD g n))
def valM (fn : List DefD) : AlM := (valD fn, true)
def hookM (n : Nat) (fa : List Fa) (fn : List DefD) (ex : PySem.W.Frag → Bool) : PySem.W.Hook where
  α := AlM
  obs := fun s => obsMG n fa fn ex s.heap.get?
  val := fun _ => valM fn
  says := fun _ h => ∃ K : PySem.W.Frag, K.In h ∧ SaysD fa fn K ∧ ex K = true
  of := fun _ _ e => ⟨_, frG_in, congrArg (fun z : AlM => z.1) e, congrArg (fun z : AlM => z.2) e⟩
  keeps := fun _ _ _ ⟨K, hK, c⟩ k => ⟨K, PySem.W.Frag.In.keeps hK k, c⟩
theorem obsMG_eq {n : Nat} {fa : List Fa} {fn : List DefD} {ex : PySem.W.Frag → Bool} {g : Addr → Option Obj} {s : Shared} (h : ∀ a, g a = s.heap.get? a) : obsMG n fa fn ex g = (hookM n fa fn ex).obs s := by
  have e : g = s.heap.get? := funext h
  rw [e] <;> rfl
end EL
namespace EL
open PySem PySem.Spec PyProof.Rows L2 He
section
variable {P : Program} {w : World} {K : PySem.W.Frag} {mg : Str → Option Value} {base : Heap} {CX : CXT} {k : Nat} {x : Str} {sp : Sp} {params : Arguments} {body : List Stmt} {scope : Scope} {dvs : List V} {fd : FuncData} {ps N : List Str}
theorem dnN (g : mg x = some (.ref (ga K x))) (F : FunD K x x params body scope [] [] (ga K x) fd)
    (hb : ∀ (kV doc pm : Value) (an : Option Addr) (cdv ct : Value) (us : List Value), us.length = ps.length → bindArgs (PySem.W.fnOf x x params body scope .none kV doc pm an cdv ct) ⟨us, []⟩ = pure (ps.zip us))
    (S : FnScope N ps scope) (len : ∀ vs H Q E, sp vs H Q E → vs.length = ps.length)
    (hbody : ∀ (cdv : Value) (A : Around) (outer : List Env) (s : Shared) (H : Hp) (vs : List V) (Q : VK) (E : XK), Room k (A.deeper (envOfC x scope s.heap.objs.size (ga K x) cdv)) → sp vs H Q E →
      ∃ t, PSs (cxOf CX P w K mg base N x scope (ga K x) cdv A outer s H E) body t ∧ t { nx := fun _ H' => Q .non H', rt := Q } (start N vs) H) : Dn P w K mg base CX (k + 1) x sp :=
  ⟨g, F.kp, ((F.ok S len hbody).raw (F.bindsN hb) .nil).imp fun vs H Q E h => by rw [List.append_nil]; exact h⟩
theorem Dn.mono {j : Nat} (D : Dn P w K mg base CX j x sp) (h : j ≤ k) : Dn P w K mg base CX k x sp := ⟨D.g, D.kp, D.r.mono h⟩
end
def kd : PyData → Kd
  | .none => .non
  | .bool _ => .bl
  | .int _ => .int
  | .str _ => .str
  | .list _ => .lst
  | .tuple _ => .tup
  | .dict _ => .dct
def tyn (d : PyData) : String := kdN (kd d)
theorem SqL.ty {K : PySem.W.Frag} {H : Hp} {a : Addr} {xs : List V} (h : SqL K H a xs) : TyX K H (.ref a) (.type "list") := by
  rcases h with (h | ⟨o, h⟩) | ⟨o, its, n, h1, h2, _⟩
  · exact .base (.lst h)
  · exact .base (.frz h)
  · exact .kList h1 h2
theorem SqT.ty {K : PySem.W.Frag} {H : Hp} {a : Addr} {xs : List V} (h : SqT K H a xs) : TyX K H (.ref a) (.type "tuple") := by
  rcases h with (h | ⟨o, h⟩) | ⟨o, its, n, h1, h2, _⟩
  · exact .base (.tup h)
  · exact .fTuple h
  · exact .kTuple h1 h2
theorem Dp.ty {K : PySem.W.Frag} {H : Hp} {v : V} {d : PyData} (h : Dp K H v d) : TyX K H v (.type (tyn d)) := by
  cases h with
  | non => exact .base .non
  | bl b => exact .base (.bl b)
  | int i => exact .base (.int i)
  | str x => exact .base (.str x)
  | lst h _ => exact SqL.ty h
  | tup h _ => exact SqT.ty h
mutual
theorem Dp.same {K : PySem.W.Frag} {H H' : Hp} (s : Same H H') : ∀ {d : PyData} {v : V}, Dp K H v d → Dp K H' v d
  | _, _, .non => .non
  | _, _, .bl b => .bl b
  | _, _, .int i => .int i
  | _, _, .str x => .str x
  | _, _, .lst h a => .lst (s.seq h) (DpAll.same s a)
  | _, _, .tup h a => .tup (Same.seqT s h) (DpAll.same s a)
theorem DpAll.same {K : PySem.W.Frag} {H H' : Hp} (s : Same H H') : ∀ {ds : List PyData} {vs : List V}, DpAll K H vs ds → DpAll K H' vs ds
  | _, _, .nil => .nil
  | _, _, .cons a b => .cons (Dp.same s a) (DpAll.same s b)
end
theorem DpAll.length {K : PySem.W.Frag} {H : Hp} : ∀ {ds : List PyData} {vs : List V}, DpAll K H vs ds → vs.length = ds.length
  | _, _, .nil => rfl
  | _, _, .cons _ b => congrArg Nat.succ (DpAll.length b)
/-- isinstance's answers of data -/
def kIs (T k : Kd) : Bool := decide (k = T) || (decide (T = .int) && decide (k = .bl))
def isTy (T : Kd) (d : PyData) : Bool := kIs T (kd d)
theorem kit_k : ∀ T k : Kd, kitB (kdN k) (kdN T) = some (kIs T k) := by
  intro T k
  cases T <;> cases k <;> decide +kernel
theorem kit_d (K : PySem.W.Frag) (T : Kd) (d : PyData) : PySem.W.kitOne K (.type (tyn d)) (.type (kdN T)) = some (isTy T d) := kit_ty (kit_k T (kd d))
/-- a thing: data, or some object that is none of the five -/
inductive Th where
  | d (d : PyData)
  | o
def ThOk (K : PySem.W.Frag) (H : Hp) (v : V) : Th → Prop
  | .d d => Dp K H v d
  | .o => ∃ t, TyX K H v t ∧ ∀ T : Kd, PySem.W.kitOne K t (.type (kdN T)) = some false
def Th.is (T : Kd) : Th → Bool
  | Th.d x => isTy T x
  | Th.o => false
/-- its type and isinstance's answers -/
theorem ThOk.ty {K : PySem.W.Frag} {H : Hp} {v : V} {th : Th} (h : ThOk K H v th) : ∃ t, TyX K H v t ∧ ∀ T : Kd, PySem.W.kitOne K t (.type (kdN T)) = some (th.is T) := by
  cases th with
  | d d => exact ⟨_, Dp.ty h, fun T => kit_d K T d⟩
  | o => exact h
def isWholeT (th : Th) : Bool := th.is .int && !th.is .bl
def isWholeD : PyData → Bool
  | .int _ => true
  | _ => false
theorem isWholeT_d (d : PyData) : isWholeT (.d d) = isWholeD d := by cases d <;> rfl
def isValD : PyData → Bool
  | .tuple [.int a, .int b] => !decide (b < 1) && decide (cd a b = 1)
  | _ => false
def isValT : Th → Bool
  | Th.d x => isValD x
  | Th.o => false
end EL
namespace EL
open PySem PySem.Spec PyProof.Rows L2 He TL
section
variable {K : PySem.W.Frag} {x qual : Str} {params : Arguments} {body : List Stmt} {scope : Scope} {dvs : List V} {kws : List (Str × V)} {f : Addr} {fd : FuncData} {ps : List Str}
theorem kbinds1 (F : FunD K x qual params body scope dvs kws f fd) (n : Nat) (ks : List Str) (g : {α : Type} → List α → List α → List α → List α) (hd : dvs ≠ [])
    (hrel : ∀ {vs ds zs : List V} {us its ws : List Value}, Vals vs us → Vals ds its → Vals zs ws → Vals (g vs ds zs) (g us its ws))
    (h : ∀ (T : Addr) (kV doc pm : Value) (an : Option Addr) (cdv ct : Value) (us its ws : List Value), us.length = n → its.length = dvs.length → ws.length = ks.length →
      ∃ k, bindArgs (PySem.W.fnOf x qual params body scope (.ref T) kV doc pm an cdv ct) ⟨us, ks.zip ws⟩ = seqItems? (.ref T) >>= k ∧ k (some its.toArray) = pure (ps.zip (g us its ws))) :
    ∃ its : List Value, KBn K fd ps n ks (fun us ws => g us its ws) (fun vs zs => g vs dvs zs) := by
  obtain ⟨oc, od, dV, kV, doc, pm, an, cdv, ct, osl, rfl, lk, hcd, hD, hK⟩ := F.ex
  rcases hD with ⟨e, _⟩ | ⟨_, T, o, its, m, rfl, lT, oT, rT⟩
  · exact absurd e hd
  · refine ⟨its, ⟨fun s us ws X h1 h2 => ?_, fun r rz => hrel r rT rz⟩⟩
    obtain ⟨k, e1, e2⟩ := h T kV doc pm an cdv ct us its ws h1 rT.length.symm h2
    refine BindsTo.of_looks fun M => ?_
    rw [e1]
    exact looks_items X lT oT (.of_pure e2)
end
section
variable {X : Cx} {CX : CXT} {k : Nat} {f : Addr} {fd : FuncData} {ps ks : List Str} {sp : Sp} {E : XK} {x : Str} {p pos : Pos} {kws : List Keyword} {tk : TA} {g : List Value → List Value → List Value} {gV : List V → List V → List V}
/-- f(k = v, ..) -/
theorem pe_callN0 (F : FnOk X.prog X.w X.K X.mg X.base CX k f fd ps sp) (hr : Room k X.A) (hg : Gl X x) (hm : X.mg x = some (.ref f)) (hk : PySem.W.keepIn X.K (.ref f) = true) (hb : KBn X.K fd ps 0 ks g gV) (hx : Passes CX X E)
    (hkw : PK X kws tk) (hall : (backToKw pos (keywordEach kws X.env)).all (·.1.isSome) = true := by rfl) (hks : (backToKw pos (keywordEach kws X.env)).filterMap (·.1) = ks := by rfl)
    (hdb : (x == ("__debug__" : Str)) = false := by decide) (hpl : ((backTo pos (starEach [] X.env)).any (·.1) || (backToKw pos (keywordEach kws X.env)).any (·.1.isNone)) = false := by rfl) :
    PE X (.Call (.Name x p) [] kws pos) (tCallN 0 ks.length sp gV E tNil tk) := by
  refine ⟨fun pins s σ H Q I h => ?_⟩
  refine wpAny_Call_Name_kw (ld_glob I hg hm ?_ hdb)
  refine PySem.W.callWith_KW0 (h₀ := X.base) I.ok.mod.kin hk hall ?_ hpl
  refine thn (hkw.run pos pins s σ H _ I h) fun ws s2 ⟨zs, H2, I2, rz, l1, l2, q2⟩ => ⟨I2.kIn, ?_⟩
  rw [hks]
  exact run_fnN (us := []) (vs := []) F hr hb hx I2 .nil rz rfl l2 q2
end
theorem str_nil (x : Str) : Str.empty ++ x = x := ext_tl (by rw [tl_append]; rfl)
theorem natDigits_len {n k : Nat} (hk : 0 < k) (h : n < 10 ^ k) : (numL n).length ≤ k := numL_len hk h
/-- the signs of an int -/
def intL (a : Int) : List Nat := if a < 0 then 45 :: numL a.natAbs else numL a.natAbs
theorem tl_int (a : Int) : tl (Str.ofString (toString a)) = intL a := by
  cases a with
  | ofNat n => exact tl_num n
  | negSucc n =>
    unfold intL
    rw [if_pos (by omega), tl_ofString]
    show ("-" ++ Nat.repr (n + 1)).toList.map Char.toNat = 45 :: numL (n + 1)
    rw [String.toList_append, List.map_append, Nat.toList_repr]
    rfl
theorem numL_len1000 {n : Nat} (h : n < 2 ^ 1000) : (numL n).length ≤ 1000 := numL_len (by decide) (Nat.lt_of_lt_of_le h (Nat.pow_le_pow_left (by decide) _))
theorem len_int {a : Int} (h : a.natAbs < 2 ^ 1000) : (Str.ofString (toString a)).length ≤ 1001 := by
  rw [len_tl, tl_int]
  have := numL_len1000 h
  unfold intL
  split
  · rw [List.length_cons]
    omega
  · omega
/-- what a text of digits is worth -/
def isDig (c : Nat) : Bool := decide (48 ≤ c) && decide (c ≤ 57)
def rdD (cs : List Nat) : Option Nat := if (1 ≤ cs.length ∧ cs.length ≤ 40) ∧ cs.all isDig = true ∧ ¬ (1 < cs.length ∧ cs.head? = some 48) then some (NumText.digitsVal cs) else none
def optV : Option Nat → V
  | none => .non
  | some n => .int n
/-- a text as value reads it -/
def rdP (cs : List Nat) : List Nat × Option (List Nat) := match par [47] [] cs with
  | none => (cs, none)
  | some (a, b) => (a, some b)
def rdB : Option (List Nat) → Option Nat
  | none => some 1
  | some u => match rdD u with
    | some b => if 2 ≤ b then some b else none
    | none => none
def rdF (below : Bool) : Option Nat → Option Nat → Option (Int × Int)
  | some b, some t => if (below && decide (t = 0)) || decide (Nat.gcd t b ≠ 1) then none else some (if below then -(t : Int) else (t : Int), (b : Int))
  | _, _ => none
def rdV (cs : List Nat) : Option (Int × Int) :=
  rdF (decide (cs.take 1 = [45])) (rdB (rdP (if decide (cs.take 1 = [45]) = true then cs.drop 1 else cs)).2) (rdD (rdP (if decide (cs.take 1 = [45]) = true then cs.drop 1 else cs)).1)
theorem par_split {s : Nat} : ∀ (cs acc a b : List Nat), par [s] acc cs = some (a, b) → acc ++ cs = a ++ s :: b
  | [], acc, a, b, h => by simp [par] at h
  | c :: r, acc, a, b, h => by
    by_cases e : c = s
    · subst e
      rw [par_hit (by simp [pre])] at h
      injection h with h
      injection h with h1 h2
      rw [← h1, ← h2]
      rfl
    · rw [par_miss (pre_of_head [] r e)] at h
      have := par_split r (acc ++ [c]) a b h
      rw [← this]
      simp
end EL
namespace EL
open PySem PySem.Spec PyProof.Rows L2 He TL
theorem tl_cut_to (z : Str) (k : Nat) : tl (cutS z none (some (k : Int))) = (tl z).take k := by
  show ((tl z).drop (HT.sIx z.length 0 none)).take (HT.sIx z.length z.length (some (k : Int)) - HT.sIx z.length 0 none) = (tl z).take k
  rw [HT.sIx_none, HT.sIx_nat, List.drop_zero, Nat.sub_zero, len_tl]
  by_cases h : k ≤ (tl z).length
  · rw [Nat.min_eq_left h]
  · rw [Nat.min_eq_right (by omega), List.take_length, List.take_of_length_le (by omega)]
theorem tl_cut_from (z : Str) (k : Nat) : tl (cutS z (some (k : Int)) none) = (tl z).drop k := by
  show ((tl z).drop (HT.sIx z.length 0 (some (k : Int)))).take (HT.sIx z.length z.length none - HT.sIx z.length 0 (some (k : Int))) = (tl z).drop k
  rw [HT.sIx_none, HT.sIx_nat, len_tl]
  by_cases h : k ≤ (tl z).length
  · rw [Nat.min_eq_left h, List.take_of_length_le (by rw [List.length_drop]; omega)]
  · rw [Nat.min_eq_right (by omega), List.drop_length, List.drop_of_length_le (by omega), List.take_nil]
theorem tl_digits : tl ("0123456789" : Str) = [48, 49, 50, 51, 52, 53, 54, 55, 56, 57] := by decide +kernel
theorem mem_digits (c : Nat) : decide (c ∈ tl ("0123456789" : Str)) = isDig c := by
  rw [tl_digits]
  unfold isDig
  rw [← Bool.decide_and]
  refine decide_eq_decide.mpr ?_
  simp only [List.mem_cons, List.not_mem_nil, or_false]
  omega
theorem str_one {c : Nat} {y : Str} {d : Nat} (hy : tl y = [d]) : decide (V.str ⟨#[c]⟩ = V.str y) = decide (c = d) := by
  refine decide_eq_decide.mpr ⟨fun e => ?_, fun e => ?_⟩
  · have e1 : (⟨#[c]⟩ : Str) = y := by injection e
    rw [← e1] at hy
    have h2 : [c] = [d] := hy
    injection h2
  · have e1 : (⟨#[c]⟩ : Str) = y := ext_tl (by rw [hy, e])
    rw [e1]
theorem allDigits_of {cs : List Nat} (h : cs.all isDig = true) : NumText.AllDigits cs := fun c hc => by
  have := List.all_eq_true.mp h c hc
  unfold isDig at this
  rw [Bool.and_eq_true, decide_eq_true_eq, decide_eq_true_eq] at this
  exact this
theorem str_eq_tl {x y : Str} : decide (V.str x = V.str y) = decide (tl x = tl y) := decide_eq_decide.mpr ⟨fun e => by injection e with e; rw [e], fun e => by rw [ext_tl e]⟩
/-- a statement, then the rest, with a word between them -/
def tMid (t u : TS) : TS := fun D σ H => ∃ Mid : L2.St → Hp → Prop, t { D with nx := Mid } σ H ∧ ∀ σ' H', Mid σ' H' → u D σ' H'
theorem pss_mid {X : Cx} {st : Stmt} {rest : List Stmt} {t u : TS} (h1 : PS X st t) (h2 : PSs X rest u) : PSs X (st :: rest) (tMid t u) := by
  refine ⟨fun pins s σ H D I h => ?_⟩
  obtain ⟨Mid, hm, hu⟩ := h
  refine wpAny_execs_cons (thn (h1.run pins s σ H { D with nx := Mid } I hm) fun f s1 q => ?_)
  cases f with
  | next =>
    obtain ⟨σ', H', I', q⟩ := q
    exact h2.run pins s1 σ' H' D I' (hu σ' H' q)
  | ret v => exact q
  | brk => exact q
  | cont => exact q
end EL
namespace EL
open PySem PySem.Spec PyProof.Rows L2 He TL
theorem exG {l : List Bool} {b : Bool} (m : l.all id = true) (i : Nat) (h : l[i]? = some b) : b = true := List.all_eq_true.mp m b (List.mem_of_getElem? h)
theorem excCB_ok {K : PySem.W.Frag} {D : Addr} (h : excCB K D = true) : ExcC K D := by
  obtain ⟨h1, h⟩ := ba h
  obtain ⟨h2, h⟩ := ba h
  obtain ⟨h3, h⟩ := ba h
  obtain ⟨h4, h⟩ := ba h
  obtain ⟨h5, h⟩ := ba h
  obtain ⟨h6, h⟩ := ba h
  obtain ⟨h7, h8⟩ := ba h
  exact ⟨eqO_ok h1, eqO_ok h2, of_decide_eq_true h3, h4, eqO_ok h5, eqO_ok h6, of_decide_eq_true h7, of_decide_eq_true h8⟩
/-- isinstance(e, c), e the exception of the class at D that the suite holds -/
theorem call_isX {X : Cx} {a : Addr} {oe : Obj} {pn : List (Addr × Obj)} {cls : Value} {d : Option Addr} (D : Addr) (C : ExcC X.K D) (hz : Zc cls d oe) (hf : ∃ vs, oe.data = .fields vs) :
    CallR (X.suite a ((a, oe) :: pn)) (.builtin "isinstance") (fun xs H Q => cls = .ref D ∧ d = none ∧ rIsE X.K D a xs H Q) := by
  intro pins s σ H xs us Q I r h
  obtain ⟨rfl, rfl, h⟩ := h
  exact call_isE C hz hf pins s σ H xs us Q I r h
/-- the list [cells, place, digits, state] -/
def Src (H : Hp) (p l : Addr) : Prop := ∃ (ns : List Int) (i : Nat) (c r : Int), H p = some (.lst [.ref l, .int i, .int c, .int r]) ∧ H l = some (.lst (ns.map V.int)) ∧ 0 ≤ c ∧ 0 ≤ r ∧ r < 2147483647
/-- all but p is as it was -/
def But (p : Addr) (H H' : Hp) : Prop := ∀ b o, H b = some o → b ≠ p → H' b = some o
theorem But.refl (p : Addr) (H : Hp) : But p H H := fun _ _ h _ => h
theorem But.trans {p : Addr} {H H1 H2 : Hp} (a : But p H H1) (b : But p H1 H2) : But p H H2 := fun c o h n => b c o (a c o h n) n
theorem But.of {p : Addr} {H H' : Hp} (s : Same H H') : But p H H' := fun b o h _ => s b o h
theorem but_upd {p : Addr} {H : Hp} {o : HO} : But p H (upd H p o) := fun b x h n => by rw [upd_ne n]; exact h
theorem Src.same {H H' : Hp} {p l : Addr} (s : Same H H') (h : Src H p l) : Src H' p l := by
  obtain ⟨ns, i, c, r, h1, h2, h3⟩ := h
  exact ⟨ns, i, c, r, s _ _ h1, s _ _ h2, h3⟩
theorem Src.lst {H : Hp} {p l : Addr} (h : Src H p l) : ∃ xs, H p = some (.lst xs) := by
  obtain ⟨ns, i, c, r, h1, _⟩ := h
  exact ⟨_, h1⟩
theorem Src.lst2 {H : Hp} {p l : Addr} (h : Src H p l) : ∃ xs, H l = some (.lst xs) := by
  obtain ⟨ns, i, c, r, h1, h2, _⟩ := h
  exact ⟨_, h2⟩
theorem Src.ne {H : Hp} {p l : Addr} (h : Src H p l) : l ≠ p := fun e => by
  obtain ⟨ns, i, c, r, h1, h2, _⟩ := h
  subst e
  rw [h1] at h2
  injection h2 with h2
  injection h2 with h2
  cases ns with
  | nil => cases h2
  | cons x r => injection h2 with h2; cases h2
/-- another thing changes -/
theorem Src.but {H H' : Hp} {p l x : Addr} (s : But x H H') (h : Src H p l) (h1 : p ≠ x) (h2 : l ≠ x) : Src H' p l := by
  obtain ⟨ns, i, c, r, k1, k2, h3⟩ := h
  exact ⟨ns, i, c, r, s _ _ k1 h1, s _ _ k2 h2, h3⟩
theorem But.seqT {K : PySem.W.Frag} {p a : Addr} {H H' : Hp} {xs : List V} (s : But p H H') (hp : ∃ ys, H p = some (.lst ys)) (h : SqT K H a xs) : SqT K H' a xs := by
  obtain ⟨ys, hp⟩ := hp
  rcases h with (h | ⟨o, h⟩) | h
  · exact .inl (.inl (s _ _ h (ne_of h hp (by intro z; cases z))))
  · exact .inl (.inr ⟨o, s _ _ h (ne_of h hp (by intro z; cases z))⟩)
  · exact .inr h
end EL
namespace EL
open PySem PySem.Spec PyProof.Rows L2 He TL
def txtV (a b : Int) : Str := if b = 1 then (toString a : String) else ((toString a : String) : Str) ++ "/" ++ ((toString b : String) : Str)
theorem numL_head {n : Nat} (h : 1 ≤ n) : (numL n).head? ≠ some 48 := by
  induction n using Nat.strongRecOn with
  | _ n ih =>
    by_cases h10 : n < 10
    · rw [numL_lt h10]
      intro e
      have e2 : 48 + n = 48 := Option.some.inj e
      omega
    · rw [numL_step (by omega)]
      have hh := ih (n / 10) (by omega) (by omega)
      cases hc : numL (n / 10) with
      | nil => exact absurd hc (numL_ne _)
      | cons x r =>
        rw [hc] at hh
        exact hh
theorem rdD_num {n : Nat} (h : n < 10 ^ 40) : rdD (numL n) = some n := by
  unfold rdD
  have hl : (numL n).length ≤ 40 := numL_len (by decide) h
  have h1 : 1 ≤ (numL n).length := by
    cases hc : numL n with
    | nil => exact absurd hc (numL_ne _)
    | cons x r => simp
  rw [if_pos, numL_val]
  refine ⟨⟨h1, hl⟩, ?_, ?_⟩
  · refine List.all_eq_true.mpr fun c hc => ?_
    have := numL_digits n c hc
    unfold isDig
    rw [Bool.and_eq_true, decide_eq_true_eq, decide_eq_true_eq]
    exact this
  · rintro ⟨h2, h3⟩
    by_cases h0 : n < 10
    · rw [numL_lt h0] at h2
      exact absurd h2 (Nat.lt_irrefl 1)
    · exact numL_head (by omega) h3
theorem tl_txtV (a b : Int) : tl (txtV a b) = if b = 1 then intL a else intL a ++ 47 :: intL b := by
  unfold txtV
  by_cases h : b = 1
  · rw [if_pos h, if_pos h]
    exact tl_int a
  · rw [if_neg h, if_neg h, tl_append, tl_append, tl_int, tl_int, show tl ("/" : Str) = [47] by decide +kernel, List.append_assoc]
    rfl
theorem numL_first (n : Nat) : (numL n).take 1 ≠ [45] := fun e => by
  have : (45 : Nat) ∈ (numL n).take 1 := by rw [e]; simp
  exact numL_free (n := n) (s := 45) (.inl (by decide)) (List.mem_of_mem_take this)
theorem numL_app_first (n : Nat) (r : List Nat) : (numL n ++ r).take 1 ≠ [45] := fun e => by
  cases hc : numL n with
  | nil => exact absurd hc (numL_ne _)
  | cons x q =>
    rw [hc] at e
    have := numL_first n
    rw [hc] at this
    exact this e
theorem rdP_num (n : Nat) : rdP (numL n) = (numL n, none) := by
  unfold rdP
  rw [par_none1 (numL_free (.inl (by decide)))]
theorem rdP_two (n m : Nat) : rdP (numL n ++ 47 :: numL m) = (numL n, some (numL m)) := by
  unfold rdP
  rw [show numL n ++ 47 :: numL m = numL n ++ ([47] ++ numL m) from rfl, par_part1 (numL_free (.inl (by decide)))]
  rfl
theorem rdV_txt {a b : Int} (h : Low a b) (ha : a.natAbs < 10 ^ 40) (hb : b.natAbs < 10 ^ 40) : rdV (tl (txtV a b)) = some (a, b) := by
  obtain ⟨hb0, hg⟩ := h
  have hg' : Nat.gcd a.natAbs b.natAbs = 1 := by unfold cd at hg; omega
  have hbL : intL b = numL b.natAbs := by
    unfold intL
    rw [if_neg (by omega)]
  -- the body behind the sign, by its parts
  have body : ∀ cs : List Nat, cs = (if b = 1 then numL a.natAbs else numL a.natAbs ++ 47 :: numL b.natAbs) → rdB (rdP cs).2 = some b.natAbs ∧ rdD (rdP cs).1 = some a.natAbs := by
    intro cs hcs
    by_cases h1 : b = 1
    · rw [if_pos h1] at hcs
      rw [hcs, rdP_num]
      refine ⟨?_, rdD_num ha⟩
      rw [h1]
      rfl
    · rw [if_neg h1] at hcs
      rw [hcs, rdP_two]
      refine ⟨?_, rdD_num ha⟩
      simp only [rdB, rdD_num hb]
      exact if_pos (by omega)
  rw [tl_txtV]
  unfold rdV
  by_cases hn : a < 0
  · have e : (if b = 1 then intL a else intL a ++ 47 :: intL b) = 45 :: (if b = 1 then numL a.natAbs else numL a.natAbs ++ 47 :: numL b.natAbs) := by
      unfold intL
      rw [if_pos hn, if_neg (show ¬ b < 0 by omega)]
      split <;> rfl
    rw [e]
    obtain ⟨e1, e2⟩ := body _ rfl
    rw [show decide ((45 :: (if b = 1 then numL a.natAbs else numL a.natAbs ++ 47 :: numL b.natAbs)).take 1 = [45]) = true from rfl, if_pos rfl, List.drop_one, List.tail_cons, e1, e2]
    show (if (true && decide (a.natAbs = 0) || decide (Nat.gcd a.natAbs b.natAbs ≠ 1)) = true then none else some (-(a.natAbs : Int), (b.natAbs : Int))) = _
    rw [if_neg]
    · rw [show -(a.natAbs : Int) = a by omega, show (b.natAbs : Int) = b by omega]
    · rw [decide_eq_false (show ¬ a.natAbs = 0 by omega), Bool.and_false, Bool.false_or]
      exact fun z => of_decide_eq_true z hg'
  · have e : (if b = 1 then intL a else intL a ++ 47 :: intL b) = (if b = 1 then numL a.natAbs else numL a.natAbs ++ 47 :: numL b.natAbs) := by
      unfold intL
      rw [if_neg hn, if_neg (show ¬ b < 0 by omega)]
    rw [e]
    have hf : (if b = 1 then numL a.natAbs else numL a.natAbs ++ 47 :: numL b.natAbs).take 1 ≠ [45] := by
      split
      · exact numL_first _
      · exact numL_app_first _ _
    obtain ⟨e1, e2⟩ := body _ rfl
    rw [decide_eq_false hf, if_neg Bool.false_ne_true, e1, e2]
    show (if (false && decide (a.natAbs = 0) || decide (Nat.gcd a.natAbs b.natAbs ≠ 1)) = true then none else some ((a.natAbs : Int), (b.natAbs : Int))) = _
    rw [if_neg]
    · rw [show (a.natAbs : Int) = a by omega, show (b.natAbs : Int) = b by omega]
    · rw [Bool.false_and, Bool.false_or]
      exact fun z => of_decide_eq_true z hg'
theorem nrm_abs (t b : Int) : (nrm t b).1.natAbs ≤ t.natAbs ∧ (nrm t b).2.natAbs ≤ b.natAbs := by
  have k : ∀ x g : Int, g ∣ x → (x / g).natAbs ≤ x.natAbs := fun x g h => by
    rw [Int.natAbs_ediv_of_dvd h]
    exact Nat.div_le_self _ _
  unfold nrm
  split
  · have h1 := k (-t) _ (cd_dvd_l (-t) (-b))
    have h2 := k (-b) _ (cd_dvd_r (-t) (-b))
    rw [Int.natAbs_neg] at h1 h2
    exact ⟨h1, h2⟩
  · exact ⟨k t _ (cd_dvd_l t b), k b _ (cd_dvd_r t b)⟩
theorem nrm_neg {t b : Int} (h : b < 0) : nrm (-t) (-b) = nrm t b := by
  unfold nrm
  rw [if_pos h, if_neg (by omega)]
end EL
namespace EL
open PySem PySem.Spec PyProof.Rows L2 He TL
theorem digitsVal_snoc' (cs : List Nat) (d : Nat) : NumText.digitsVal (cs ++ [d]) = NumText.digitsVal cs * 10 + (d - 48) := by
  unfold NumText.digitsVal
  rw [List.foldl_append]
  rfl
theorem snoc_of {cs : List Nat} (h : cs ≠ []) : ∃ i d, cs = i ++ [d] := ⟨cs.dropLast, cs.getLast h, (List.dropLast_concat_getLast h).symm⟩
theorem numL_back : ∀ (k : Nat) (cs : List Nat), cs.length = k → cs ≠ [] → cs.all isDig = true → ¬ (1 < cs.length ∧ cs.head? = some 48) → numL (NumText.digitsVal cs) = cs ∧ (cs.head? ≠ some 48 → 1 ≤ NumText.digitsVal cs)
  | 0, cs, hk, hne, _, _ => absurd (List.length_eq_zero_iff.mp hk) hne
  | k + 1, cs, hk, hne, ha, hz => by
    obtain ⟨i, d, rfl⟩ := snoc_of hne
    rw [List.all_append, Bool.and_eq_true] at ha
    have hd : 48 ≤ d ∧ d ≤ 57 := by
      have := ha.2
      simp only [List.all_cons, List.all_nil, Bool.and_true, isDig, Bool.and_eq_true, decide_eq_true_eq] at this
      exact this
    rw [digitsVal_snoc']
    cases hi : i with
    | nil =>
      have e : NumText.digitsVal [] = 0 := rfl
      rw [e, Nat.zero_mul, Nat.zero_add, numL_lt (by omega)]
      refine ⟨?_, fun hh => ?_⟩
      · show [48 + (d - 48)] = [d]
        rw [show 48 + (d - 48) = d by omega]
      · have : d ≠ 48 := fun z => hh (by rw [z]; rfl)
        omega
    | cons x r =>
      have hl : i.length = k := by
        rw [List.length_append, List.length_singleton] at hk
        omega
      have hh : (i ++ [d]).head? = i.head? := by rw [hi]; rfl
      have h48 : i.head? ≠ some 48 := fun z => hz ⟨by rw [List.length_append, hi]; simp, by rw [hh]; exact z⟩
      obtain ⟨e1, e2⟩ := numL_back k i hl (by rw [hi]; simp) ha.1 (fun z => h48 z.2)
      have e3 := e2 h48
      rw [← hi]
      refine ⟨?_, fun _ => by omega⟩
      rw [numL_step (by omega), show (NumText.digitsVal i * 10 + (d - 48)) / 10 = NumText.digitsVal i by omega, show (NumText.digitsVal i * 10 + (d - 48)) % 10 = d - 48 by omega, e1, show 48 + (d - 48) = d by omega]
theorem rdD_inv {cs : List Nat} {n : Nat} (h : rdD cs = some n) : cs = numL n ∧ n < 10 ^ 40 := by
  unfold rdD at h
  split at h
  · rename_i c
    injection h with h
    have hne : cs ≠ [] := fun e => by rw [e] at c; exact absurd c.1.1 (by decide)
    have e := (numL_back cs.length cs rfl hne c.2.1 c.2.2).1
    rw [h] at e
    refine ⟨e.symm, ?_⟩
    have hl : (numL n).length ≤ 40 := by rw [e]; exact c.1.2
    exact Nat.lt_of_not_le fun hge => by
      have : ∀ (k m : Nat), 10 ^ k ≤ m → k + 1 ≤ (numL m).length := by
        intro k
        induction k with
        | zero =>
          intro m _
          cases hm : numL m with
          | nil => exact absurd hm (numL_ne _)
          | cons x r => simp
        | succ k ih =>
          intro m hm
          have h10 : 10 ≤ m := Nat.le_trans (by rw [Nat.pow_succ]; have : 0 < 10 ^ k := Nat.pow_pos (by decide); omega) hm
          rw [numL_step h10, List.length_append]
          have := ih (m / 10) ((Nat.le_div_iff_mul_le (by decide)).mpr (by rw [Nat.pow_succ] at hm; exact hm))
          simp only [List.length_singleton]
          omega
      have := this 40 n hge
      omega
  · cases h
theorem spl_par {s : Nat} : ∀ (cs acc : List Nat), spl [s] 0 acc cs = (match par [s] acc cs with | none => [acc ++ cs] | some (a, b) => a :: spl [s] 0 [] b)
  | [], acc => by
    rw [spl_nil]
    simp [par]
  | c :: r, acc => by
    by_cases e : c = s
    · subst e
      rw [spl_hit (by simp [pre]), par_hit (by simp [pre])]
      rfl
    · rw [spl_miss (pre_of_head [] r e), par_miss (pre_of_head [] r e), spl_par r (acc ++ [c])]
      cases par [s] (acc ++ [c]) r with
      | none => simp
      | some ab => rfl
theorem par_some {s : Nat} : ∀ (cs acc : List Nat), s ∈ cs → ∃ a b, par [s] acc cs = some (a, b)
  | [], _, h => by cases h
  | c :: r, acc, h => by
    by_cases e : c = s
    · subst e
      exact ⟨acc, r, by rw [par_hit (by simp [pre])]; rfl⟩
    · rw [par_miss (pre_of_head [] r e)]
      exact par_some r _ (by
        rcases List.mem_cons.mp h with z | z
        · exact absurd z.symm e
        · exact z)
theorem rdD_free {cs : List Nat} (h : 47 ∈ cs) : rdD cs = none := by
  unfold rdD
  refine if_neg fun c => ?_
  have := List.all_eq_true.mp c.2.1 47 h
  exact absurd this (by decide)
/-- what read_value takes, text_of writes -/
theorem rdV_inv {cs : List Nat} {a b : Int} (h : rdV cs = some (a, b)) : tl (txtV a b) = cs ∧ Low a b ∧ a.natAbs < 10 ^ 40 ∧ b.natAbs < 10 ^ 40 := by
  unfold rdV at h
  generalize hbd : (if decide (cs.take 1 = [45]) = true then cs.drop 1 else cs) = bd at h
  cases hB : rdB (rdP bd).2 with
  | none =>
    rw [hB] at h
    cases h
  | some n =>
    cases hD : rdD (rdP bd).1 with
    | none =>
      rw [hB, hD] at h
      cases h
    | some m =>
      rw [hB, hD] at h
      generalize hbl : decide (cs.take 1 = [45]) = below at *
      have h' : (if (below && decide (m = 0) || decide (Nat.gcd m n ≠ 1)) = true then none else some (if below then -(m : Int) else (m : Int), (n : Int))) = some (a, b) := h
      split at h'
      · cases h'
      · rename_i c
        injection h' with h'
        injection h' with ea eb
        have hg : Nat.gcd m n = 1 := by
          cases hd : decide (Nat.gcd m n ≠ 1) with
          | true => rw [hd, Bool.or_true] at c; exact absurd rfl c
          | false => exact Decidable.not_not.mp (of_decide_eq_false hd)
        have hbz : below = true → m ≠ 0 := fun hb z => by
          rw [hb, z] at c
          exact c rfl
        obtain ⟨e1, m40⟩ := rdD_inv hD
        -- the body
        have body : bd = (if n = 1 then numL m else numL m ++ 47 :: numL n) ∧ 1 ≤ n ∧ n < 10 ^ 40 := by
          unfold rdP at hB e1
          cases hp : par [47] [] bd with
          | none =>
            rw [hp] at hB e1
            have en : 1 = n := Option.some.inj hB
            rw [if_pos en.symm]
            exact ⟨e1, by omega, by rw [← en]; decide⟩
          | some xy =>
            obtain ⟨x, y⟩ := xy
            rw [hp] at hB e1
            have hB' : (match rdD y with | some b => if 2 ≤ b then some b else none | none => none) = some n := hB
            cases hy : rdD y with
            | none =>
              rw [hy] at hB'
              cases hB'
            | some k =>
              rw [hy] at hB'
              have hB2 : (if 2 ≤ k then some k else none) = some n := hB'
              split at hB2
              · injection hB2 with hk
                subst hk
                obtain ⟨e2, k40⟩ := rdD_inv hy
                rw [if_neg (by omega)]
                have e3 : x = numL m := e1
                refine ⟨?_, by omega, k40⟩
                rw [← e3, ← e2]
                exact (par_split _ _ _ _ hp)
              · cases hB2
        obtain ⟨hbody, hn1, n40⟩ := body
        have hcs : cs = if below = true then 45 :: bd else bd := by
          cases below with
          | true =>
            have ht := of_decide_eq_true hbl
            rw [if_pos rfl] at hbd ⊢
            rw [← hbd, ← List.singleton_append, ← ht, List.take_append_drop]
          | false =>
            rw [if_neg Bool.false_ne_true] at hbd ⊢
            exact hbd
        have ebn : b.natAbs = n := by omega
        have eam : a.natAbs = m := by
          rw [← ea]
          split <;> omega
        refine ⟨?_, ⟨by omega, ?_⟩, by omega, by omega⟩
        · rw [tl_txtV, hcs, hbody]
          have hb1 : (b = 1) ↔ (n = 1) := by omega
          have hib : intL b = numL n := by
            unfold intL
            rw [if_neg (by omega), ebn]
          have hia : intL a = if below = true then 45 :: numL m else numL m := by
            unfold intL
            rw [eam]
            cases hbe : below with
            | true =>
              rw [hbe] at ea hbz
              have hm := hbz rfl
              rw [if_pos rfl] at ea ⊢
              rw [if_pos (by omega)]
            | false =>
              rw [hbe] at ea
              rw [if_neg Bool.false_ne_true] at ea ⊢
              rw [if_neg (by omega)]
          rw [hia, hib]
          by_cases h1 : n = 1
          · rw [if_pos h1, if_pos (hb1.mpr h1)]
          · rw [if_neg h1, if_neg (fun z => h1 (hb1.mp z))]
            cases below <;> rfl
        · unfold cd
          rw [eam, ebn, hg]
          rfl
theorem call_str_bool {X : Cx} : CallR X (.type "str") (fun xs H Q => ∃ b : Bool, xs = [.bl b] ∧ Q (.str (if b then "True" else "False")) H) := by
  intro pins s σ H xs us Q I r h
  obtain ⟨b, rfl, q⟩ := h
  obtain ⟨u, rfl, ru⟩ := vals1 r
  cases ru
  exact PySem.P.str_of_bool ⟨.str _, H, I.tok _, ⟨_, rfl⟩, q⟩
end EL
namespace EL
open PySem PySem.Spec PyProof.Rows L2 He TL ClX
theorem DefE.funD {K : PySem.W.Frag} {d : DefE} (e : fnWA K (d.ad K) = d.val) (c : d.ok K = true) : ∃ fd, FunD K d.name d.qual d.params d.body d.scope (d.dvs K) (d.kws K) (d.ad K) fd := by
  obtain ⟨kp, c2⟩ := ba c
  unfold fnWA at e
  cases q : K.lookup (d.ad K) with
  | none =>
    rw [q] at c2
    cases c2
  | some o =>
    obtain ⟨oc, od, dt, osl⟩ := o
    rw [q] at c2 e
    cases dt with
    | func fd =>
      obtain ⟨n1, n2, n3, n4, n5, n6, n7, n8, n9, n10, n11, n12, n13, n14, n15⟩ := fd
      have e2 : (some (n1, n2, n3, n4, n5, n6, n7, n15) : FnW) = some (d.name, d.qual, d.params, .stmts d.body, d.scope, mainGlobals, [], builtinsNs) := e
      simp only [Option.some.injEq, Prod.mk.injEq] at e2
      obtain ⟨h1, h2, h3, h4, h5, h6, h7, h8⟩ := e2
      subst h1 h2 h3 h4 h5 h6 h7 h8
      have c3 : (PySem.W.codeIn K n13 d.qual && (dflB K n8 (d.dvs K) && kwdB K n9 (d.kws K))) = true := c2
      obtain ⟨k1, k2⟩ := ba c3
      obtain ⟨k3, k4⟩ := ba k2
      exact ⟨_, ⟨oc, od, n8, n9, n10, n11, n12, n13, n14, osl, rfl, q, k1, dflB_ok k3, kwdB_ok k4⟩, kp⟩
    | _ => cases c2
def obsEG (n : Nat) (fa : List Fa) (fn : List DefE) (ex : PySem.W.Frag → Bool) (g : Addr → Option Obj) : AlM := obsE fa fn ex (frG g (He5.asA g n))
def SaysE (fa : List Fa) (fn : List DefE) (ex : PySem.W.Frag → Bool) (K : PySem.W.Frag) : Prop := obsE fa fn ex K = valE fn
def hookE (n : Nat) (fa : List Fa) (fn : List DefE) (ex : PySem.W.Frag → Bool) : PySem.W.Hook where
  α := AlM
  obs := fun s => obsEG n fa fn ex s.heap.get?
  val := fun _ => valE fn
  says := fun _ h => ∃ K : PySem.W.Frag, K.In h ∧ SaysE fa fn ex K
  of := fun _ _ e => ⟨_, frG_in, e⟩
  keeps := fun _ _ _ ⟨K, hK, c⟩ k => ⟨K, PySem.W.Frag.In.keeps hK k, c⟩
theorem obsEG_eq {n : Nat} {fa : List Fa} {fn : List DefE} {ex : PySem.W.Frag → Bool} {g : Addr → Option Obj} {s : Shared} (h : ∀ a, g a = s.heap.get? a) : obsEG n fa fn ex g = (hookE n fa fn ex).obs s := by
  have e : g = s.heap.get? := funext h
  rw [e] <;> rfl
section
variable {fa : List Fa} {fn : List DefE} {ex : PySem.W.Frag → Bool} {K : PySem.W.Frag}
theorem SaysE.fact (c : SaysE fa fn ex K) (i : Nat) {f : Fa} (h : fa[i]? = some f := by rfl) : f.ok K = true := by
  have c1 := (ba (show ((fa.all fun f => f.ok K) && fn.all fun d => d.ok K) = true from congrArg (fun z : AlM => z.1.1) c)).1
  exact List.all_eq_true.mp c1 f (List.mem_of_getElem? h)
theorem SaysE.ex_ (c : SaysE fa fn ex K) : ex K = true := congrArg (fun z : AlM => z.2) c
theorem SaysE.def_ (c : SaysE fa fn ex K) (i : Nat) {d : DefE} (h : fn[i]? = some d := by rfl) : ∃ fd, FunD K d.name d.qual d.params d.body d.scope (d.dvs K) (d.kws K) (d.ad K) fd := by
  have c2 := (ba (show ((fa.all fun f => f.ok K) && fn.all fun d => d.ok K) = true from congrArg (fun z : AlM => z.1.1) c)).2
  have e : fn.map (fun d => fnWA K (d.ad K)) = fn.map DefE.val := congrArg (fun z : AlM => z.1.2) c
  have e2 : (fn.map fun d => fnWA K (d.ad K))[i]? = (fn.map DefE.val)[i]? := by rw [e]
  rw [List.getElem?_map, List.getElem?_map, h] at e2
  exact DefE.funD (Option.some.inj e2) (List.all_eq_true.mp c2 d (List.mem_of_getElem? h))
end
theorem kdL_all (T : Kd) : T ∈ kdL := by cases T <;> decide
/-- what of the text an own class has -/
structure OC (K : PySem.W.Frag) (C : Addr) : Prop where
  cl : Cls K C
  ca : PySem.W.findIn K (.ref C) "__class__" = some (some (.builtin "object.__class__"))
  hn : PySem.W.specialIn K (.builtin "object.__class__") "__get__" = some (some (.builtin "getset_descriptor.__get__"))
  tk : PySem.W.takesIn K (.builtin "object.__class__") = some true
  ob : PySem.W.mroIn K C (.type "object") = some true
  to : ∀ T : Kd, PySem.W.kitOne K (.ref C) (.type (kdN T)) = some false
  of : ∀ T : Kd, PySem.W.kitOne K (.type (kdN T)) (.ref C) = some false
  self : PySem.W.kitOne K (.ref C) (.ref C) = some true
theorem ocB_ok {K : PySem.W.Frag} {C : Addr} (h : ocB K C = true) : OC K C := by
  obtain ⟨h1, h⟩ := ba h
  obtain ⟨a1, h1⟩ := ba h1
  obtain ⟨a2, h1⟩ := ba h1
  obtain ⟨a3, a4⟩ := ba h1
  obtain ⟨h2, h⟩ := ba h
  obtain ⟨h3, h⟩ := ba h
  obtain ⟨h4, h⟩ := ba h
  obtain ⟨h5, h⟩ := ba h
  obtain ⟨h6, h⟩ := ba h
  obtain ⟨h7, h8⟩ := ba h
  exact ⟨⟨a1, a2, a3, eqO_ok a4⟩, eqO_ok h2, eqO_ok h3, of_decide_eq_true h4, of_decide_eq_true h5, fun T => of_decide_eq_true (List.all_eq_true.mp h6 T (kdL_all T)), fun T => of_decide_eq_true (List.all_eq_true.mp h7 T (kdL_all T)), of_decide_eq_true h8⟩
theorem OC.ty {K : PySem.W.Frag} {C : Addr} (c : OC K C) {H : Hp} {a dx : Addr} {fs : List (Str × V)} (h : H a = some (.ins C dx fs)) : TyX K H (.ref a) (.ref C) := .base (.ins h c.cl c.ca c.hn c.tk c.ob)
/-- an instance as a thing -/
theorem OC.th {K : PySem.W.Frag} {C : Addr} (c : OC K C) {H : Hp} {a dx : Addr} {fs : List (Str × V)} (h : H a = some (.ins C dx fs)) : ThOk K H (.ref a) .o := ⟨.ref C, c.ty h, c.to⟩
theorem OC.isD {K : PySem.W.Frag} {C : Addr} (c : OC K C) (d : PyData) : PySem.W.kitOne K (.type (tyn d)) (.ref C) = some false := c.of (kd d)
def tMethE (C : Addr) (m : Str) (sp : Sp) (E : L2.St → XK) (ta : TE) (t : TA) : TE := fun σ H Q => ta σ H fun x H1 => ∃ a dx fs, x = .ref a ∧ H1 a = some (.ins C dx fs) ∧ fs.lookup m = none ∧ t σ H1 fun vs H2 => sp (x :: vs) H2 Q (E σ)
def tMakeE (C : Addr) (sp : Sp) (E : L2.St → XK) (t : TA) : TE := fun σ H Q => t σ H fun vs H1 => ∀ x dx, H1 x = Option.none → H1 dx = Option.none → dx ≠ x →
  sp (V.ref x :: vs) (upd (upd H1 dx (.own x)) x (.ins C dx [])) (fun v H2 => v = .non ∧ Q (.ref x) H2) (E σ)
def tSm (C : Addr) (sp : Sp) (E : L2.St → XK) (ta : TE) (t : TA) : TE := fun σ H Q => ta σ H fun x H1 => x = .ref C ∧ t σ H1 fun vs H2 => sp vs H2 Q (E σ)
structure Sm (K : PySem.W.Frag) (C : Addr) (m : Str) (f : Addr) : Prop where
  rd : CRead K C (.type "type")
  at_ : ∃ p, PySem.W.findCls K (.ref C) (.type "type") m = some (.get (.builtin "staticmethod.__get__") (.ref p) .none (.ref C)) ∧ ∃ rest, PySem.W.recIn K p "staticmethod" = some (.ref f :: rest)
  kp : PySem.W.keepIn K (.ref f) = true
theorem smB_ok {K : PySem.W.Frag} {C : Addr} {m : Str} (h : smB K C m = true) : Sm K C m (He5.wf K C "staticmethod" m) := by
  obtain ⟨h1, h⟩ := ba h
  obtain ⟨h2, h⟩ := ba h
  obtain ⟨h3, h4⟩ := ba h
  obtain ⟨k1, k2⟩ := He5.wrapB_ok h3
  exact ⟨⟨h1, eqO_ok h2⟩, ⟨_, k1, k2⟩, h4⟩
section
variable {X : Cx} {CX : CXT} {k : Nat} {C f : Addr} {m x : Str} {sp : Sp} {E : L2.St → XK} {o e : Expr} {es : List Expr} {ta : TE} {t : TA} {p apos pos : Pos} {pl : Sem Bool}
theorem pe_methE (he : PE X o ta) (c : Cls X.K C) (hm : Meth X.K C m f) (F : FnR X.prog X.w X.K X.mg X.base CX k f sp) (hr : Room k X.A) (hx : ∀ σ, PassesAt CX X σ (E σ)) (ha : PA X (e :: es) t)
    (hst : starEach (e :: es) X.env = (false, eval e X.env) :: starEach es X.env := by rfl) (hpl : (backTo pos (starEach es X.env)).any (·.1) = false := by rfl)
    (ht : eval (.Call (.Attribute o m apos) (e :: es) [] pos) X.env = (do
      let ov ← eval o X.env
      standAt apos.atName
      let (f, first) ← holding [ov] (getMethod ov m pl)
      callWith pos f first (backTo pos (starEach (e :: es) X.env)) (backToKw pos (keywordEach [] X.env))) := by rfl) :
    PE X (.Call (.Attribute o m apos) (e :: es) [] pos) (tMethE C m sp E ta t) := by
  refine ⟨fun pins s σ H Q I h => ?_⟩
  refine PySem.W.methodCall_KW (pl := pl) (thn (he.run pins s σ H _ I h) fun u s1 ⟨x, H1, I1, rx, a, dx, fs, ex, ea, l, q⟩ => ?_) ht
  subst ex
  obtain rfl : u = Value.ref a := rx
  refine getmeth_ok I1 ea c hm l ?_
  refine PySem.W.callWith_K (first := [.ref a]) (h₀ := X.base) I.ok.mod.kin hm.kp (thn (ha.run pos pins s1 σ H1 _ I1 q) fun us s2 ⟨vs, H2, I2, r, q2⟩ => ⟨I2.kIn, ?_⟩) hst hpl
  exact run_fnRS (us := .ref a :: us) (vs := .ref a :: vs) F hr (hx σ) I2 (.cons rfl r) q2
theorem pe_methE0 (he : PE X o ta) (c : Cls X.K C) (hm : Meth X.K C m f) (F : FnR X.prog X.w X.K X.mg X.base CX k f sp) (hr : Room k X.A) (hx : ∀ σ, PassesAt CX X σ (E σ))
    (ht : eval (.Call (.Attribute o m apos) [] [] pos) X.env = (do
      let ov ← eval o X.env
      standAt apos.atName
      let (f, first) ← holding [ov] (getMethod ov m pl)
      callWith pos f first (backTo pos (starEach [] X.env)) (backToKw pos (keywordEach [] X.env))) := by rfl) :
    PE X (.Call (.Attribute o m apos) [] [] pos) (tMethE C m sp E ta tNil) := by
  refine ⟨fun pins s σ H Q I h => ?_⟩
  refine PySem.W.methodCall_KW (pl := pl) (thn (he.run pins s σ H _ I h) fun u s1 ⟨x, H1, I1, rx, a, dx, fs, ex, ea, l, q⟩ => ?_) ht
  subst ex
  obtain rfl : u = Value.ref a := rx
  refine getmeth_ok I1 ea c hm l ?_
  exact PySem.W.callWith_K0 (first := [.ref a]) I1.kIn hm.kp (run_fnRS (us := [.ref a]) (vs := [.ref a]) F hr (hx σ) I1 (.cons rfl .nil) q)
theorem pe_smE (he : PE X o ta) (c : Sm X.K C m f) (F : FnR X.prog X.w X.K X.mg X.base CX k f sp) (hr : Room k X.A) (hx : ∀ σ, PassesAt CX X σ (E σ)) (ha : PA X (e :: es) t)
    (hst : starEach (e :: es) X.env = (false, eval e X.env) :: starEach es X.env := by rfl) (hpl : (backTo pos (starEach es X.env)).any (·.1) = false := by rfl)
    (ht : eval (.Call (.Attribute o m apos) (e :: es) [] pos) X.env = (do
      let ov ← eval o X.env
      standAt apos.atName
      let (f, first) ← holding [ov] (getMethod ov m pl)
      callWith pos f first (backTo pos (starEach (e :: es) X.env)) (backToKw pos (keywordEach [] X.env))) := by rfl) :
    PE X (.Call (.Attribute o m apos) (e :: es) [] pos) (tSm C sp E ta t) := by
  refine ⟨fun pins s σ H Q I h => ?_⟩
  refine PySem.W.methodCall_KW (pl := pl) (thn (he.run pins s σ H _ I h) fun u s1 ⟨x, H1, I1, rx, ex, q⟩ => ?_) ht
  subst ex
  obtain rfl : u = Value.ref C := rx
  obtain ⟨pa, h1, rest, h2⟩ := c.at_
  refine PySem.W.method_cls I1.kIn c.rd.ga (PySem.W.cls_bind I1.kIn c.rd.rd h1 ?_)
  refine wpAny_call (PySem.W.sm_get (s := { s1 with toks := s1.toks + 1 }) I1.kIn h2 (PySem.W.handed_on rfl ?_))
  have I2 := I1.tok (s1.toks + 1)
  refine PySem.W.callWith_K (first := []) (h₀ := X.base) I.ok.mod.kin c.kp (thn (ha.run pos pins _ σ H1 _ I2 q) fun us s2 ⟨vs, H2, I3, r, q2⟩ => ⟨I3.kIn, ?_⟩) hst hpl
  exact run_fnRS (us := us) (vs := vs) F hr (hx σ) I3 r q2
theorem run_makeE {pins : List (Addr × Obj)} {σ : L2.St} {H : Hp} {s : Shared} {Q : VK} {us : List Value} {vs : List V} (M : Mk X.K C f) (F : FnR X.prog X.w X.K X.mg X.base CX k f sp) (hr : Room (k + 1) X.A) (hx : PassesAt CX X σ (E σ)) (I : Inv X pins σ H s) (r : Vals vs us)
    (h : ∀ x dx, H x = Option.none → H dx = Option.none → dx ≠ x → sp (V.ref x :: vs) (upd (upd H dx (.own x)) x (.ins C dx [])) (fun v H2 => v = .non ∧ Q (.ref x) H2) (E σ)) :
    wpAny (model X.prog X.w) X.A (call (.ref C) us) (EP X pins σ Q) X.xe s := by
  have hq := h (s.heap.objs.size + 1) s.heap.objs.size (I.hok.fresh (Nat.le_succ _)) (I.hok.fresh (Nat.le_refl _)) (Nat.ne_of_lt (Nat.lt_succ_self _))
  have I2 := Inv.made (C := C) I
  have r2 : Vals (V.ref (s.heap.objs.size + 1) :: vs) (Value.ref (s.heap.objs.size + 1) :: us) := .cons rfl r
  refine wpAny_call (make_map (f := f) I.kIn M.makes M.init (beq_iff_eq.mp M.fn) (codeAny_mono (F _ X.stack _ _ (Value.ref (s.heap.objs.size + 1) :: us) _ _ (E σ) (hr.make C us []) (I2.env0.make C us []) r2 hq) fun r s' hq' => ?_))
  cases r with
  | error e => exact hx pins _ _ e s' I2 hq'
  | ok fl =>
    cases fl with
    | ret u =>
      obtain ⟨v, H', I3, rv, ev, q3⟩ := I2.after hq'
      subst ev
      exact ⟨rv, ⟨V.ref (s.heap.objs.size + 1), H', I3, rfl, q3⟩⟩
    | next => exact False.elim hq'
    | brk => exact False.elim hq'
    | cont => exact False.elim hq'
theorem pe_makeE (M : Mk X.K C f) (F : FnR X.prog X.w X.K X.mg X.base CX k f sp) (hr : Room (k + 1) X.A) (hm : X.mg x = some (.ref C)) (hx : ∀ σ, PassesAt CX X σ (E σ)) (ha : PA X (e :: es) t) (hg : Gl X x := by rfl) (hdb : (x == ("__debug__" : Str)) = false := by decide)
    (he : starEach (e :: es) X.env = (false, eval e X.env) :: starEach es X.env := by rfl) (hpl : (backTo pos (starEach es X.env)).any (·.1) = false := by rfl) : PE X (.Call (.Name x p) (e :: es) [] pos) (tMakeE C sp E t) := by
  refine ⟨fun pins s σ H Q I h => ?_⟩
  refine wpAny_Call_Name_kw (ld_glob I hg hm ?_ hdb)
  refine PySem.W.callWith_K (h₀ := X.base) I.ok.mod.kin M.kp (thn (ha.run pos pins s σ H _ I h) fun us s1 ⟨vs, H1, I1, r, q⟩ => ⟨I1.kIn, ?_⟩) he hpl
  exact run_makeE M F hr (hx σ) I1 r q
end
/-- nothing is let out -/
theorem px0 {X : Cx} : ∀ σ, PassesAt CX0 X σ ((fun _ => E0) σ) := fun _ _ _ _ _ _ _ h => h.elim
theorem pxq {X : Cx} : ∀ σ, PassesAt (L2.CX X.prog X.w) X σ ((fun _ => E0) σ) := fun σ pins H s e s' I h => passL pins σ H s e s' I h
theorem pxx {X : Cx} {W : WX} (tk : Takes X W) : ∀ σ, PassesAt (L2.CX X.prog X.w) X σ (WE W σ) := fun σ => passAt tk σ
section
variable {P : Program} {w : World} {K : PySem.W.Frag} {mg : Str → Option Value} {base : Heap} {CX : CXT} {k : Nat} {x qual : Str} {sp : Sp} {params : Arguments} {body : List Stmt} {scope : Scope} {f : Addr} {fd : FuncData} {ps N : List Str}
theorem fnN (F : FunD K x qual params body scope [] [] f fd)
    (hb : ∀ (kV doc pm : Value) (an : Option Addr) (cdv ct : Value) (us : List Value), us.length = ps.length → bindArgs (PySem.W.fnOf x qual params body scope .none kV doc pm an cdv ct) ⟨us, []⟩ = pure (ps.zip us))
    (S : FnScope N ps scope) (len : ∀ vs H Q E, sp vs H Q E → vs.length = ps.length)
    (hbody : ∀ (cdv : Value) (A : Around) (outer : List Env) (s : Shared) (H : Hp) (vs : List V) (Q : VK) (E : XK), Room k (A.deeper (envOfC qual scope s.heap.objs.size f cdv)) → sp vs H Q E →
      ∃ t, PSs (cxOf CX P w K mg base N qual scope f cdv A outer s H E) body t ∧ t { nx := fun _ H' => Q .non H', rt := Q } (start N vs) H) : FnR P w K mg base CX (k + 1) f sp :=
  ((F.ok S len hbody).raw (F.bindsN hb) .nil).imp fun vs H Q E h => by rw [List.append_nil]; exact h
end
end EL
namespace EX
open PySem PySem.W PySem.Calls PyProof.Rows PySem.HandSPX
def XvOk (v : Value) : Bool → Prop
  | false => True
  | true => ∃ z t, v = .str z t ∧ z.length ≤ 1000
/-- what the written part says of the class at C and of its __init__ at fI -/
structure XTxt (K : Frag) (C fI cc cda : Addr) (fl file : Str) (fs : Bool) : Prop where
  cls : ∃ nm q N bs bm sn sub ab col dd k0 k1 k2 k3 k5, K.lookup C = some (excClassObj nm q C N bs bm true sn sub ab col dd k0 k1 k2 k3 k5 "ValueError.__new__") ∧ refsVE bm = true
  sa : findIn K (.ref C) "__setattr__" = some (some (.builtin "object.__setattr__"))
  noN : findIn K (.ref C) fl = some none
  iC : findIn K (.ref C) "__init__" = some (some (.ref fI))
  tC : typeIn K (.ref fI) = some (.type "function")
  ve : subIn K (.ref C) (.type "ValueError") = some true
  self : mroIn K C (.ref C) = some true
  sup : ks_superIn K C C "__init__" = some (some (.builtin "ValueError.__init__"))
  tp : nsIn K cStatics "thirdparty.any" = some none
  cell : ∃ cl cld csl, K.lookup cc = some ⟨cl, cld, .cell (some (.ref C)), csl⟩
  code : ∃ ccl cdd vs ccs tf, K.lookup cda = some ⟨ccl, cdd, .fields vs, ccs⟩ ∧ vs[2]? = some (.str file tf)
  fn : ∃ (oc : Value) (od : Option Addr) (doc pm : Value) (an : Option Addr) (ct : Value) (osl : Array (Option Value)) (q : Str) (params : Arguments) (scope : Scope) (me : Expr) (p0 p1 p2 p4 p5 q1 q2 q3 q4 : Pos),
    K.lookup fI = some ⟨oc, od, .func (ksFn "__init__" q params (xiB fl me p0 p1 p2 p4 p5 q1 q2 q3 q4) scope .none .none doc pm an (.ref cda) ct cc), osl⟩ ∧ codeIn K (.ref cda) q = true ∧ XSc params scope fl ∧ (p2.endLine == p4.line) = true ∧ MsgOk fl me fs
/-- what __init__ leaves of a fresh exception at x -/
structure InitEnd (h h' : Heap) (x C dx t1 : Addr) (fl : Str) (v : Value) : Prop where
  keep : ∀ b o, b ≠ x → h.get? b = some o → h'.get? b = some o
  obj : h'.get? x = some { cls := .ref C, dict := some dx, data := .fields #[.ref t1, .none, .none, .none, .bool false, .none] }
  dbig : h.objs.size ≤ dx
  dne : dx ≠ x
  ns : h'.Ns1 dx (fun y => if y = fl then some v else none)
structure OwnMade (h h' : Heap) (e C d : Addr) (fl : Str) (v : Value) : Prop where
  keep : ∀ b o, h.get? b = some o → h'.get? b = some o
  new : h.objs.size ≤ e
  obj : ∃ oe vs, h'.get? e = some oe ∧ oe.cls = .ref C ∧ oe.dict = some d ∧ oe.data = .fields vs ∧ vs[1]? = some .none
  dbig : h.objs.size ≤ d
  dne : d ≠ e
  ns : h'.Ns1 d (fun y => if y = fl then some v else none)
theorem meth_eq {o e : Expr} {name : Str} {p2 p4 : Pos} {env : Env} (hl : (p2.endLine == p4.line) = true) : eval (.Call (.Attribute o name p2) [e] [] p4) env = (do
      let ov ← attributeBase o name env (eval o env)
      standAt p2.atName
      let (f, first) ← holding [ov] (calleeOf (methodCallForm 1 (backTo p4 (starEach [e] env)) []) o env ov name)
      callWith p4 f first (backTo p4 (starEach [e] env)) []) := by
  show (attributeBase o name env (eval o env) >>= fun ov => standAt p2.atName >>= fun _ => methodCall o name p2 p4 env ov 1 (backTo p4 (starEach [e] env)) []) = _
  have x : ∀ ov, methodCall o name p2 p4 env ov 1 (backTo p4 (starEach [e] env)) [] = (holding [ov] (calleeOf (methodCallForm 1 (backTo p4 (starEach [e] env)) []) o env ov name) >>= fun z => callWith p4 z.1 z.2 (backTo p4 (starEach [e] env)) []) := fun ov => by
    unfold methodCall methodCallPos
    simp only [hl, Bool.or_true, if_true, pure_bind]
  simp only [x]
theorem meth_msg {o me : Expr} {name fl : Str} {fs : Bool} {p2 p4 : Pos} {env : Env} (hm : MsgOk fl me fs) (hl : (p2.endLine == p4.line) = true) : starEach [me] env = [(false, eval me env)] ∧ eval (.Call (.Attribute o name p2) [me] [] p4) env = (do
      let ov ← attributeBase o name env (eval o env)
      standAt p2.atName
      let (f, first) ← holding [ov] (getMethod ov name (do return (← importBound o env).getD true))
      callWith p4 f first (backTo p4 (starEach [me] env)) []) := by
  cases fs with
  | false =>
    obtain ⟨msg, j, p, rfl⟩ := hm
    exact ⟨rfl, meth_eq hl⟩
  | true =>
    obtain ⟨msg, j, p, p1, pp, p3, rfl, _⟩ := hm
    exact ⟨rfl, meth_eq hl⟩
section
variable {prog : Program} {w : World} {A : Around} {E : Value → Shared → Prop} {R : Result → Shared → Prop} {s : Shared} {K : Frag} {C fI cc cda : Addr} {fl file : Str} {mg mb : Str → Option Value}
/-- the wrapper of ValueError.__init__ called -/
theorem call_mw {h : Heap} {g : Array GenState} {d : Drawn} {t : Nat} {os : OsState} {u e t0 : Addr} {rest : List Value} {Q : Value → Shared → Prop}
    (hC : ∃ nm q N bs bm sn sub ab col dd k0 k1 k2 k3 k5, h.get? C = some (excClassObj nm q C N bs bm true sn sub ab col dd k0 k1 k2 k3 k5 "ValueError.__new__")) (he : h.get? e = some (excO C t0)) (hu : h.get? u = some (kxs_mw "ValueError.__init__" e)) (hrest : rest.length ≤ sizeLine)
    (hq : ∀ h' t1, (∀ b o, b ≠ e → h.get? b = some o → h'.get? b = some o) → h'.get? e = some (excO C t1) → Q .none ⟨h', g, d, t, os⟩) :
    wpAny (model prog w) A (call (.ref u) rest) Q E ⟨h, g, d, t, os⟩ := by
  obtain ⟨nm, q, N, bs, bm, sn, sub, ab, col, dd, k0, k1, k2, k3, k5, hC⟩ := hC
  refine wpAny_call (codeAny_of_tree ?_)
  show wpAny _ A.in1 (callAny (.ref u) ⟨rest, []⟩) _ _ _
  simp only [callAny]
  refine wpAny_bind (wpAny_load hu ?_)
  simp only [kxs_mw, show (Value.type "method-wrapper" == Value.type "method" || Value.type "method-wrapper" == Value.type "builtin_function_or_method" || Value.type "method-wrapper" == Value.type "method-wrapper") = true by decide, if_true]
  refine KFB.if_so (by decide) ?_
  refine wpAny_bind (check_bound_init F.excBase_ValueError.toExcCallFacts hC he rfl ?_)
  refine wpAny_bind (wpAny_pure (wpAny_pure ?_))
  refine ⟨plainId_quiet F.excBase_ValueError.init.plain _, codeAny_builtin F.excBase_ValueError.initEntry ?_⟩
  exact exc_init_tree (cls := .ref C) (t0 := t0) (dv := none) (c2 := .none) (c3 := .none) (b4 := .bool false) he hrest fun h' k e' _ => hq h' _ k e'
theorem msg_run {h : Heap} {g : Array GenState} {d : Drawn} {t : Nat} {os : OsState} {env : Env} {fs : Bool} {me : Expr} {v : Value} {m : Str → Option Value} {Q : Value → Shared → Prop} (hm : MsgOk fl me fs) (hv : XvOk v fs) (hk : env.scope.kind = .function) (hf : env.scope.names.lookup fl = some .local)
    (hdb : (fl == ("__debug__" : Str)) = false) (hn : h.Ns env.locals m) (hmv : m fl = some v) (hq : ∀ z tz t', Q (.str z tz) ⟨h, g, d, t', os⟩) : wpAny (model prog w) A (eval me env) Q E ⟨h, g, d, t, os⟩ := by
  cases fs with
  | false =>
    obtain ⟨msg, j, p, rfl⟩ := hm
    exact wpAny_Constant_str (hq _ _ _)
  | true =>
    obtain ⟨msg, j, p, p1, p2, p3, rfl, hl⟩ := hm
    obtain ⟨z, tz, rfl, hz⟩ := hv
    refine wpAny_JoinedStr ?_
    have e0 : evalEach [.Constant (.str msg) j p, .FormattedValue (.Name fl p1) (-1) none p2] env = [eval (.Constant (.str msg) j p) env, eval (.FormattedValue (.Name fl p1) (-1) none p2) env] := by first | rfl | simp [evalEach]
    rw [e0]
    have l1 : (Str.empty ++ msg).length ≤ 1000 := by rw [EL.str_nil]; exact hl
    have l2 : ((Str.empty ++ msg) ++ z).length ≤ sizeLine := by
      rw [EL.str_nil, TL.len_tl, TL.tl_append, List.length_append, ← TL.len_tl, ← TL.len_tl]
      exact Nat.le_trans (Nat.add_le_add hl hz) (by decide)
    refine wpAny_Constant_str ⟨msg, _, rfl, Nat.le_trans l1 (by decide), ?_⟩
    refine wpAny_FormattedValue_plain ?_
    refine wpAny_Name (wpAny_loadName_local hk hf hn hmv ?_) hdb
    exact wpAny_formatField_str ⟨z, _, rfl, l2, l2, hq _ _ _⟩ ⟨z, _, rfl, l2, l2, hq _ _ _⟩ (Nat.le_trans hz (by decide))
theorem kept_but {h h' : Heap} {x : Addr} (X : K.In h) (hx : K.lookup x = none) (k : ∀ b o, b ≠ x → h.get? b = some o → h'.get? b = some o) : K.In h' := fun a o e =>
  k a o (fun z => by rw [z, hx] at e; cases e) (X a o e)
theorem xf_init {fs : Bool} (T : XTxt K C fI cc cda fl file fs) {x t0 : Addr} {v : Value} (hv : XvOk v fs) (X : K.In s.heap) (hlim : s.heap.NoLimit) (hx : s.heap.get? x = some (excO C t0)) (hnx : K.lookup x = none) (hroom : A.depth < recursionLimit)
    (G : s.heap.Ns mainGlobals mg) (hsu : mg "super" = none) (Bn : s.heap.Ns builtinsNs mb) (hb : mb "super" = some (.type "super")) (hfile : ((prog.main.file : Str) == file) = true) (htop : (prog.main.scope.names.lookup ("super" : Str)).isSome = false)
    (hq : ∀ h' tk dx t1, InitEnd s.heap h' x C dx t1 fl v → R (.ok (.ret .none)) { s with heap := h', toks := tk }) :
    codeAny (model prog w) A (.call (.ref fI) ⟨[.ref x, v], []⟩) R s := by
  obtain ⟨oc, od, doc, pm, an, ct, osl, q, params, scope, me, p0, p1, p2, p4, p5, q1, q2, q3, q4, ho, hcd, S, hl, hm⟩ := T.fn
  obtain ⟨nm, cq, N, bs, bm, sn, sub, ab, col, dd, k0, k1, k2, k3, k5, hC, hbm⟩ := T.cls
  obtain ⟨cl, cld, csl, hcell⟩ := T.cell
  obtain ⟨ccl, cdd, vs, ccs, tf, hcode, hvs⟩ := T.code
  obtain ⟨ar, har, hara⟩ := S.head
  have hcl : clsIn K C = some { name := nm, bases := bs, mro := .ref C :: bm, ns := N, qualname := cq, hasDict := true, slotNames := sn, subclasses := sub, abstract := ab, collection := col, hasDel := false } := by unfold clsIn; rw [hC] <;> rfl
  refine ks_codeAny_call_defAt (fd := ksFn "__init__" q params (xiB fl me p0 p1 p2 p4 p5 q1 q2 q3 q4) scope .none .none doc pm an (.ref cda) ct cc) (binds := [(("self" : Str), .ref x), (fl, v)]) hroom (X _ _ ho) rfl hlim (codeRec_of X hcd) rfl (BindsTo.of_eq (S.bind ..)) S.ncell ?_ (fun h₁ hn k => ?_) S.co S.gen S.kind
  · intro y hy
    rcases List.mem_cons.mp hy with rfl | hy
    · exact S.kself
    · rcases List.mem_cons.mp hy with rfl | hy
      · exact S.kf
      · cases hy
  have vself : ([(("self" : Str), Value.ref x), (fl, v)] : List (Str × Value)).reverse.lookup ("self" : Str) = some (.ref x) := by
    show List.lookup ("self" : Str) [(fl, v), (("self" : Str), Value.ref x)] = _
    have e : (("self" : Str) == fl) = false := by simpa using Ne.symm S.ne
    simp [List.lookup, e]
  have vfl : ([(("self" : Str), Value.ref x), (fl, v)] : List (Str × Value)).reverse.lookup fl = some v := by
    show List.lookup fl [(fl, v), (("self" : Str), Value.ref x)] = _
    simp [List.lookup]
  obtain ⟨hh, g, d, t, os⟩ := s
  dsimp only at hn k X hlim hx G Bn
  have X₁ : K.In h₁ := X.keeps k
  have hx₁ := k _ _ hx
  show _root_.PySem.wpAt _ _ (.func _ (ksEnv q scope hh.objs.size fI (.ref cda) cc)) (execs (xiB fl me p0 p1 p2 p4 p5 q1 q2 q3 q4) (ksEnv q scope hh.objs.size fI (.ref cda) cc)) _ _ _
  refine ks_wpAt_execs_cons (ks_wpAt_Expr_any (ks_wpAt_MethodCall ?_ (meth_msg hm hl).2) (by unfold interactive; simp [S.kind]))
  refine ks_wpAt_super_base (env := ksEnv q scope hh.objs.size fI (.ref cda) cc) S.ks S.kc (by decide) rfl (X₁ _ _ ho) rfl har rfl (X₁ _ _ hcode) rfl hvs hfile htop ?_
  refine ks_loadName_global S.kind S.ks (loadGlobal_builtin (env := ksEnv q scope hh.objs.size fI (.ref cda) cc) (G.keeps k) hsu (Bn.keeps k) hb ⟨rfl, ?_⟩)
  refine wpAny_loadName_free S.kind S.kc rfl ⟨_, X₁ _ _ hcell, rfl⟩ ?_
  rw [hara]
  refine wpAny_loadName_local S.kind S.kself hn vself ?_
  refine ks_wpAny_isType_cls (X₁ _ _ hC) rfl ⟨rfl, ?_⟩
  refine ks_wpAny_call_super (X₁ _ _ hC) rfl hx₁ rfl (fun c e => by cases e) (looks_mroIn X₁ T.self) (fun h₂ e₂ k₂ => ?_)
  have X₂ : K.In h₂ := X₁.keeps k₂
  have hx₂ := k₂ _ _ hx₁
  have I₂ : InstAt h₂ x (excO C t0) C none := ⟨hx₂, rfl, rfl, trivial⟩
  have hI : Looks (model prog w) h₂ (isInstance (.ref x) (.type "ValueError")) true := I₂.type.andThen (looks_subIn X₂ T.ve)
  have hsp := T.sup
  unfold ks_superIn at hsp
  rw [hcl] at hsp
  refine kxs_getMethod kxs_ValueError e₂ (looks_opaque X₂ T.tp) (l₀ := .ref C :: bm) (fun A Q E s k q => wpAny_bind ((looks_clsIn X₂ hcl) A _ E s k (wpAny_pure q))) rfl X₂ hsp hI (ks_ne X₂ I₂ hcl) (by decide) ?_
  have hu₃ : (h₂.push (kxs_mw "ValueError.__init__" x)).get? h₂.objs.size = some (kxs_mw "ValueError.__init__" x) := Heap.get?_push_at rfl rfl
  have k₃ : ∀ b o, h₂.get? b = some o → (h₂.push (kxs_mw "ValueError.__init__" x)).get? b = some o := fun b o e => Heap.get?_push_of_some _ e
  have k₃n : h₁.Ns hh.objs.size (fun x_1 => ([(("self" : Str), Value.ref x), (fl, v)] : List (Str × Value)).reverse.lookup x_1) → (h₂.push (kxs_mw "ValueError.__init__" x)).Ns hh.objs.size (fun x_1 => ([(("self" : Str), Value.ref x), (fl, v)] : List (Str × Value)).reverse.lookup x_1) := fun q => q.keeps fun b o e => k₃ _ _ (k₂ _ _ e)
  dsimp only
  rw [(meth_msg (o := .Name "self" p0) (name := "x") (env := ksEnv q scope hh.objs.size fI (.ref cda) cc) hm hl).1]
  refine kxs_callWith (i := "ValueError.__init__") (x := x) rfl ?_
  refine evalArgs_plain (spliced_cons (msg_run hm hv S.kind S.kf S.dbg (k₃n hn) vfl fun z tz t' => spliced_nil ⟨hu₃, ?_⟩))
  have hxL : hh.objs.size ≠ x := Nat.ne_of_gt (Heap.lt_size hx)
  refine call_mw (C := C) (e := x) (t0 := t0) ⟨nm, cq, N, bs, bm, sn, sub, ab, col, dd, k0, k1, k2, k3, k5, k₃ _ _ (X₂ _ _ hC)⟩ (k₃ _ _ hx₂) hu₃ (by show 1 ≤ sizeLine; decide) fun h₄ t1 k₄ hx₄ => ?_
  have X₄ : K.In h₄ := kept_but (X₂.keeps k₃) hnx k₄
  have k04 : ∀ b o, b ≠ x → hh.get? b = some o → h₄.get? b = some o := fun b o hbx e => k₄ b o hbx (k₃ b o (k₂ b o (k b o e)))
  obtain ⟨oL, es, ep, hL, rr⟩ := hn
  have hn₄ : h₄.Ns hh.objs.size (fun x_1 => ([(("self" : Str), Value.ref x), (fl, v)] : List (Str × Value)).reverse.lookup x_1) := ⟨oL, es, ep, k₄ _ _ hxL (k₃ _ _ (k₂ _ _ hL)), rr⟩
  have z1 : hh.objs.size < h₄.objs.size := hn₄.lt
  refine ks_wpAt_execs_cons (wpAt_of_wpAny (plainObj_wpAny_Assign_Attribute ?_))
  refine wpAny_Name (wpAny_loadName_local S.kind S.kf hn₄ vfl ?_) S.dbg
  refine wpAny_Name (wpAny_loadName_local S.kind S.kself hn₄ vself ?_) (by decide)
  refine set_plain X₄ (ox := excO C t1) (od := none) ⟨hx₄, rfl, rfl, trivial⟩ T.sa ?_
  refine exc_osa X₄ hx₄ hcl (show refsVE (.ref C :: bm) = true from hbm) rfl T.noN (fun h₅ tk₅ dx k₅ dn dne hx₅ hn₅ => ?_)
  refine wpAt_of_wpAny (wpAny_execs_nil ?_)
  exact hq h₅ tk₅ dx t1 ⟨fun b o hbx e => k₅ b o hbx (k04 b o hbx e), hx₅, Nat.le_of_lt (Nat.lt_of_lt_of_le z1 dn), dne, hn₅⟩
theorem xf_made {fs : Bool} (T : XTxt K C fI cc cda fl file fs) {v : Value} (hv : XvOk v fs) (X : K.In s.heap) (hlim : s.heap.NoLimit) (hroom : A.depth + 1 < recursionLimit)
    (G : s.heap.Ns mainGlobals mg) (hsu : mg "super" = none) (Bn : s.heap.Ns builtinsNs mb) (hb : mb "super" = some (.type "super")) (hfile : ((prog.main.file : Str) == file) = true) (htop : (prog.main.scope.names.lookup ("super" : Str)).isSome = false)
    (hq : ∀ h' tk e d, OwnMade s.heap h' e C d fl v → R (.ok (.ret (.ref e))) { s with heap := h', toks := tk }) :
    codeAny (model prog w) A (.call (.ref C) ⟨[v], []⟩) R s := by
  obtain ⟨nm, q, N, bs, bm, sn, sub, ab, col, dd, k0, k1, k2, k3, k5, hC, hbm⟩ := T.cls
  obtain ⟨hp, g, dr, tk, os⟩ := s
  have k : ∀ b o, hp.get? b = some o → ((hp.push (kdv_tup [v])).push (excO C hp.objs.size)).get? b = some o := fun b o e => Heap.get?_push_of_some _ (Heap.get?_push_of_some _ e)
  have hget : ((hp.push (kdv_tup [v])).push (excO C hp.objs.size)).get? (hp.objs.size + 1) = some (excO C hp.objs.size) := by heap_get
  have hnx : K.lookup (hp.objs.size + 1) = none := by
    cases e : K.lookup (hp.objs.size + 1) with
    | none => rfl
    | some o =>
      have z : hp.get? (hp.objs.size + 1) = some o := X _ _ e
      exact absurd (Nat.lt_of_succ_lt (Heap.lt_size z)) (Nat.lt_irrefl _)
  refine call_own F.excBase_ValueError (fun X => refsVE_contains X bm hbm) (X _ _ hC) (looks_findIn X T.iC) (fun self => bind_fn X self T.tC) (by show 1 ≤ sizeLine; decide) ?_
  refine xf_init (s := ⟨(hp.push (kdv_tup [v])).push (excO C hp.objs.size), g, dr, tk, os⟩) T hv (X.keeps k) (hlim.keeps k) hget hnx ?_ (G.keeps k) hsu (Bn.keeps k) hb hfile htop fun h' tk' dx t1 ⟨k', hx, dn, dne, hns⟩ => ?_
  · show A.depth + 1 < recursionLimit
    exact hroom
  · have old : ∀ b o, hp.get? b = some o → h'.get? b = some o := fun b o e => k' b o (Nat.ne_of_lt (Nat.lt_succ_of_lt (Heap.lt_size e))) (k b o e)
    have z : hp.objs.size + 1 + 1 ≤ dx := by
      first
        | (simpa only [Heap.size_push] using dn)
        | exact dn
        | (have q := dn; rw [Heap.size_push, Heap.size_push] at q; exact q)
    exact ⟨rfl, hq h' tk' (hp.objs.size + 1) dx ⟨old, Nat.le_succ _, ⟨_, _, hx, rfl, rfl, rfl, rfl⟩, Nat.le_trans (Nat.le_trans (Nat.le_succ _) (Nat.le_succ _)) z, dne, hns⟩⟩
end
end EX
namespace EL
open PySem PySem.Spec PyProof.Rows L2 He TL
/-- the program's file, no own super -/
structure PF (P : Program) (file : Str) : Prop where
  file : ((P.main.file : Str) == file) = true
  top : (P.main.scope.names.lookup ("super" : Str)).isSome = false
/-- an own error with the field fl -/
structure XT0 (K : PySem.W.Frag) (mg : Str → Option Value) (x fl file : Str) (fs : Bool) : Prop where
  t : ∃ cc cda, EX.XTxt K (ga K x) (ma K (ga K x) "__init__") cc cda fl file fs
  g : mg x = some (.ref (ga K x))
  su : mg "super" = none
  kp : PySem.W.keepIn K (.ref (ga K x)) = true
  ex : PySem.W.subIn K (.ref (ga K x)) (.type "BaseException") = some true
  ty : PySem.W.typeIn K (.ref (ga K x)) = some (.type "type")
abbrev XT (K : PySem.W.Frag) (mg : Str → Option Value) (x fl file : Str) : Prop := XT0 K mg x fl file false
abbrev XTf (K : PySem.W.Frag) (mg : Str → Option Value) (x fl file : Str) : Prop := XT0 K mg x fl file true
theorem relO_one {fl : Str} {v : V} {v' : Value} (r : RelV v v') (f : Str) : RelO (List.lookup f [(fl, v)]) (if f = fl then some v' else none) := by
  by_cases hw : f = fl
  · subst hw
    rw [if_pos rfl]
    have q : List.lookup f [(f, v)] = some v := by simp [List.lookup]
    rw [q]
    exact r
  · rw [if_neg hw]
    have qw : (f == fl) = false := by simpa using hw
    have q2 : List.lookup f [(fl, v)] = none := by simp [List.lookup, qw]
    rw [q2]
    trivial
section
variable {X : Cx} {x fl file : Str}
def tMkX (C : Addr) (fl : Str) (ta : TA) : L2.St → Hp → XK → Prop := fun σ H Q => ta σ H fun vs H1 => ∃ v, vs = [v] ∧ ∀ d, H1 d = none → Q (.ref C) (some d) (upd H1 d (.xd [(fl, v)]))
/-- the same, the field a text (that the message shows) -/
def tMkF (C : Addr) (fl : Str) (ta : TA) : L2.St → Hp → XK → Prop := fun σ H Q => ta σ H fun vs H1 => ∃ z : Str, vs = [.str z] ∧ z.length ≤ 1000 ∧ ∀ d, H1 d = none → Q (.ref C) (some d) (upd H1 d (.xd [(fl, .str z)]))
def xvOk (v : V) : Bool → Prop
  | false => True
  | true => ∃ z : Str, v = .str z ∧ z.length ≤ 1000
theorem xvOk.to {v : V} {u : Value} {fs : Bool} (h : xvOk v fs) (r : RelV v u) : EX.XvOk u fs := by
  cases fs with
  | false => trivial
  | true =>
    obtain ⟨z, rfl, hz⟩ := h
    obtain ⟨t, rfl⟩ := r
    exact ⟨z, t, rfl, hz⟩
theorem pmk_xf0 {fs : Bool} {a : Expr} {ta : TA} {p pos : Pos} {k : Nat} {R : List V → Hp → XK → Prop} (hR : ∀ vs H1 Q, R vs H1 Q → ∃ v, vs = [v] ∧ xvOk v fs ∧ ∀ d, H1 d = none → Q (.ref (ga X.K x)) (some d) (upd H1 d (.xd [(fl, v)]))) (hP : PF X.prog file) (T : XT0 X.K X.mg x fl file fs) (hr : Room k X.A) (ha : PA X [a] ta) (hg : Gl X x := by rfl) (hdb : (x == ("__debug__" : Str)) = false := by decide)
    (he : starEach (a :: []) X.env = (false, eval a X.env) :: starEach [] X.env := by rfl) (hpl : (backTo pos (starEach [] X.env)).any (·.1) = false := by rfl) :
    PMk X (.Call (.Name x p) [a] [] pos) (fun σ H Q => ta σ H fun vs H1 => R vs H1 Q) := by
  intro pins s σ H Q I h
  refine wpAny_Call_Name_kw (ld_glob I hg T.g ?_ hdb)
  refine PySem.W.callWith_K (h₀ := X.base) I.ok.mod.kin T.kp (thn (ha.run pos pins s σ H _ I h) fun us s1 hh => ?_) he hpl
  obtain ⟨vs, H1, I1, r1, q0⟩ := hh
  obtain ⟨v, ev, xo, q1⟩ := hR _ _ _ q0
  subst ev
  refine ⟨I1.kIn, ?_⟩
  cases r1 with
  | cons rv rn =>
    rename_i v' us'
    cases rn
    show wpAny _ _ (call (.ref (ga X.K x)) [v']) _ _ _
    have hlim := I1.nolimit
    obtain ⟨cc, cda, TT⟩ := T.t
    obtain ⟨mb, hmb, hmb2⟩ := I1.mod.blt
    have G1 : s1.heap.Ns mainGlobals X.mg := I1.mod.glob.keeps I1.bk
    have B1 : s1.heap.Ns builtinsNs mb := hmb.keeps I1.bk
    have hsu : mb "super" = some (.type "super") := (hmb2 _ (by decide +kernel)).trans (by decide +kernel)
    obtain ⟨hp, g, dr, tk, os⟩ := s1
    refine wpAny_call (EX.xf_made TT (xo.to rv) I1.kIn hlim (by have := hr.dp; omega) G1 T.su B1 hsu hP.file hP.top fun h' tk' e d M => ?_)
    show MkP X pins σ Q (.ref e) ⟨h', g, dr, tk', os⟩
    obtain ⟨oe, fv, hoe, hc, hd, hdat, h1⟩ := M.obj
    have hns := M.ns
    obtain ⟨G', g1, g2⟩ := restrict h' fun b => decide (b ≠ e)
    have gk : ∀ b, b ≠ e → G'.get? b = h'.get? b := fun b hb => g1 b (decide_eq_true hb)
    have ge : G'.get? e = none := g2 e (by simp)
    have old : ∀ b o, hp.get? b = some o → G'.get? b = some o := fun b o q => (gk b (Nat.ne_of_lt (Nat.lt_of_lt_of_le (Heap.lt_size q) M.new))).trans (M.keep b o q)
    have ob : ObjOk X.prog X.w (upd H1 d (.xd [(fl, v)])) G' d (.xd [(fl, v)]) :=
      ⟨_, hns.at (fun o q => (gk d M.dne).trans q), fun f => relO_one rv f⟩
    have J : Inv X pins σ (upd H1 d (.xd [(fl, v)])) ⟨G', g, dr, tk', os⟩ := I1.laid (t' := tk') old M.dbig ob
    refine ⟨e, oe, fv, ⟨G', g, dr, tk', os⟩, _, .ref (ga X.K x), some d, rfl, J, fun b o q => ?_, ge, hoe, ⟨hc, hd⟩, hdat, h1, ?_, rfl, I1.bare, raises_own T.ex T.ty, q1 d (I1.hok.fresh M.dbig)⟩
    · by_cases hb : b = e
      · have q' : G'.get? b = some o := q
        rw [hb, ge] at q'; cases q'
      · exact (gk b hb).symm.trans q
    · rw [upd_ne (Ne.symm M.dne)]
      exact I1.hok.fresh M.new
theorem pmk_xf {a : Expr} {ta : TA} {p pos : Pos} {k : Nat} (hP : PF X.prog file) (T : XT X.K X.mg x fl file) (hr : Room k X.A) (ha : PA X [a] ta) (hg : Gl X x := by rfl) (hdb : (x == ("__debug__" : Str)) = false := by decide)
    (he : starEach (a :: []) X.env = (false, eval a X.env) :: starEach [] X.env := by rfl) (hpl : (backTo pos (starEach [] X.env)).any (·.1) = false := by rfl) :
    PMk X (.Call (.Name x p) [a] [] pos) (tMkX (ga X.K x) fl ta) :=
  pmk_xf0 (fs := false) (R := fun vs H1 Q => ∃ v, vs = [v] ∧ ∀ d, H1 d = none → Q (.ref (ga X.K x)) (some d) (upd H1 d (.xd [(fl, v)]))) (fun vs H1 Q ⟨v, e, q⟩ => ⟨v, e, trivial, q⟩) hP T hr ha hg hdb he hpl
theorem pmk_xff {a : Expr} {ta : TA} {p pos : Pos} {k : Nat} (hP : PF X.prog file) (T : XTf X.K X.mg x fl file) (hr : Room k X.A) (ha : PA X [a] ta) (hg : Gl X x := by rfl) (hdb : (x == ("__debug__" : Str)) = false := by decide)
    (he : starEach (a :: []) X.env = (false, eval a X.env) :: starEach [] X.env := by rfl) (hpl : (backTo pos (starEach [] X.env)).any (·.1) = false := by rfl) :
    PMk X (.Call (.Name x p) [a] [] pos) (tMkF (ga X.K x) fl ta) :=
  pmk_xf0 (fs := true) (R := fun vs H1 Q => ∃ z : Str, vs = [.str z] ∧ z.length ≤ 1000 ∧ ∀ d, H1 d = none → Q (.ref (ga X.K x)) (some d) (upd H1 d (.xd [(fl, .str z)]))) (fun vs H1 Q ⟨z, e, hz, q⟩ => ⟨_, e, ⟨z, rfl, hz⟩, q⟩) hP T hr ha hg hdb he hpl
/-- raise C(e), C an own error whose message shows its field -/
theorem rsxf {a : Expr} {ta : TA} {W : WX} {p pos pos2 : Pos} {k : Nat} (hc : X.calm = true) (tk : Takes X W) (hP : PF X.prog file) (T : XTf X.K X.mg x fl file) (hr : Room k X.A) (ha : PA X [a] ta) (hg : Gl X x := by rfl) (hdb : (x == ("__debug__" : Str)) = false := by decide)
    (he : starEach (a :: []) X.env = (false, eval a X.env) :: starEach [] X.env := by rfl) (hpl : (backTo pos (starEach [] X.env)).any (·.1) = false := by rfl) :
    PS X (.Raise (some (.Call (.Name x p) [a] [] pos)) none pos2) (fun _ σ H => tMkF (ga X.K x) fl ta σ H fun cls d H' => W cls d σ H') := ps_raise hc tk (pmk_xff hP T hr ha hg hdb he hpl)
/-- raise C(e), C an own error with a field -/
theorem rsx {a : Expr} {ta : TA} {W : WX} {p pos pos2 : Pos} {k : Nat} (hc : X.calm = true) (tk : Takes X W) (hP : PF X.prog file) (T : XT X.K X.mg x fl file) (hr : Room k X.A) (ha : PA X [a] ta) (hg : Gl X x := by rfl) (hdb : (x == ("__debug__" : Str)) = false := by decide)
    (he : starEach (a :: []) X.env = (false, eval a X.env) :: starEach [] X.env := by rfl) (hpl : (backTo pos (starEach [] X.env)).any (·.1) = false := by rfl) :
    PS X (.Raise (some (.Call (.Name x p) [a] [] pos)) none pos2) (fun _ σ H => tMkX (ga X.K x) fl ta σ H fun cls d H' => W cls d σ H') := ps_raise hc tk (pmk_xf hP T hr ha hg hdb he hpl)
end
end EL
namespace EL
open PySem PySem.W PySem.Spec PyProof.Rows He
theorem xclB_ok {K : Frag} {C : Addr} (q : xclB K C = true) : ∃ nm q N bs bm sn sub ab col dd k0 k1 k2 k3 k5, K.lookup C = some (excClassObj nm q C N bs bm true sn sub ab col dd k0 k1 k2 k3 k5 "ValueError.__new__") ∧ HandSPX.refsVE bm = true := by
  unfold xclB at q
  split at q
  · rename_i dd cd sl ho
    split at q
    · rename_i C' bm k0 k1 k2 k3 n k5 hm hs
      simp only [Bool.and_eq_true, beq_iff_eq, Bool.not_eq_true'] at q
      obtain ⟨⟨⟨⟨rfl, rfl⟩, hdel⟩, hdi⟩, ht⟩ := q
      obtain ⟨nm, bs, mro, ns, qn, hd, sn, sub, ab, col, del⟩ := cd
      dsimp only at hm hdel hdi
      subst hm hdel hdi
      have hsl : sl = #[k0, k1, k2, k3, some (.builtin "ValueError.__new__"), k5] := by
        obtain ⟨l⟩ := sl
        simp only at hs
        rw [hs]
      subst hsl
      exact ⟨nm, qn, ns, bs, bm, sn, sub, ab, col, dd, k0, k1, k2, k3, k5, ho, ht⟩
    · cases q
  · cases q
theorem xt_of {K : Frag} {mg : Str → Option Value} {file : Str} {d : DefX} (W : XW d) (e : fnWX K (d.ad K) = d.val) (g : mg d.cls = some (.ref (ga K d.cls))) (su : mg "super" = none) (h : xtB K d.cls d.fl file = true) : XT0 K mg d.cls d.fl file d.fs ∧ L2.XfC K (ga K d.cls) ∧ findIn K (.ref (ga K d.cls)) d.fl = some none := by
  obtain ⟨h1, h⟩ := ba h
  obtain ⟨h2, h⟩ := ba h
  obtain ⟨h3, h⟩ := ba h
  obtain ⟨h4, h⟩ := ba h
  obtain ⟨h5, h⟩ := ba h
  obtain ⟨h6, h⟩ := ba h
  obtain ⟨h7, h⟩ := ba h
  obtain ⟨h8, h⟩ := ba h
  obtain ⟨h9, h⟩ := ba h
  obtain ⟨h10, h⟩ := ba h
  obtain ⟨h11, h⟩ := ba h
  obtain ⟨h12, h⟩ := ba h
  obtain ⟨h13, h14⟩ := ba h
  refine ⟨⟨?_, g, su, h10, of_decide_eq_true h11, of_decide_eq_true h12⟩, L2.xfB_ok h13, eqO_ok h3⟩
  unfold xfnB at h14
  unfold fnWX at e
  unfold DefX.ad at e
  split at h14
  · rename_i oc od fd osl lk
    rw [lk] at e
    obtain ⟨n1, n2, n3, n4, n5, n6, n7, n8, n9, n10, n11, n12, n13, n14, n15⟩ := fd
    have e2 : (some (n1, n2, n3, n4, n5, n6, n7.map (fun z => (z.1, (0 : Addr))), n15) : FnW) = (some (("__init__" : Str), d.cls ++ ".__init__", L2.defArgs d.st, FuncBody.stmts (L2.defBody d.st), L2.defScope d.st, mainGlobals, [(("__class__" : Str), (0 : Addr))], builtinsNs) : FnW) := e
    simp only [Option.some.injEq, Prod.mk.injEq] at e2
    obtain ⟨z1, z2, z3, z4, z5, z6, z7, z8⟩ := e2
    dsimp only at h14
    split at h14
    · rename_i nm cc cda
      obtain ⟨k1, k⟩ := ba h14
      obtain ⟨k2, k3⟩ := ba k
      subst z1 z2 z3 z4 z5 z6 z8
      have hnm : nm = "__class__" := by
        simp only [List.map_cons, List.map_nil, List.cons.injEq, Prod.mk.injEq] at z7
        exact z7.1.1
      subst hnm
      refine ⟨cc, cda, xclB_ok h1, eqO_ok h2, eqO_ok h3, eqO_ok h4, of_decide_eq_true h5, of_decide_eq_true h6, of_decide_eq_true h7, eqO_ok h8, eqO_ok h9, ?_, ?_, ?_⟩
      · split at k1
        · rename_i cl cld D csl lc
          rw [of_decide_eq_true k1] at lc
          exact ⟨_, _, _, lc⟩
        · cases k1
      · split at k2
        · rename_i ccl cdd vs ccs lc
          split at k2
          · rename_i fi tf hv
            rw [of_decide_eq_true k2] at hv
            exact ⟨_, _, _, _, _, lc, hv⟩
          · cases k2
        · cases k2
      · obtain ⟨me, p0, p1, p2, p4, p5, q1, q2, q3, q4, hb, hl, hm⟩ := W.body
        rw [hb] at lk
        exact ⟨oc, od, _, _, _, _, osl, _, _, _, me, p0, p1, p2, p4, p5, q1, q2, q3, q4, lk, k3, W.sc, hl, hm⟩
    · cases h14
  · cases h14
end EL
namespace EL
open PySem PySem.Spec PyProof.Rows L2 He TL
def obsXG (n : Nat) (fa : List Fa) (fn : List DefE) (xn : List DefX) (ex : PySem.W.Frag → Bool) (g : Addr → Option Obj) : AlX := obsX fa fn xn ex (frG g (He5.asA g n))
def SaysX (fa : List Fa) (fn : List DefE) (xn : List DefX) (ex : PySem.W.Frag → Bool) (K : PySem.W.Frag) : Prop := obsX fa fn xn ex K = valX fn xn
def hookX (n : Nat) (fa : List Fa) (fn : List DefE) (xn : List DefX) (ex : PySem.W.Frag → Bool) : PySem.W.Hook where
  α := AlX
  obs := fun s => obsXG n fa fn xn ex s.heap.get?
  val := fun _ => valX fn xn
  says := fun _ h => ∃ K : PySem.W.Frag, K.In h ∧ SaysX fa fn xn ex K
  of := fun _ _ e => ⟨_, frG_in, e⟩
  keeps := fun _ _ _ ⟨K, hK, c⟩ k => ⟨K, PySem.W.Frag.In.keeps hK k, c⟩
theorem obsXG_eq {n : Nat} {fa : List Fa} {fn : List DefE} {xn : List DefX} {ex : PySem.W.Frag → Bool} {g : Addr → Option Obj} {s : Shared} (h : ∀ a, g a = s.heap.get? a) : obsXG n fa fn xn ex g = (hookX n fa fn xn ex).obs s := by
  have e : g = s.heap.get? := funext h
  rw [e] <;> rfl
section
variable {fa : List Fa} {fn : List DefE} {xn : List DefX} {ex : PySem.W.Frag → Bool} {K : PySem.W.Frag}
theorem SaysX.e (c : SaysX fa fn xn ex K) : SaysE fa fn ex K := congrArg (fun z : AlX => z.1) c
theorem SaysX.xd (c : SaysX fa fn xn ex K) (i : Nat) {d : DefX} (h : xn[i]? = some d := by rfl) : fnWX K (d.ad K) = d.val := by
  have e : xn.map (fun d => fnWX K (d.ad K)) = xn.map DefX.val := congrArg (fun z : AlX => z.2) c
  have e2 : (xn.map fun d => fnWX K (d.ad K))[i]? = (xn.map DefX.val)[i]? := by rw [e]
  rw [List.getElem?_map, List.getElem?_map, h] at e2
  exact Option.some.inj e2
end
end EL
namespace EL
open PySem PySem.Spec PyProof.Rows L2 He TL
section
variable {X : Cx} {CX : CXT} {k : Nat} {C g : Addr} {sp : Sp} {E : XK}
theorem ins_at {pins : List (Addr × Obj)} {σ : L2.St} {H : Hp} {s : Shared} {a dx : Addr} {fs : List (Str × V)} (I : Inv X pins σ H s) (h : H a = some (.ins C dx fs)) : ∃ ox od, PySem.W.InstAt s.heap a ox C od ∧ ox.data = .plain := by
  obtain ⟨mA, O, _⟩ := ins_get I.hok h
  obtain ⟨od, J, _⟩ := O.look
  exact ⟨_, _, J, rfl⟩
/-- len(x) of an instance -/
def rLenO (C : Addr) (sp : Sp) (E : XK) : List V → Hp → VK → Prop := fun xs H Q => ∃ a dx fs, xs = [V.ref a] ∧ H a = some (.ins C dx fs) ∧ sp [.ref a] H (fun z H' => ∃ n : Int, z = .int n ∧ (0 ≤ n ∧ n < 2 ^ 63) ∧ Q z H') E
theorem call_lenO (hm : Meth X.K C "__len__" g) (F : FnR X.prog X.w X.K X.mg X.base CX k g sp) (hr : Room (k + 1) X.A) (hx : Passes CX X E) : CallR X (.builtin "len") (rLenO C sp E) := by
  intro pins s σ H xs us Q I r h
  obtain ⟨a, dx, fs, rfl, ha, q⟩ := h
  obtain ⟨u, rfl, ru⟩ := r.one
  cases (show u = Value.ref a from ru)
  obtain ⟨ox, od, J, _⟩ := ins_at I ha
  obtain ⟨m, hF⟩ := I.fr
  refine PySem.W.len_K hF I.ok.mod.kin J hm.at_ hm.fn (wpAny_mono (wpAny_call (SlX.run_at (us := [.ref a]) (ws := [.ref a]) F (Room.in1 hr) I.env0.in1 hx I (.cons rfl .nil) q)) (fun w s' z => ?_) fun _ _ x => x)
  obtain ⟨z', H', I', rz, n, en, hn, qz⟩ := z
  subst en
  obtain ⟨t, e⟩ := (show ∃ t, w = Value.int n t from rz)
  cases e
  exact ⟨hn, .int n, H', I'.tok _, ⟨_, rfl⟩, qz⟩
/-- x op y, x an instance of the class at C whose def for op is at g; y a thing whose type has no say first -/
def rCmpO (K : PySem.W.Frag) (C : Addr) (sp : Sp) (E : XK) : R2 := fun x y H Q => ∃ a dx fs t, x = .ref a ∧ H a = some (.ins C dx fs) ∧ TyX K H y t ∧ PySem.W.notFirst K C t = true ∧ sp [x, y] H Q E
theorem op_cmpO {op : CmpOp} (hop : ∀ a b, compareOp op a b = richCompare op a b) (hs : PySem.W.findIn X.K (.ref C) (cmpInfo op).2.1 = some (some (.ref g))) (hf : PySem.W.isFn X.K (.ref g) = true) (F : FnR X.prog X.w X.K X.mg X.base CX k g sp)
    (hr : Room k X.A) (hx : Passes CX X E) : OpR X (compareOp op) (rCmpO X.K C sp E) := by
  intro pins s σ H x y v u Q I rx ry h
  obtain ⟨a, dx, fs, t, rfl, ha, ty, hn, q⟩ := h
  cases (show v = Value.ref a from rx)
  obtain ⟨ox, od, J, _⟩ := ins_at I ha
  obtain ⟨P, Z, p, _⟩ := kit_of I ry ty
  obtain ⟨m, hF⟩ := I.fr
  rw [hop]
  refine PySem.W.cmp_K (op := op) (tb := t) hr.units0 hF I.ok.mod.kin J (Z.ty _ _ I.kIn p) hn hs hf ?_
  refine wpAny_mono (run_fnR (us := [.ref a, u]) (vs := [.ref a, y]) F hr hx I (.cons rfl (.cons ry .nil)) q |> wpAny_call) (fun w s' z => ?_) fun _ _ x => x
  obtain ⟨z', H', I', rz, qz⟩ := z
  exact SlX.cmpback rz ⟨z', H', I', rz, qz⟩
/-- y in x, x an instance with an own __contains__ that answers a bool -/
def rInO (C : Addr) (sp : Sp) (E : XK) (neg : Bool) : R2 := fun y x H Q => ∃ a dx fs, x = .ref a ∧ H a = some (.ins C dx fs) ∧ sp [x, y] H (fun z H' => ∃ b : Bool, z = .bl b ∧ Q (.bl (if neg then !b else b)) H') E
theorem op_inO (hm : Meth X.K C "__contains__" g) (F : FnR X.prog X.w X.K X.mg X.base CX k g sp) (hr : Room k X.A) (hx : Passes CX X E) : OpR X (compareOp .In) (rInO C sp E false) := by
  intro pins s σ H y x u v Q I ry rx h
  obtain ⟨a, dx, fs, rfl, ha, q⟩ := h
  cases (show v = Value.ref a from rx)
  obtain ⟨ox, od, J, _⟩ := ins_at I ha
  obtain ⟨m, hF⟩ := I.fr
  refine PySem.W.in_K hF I.ok.mod.kin J hm.at_ hm.fn (wpAny_mono (wpAny_call (run_fnR (us := [.ref a, u]) (vs := [.ref a, y]) F hr hx I (.cons rfl (.cons ry .nil)) q)) (fun w s' z => ?_) fun _ _ x => x)
  obtain ⟨z', H', I', rz, b, eb, qz⟩ := z
  subst eb
  cases (show w = Value.bool b from rz)
  exact wpAny_truthy_bool ⟨.bl b, H', I', rfl, qz⟩
theorem op_notInO (hm : Meth X.K C "__contains__" g) (F : FnR X.prog X.w X.K X.mg X.base CX k g sp) (hr : Room k X.A) (hx : Passes CX X E) : OpR X (compareOp .NotIn) (rInO C sp E true) := by
  intro pins s σ H y x u v Q I ry rx h
  obtain ⟨a, dx, fs, rfl, ha, q⟩ := h
  cases (show v = Value.ref a from rx)
  obtain ⟨ox, od, J, _⟩ := ins_at I ha
  obtain ⟨m, hF⟩ := I.fr
  refine PySem.W.notIn_K hF I.ok.mod.kin J hm.at_ hm.fn (wpAny_mono (wpAny_call (run_fnR (us := [.ref a, u]) (vs := [.ref a, y]) F hr hx I (.cons rfl (.cons ry .nil)) q)) (fun w s' z => ?_) fun _ _ x => x)
  obtain ⟨z', H', I', rz, b, eb, qz⟩ := z
  subst eb
  cases (show w = Value.bool b from rz)
  exact wpAny_truthy_bool ⟨.bl (!b), H', I', rfl, qz⟩
/-- ~x -/
theorem un_invO (hm : Meth X.K C "__invert__" g) (F : FnR X.prog X.w X.K X.mg X.base CX k g sp) (hr : Room k X.A) (hx : Passes CX X E) : UnR X (unaryOp .Invert) (fun x H Q => ∃ a dx fs, x = .ref a ∧ H a = some (.ins C dx fs) ∧ sp [x] H Q E) := by
  intro pins s σ H x v Q I rx h
  obtain ⟨a, dx, fs, rfl, ha, q⟩ := h
  cases (show v = Value.ref a from rx)
  obtain ⟨ox, od, J, _⟩ := ins_at I ha
  obtain ⟨m, hF⟩ := I.fr
  exact PySem.W.ksp_inv hF I.ok.mod.kin J hm.at_ hm.fn (wpAny_call (run_fnR (us := [.ref a]) (vs := [.ref a]) F hr hx I (.cons rfl .nil) q))
/-- x op y, two instances of the class at C -/
def rBinO (C : Addr) (sp : Sp) (E : XK) : R2 := fun x y H Q => ∃ a dx fs b dy gs, x = .ref a ∧ y = .ref b ∧ H a = some (.ins C dx fs) ∧ H b = some (.ins C dy gs) ∧ sp [x, y] H Q E
theorem op_binO {op : Operator} (hc : PySem.W.selfFirst X.K C = true) (hs : PySem.W.findIn X.K (.ref C) (PySem.dunder op.info.2) = some (some (.ref g))) (hf : PySem.W.isFn X.K (.ref g) = true) (F : FnR X.prog X.w X.K X.mg X.base CX k g sp)
    (hr : Room k X.A) (hx : Passes CX X E) : OpR X (binaryOp op) (rBinO C sp E) := by
  intro pins s σ H x y v u Q I rx ry h
  obtain ⟨a, dx, fs, b, dy, gs, rfl, rfl, ha, hb, q⟩ := h
  cases (show v = Value.ref a from rx)
  cases (show u = Value.ref b from ry)
  obtain ⟨ox, od, J, _⟩ := ins_at I ha
  obtain ⟨ox', od', J', _⟩ := ins_at I hb
  obtain ⟨m, hF⟩ := I.fr
  refine PySem.W.binop_K hF I.ok.mod.kin J J'.type hc hs hf ?_
  refine wpAny_mono (wpAny_call (run_fnR (us := [.ref a, .ref b]) (vs := [.ref a, .ref b]) F hr hx I (.cons rfl (.cons rfl .nil)) q)) (fun w s' z => ?_) fun _ _ x => x
  obtain ⟨z', H', I', rz, qz⟩ := z
  exact SlX.cmpback rz ⟨z', H', I', rz, qz⟩
end
end EL
namespace EL
open PySem PySem.Spec PyProof.Rows L2 He TL
/-- a clause: its class, the slot of its name, its suite's reading -/
abbrev Cl1 : Type := Value × Option Nat × (Addr → Value → Option Addr → TS)
def wMix (K : PySem.W.Frag) (Wout : WX) (D : Ends) : List Cl1 → WX
  | [] => Wout
  | (c, none, ts) :: r => fun cls d σ H => ∃ b, PySem.W.exmOne K cls c = some b ∧ (b = true → ∀ a, H a = none → ts a cls d D σ H) ∧ (b = false → wMix K Wout D r cls d σ H)
  | (c, some i, ts) :: r => fun cls d σ H => ∃ b, PySem.W.exmOne K cls c = some b ∧
      (b = true → ∀ a, H a = none → ts a cls d { nx := fun σ' H' => D.nx (σ'.set i none) H', rt := D.rt, bk := fun σ' H' => D.bk (σ'.set i none) H', ct := fun σ' H' => D.ct (σ'.set i none) H' } (σ.set i (some (.ref a))) H) ∧
      (b = false → wMix K Wout D r cls d σ H)
inductive HdsMix (X : Cx) : List ExceptHandler → List Cl1 → Prop
  | nil : HdsMix X [] []
  | one {x : Str} {c : Value} {ts : Addr → Value → Option Addr → TS} {b₀ : Stmt} {suite : List Stmt} {np pos' : Pos} {hds : List ExceptHandler} {l : List Cl1} (hc : Names X x c)
      (hsu : ∀ (a : Addr) (oe : Obj) (cls : Value) (d : Option Addr) (pn : List (Addr × Obj)), Zc cls d oe → (∃ vs, oe.data = .fields vs) → PSs (X.suite a ((a, oe) :: pn)) (b₀ :: suite) (ts a cls d)) (r : HdsMix X hds l) :
      HdsMix X (.ExceptHandler (some (.Name x np)) none (b₀ :: suite) pos' :: hds) ((c, none, ts) :: l)
  | as_ {x n : Str} {i : Nat} {c : Value} {ts : Addr → Value → Option Addr → TS} {b₀ : Stmt} {suite : List Stmt} {np pos' : Pos} {hds : List ExceptHandler} {l : List Cl1} (hi : X.N[i]? = some n) (hln : X.env.kindOf n = some .local) (hc : Names X x c)
      (hsu : ∀ (a : Addr) (oe : Obj) (cls : Value) (d : Option Addr) (pn : List (Addr × Obj)), Zc cls d oe → (∃ vs, oe.data = .fields vs) → PSs (X.suite a ((a, oe) :: pn)) (b₀ :: suite) (ts a cls d)) (r : HdsMix X hds l) :
      HdsMix X (.ExceptHandler (some (.Name x np)) (some n) (b₀ :: suite) pos' :: hds) ((c, some i, ts) :: l)
section
variable {X : Cx} {body : List Stmt} {h₀ : ExceptHandler} {hds : List ExceptHandler} {l : List Cl1} {pos : Pos} {tb : WX → TS} {Wout : WX}
theorem ps_try_mix (hs : X.stack = X.env :: X.outer) (hf : X.env.frame = some X.env.locals) (hN : X.N.Nodup) (tk : Takes X Wout)
    (hb : ∀ (W : WX) (pn : List (Addr × Obj)) (xe : Value → Shared → Prop), Takes (X.tr pn xe) W → PassesOwn (model X.prog X.w) X.A X.env xe → PSs (X.tr pn xe) body (tb W))
    (hh : HdsMix X (h₀ :: hds) l) : PS X (.Try body (h₀ :: hds) [] [] pos) (fun D σ H => tb (wMix X.K Wout D l) D σ H) := by
  refine ⟨fun pins s σ H D I h => ?_⟩
  have ok := I.ok
  have hfr : X.A.frames = some (X.env :: X.outer) := by rw [ok.frames, hs]
  refine wpAny_Try_except ?_
  refine wpAny_mono ((hb (wMix X.K Wout D l) (X.pn ++ pins) (fun e s₁ => wpAny (model X.prog X.w) X.A (noteFrame e X.env) (fun _ s₂ => wpAny (model X.prog X.w) X.A (setFlight e none) (fun _ s₃ =>
    wpAny (model X.prog X.w) X.A (handleBy e X.env (h₀ :: hds)) (SP X pins D) X.xe s₃) X.xe s₂) X.xe s₁) (fun u s' xx => ?_) PassesOwn.looking).run [] s σ H D (I.toTry _) h) (fun f s1 hsp => ?_) (fun e s1 he => he)
  · -- the catch
    obtain ⟨a, B, sI, pins', σ', H', cls, d, rfl, J', nb, up, sky, na, os, ag, w⟩ := xx
    have J : Inv X pins σ' H' sI := J'.ofTry ok
    have sky' : Sky B (X.env :: X.outer) a (Zc cls d) X.env.locals s'.heap := by rw [← hs]; exact sky
    show wpAny (model X.prog X.w) X.A (noteFrame (.ref a) X.env) _ _ _
    refine Sky.land Zc.steady hfr hf sky' fun h3 fl3 up3 => ?_
    have J3 : Inv X pins σ' H' { s' with heap := h3 } := J.landed nb fl3.1 (up.trans up3) os ag
    obtain ⟨oe3, vs3, he3, hz3, hd3⟩ := fl3.there
    have notFr : ∀ {h : Heap} {o : Obj} {vs : Array Value}, h.FunFrames B (X.env :: X.outer) → h.get? a = some o → o.data = .fields vs → a ∉ frs (X.env :: X.outer) := fun {h o vs} ff e dd hm => by
      obtain ⟨_, o', e', hnf⟩ := ff.mem hm
      rw [e] at e'; cases e'
      exact hnf _ dd
    have nfr := notFr fl3.2.2.1 he3 hd3
    have nL : a ≠ X.env.locals := fun z => nfr (List.mem_filterMap.mpr ⟨X.env, List.mem_cons_self, by rw [hf, z]⟩)
    have nF : a ∉ X.fs := fun hm => by
      obtain ⟨e, he, q⟩ := List.mem_filterMap.mp hm
      exact nfr (List.mem_filterMap.mpr ⟨e, List.mem_cons_of_mem _ he, q⟩)
    have S3 := J3.suite he3 hd3 na nL nF
    have test : ∀ {x : Str} {c : Value} {np : Pos} {Q : Value → Shared → Prop} {E : Value → Shared → Prop}, Names X x c → Q c { s' with heap := h3 } → wpAny (model X.prog X.w) (X.A.mark (some (.ref a))) (eval (.Name x np) X.env) Q E { s' with heap := h3 } := fun {x c np Q E} hc q => by
      obtain ⟨hg, hdbg, hm | ⟨hm, hv, hnn⟩⟩ := hc
      · exact ld_glob (X := X.suite a ((a, oe3) :: (X.pn ++ pins))) S3 hg hm q hdbg
      · exact ld_blt (X := X.suite a ((a, oe3) :: (X.pn ++ pins))) S3 hg hm hv q hnn hdbg
    have LT : PySem.W.Looks (model X.prog X.w) h3 (typeOf (.ref a)) cls := fun A Q E s k q => wpAny_typeOf_ref (k _ _ he3) (by rw [hz3.1]; exact q)
    have go : ∀ {hds' : List ExceptHandler} {l' : List Cl1}, HdsMix X hds' l' → wMix X.K Wout D l' cls d σ' H' →
        wpAny (model X.prog X.w) X.A (handleBy (.ref a) X.env hds') (SP X pins D) X.xe { s' with heap := h3 } := by
      intro hds' l' hk
      induction hk with
      | nil =>
        intro w
        refine wpAny_handleBy_nil ?_
        obtain ⟨k1, k2, k3, oe, vs, T, oT, ts', he, hz, hd, h1, hr⟩ := id fl3
        unfold PySem.passOn
        refine wpAny_bind (wpAny_field he hd h1 ?_)
        rw [if_neg (show ¬ ((Value.ref T == Value.none) = true) from by simp)]
        have fin : wpAny (model X.prog X.w) X.A (setFlight (.ref a) X.env.frame) (fun _ s4 => wpAny (model X.prog X.w) X.A (throw (.ref a) : Sem Flow) (SP X pins D) X.xe s4) X.xe { s' with heap := h3 } := by
          rw [hf]
          refine HandSPX.setFlight_upZ fl3 fun h4 hh4 up4 => wpAny_throw (tk _ _ ?_)
          exact ⟨a, B, sI, pins, σ', H', cls, d, rfl, J, nb, (up.trans up3).trans up4, .inr (.inr (by rw [hs]; exact hh4)), na, os, ag, w⟩
        first
          | exact wpAny_bind (wpAny_pure (wpAny_bind fin))
          | exact wpAny_bind fin
      | @one x c ts b₀ suite np pos' hds2 l2 hc hsu r ih =>
        intro w
        obtain ⟨b, hb1, hyes, hno⟩ := w
        refine wpAny_handleBy_cons (codeAny_handlers_test ?_) (by intro q; cases q)
        have LM := PySem.W.exm_one (M := model X.prog X.w) (J3.kIn) LT hb1
        refine test hc (LM.here ?_)
        cases b with
        | true =>
          refine codeAny_handlers_suite ?_
          refine HandSPX.lands_againZ fl3 fun h4 fl4 up4 => ?_
          have J4 : Inv X pins σ' H' { s' with heap := h4 } := J.landed nb fl4.1 ((up.trans up3).trans up4) os ag
          obtain ⟨oe4, vs4, he4, hz4, hd4⟩ := fl4.there
          have S4 := J4.suite he4 hd4 na nL nF
          refine wpAny_mono ((hsu a oe4 cls d (X.pn ++ pins) hz4 ⟨_, hd4⟩).run [] _ _ H' _ S4 (hyes rfl a na)) (fun f s6 hsp => ?_) (fun _ _ z => False.elim z)
          cases f with
          | next =>
            obtain ⟨σ6, H6, S6, q6⟩ := hsp
            exact ⟨_, _, S6.unsuite ok, q6⟩
          | brk =>
            obtain ⟨σ6, H6, S6, q6⟩ := hsp
            exact ⟨_, _, S6.unsuite ok, q6⟩
          | cont =>
            obtain ⟨σ6, H6, S6, q6⟩ := hsp
            exact ⟨_, _, S6.unsuite ok, q6⟩
          | ret u =>
            obtain ⟨v6, σ6, H6, S6, r6, q6⟩ := hsp
            exact ⟨_, _, _, S6.unsuite ok, r6, q6⟩
        | false =>
          show wpAny _ X.A (handleBy (.ref a) X.env hds2) _ _ _
          exact ih (hno rfl)
      | @as_ x n i c ts b₀ suite np pos' hds2 l2 hi hln hc hsu r ih =>
        intro w
        obtain ⟨b, hb1, hyes, hno⟩ := w
        have hloc : Loc X.env.scope n := .inl hln
        refine wpAny_handleBy_cons (codeAny_handlers_test ?_) (by intro q; cases q)
        have LM := PySem.W.exm_one (M := model X.prog X.w) (J3.kIn) LT hb1
        refine test hc (LM.here ?_)
        cases b with
        | true =>
          refine codeAny_handlers_suite_as ?_
          refine HandSPX.lands_againZ fl3 fun h4 fl4 up4 => ?_
          have J4 : Inv X pins σ' H' { s' with heap := h4 } := J.landed nb fl4.1 ((up.trans up3).trans up4) os ag
          obtain ⟨oe4, vs4, he4, hz4, hd4⟩ := fl4.there
          have S4 := J4.suite he4 hd4 na nL nF
          refine store_ok (X := X.suite a ((a, oe4) :: (X.pn ++ pins))) (v := .ref a) S4 hN hi hloc rfl (fun s5 S5 => ?_) (.inr hln)
          refine wpAny_mono ((hsu a oe4 cls d (X.pn ++ pins) hz4 ⟨_, hd4⟩).run [] s5 _ H' _ S5 (hyes rfl a na)) (fun f s6 hsp => ?_) (fun _ _ z => False.elim z)
          have end_ : ∀ {σ6 : L2.St} {H6 : Hp} {Q : Shared → Prop}, Inv (X.suite a ((a, oe4) :: (X.pn ++ pins))) [] σ6 H6 s6 → (∀ s7, Inv X pins (σ6.set i none) H6 s7 → Q s7) →
              wpAny (model X.prog X.w) X.A (do bindName X.env n .none; unbindBehindTheSuite X.env n pos') (fun _ s7 => Q s7) X.xe s6 := fun {σ6 H6 Q} S6 hq => gone_ok (S6.unsuite ok) hN hi hln hq
          cases f with
          | next =>
            obtain ⟨σ6, H6, S6, q6⟩ := hsp
            exact end_ S6 fun s7 J7 => ⟨_, _, J7, q6⟩
          | brk =>
            obtain ⟨σ6, H6, S6, q6⟩ := hsp
            exact end_ S6 fun s7 J7 => ⟨_, _, J7, q6⟩
          | cont =>
            obtain ⟨σ6, H6, S6, q6⟩ := hsp
            exact end_ S6 fun s7 J7 => ⟨_, _, J7, q6⟩
          | ret u =>
            obtain ⟨v6, σ6, H6, S6, r6, q6⟩ := hsp
            exact end_ S6 fun s7 J7 => ⟨_, _, _, J7, r6, q6⟩
        | false =>
          show wpAny _ X.A (handleBy (.ref a) X.env hds2) _ _ _
          exact ih (hno rfl)
    exact go hh w
  · cases f with
    | next =>
      obtain ⟨σ', H', J', q⟩ := hsp
      exact wpAny_execs_nil ⟨σ', H', J'.ofTry ok, q⟩
    | brk =>
      obtain ⟨σ', H', J', q⟩ := hsp
      exact ⟨σ', H', J'.ofTry ok, q⟩
    | cont =>
      obtain ⟨σ', H', J', q⟩ := hsp
      exact ⟨σ', H', J'.ofTry ok, q⟩
    | ret u =>
      obtain ⟨v, σ', H', J', r, q⟩ := hsp
      exact ⟨v, σ', H', J'.ofTry ok, r, q⟩
end
end EL
namespace EL
open PySem PySem.Spec PyProof.Rows L2 He TL
/-- the empty dict, either way -/
inductive NilD : HO → Prop where
  | k : NilD (.dK [])
  | t : NilD (.dT [])
theorem NilD.ok {P : Program} {w : World} {H : Hp} {o : HO} (n : NilD o) (h : Heap) (hb : sysModules < h.objs.size) : ObjOk P w H (h.push { cls := .type "dict", data := .dict #[] }) h.objs.size o := by
  cases n with
  | k => exact dk_empty h hb
  | t => exact dt_empty h hb
theorem put_by {X : Cx} {pins : List (Addr × Obj)} {σ : L2.St} {H H' : Hp} {s : Shared} {E : Value → Shared → Prop} {D : Addr} {y v : V} {u r : Value} {Q : Unit → Shared → Prop} (hu : X.A.units < cLine) (I : Inv X pins σ H s) (g : DPut H D y v H')
    (ry : RelV y u) (rv : RelV v r) (h : ∀ s', Inv X pins σ H' s' → Q () s') : wpAny (model X.prog X.w) X.A (dictSet D u r) Q E s := by
  rcases g with ⟨kvs, k, e, ey, l, eH⟩ | ⟨kvs, k, b, e, ey, eb, l, eH⟩
  · subst ey
    subst eH
    exact d_dictSet I e l ry rv h
  · subst ey
    subst eH
    obtain rfl : u = Value.ref b := ry
    obtain ⟨z, hd, xs, rel, dd⟩ := dt_of I.hok e
    refine wpAny_dictSet_heap (hsz := by rw [← Paired.length rel]; exact z) (show (tupleKind (mixKind X.prog X.w)).room X.A from hu) (key_of I.hok eb) dd fun h' dd' hs => h _ ?_
    obtain ⟨q, es, ep, hq, c2, c3, c4, _, c5⟩ := dd'
    have lz : (putK kvs k v).length ≤ sizeLine := by have := length_putK kvs k v; omega
    exact d_write I (by rw [e]; trivial) hs ⟨q, hq⟩ ⟨lz, hd, _, (rel.put k eb rv).keeps fun c ys ec => (upd_ne (ne_of ec e (fun z => nomatch z))).trans ec, q, es, ep, hq, c2, c3, c4, c5⟩
section
variable {X : Cx}
abbrev DcStep (g : TG) (tt : TT) (tk tv : TE) (vs : List Nat) (σ : L2.St) (D : Addr) (Nx : Hp → Prop) (x : V) (H : Hp) : Prop := g x (wipe σ vs) H fun σ2 H2 => wipe σ2 vs = wipe σ vs ∧ tt σ2 H2 fun b H3 =>
  if b = true then tk σ2 H3 fun y H4 => tv σ2 H4 fun z H5 => ∃ H6, DPut H5 D y z H6 ∧ Nx H6 else Nx H3
def tDcG (o0 : HO) (wi : TI) (g : TG) (tt : TT) (tk tv : TE) (vs : List Nat) : TE := fun σ H Q => wi σ H fun J H1 => ∀ D, H1 D = none → ∃ W : Nat → Nat → Hp → Prop, (∃ m, W 0 m (upd H1 D o0)) ∧ ∀ i m H, W i m H →
  (J.stop i H ∧ Q (.ref D) H) ∨ (J.go i H ∧ ∃ Nx : Hp → Prop, (∀ H', Nx H' → ∃ m', m' < m ∧ W (i + 1) m' H') ∧ ∀ x H', J.yld i H x H' → DcStep g tt tk tv vs σ D Nx x H')
theorem pe_dcG {o0 : HO} {kx vx tg iter : Expr} {ifs : List Expr} {scope : Scope} {own : List (Str × Nat)} {pos : Pos} {wi : TI} {g : TG} {tt : TT} {tk tv : TE} (n0 : NilD o0) (hu : X.A.units < cLine) (hc : X.calm = true) (hN : X.N.Nodup) (hi : PI X tg iter wi) (ok : BlkOk X.N X.env.scope scope own)
    (hg : ∀ (s : Shared) (H : Hp) (C : Addr) (cl : List (Str × Addr)) (fp : List Addr), PG (X.blk s H scope (compEnvC scope cl C X.env) fp) tg g) (ht : ∀ (s : Shared) (H : Hp) (C : Addr) (cl : List (Str × Addr)) (fp : List Addr), PTs (X.blk s H scope (compEnvC scope cl C X.env) fp) ifs tt)
    (hk : ∀ (s : Shared) (H : Hp) (C : Addr) (cl : List (Str × Addr)) (fp : List Addr), PE (X.blk s H scope (compEnvC scope cl C X.env) fp) kx tk)
    (hv : ∀ (s : Shared) (H : Hp) (C : Addr) (cl : List (Str × Addr)) (fp : List Addr), PE (X.blk s H scope (compEnvC scope cl C X.env) fp) vx tv) (hs : ∀ x, foldedSetIterable iter X.env x = pure x := by intro _; rfl) :
    PE X (.DictComp kx vx [⟨tg, iter, ifs, 0⟩] scope pos) (tDcG o0 wi g tt tk tv (own.map (·.2))) := by
  refine ⟨fun pins s σ H Q I h => ?_⟩
  rw [arm_eval_DictComp]
  have cl : ∀ y ∈ scope.names, y.2 = .free → ∃ c, X.env.cells.lookup y.1 = some c := fun y hy e => (ok.free y hy e).elim (fun k => I.ok.has _ (.inl k)) (fun k => I.ok.has _ (.inr k))
  refine wpAny_comprehension_free (use := none) rfl hs (closure_ok cl) ok.kind (fun y hy e => by rw [ok.uniq y hy, e]) (thn (hi.run pins s σ H _ I h) fun xv s1 hx => thn hx fun itv s2 h2 => ?_)
  obtain ⟨it, fp, tn, J, H2, e, I2, T, st2, f2, q⟩ := h2
  subst e
  refine wpAny_newObj_type (newEnv_comp ?_)
  generalize hD : s2.heap.objs.size = D
  obtain ⟨W, ⟨m0, w0⟩, turn⟩ := q D (I2.hok.fresh (Nat.le_of_eq hD))
  -- the new dict
  have h3 : ∃ s3 : Shared, ({ s2 with heap := s2.heap.push { cls := .type "dict", data := .dict #[] } } : Shared) = s3 := ⟨_, rfl⟩
  obtain ⟨s3, hs3⟩ := h3
  have hh3 : s3.heap = s2.heap.push { cls := .type "dict", data := .dict #[] } := by rw [← hs3]
  have h4 : ∃ H3, upd H2 D o0 = H3 := ⟨_, rfl⟩
  obtain ⟨H3, hH3⟩ := h4
  have I3 : Inv X pins σ H3 s3 := by
    rw [← hs3, ← hH3]
    refine I2.laid (t' := s2.toks) (fun b o e => Heap.get?_push_of_some _ e) (Nat.le_of_eq hD) ?_
    rw [← hD]
    exact n0.ok s2.heap I2.big
  rw [hH3] at w0
  have lt2 : ∀ b ∈ fp, b < s2.heap.objs.size := fun b hb => let ⟨o, e, _⟩ := T.obj _ _ st2 b hb; Heap.lt_size e
  have f3 : ∀ b ∈ fp, FpOk X pins H3 b ∧ b < s3.heap.objs.size := fun b hb => by
    refine ⟨⟨?_, (f2 b hb).2⟩, by rw [hh3, Heap.size_push]; exact Nat.lt_succ_of_lt (lt2 b hb)⟩
    rw [← hH3, upd_ne (by rw [← hD]; exact Nat.ne_of_lt (lt2 b hb))]
    exact (f2 b hb).1
  have I4 := block_start I3 ok hN f3
  rw [hs3]
  show codeAny _ _ (.compStart (.DictComp kx vx [⟨tg, iter, ifs, 0⟩] scope pos) 0 (.ref it) (.ref D) (compEnvC scope (cellsFrom (s3.heap.objs.size + 1) scope.names (cloFrom X.env.cells scope.names [])) s3.heap.objs.size X.env)) (compPost (model X.prog X.w) X.A X.xe none _ (.ref D) s3.heap.objs.size) { s3 with heap := pushCells (s3.heap.push { cls := .type "dict", data := .dict #[] }) scope.names }
  have pg := hg s3 H3 s3.heap.objs.size (cellsFrom (s3.heap.objs.size + 1) scope.names (cloFrom X.env.cells scope.names [])) fp
  have pt := ht s3 H3 s3.heap.objs.size (cellsFrom (s3.heap.objs.size + 1) scope.names (cloFrom X.env.cells scope.names [])) fp
  have pk := hk s3 H3 s3.heap.objs.size (cellsFrom (s3.heap.objs.size + 1) scope.names (cloFrom X.env.cells scope.names [])) fp
  have pv := hv s3 H3 s3.heap.objs.size (cellsFrom (s3.heap.objs.size + 1) scope.names (cloFrom X.env.cells scope.names [])) fp
  generalize hce : compEnvC scope (cellsFrom (s3.heap.objs.size + 1) scope.names (cloFrom X.env.cells scope.names [])) s3.heap.objs.size X.env = ce at I4 pg pt pk pv ⊢
  have cL : ce.locals = s3.heap.objs.size := by rw [← hce]; rfl
  have st4 : tn 0 (pushCells (s3.heap.push { cls := .type "dict", data := .dict #[] }) scope.names) := T.keep _ _ _ st2 fun b _ o e => pushCells_keeps _ _ _ _ (Heap.get?_push_of_some _ (by rw [hh3]; exact Heap.get?_push_of_some _ e))
  generalize hs4 : ({ s3 with heap := pushCells (s3.heap.push { cls := .type "dict", data := .dict #[] }) scope.names } : Shared) = s4 at I4 ⊢
  have st4' : tn 0 s4.heap := by rw [← hs4]; exact st4
  have stat : ∀ {σ' : L2.St} {H' : Hp} {s' : Shared}, Inv (X.blk s3 H3 scope ce fp) [] σ' H' s' → (∀ b ∈ fp, H' b = none) → ∀ b ∈ fp, FpOk (X.blk s3 H3 scope ce fp) [] H' b := fun I' hn b hb =>
    ⟨hn b hb, (I'.ok.exf b hb).1, I'.ok.exfs b hb, .inl hb, fun x c e => (I'.ok.exf b hb).2 x c e, fun p hp => by cases hp⟩
  have loop : codeAny (model X.prog X.w) X.A (.compLoop (.DictComp kx vx [⟨tg, iter, ifs, 0⟩] scope pos) 0 (.ref it) (.ref D) ce) (compPost (model X.prog X.w) X.A X.xe none (EP X pins σ Q) (.ref D) s3.heap.objs.size) s4 := by
    refine compLoop_anyD (fun n s' => ∃ i H', Inv (X.blk s3 H3 scope ce fp) [] (wipe σ (own.map (·.2))) H' s' ∧ tn i s'.heap ∧ (∀ b ∈ fp, H' b = none) ∧ W i n H') ?_ m0 ⟨0, H3, I4, st4', fun b hb => (f3 b hb).1.1, w0⟩
    rintro n s5 ⟨i, H5, I5, st5, n5, w5⟩
    rcases turn i n H5 w5 with ⟨stop, qq⟩ | ⟨go, Nx, hNx, step⟩
    · refine thnF (T.done (X.blk s3 H3 scope ce fp) rfl rfl rfl hc i [] s5 _ H5 (fun _ _ => False) I5 (stat I5 n5) st5 stop) fun r s6 ⟨hr, I6⟩ => ?_
      subst hr
      have I7 : Inv X pins σ H5 s6 := I3.call' (ch := fp) I6.os I6.base I6.hok I6.bare fun b hb => ⟨(f3 b hb).1.2.2.2.1, (f3 b hb).1.2.1, (f3 b hb).1.2.2.2.2.1, (f3 b hb).1.2.2.2.2.2⟩
      have nC : H5 s3.heap.objs.size = none := by rw [← cL]; exact I6.free
      obtain ⟨m, hn, _⟩ := I6.loc
      obtain ⟨a0, a1, a2, a3, a4, a5⟩ := I3.fpOk (Nat.le_refl _) nC
      refine ⟨m, by rw [← cL]; exact hn, fun h'' sb => ?_⟩
      exact ⟨.ref D, H5, I7.turned (t' := s6.toks) (fun b o hb e => (sb.2 b hb).trans e) a0 a1 a3 a4 a5, rfl, qq⟩
    · refine thnF (T.item (X.blk s3 H3 scope ce fp) rfl rfl rfl hc i [] s5 _ H5 (fun _ _ => False) I5 (stat I5 n5) st5 go) fun r s6 ⟨u, hr, h6⟩ => ?_
      subst hr
      refine thnF h6 fun _ s7 ⟨x, H7, I7, r7, y7, st7, n7⟩ => ?_
      refine thnF (pg.run _ s7 _ H7 x u _ (I7.pinned (stat I7 n7) (T.obj _ _ st7)) r7 (step x H7 y7)) fun _ s8 ⟨σ8, H8, I8, hw8, q8⟩ => ?_
      refine thnF (pt.run _ s8 σ8 H8 _ I8 q8) fun b s9 ⟨H9, I9, q9⟩ => ?_
      have fin : ∀ {s' : Shared} {H' : Hp}, Inv (X.blk s3 H3 scope ce fp) ([] ++ pinsAt fp s7.heap) σ8 H' s' → Nx H' → ∃ m, m < n ∧ ∃ i H', Inv (X.blk s3 H3 scope ce fp) [] (wipe σ (own.map (·.2))) H' s' ∧ tn i s'.heap ∧ (∀ b ∈ fp, H' b = none) ∧ W i m H' := fun {s' H'} I' nx => by
        obtain ⟨m', hm, w'⟩ := hNx H' nx
        have pin' : ∀ b ∈ fp, ∀ o, s7.heap.get? b = some o → s'.heap.get? b = some o ∧ H' b = none := fun b hb o e =>
          let z := I'.pin (b, o) (List.mem_append_right _ (List.mem_append_right _ (mem_pinsAt hb e)))
          ⟨z.1, z.2.1⟩
        refine ⟨m', hm, i + 1, H', (I'.unpinned (pins := [])).weak (by rw [← hw8, wipe_length]) (fun j v e => (wipe_some (by rw [hw8]; exact e)).1), T.keep _ _ _ st7 fun b hb o e => (pin' b hb o e).1, fun b hb => ?_, w'⟩
        obtain ⟨o, e, _⟩ := T.obj _ _ st7 b hb
        exact (pin' b hb o e).2
      cases b with
      | false => exact fin I9 q9
      | true =>
        refine thnF (pk.run _ s9 σ8 H9 _ I9 q9) fun z s10 ⟨yk, H10, I10, r10, q10⟩ => ?_
        refine thnF (pv.run _ s10 σ8 H10 _ I10 q10) fun z2 s11 ⟨yv, H11, I11, r11, H12, dp, nx⟩ => ?_
        exact put_by (X := X.blk s3 H3 scope ce fp) hu I11 dp r10 r11 fun s12 I12 => fin I12 nx
  exact codeAny_compStart_dict loop (T.self X.A 0 _ _ _ st4' loop)
/-- the turns of such a comprehension -/
theorem dcG_it {J : It} {n : Nat} {G : Hp → Prop} {Y : Nat → Hp → V → Hp → Prop} (w : L2.Walk J n G Y) {o0 : HO} {g : TG} {tt : TT} {tk tv : TE} {vs : List Nat} {σ : L2.St} {H1 : Hp} {D : Addr} {Qd : Hp → Prop} (Pv : Nat → Hp → Prop) (h0 : Pv 0 (upd H1 D o0)) (hG : ∀ i H, i ≤ n → Pv i H → G H)
    (hs : ∀ i x H H', i < n → Pv i H → Y i H x H' → DcStep g tt tk tv vs σ D (Pv (i + 1)) x H') (hd : ∀ H, Pv n H → Qd H) :
    ∃ W : Nat → Nat → Hp → Prop, (∃ m, W 0 m (upd H1 D o0)) ∧ ∀ i m H, W i m H → (J.stop i H ∧ Qd H) ∨ (J.go i H ∧ ∃ Nx : Hp → Prop, (∀ H', Nx H' → ∃ m', m' < m ∧ W (i + 1) m' H') ∧ ∀ x H', J.yld i H x H' → DcStep g tt tk tv vs σ D Nx x H') := by
  refine ⟨fun i m H => m + i = n ∧ Pv i H, ⟨n, rfl, h0⟩, fun i m H ⟨hm, p⟩ => ?_⟩
  have q := hG i H (by omega) p
  cases m with
  | zero =>
    have e : i = n := by omega
    subst e
    exact .inl ⟨w.stops H q, hd H p⟩
  | succ m => exact .inr ⟨w.goes i H (by omega) q, Pv (i + 1), fun H' p' => ⟨m, Nat.lt_succ_self m, by omega, p'⟩, fun x H' y => hs i x H H' (by omega) p (w.yields i H x H' (by omega) q y)⟩
end
end EL
namespace EL
open PySem PySem.Spec PyProof.Rows L2 He TL
def Rig : HO → Bool
  | .tup _ => true
  | .frz _ _ => true
  | _ => false
structure Md (S : List Addr) (H H' : Hp) : Prop where
  out : ∀ b o, H b = some o → b ∉ S → H' b = some o
  rig : ∀ b o, H b = some o → Rig o = true → H' b = some o
section
variable {S S' : List Addr} {H H1 H2 : Hp} {K : PySem.W.Frag} {a p : Addr} {o o' : HO}
theorem Md.refl (S : List Addr) (H : Hp) : Md S H H := ⟨fun _ _ h _ => h, fun _ _ h _ => h⟩
theorem Md.of (s : Same H H1) : Md S H H1 := ⟨fun b o h _ => s b o h, fun b o h _ => s b o h⟩
theorem Md.trans (x : Md S H H1) (y : Md S H1 H2) : Md S H H2 := ⟨fun b o h n => y.out b o (x.out b o h n) n, fun b o h r => y.rig b o (x.rig b o h r) r⟩
theorem Md.mono (x : Md S H H1) (h : ∀ b ∈ S, b ∈ S') : Md S' H H1 := ⟨fun b o e n => x.out b o e fun z => n (h b z), x.rig⟩
theorem Md.upd (e : H a = some o) (r : Rig o = false) (m : a ∈ S) : Md S H (upd H a o') :=
  ⟨fun b u h n => (upd_ne (fun z : b = a => n (by rw [z]; exact m))).trans h, fun b u h ru => (upd_ne (fun z : b = a => by rw [z, e] at h; cases h; rw [r] at ru; cases ru)).trans h⟩
/-- what is new is not seen from before -/
theorem Md.new (x : Md (p :: S) H1 H2) (s : Same H H1) (n : H p = none) : Md S H H2 :=
  ⟨fun b u h m => x.out b u (s b u h) (fun z => (List.mem_cons.mp z).elim (fun z => ne_of_none h n z) m), fun b u h r => x.rig b u (s b u h) r⟩
theorem Md.newM (x : Md (p :: S) H1 H2) (s : Md S H H1) (n : H p = none) : Md S H H2 :=
  ⟨fun b u h m => x.out b u (s.out b u h m) (fun z => (List.mem_cons.mp z).elim (fun z => ne_of_none h n z) m), fun b u h r => x.rig b u (s.rig b u h r) r⟩
theorem Md.same (x : Md [] H H1) : Same H H1 := fun b o h => x.out b o h (by simp)
theorem But.md (b : But p H H1) (e : H p = some o) (r : Rig o = false) : Md [p] H H1 :=
  ⟨fun c u h n => b c u h (fun z => n (by rw [z]; simp)), fun c u h ru => b c u h (fun z => by rw [z, e] at h; cases h; rw [r] at ru; cases ru)⟩
theorem Md.but (x : Md [p] H H1) : But p H H1 := fun b o h n => x.out b o h (by simp [n])
theorem Md.sqT (x : Md S H H1) {xs : List V} (h : SqT K H a xs) : SqT K H1 a xs := by
  rcases h with (h | ⟨o, h⟩) | h
  · exact .inl (.inl (x.rig _ _ h rfl))
  · exact .inl (.inr ⟨o, x.rig _ _ h rfl⟩)
  · exact .inr h
end
mutual
def noL : PyData → Bool
  | .list _ => false
  | .dict _ => false
  | .tuple xs => noLs xs
  | .none => true
  | .bool _ => true
  | .int _ => true
  | .str _ => true
def noLs : List PyData → Bool
  | [] => true
  | x :: r => noL x && noLs r
end
mutual
theorem Md.dp {S : List Addr} {K : PySem.W.Frag} {H H' : Hp} (s : Md S H H') : ∀ {d : PyData} {v : V}, noL d = true → Dp K H v d → Dp K H' v d
  | _, _, _, .non => .non
  | _, _, _, .bl b => .bl b
  | _, _, _, .int i => .int i
  | _, _, _, .str x => .str x
  | _, _, n, .lst h a => by cases n
  | _, _, n, .tup h a => .tup (s.sqT h) (Md.dpAll s n a)
theorem Md.dpAll {S : List Addr} {K : PySem.W.Frag} {H H' : Hp} (s : Md S H H') : ∀ {ds : List PyData} {vs : List V}, noLs ds = true → DpAll K H vs ds → DpAll K H' vs ds
  | _, _, _, .nil => .nil
  | _, _, n, .cons a b => .cons (Md.dp s (Bool.and_eq_true_iff.mp n).1 a) (Md.dpAll s (Bool.and_eq_true_iff.mp n).2 b)
end
/-- data without lists, laid and not deep -/
structure Pd (d : PyData) : Prop where
  nl : noL d = true
  cl : d.canLay0 = true
  dp : d.depth ≤ 16
theorem Pd.shaped {d : PyData} (h : Pd d) : SeqAt.shaped d = true := Bool.and_eq_true_iff.mpr ⟨h.cl, decide_eq_true (Nat.le_trans h.dp (by decide))⟩
def Pds (ds : List PyData) : Prop := ∀ d ∈ ds, Pd d
theorem Pds.nl : ∀ {ds : List PyData}, Pds ds → noLs ds = true
  | [], _ => rfl
  | d :: r, h => Bool.and_eq_true_iff.mpr ⟨(h d (by simp)).nl, Pds.nl fun x hx => h x (by simp [hx])⟩
theorem Pds.cl : ∀ {ds : List PyData}, Pds ds → PyData.canLayAll0 ds = true
  | [], _ => rfl
  | d :: r, h => Bool.and_eq_true_iff.mpr ⟨(h d (by simp)).cl, Pds.cl fun x hx => h x (by simp [hx])⟩
theorem Pds.dp : ∀ {ds : List PyData}, Pds ds → PyData.depthAll ds ≤ 16
  | [], _ => Nat.zero_le _
  | d :: r, h => Nat.max_le.mpr ⟨(h d (by simp)).dp, Pds.dp fun x hx => h x (by simp [hx])⟩
theorem Pds.shaped {ds : List PyData} (h : Pds ds) : SeqAt.shaped (.list ds) = true := Bool.and_eq_true_iff.mpr ⟨h.cl, decide_eq_true (by show PyData.depthAll ds + 1 ≤ 64; have := h.dp; omega)⟩
theorem Pds.snoc {ds : List PyData} {d : PyData} (h : Pds ds) (k : Pd d) : Pds (ds ++ [d]) := fun x hx => (List.mem_append.mp hx).elim (h x) fun z => by cases List.mem_singleton.mp z; exact k
theorem Pds.refl {ds : List PyData} (h : Pds ds) : PyData.eqv (.list ds) (.list ds) = true := SeqAt.eqv_refl _ h.cl
theorem DpAll.snoc {K : PySem.W.Frag} {H : Hp} {v : V} {d : PyData} (k : Dp K H v d) : ∀ {ds : List PyData} {vs : List V}, DpAll K H vs ds → DpAll K H (vs ++ [v]) (ds ++ [d])
  | _, _, .nil => .cons k .nil
  | _, _, .cons a b => .cons a (DpAll.snoc k b)
theorem DpAll.get {K : PySem.W.Frag} {H : Hp} : ∀ {ds : List PyData} {vs : List V} {i : Nat} {v : V}, DpAll K H vs ds → vs[i]? = some v → ∃ d, ds[i]? = some d ∧ Dp K H v d
  | _, _, 0, _, .cons a b, e => by cases e; exact ⟨_, rfl, a⟩
  | _, _, i + 1, _, .cons a b, e => DpAll.get (i := i) b e
theorem kit_yes {K : PySem.W.Frag} {x t c : Value} {Hq : Heap → Prop} (ty : ∀ (M : Model) (h : Heap), K.In h → Hq h → PySem.W.Looks M h (typeOf x) t) (e : PySem.W.kitOne K t c = some true) : Answers (fun s => K.In s.heap ∧ Hq s.heap) x c true := by
  intro dep tk prog w A R s hs
  obtain ⟨⟨X, p⟩, hq⟩ := hs
  obtain ⟨h0, g, d, tt, os⟩ := s
  have LT := ty (model prog w) h0 X p
  unfold PySem.W.kitOne at e
  unfold Builtin.«isinstance.nested»
  refine wpAny_bind (LT.at ?_)
  by_cases q : (t == c) = true
  · rw [if_pos q]
    first
      | exact wpAny_bind (wpAny_rule (hq tt))
      | exact wpAny_bind (wpAny_rule (wpAny_pure (hq tt)))
      | exact wpAny_pure (hq tt)
      | exact wpAny_bind (wpAny_pure (hq tt))
  · rw [if_neg q] at e
    rw [if_neg q]
    obtain ⟨k1, k2, k3⟩ := PySem.W.kit_cls (M := model prog w) X e
    refine wpAny_bind (k1.at ?_)
    rw [if_pos (by decide)]
    k_delta "plainIsInstance"
    refine wpAny_bind (wpAny_bind (k2.at ?_))
    simp only [Bool.not_true, Bool.false_eq_true, if_false]
    refine wpAny_bind ((LT.andThen k3).at ?_)
    first
      | exact wpAny_pure (wpAny_pure (hq tt))
      | (simp only [if_true]; first | exact wpAny_pure (wpAny_pure (hq tt)) | exact wpAny_pure (hq tt) | exact wpAny_bind (wpAny_pure (wpAny_pure (hq tt))))
def rIsY (K : PySem.W.Frag) (cls : Value) (a : Addr) : List V → Hp → VK → Prop := fun xs H Q => ∃ (c : V) (cv : Value), xs = [.ref a, c] ∧ (∀ u, RelV c u → u = cv) ∧ PySem.W.kitOne K cls cv = some true ∧ Q (.bl true) H
theorem call_isY {X : Cx} {a : Addr} {oe : Obj} {pn : List (Addr × Obj)} {cls : Value} {d : Option Addr} (hz : Zc cls d oe) : CallR (X.suite a ((a, oe) :: pn)) (.builtin "isinstance") (rIsY X.K cls a) := by
  intro pins s σ H xs us Q I r h
  obtain ⟨c, cv, rfl, hcv, e, q⟩ := h
  cases r with
  | cons rx rr =>
    cases rr with
    | cons rt rr =>
      cases rr
      cases rx
      cases hcv _ rt
      obtain ⟨hget, _⟩ := I.pin (a, oe) (List.mem_append.mpr (.inl List.mem_cons_self))
      refine call_isinstance (S := fun _ R s => (X.K.In s.heap ∧ s.heap.get? a = some oe) ∧ ∀ tk, R (.ok (.ret (.bool true))) { s with toks := tk })
        (fun prog w A R s hs => isinstance_outer (kit_yes (Hq := fun h => h.get? a = some oe) (t := cls) (fun M h _ e0 A Q E s k q => wpAny_typeOf_ref (k _ _ e0) (by rw [hz.1]; exact q)) e 0 _ prog w A R s hs) (fun z => nomatch z)) ⟨⟨I.kIn, hget⟩, fun tk => ?_⟩
      exact ⟨.bl true, H, I.kept (t' := tk) fun _ _ z => z, rfl, q⟩
theorem fnD {P : Program} {w : World} {K : PySem.W.Frag} {mg : Str → Option Value} {base : Heap} {CX : CXT} {k : Nat} {x qual : Str} {sp : Sp} {params : Arguments} {body : List Stmt} {scope : Scope} {f : Addr} {fd : FuncData} {ps : List Str} {dvs : List V}
    (F : FunD K x qual params body scope dvs [] f fd) (ok : FnOk P w K mg base CX k f fd ps sp) (n j : Nat) (hd : dvs ≠ []) (hn : n + (dvs.length - j) = ps.length)
    (h : ∀ (T : Addr) (kV doc pm : Value) (an : Option Addr) (cdv ct : Value) (us its : List Value), us.length = n → its.length = dvs.length →
      ∃ k, bindArgs (PySem.W.fnOf x qual params body scope (.ref T) kV doc pm an cdv ct) ⟨us, []⟩ = seqItems? (.ref T) >>= k ∧ k (some its.toArray) = pure (ps.zip (us ++ its.drop j))) :
    FnR P w K mg base CX k f (fun vs H Q E => sp (vs ++ dvs.drop j) H Q E) := by
  obtain ⟨ds, h1, h2⟩ := F.binds1 n j hd hn h
  exact ok.raw h2 h1
/-- C() by an __init__ whose parameters all have defaults -/
theorem pe_makeE0 {X : Cx} {CX : CXT} {k : Nat} {C f : Addr} {x : Str} {sp : Sp} {E : L2.St → XK} {p pos : Pos} (M : Mk X.K C f) (F : FnR X.prog X.w X.K X.mg X.base CX k f sp) (hr : Room (k + 1) X.A) (hm : X.mg x = some (.ref C)) (hx : ∀ σ, PassesAt CX X σ (E σ)) (hg : Gl X x := by rfl) (hdb : (x == ("__debug__" : Str)) = false := by decide) :
    PE X (.Call (.Name x p) [] [] pos) (tMakeE C sp E tNil) := by
  refine ⟨fun pins s σ H Q I h => ?_⟩
  refine wpAny_Call_Name_kw (ld_glob I hg hm ?_ hdb)
  exact PySem.W.callWith_K0 (first := []) I.kIn M.kp (run_makeE (us := []) (vs := []) M F hr (hx σ) I .nil h)
theorem tupAB_ok {K : PySem.W.Frag} {a : Addr} (h : tupAB K a = true) (H : Hp) : SqT K H a [] := by
  unfold tupAB at h
  split at h
  · rename_i c od its n osl q
    obtain ⟨h1, h2⟩ := ba h
    have e2 := of_decide_eq_true h2
    subst e2
    exact .inr ⟨_, #[], n, q, congrArg Value.type (of_decide_eq_true h1), rfl, by decide, .nil⟩
  · cases h
theorem tYes_of {σ : L2.St} {H : Hp} {F G : Hp → Prop} (h : F H) : tYes σ H fun b H3 => if b = true then F H3 else G H3 := by
  show if true = true then F H else G H
  rw [if_pos rfl]
  exact h
/-- try .. except X: with a name for its reading (a loop's body) -/
def tTryO (K : PySem.W.Frag) (c : Value) (ts : Addr → Value → Option Addr → TS) (Wout : WX) (tb : WX → TS) : TS := fun D σ H => tb (wOnly K c ts Wout D) D σ H
theorem ps_tryO {X : Cx} {x : Str} {c : Value} {body suite : List Stmt} {b₀ : Stmt} {np pos pos' : Pos} {tb : WX → TS} {ts : Addr → Value → Option Addr → TS} {Wout : WX} (hs : X.stack = X.env :: X.outer) (hf : X.env.frame = some X.env.locals) (hc : Names X x c) (tk : Takes X Wout)
    (hb : ∀ (W : WX) (pn : List (Addr × Obj)) (xe : Value → Shared → Prop), Takes (X.tr pn xe) W → PassesOwn (model X.prog X.w) X.A X.env xe → PSs (X.tr pn xe) body (tb W))
    (hsu : ∀ (a : Addr) (oe : Obj) (cls : Value) (d : Option Addr) (pn : List (Addr × Obj)), Zc cls d oe → (∃ vs, oe.data = .fields vs) → PSs (X.suite a ((a, oe) :: pn)) (b₀ :: suite) (ts a cls d)) :
    PS X (.Try body [.ExceptHandler (some (.Name x np)) none (b₀ :: suite) pos'] [] [] pos) (tTryO X.K c ts Wout tb) := ps_try_only hs hf hc tk hb hsu
end EL
namespace EL
open PySem PySem.Spec PyProof.Rows L2 He TL
theorem note_same {ce env : Env} (h : ce.frame = env.frame) (x : Value) : noteFrame x ce = noteFrame x env := by
  unfold noteFrame PySem.frameOf
  rw [h]
theorem comp_leave {X : Cx} {W : WX} (tk : Takes X W) (hs : X.stack = X.env :: X.outer) (hf : X.env.frame = some X.env.locals) {pins : List (Addr × Obj)} {σ : L2.St} {H : Hp} {s s' : Shared} (I : Inv X pins σ H s) {C : Addr} {m : Str → Option Value} (hn : s.heap.Ns C m) (hC : FpOk X pins H C)
    {E : XK} (hW : ∀ cls d H', E cls d H' → W cls d σ H') {e : Value} (c : L2.CX X.prog X.w X.stack H s E e s') {ce : Env} (hce : ce.frame = X.env.frame) {what : String} {E₁ : Value → Shared → Prop} :
    wpAny (model X.prog X.w) X.A (noteFrame e ce) (fun _ s1 => ∃ m, s1.heap.Ns C m ∧ ∀ h', Heap.SameBut C s1.heap h' → wpAny (model X.prog X.w) X.A (passOn what e ce : Sem Value) (fun _ _ => False) X.xe { s1 with heap := h' }) E₁ s' := by
  obtain ⟨a, B, H', cls, d, rfl, fl, hok, ub, na, os, ag, hE⟩ := c
  obtain ⟨oC, es, ep, gC, dC, rC⟩ := hn
  obtain ⟨f0, f1, f2, f3, f4, f5⟩ := hC
  have nfC : C ∉ frs X.stack := by
    rw [hs]
    intro z
    obtain ⟨env, he, q⟩ := List.mem_filterMap.mp z
    rcases List.mem_cons.mp he with rfl | he
    · rw [hf] at q
      exact f1 (Option.some.inj q).symm
    · exact f2 (List.mem_filterMap.mpr ⟨env, he, q⟩)
  have bC : B.get? C = some oC := ub.keep C oC gC f0 nfC
  obtain ⟨oe, vs, T, oT, ts, he, hz, hd, h1, hnT, hTe, hT, hdT, h3⟩ := fl.2.2.2
  have sC : s'.heap.get? C = some oC := fl.1 _ _ bC
  have aC : a ≠ C := fun z => by rw [z, sC] at he; cases he; rw [dC] at hd; cases hd
  have TC : T ≠ C := fun z => by rw [z, sC] at hT; cases hT; rw [dC] at hdT; cases hdT
  -- the three heaps without C
  obtain ⟨Gs, gs1, gs2⟩ := restrict s.heap fun b => decide (b ≠ C)
  obtain ⟨B', b1, b2⟩ := restrict B fun b => decide (b ≠ C)
  obtain ⟨Q', q1, q2⟩ := restrict s'.heap fun b => decide (b ≠ C)
  have gsS : ∀ b o, Gs.get? b = some o → b ≠ C ∧ s.heap.get? b = some o := fun b o h => by
    by_cases z : b = C
    · rw [gs2 b (by simp [z])] at h; cases h
    · exact ⟨z, (gs1 b (decide_eq_true z)).symm.trans h⟩
  have bS : ∀ b o, B'.get? b = some o → b ≠ C ∧ B.get? b = some o := fun b o h => by
    by_cases z : b = C
    · rw [b2 b (by simp [z])] at h; cases h
    · exact ⟨z, (b1 b (decide_eq_true z)).symm.trans h⟩
  have qS : ∀ b o, Q'.get? b = some o → b ≠ C ∧ s'.heap.get? b = some o := fun b o h => by
    by_cases z : b = C
    · rw [q2 b (by simp [z])] at h; cases h
    · exact ⟨z, (q1 b (decide_eq_true z)).symm.trans h⟩
  have IP : Inv X pins σ H { s with heap := Gs } := I.turned (t' := s.toks) (fun b o hb e => (gs1 b (decide_eq_true hb)).trans e) f0 f1 f3 f4 f5
  have hC' : H' C = none := ub.free C oC gC f0
  have stB : B'.StaysIn Q' := fun b o h => (q1 b (decide_eq_true (bS b o h).1)).trans (fl.1 b o (bS b o h).2)
  have ff : Q'.FunFrames B' X.stack := by
    have go : ∀ l : List Env, C ∉ frs l → s'.heap.FunFrames B l → Q'.FunFrames B' l := by
      intro l
      induction l with
      | nil => intro _ _; trivial
      | cons env r ih =>
        rintro hc ⟨k1, ⟨L, o, k2, k3, k4, k5⟩, k6⟩
        have LC : L ≠ C := fun z => hc (List.mem_filterMap.mpr ⟨env, List.mem_cons_self, by rw [k2, z]⟩)
        refine ⟨k1, ⟨L, o, k2, (b1 L (decide_eq_true LC)).trans k3, (q1 L (decide_eq_true LC)).trans k4, k5⟩, ih (fun z => hc ?_) k6⟩
        obtain ⟨env', h1, h2⟩ := List.mem_filterMap.mp z
        exact List.mem_filterMap.mpr ⟨env', List.mem_cons_of_mem _ h1, h2⟩
    exact go _ nfC fl.2.2.1
  have aB' : ∀ {b : Addr}, B.get? b = none → B'.get? b = none := fun {b} h => by
    cases q : B'.get? b with
    | none => rfl
    | some o => rw [(bS b o q).2] at h; cases h
  have fl' : HandSPX.FlyingZ B' X.stack a (Zc cls d) Q' := ⟨stB, aB' fl.2.1, ff, oe, vs, T, oT, ts, (q1 a (decide_eq_true aC)).trans he, hz, hd, h1, aB' hnT, hTe, (q1 T (decide_eq_true TC)).trans hT, hdT, h3⟩
  have hok' : HOk X.prog X.w H' B' := fun b o h => (hok b o h).stay (fun c u hc q => by
    have hcC : c ≠ C := fun z => by
      rcases hc with hc | hc
      · rw [hc] at z; rw [z, hC'] at h; cases h
      · rw [z, hC'] at hc; cases hc
    exact (b1 c (decide_eq_true hcC)).trans q) (fun _ q => q) (fun _ _ q => q)
  have ub' : UB (frs X.stack) H H' Gs B' Q' :=
    ⟨fun b o h1 h2 h3 => (b1 b (decide_eq_true (gsS b o h1).1)).trans (ub.keep b o (gsS b o h1).2 h2 h3), fun b o h1 h2 => by
      obtain ⟨sl, e⟩ := ub.slot b o (gsS b o h1).2 h2
      exact ⟨sl, (q1 b (decide_eq_true (gsS b o h1).1)).trans e⟩, fun b o h1 h2 => ub.free b o (gsS b o h1).2 h2, fun b o h1 h2 => by
      obtain ⟨o', e⟩ := ub.there b o (gsS b o h1).2 h2
      exact ⟨o', (b1 b (decide_eq_true (gsS b o h1).1)).trans e⟩, ub.tups, ub.frzs, ub.tbls⟩
  have xx : XE X W (.ref a) { s' with heap := Q' } := XE.of_call IP hW ⟨a, B', H', cls, d, rfl, fl', hok', ub', na, os, ag, hE⟩
  obtain ⟨a2, B0, sI, pins2, σ2, H2, cls2, d2, ea, I2, nb, up, sky, na2, os2, ag2, w2⟩ := xx
  obtain rfl : a = a2 := by injection ea
  have qa : Q'.get? a = some oe := (q1 a (decide_eq_true aC)).trans he
  have fl0 : HandSPX.FlyingZ B0 X.stack a (Zc cls2 d2) s'.heap := by
    rcases sky with ⟨_, _, _, oe', vs', he', _, hd', h1'⟩ | ⟨k1, k2, k3, oe', vs', T', oT', ts', he', hz', hd', h1', hnT', hTe', hT', hdT', h3'⟩ | ⟨_, _, _, oe', vs', T', oT', ts', he', _, hd', h1', _, _, hT', hdT', h3'⟩
    · have e1 : oe = oe' := Option.some.inj (qa.symm.trans he')
      subst e1
      rw [hd] at hd'
      cases hd'
      rw [h1] at h1'
      cases h1'
    · refine ⟨fun b o h => (qS b o (k1 b o h)).2, k2, k3.of_keeps (fun b o h _ => ⟨o, (qS b o h).2, rfl⟩), oe', vs', T', oT', ts', (qS _ _ he').2, hz', hd', h1', hnT', hTe', (qS _ _ hT').2, hdT', h3'⟩
    · have e1 : oe = oe' := Option.some.inj (qa.symm.trans he')
      subst e1
      rw [hd] at hd'
      cases hd'
      rw [h1] at h1'
      cases h1'
      have e2 : oT = oT' := Option.some.inj (((q1 T (decide_eq_true TC)).trans hT).symm.trans hT')
      subst e2
      rw [hdT] at hdT'
      cases hdT'
      rw [h3] at h3'
      cases h3'
  have B0C : B0.get? C = none := by
    cases q : B0.get? C with
    | none => rfl
    | some o =>
      have : B0.StaysIn Q' := by
        rcases sky with ⟨k, _⟩ | ⟨k, _⟩ | ⟨k, _⟩ <;> exact k
      exact absurd rfl (qS C o (this C o q)).1
  rw [note_same hce]
  have hfr : X.A.frames = some (X.env :: X.outer) := by rw [I.ok.frames, hs]
  rw [hs] at fl0
  refine HandSPX.looks_onZ Zc.steady hfr hf fl0 fun h1' held up1 => ?_
  obtain ⟨sl, eC⟩ := up1 C oC sC (fun vs z => by rw [dC] at z; cases z)
  refine ⟨m, ⟨_, es, ep, eC, dC, rC⟩, fun h2 sb => ?_⟩
  -- held, whatever became of C
  obtain ⟨j1, j2, j3, oe4, vs4, T4, oT4, ts4, he4, hz4, hd4, h14, hnT4, hTe4, hT4, hdT4, h34⟩ := held
  have a4 : a ≠ C := aC
  have T4C : T4 ≠ C := fun z => by rw [z, eC] at hT4; cases hT4; rw [dC] at hdT4; cases hdT4
  have k2 : ∀ b, b ≠ C → ∀ o, h1'.get? b = some o → h2.get? b = some o := fun b hb o h => (sb.2 b hb).trans h
  have ff2 : h2.FunFrames B0 (X.env :: X.outer) := by
    have go : ∀ l : List Env, C ∉ frs l → h1'.FunFrames B0 l → h2.FunFrames B0 l := by
      intro l
      induction l with
      | nil => intro _ _; trivial
      | cons env r ih =>
        rintro hc ⟨k1, ⟨L, o, l2, l3, l4, l5⟩, k6⟩
        have LC : L ≠ C := fun z => hc (List.mem_filterMap.mpr ⟨env, List.mem_cons_self, by rw [l2, z]⟩)
        refine ⟨k1, ⟨L, o, l2, l3, k2 _ LC _ l4, l5⟩, ih (fun z => hc ?_) k6⟩
        obtain ⟨env', h1, h2⟩ := List.mem_filterMap.mp z
        exact List.mem_filterMap.mpr ⟨env', List.mem_cons_of_mem _ h1, h2⟩
    exact go _ (by rw [← hs]; exact nfC) j3
  have held2 : HandSPX.HeldZ B0 (X.env :: X.outer) a (Zc cls2 d2) X.env.locals h2 :=
    ⟨fun b o h => k2 b (fun z => by rw [z, B0C] at h; cases h) o (j1 b o h), j2, ff2, oe4, vs4, T4, oT4, ts4, k2 _ a4 _ he4, hz4, hd4, h14, hnT4, hTe4, k2 _ T4C _ hT4, hdT4, h34⟩
  unfold PySem.passOn
  refine wpAny_bind (wpAny_field (k2 _ a4 _ he4) hd4 h14 ?_)
  rw [if_neg (show ¬ ((Value.ref T4 == Value.none) = true) from by simp)]
  have fin : wpAny (model X.prog X.w) X.A (setFlight (.ref a) ce.frame) (fun _ s4 => wpAny (model X.prog X.w) X.A (throw (.ref a) : Sem Value) (fun _ _ => False) X.xe s4) X.xe { s' with heap := h2 } := by
    rw [hce, hf]
    refine HandSPX.setFlight_onZ held2 fun h5 hh5 up5 => wpAny_throw (tk _ _ ?_)
    refine ⟨a, B0, sI, pins2, σ2, H2, cls2, d2, rfl, I2, nb, fun b o h hnf => ?_, .inr (.inr (by rw [hs]; exact hh5)), na2, os2, ag2, w2⟩
    obtain ⟨s1, u1⟩ := up b o h hnf
    obtain ⟨z, u1'⟩ := qS _ _ u1
    obtain ⟨s2, u2⟩ := up1 b _ u1' hnf
    obtain ⟨s3, u3⟩ := up5 b _ (k2 b z _ u2) hnf
    exact ⟨s3, u3⟩
  first
    | exact wpAny_bind (wpAny_pure (wpAny_bind fin))
    | exact wpAny_bind fin
/-- what is wanted behind a comprehension's block, its own environment known -/
def cpX (M : Model) (A : Around) (E : Value → Shared → Prop) (use : Option (Value → Sem Unit)) (Q : Value → Shared → Prop) (acc : Value) (ce : Env) (r : Result) (s' : Shared) : Prop :=
  match r with
  | .ok _ => compPost M A E use Q acc ce.locals r s'
  | .error x => ∃ m, s'.heap.Ns ce.locals m ∧ ∀ h', Heap.SameBut ce.locals s'.heap h' → wpAny M A (passOn "comprehension.variables-let-go" x ce : Sem Value) (fun _ _ => False) E { s' with heap := h' }
theorem comp_freeX {M : Model} {A : Around} {E : Value → Shared → Prop} {s : Shared} {env : Env} {e : Expr} {scope : Scope} {pos : Pos} {newAcc first : Sem Value} {g : Comprehension} {gs : List Comprehension} {cl : List (Str × Addr)} {use : Option (Value → Sem Unit)} {Q : Value → Shared → Prop}
    (hcl : clausesOf e = g :: gs) (hs : ∀ x, foldedSetIterable g.iter env x = pure x) (hclos : closureFor scope env = pure cl) (hkind : scope.kind = .function) (hnames : ∀ x ∈ scope.names, x.2 = .local → scope.names.lookup x.1 = some .local)
    (h : wpAny M A first (fun x s₁ => wpAny M A (pyIter x) (fun it s₂ => wpAny M A newAcc (fun acc s₃ => wpAny M A (newFunctionEnv scope env.globals cl [] env.qual none .none (some env)) (fun cenv s₄ =>
      codeAny M A (.compStart e 0 it acc { cenv with scope := relabel scope env }) (cpX M A E use Q acc { cenv with scope := relabel scope env }) s₄) E s₃) E s₂) E s₁) E s) :
    wpAny M A (comprehension e scope env pos newAcc false first use) Q E s := by
  unfold comprehension
  rw [hclos, hcl]
  have up : ∀ {α : Type} {t : Sem α} {P P' : α → Shared → Prop} {s : Shared}, wpAny M A t P E s → (∀ a s, P a s → P' a s) → wpAny M A t P' E s := fun h k => wpAny_mono h k fun _ _ z => z
  refine wpAny_bind (up h fun x s₁ h₁ => wpAny_bind (wpAny_standAt (wpAny_bind (wpAny_of_eq (hs x) (wpAny_bind (wpAny_holding (up h₁ fun it s₂ h₂ => wpAny_standIf (wpAny_bind (up h₂ fun acc s₃ h₃ => wpAny_bind (wpAny_pure (wpAny_bind (up h₃ fun cenv s₄ h₄ => ?_))))))))))))
  dsimp only
  have hv : ∀ x ∈ (scope.names.filter fun x => (x.2 == .local || x.2 == .cell) && x.1 != (".0" : Str)).reverse, x.2 = .local → Env.kindOf { cenv with scope := relabel scope env } x.1 = some .local := fun x hx hl => lookup_relabel_local (hnames x (List.mem_filter.mp (List.mem_reverse.mp hx)).1 hl)
  refine wpAny_holding (wpAny_bind (wpAny_attempt (wpAny_holding (wpAny_run (codeAny_mono h₄ fun r s' hr => ?_)))))
  cases r with
  | ok f =>
    cases use with
    | none =>
      obtain ⟨m, hn, hq⟩ := hr
      exact wpAny_bind (wpAny_holding (wpAny_comp_letGo (cenv := { cenv with scope := relabel scope env }) hkind _ s' m hv hn fun h' m' _ hs' => wpAny_pure (hq h' hs')))
    | some u =>
      refine wpAny_bind (wpAny_rule (wpAny_bind (wpAny_holding (up hr fun _ s2 hr' => ?_))))
      obtain ⟨m, hn, hq⟩ := hr'
      refine wpAny_bind (wpAny_comp_letGo (cenv := { cenv with scope := relabel scope env }) hkind _ s2 m (fun x hx hl => ?_) hn fun h' m' _ hs' => wpAny_pure (hq h' hs'))
      exact (List.mem_append.mp hx).elim (fun z => hv x (List.mem_of_mem_drop z) hl) (fun z => hv x (List.mem_of_mem_take z) hl)
  | error x =>
    obtain ⟨m, hn, hq⟩ := hr
    exact wpAny_bind (wpAny_holding (wpAny_comp_letGo (cenv := { cenv with scope := relabel scope env }) hkind _ s' m hv hn fun h' m' _ hs' => up (hq h' hs') (fun _ _ f => f.elim)))
/-- a block that lets exceptions out -/
abbrev blx (X : Cx) (s : Shared) (H : Hp) (scope : Scope) (cenv : Env) (fp : List Addr) (xe : Value → Shared → Prop) : Cx := { X.blk s H scope cenv fp with xe := xe }
theorem _root_.L2.Inv.toBlx {X : Cx} {s0 : Shared} {H0 : Hp} {scope : Scope} {ce : Env} {fp : List Addr} {xe : Value → Shared → Prop} {pins : List (Addr × Obj)} {σ : L2.St} {H : Hp} {s : Shared} (I : Inv (X.blk s0 H0 scope ce fp) pins σ H s) : Inv (EL.blx X s0 H0 scope ce fp xe) pins σ H s :=
  ⟨⟨I.ok.mod, I.ok.kind, I.ok.glob, I.ok.blt, I.ok.above, I.ok.inj, I.ok.has, I.ok.cab, I.ok.hd, I.ok.frames, I.ok.stk, I.ok.exf, I.ok.bs, I.ok.bsz, I.ok.noex, I.ok.exfs, I.ok.funs, I.ok.frf⟩, I.os, I.bare, I.base, I.loc, I.cell, I.free, I.freeC, I.pin, I.hok, I.len⟩
theorem _root_.L2.Inv.ofBlx {X : Cx} {s0 : Shared} {H0 : Hp} {scope : Scope} {ce : Env} {fp : List Addr} {xe : Value → Shared → Prop} {pins : List (Addr × Obj)} {σ : L2.St} {H : Hp} {s : Shared} (I : Inv (EL.blx X s0 H0 scope ce fp xe) pins σ H s) : Inv (X.blk s0 H0 scope ce fp) pins σ H s :=
  ⟨⟨I.ok.mod, I.ok.kind, I.ok.glob, I.ok.blt, I.ok.above, I.ok.inj, I.ok.has, I.ok.cab, I.ok.hd, I.ok.frames, I.ok.stk, I.ok.exf, I.ok.bs, I.ok.bsz, I.ok.noex, I.ok.exfs, I.ok.funs, I.ok.frf⟩, I.os, I.bare, I.base, I.loc, I.cell, I.free, I.freeC, I.pin, I.hok, I.len⟩
section
variable {X : Cx}
/-- [elt for target in iter if ..] whose elt may raise: te by what is let out -/
abbrev LcStep (g : TG) (tt : TT) (te : TE) (vs : List Nat) (σ : L2.St) (D : Addr) (Nx : Hp → Prop) (x : V) (H : Hp) : Prop := g x (wipe σ vs) H fun σ2 H2 => wipe σ2 vs = wipe σ vs ∧ tt σ2 H2 fun b H3 =>
  if b = true then te σ2 H3 fun y H4 => ∃ acc, H4 D = some (.lst acc) ∧ acc.length < sizeLine ∧ Nx (upd H4 D (.lst (acc ++ [y]))) else Nx H3
def tLcX (W : WX) (wi : TI) (g : TG) (tt : TT) (te : XK → TE) (vs : List Nat) : TE := fun σ H Q => wi σ H fun J H1 => ∀ D, H1 D = none → ∃ V : Nat → Nat → Hp → Prop, (∃ m, V 0 m (upd H1 D (.lst []))) ∧ ∀ i m H, V i m H →
  (J.stop i H ∧ Q (.ref D) H) ∨ (J.go i H ∧ ∃ Nx : Hp → Prop, (∀ H', Nx H' → ∃ m', m' < m ∧ V (i + 1) m' H') ∧ ∀ x H', J.yld i H x H' → LcStep g tt (te (WE W σ)) vs σ D Nx x H')
theorem lcX_core {pins : List (Addr × Obj)} {s : Shared} {σ : L2.St} {H : Hp} {Q : VK} {W : WX} {elt tg iter : Expr} {ifs : List Expr} {scope : Scope} {own : List (Str × Nat)} {pos pos' : Pos} {wi : TI} {g : TG} {tt : TT} {te : XK → TE} {use : Option (Value → Sem Unit)} {Qf : Value → Shared → Prop}
    (tk : Takes X W) (hst : X.stack = X.env :: X.outer) (hfm : X.env.frame = some X.env.locals) (hc : X.calm = true) (hN : X.N.Nodup) (I : Inv X pins σ H s) (hi : PI X tg iter wi) (ok : BlkOk X.N X.env.scope scope own)
    (hg : ∀ (s : Shared) (H : Hp) (C : Addr) (cl : List (Str × Addr)) (fp : List Addr), PG (X.blk s H scope (compEnvC scope cl C X.env) fp) tg g) (ht : ∀ (s : Shared) (H : Hp) (C : Addr) (cl : List (Str × Addr)) (fp : List Addr), PTs (X.blk s H scope (compEnvC scope cl C X.env) fp) ifs tt)
    (he : ∀ (s : Shared) (H : Hp) (C : Addr) (cl : List (Str × Addr)) (fp : List Addr) (xe : Value → Shared → Prop) (E : XK), (∀ σ', PassesAt (L2.CX X.prog X.w) (EL.blx X s H scope (compEnvC scope cl C X.env) fp xe) σ' E) → PE (EL.blx X s H scope (compEnvC scope cl C X.env) fp xe) elt (te E)) (hs : ∀ x, foldedSetIterable iter X.env x = pure x)
    (h : tLcX W wi g tt te (own.map (·.2)) σ H Q)
    (hRR : ∀ D C s' m H', Inv X pins σ H' s' → Q (.ref D) H' → s'.heap.Ns C m → FpOk X pins H' C → compPost (model X.prog X.w) X.A X.xe use Qf (.ref D) C (.ok .next) s') :
    wpAny (model X.prog X.w) X.A (comprehension (.ListComp elt [⟨tg, iter, ifs, 0⟩] scope pos) scope X.env pos' (newList []) false (eval iter X.env) use) Qf X.xe s := by
  have cl : ∀ y ∈ scope.names, y.2 = .free → ∃ c, X.env.cells.lookup y.1 = some c := fun y hy e => (ok.free y hy e).elim (fun k => I.ok.has _ (.inl k)) (fun k => I.ok.has _ (.inr k))
  refine comp_freeX (use := use) rfl hs (closure_ok cl) ok.kind (fun y hy e => by rw [ok.uniq y hy, e]) (thn (hi.run pins s σ H _ I h) fun xv s1 hx => thn hx fun itv s2 h2 => ?_)
  obtain ⟨it, fp, tn, J, H2, e, I2, T, st2, f2, q⟩ := h2
  subst e
  refine wpAny_newObj_type (newEnv_comp ?_)
  generalize hD : s2.heap.objs.size = D
  obtain ⟨V, ⟨m0, w0⟩, turn⟩ := q D (I2.hok.fresh (Nat.le_of_eq hD))
  obtain ⟨s3, hs3⟩ : ∃ s3 : Shared, ({ s2 with heap := s2.heap.push { cls := .type "list", data := .seq ([] : List Value).toArray } } : Shared) = s3 := ⟨_, rfl⟩
  have hh3 : s3.heap = s2.heap.push { cls := .type "list", data := .seq ([] : List Value).toArray } := by rw [← hs3]
  obtain ⟨H3, hH3⟩ : ∃ H3, upd H2 D (.lst []) = H3 := ⟨_, rfl⟩
  have I3 : Inv X pins σ H3 s3 := by
    rw [← hs3, ← hH3]
    refine I2.laid (t' := s2.toks) (fun b o e => Heap.get?_push_of_some _ e) (Nat.le_of_eq hD) ?_
    rw [← hD]
    exact ⟨Nat.zero_le _, [], 0, .nil, Heap.get?_push_size _ rfl⟩
  rw [hH3] at w0
  have lt2 : ∀ b ∈ fp, b < s2.heap.objs.size := fun b hb => let ⟨o, e, _⟩ := T.obj _ _ st2 b hb; Heap.lt_size e
  have f3 : ∀ b ∈ fp, FpOk X pins H3 b ∧ b < s3.heap.objs.size := fun b hb => by
    refine ⟨⟨?_, (f2 b hb).2⟩, by rw [hh3, Heap.size_push]; exact Nat.lt_succ_of_lt (lt2 b hb)⟩
    rw [← hH3, upd_ne (by rw [← hD]; exact Nat.ne_of_lt (lt2 b hb))]
    exact (f2 b hb).1
  have I4 := block_start I3 ok hN f3
  rw [hs3]
  show codeAny _ _ (.compStart (.ListComp elt [⟨tg, iter, ifs, 0⟩] scope pos) 0 (.ref it) (.ref D) (compEnvC scope (cellsFrom (s3.heap.objs.size + 1) scope.names (cloFrom X.env.cells scope.names [])) s3.heap.objs.size X.env)) (cpX (model X.prog X.w) X.A X.xe use Qf (.ref D) (compEnvC scope (cellsFrom (s3.heap.objs.size + 1) scope.names (cloFrom X.env.cells scope.names [])) s3.heap.objs.size X.env)) { s3 with heap := pushCells (s3.heap.push { cls := .type "dict", data := .dict #[] }) scope.names }
  have pg := hg s3 H3 s3.heap.objs.size (cellsFrom (s3.heap.objs.size + 1) scope.names (cloFrom X.env.cells scope.names [])) fp
  have pt := ht s3 H3 s3.heap.objs.size (cellsFrom (s3.heap.objs.size + 1) scope.names (cloFrom X.env.cells scope.names [])) fp
  have pe0 := he s3 H3 s3.heap.objs.size (cellsFrom (s3.heap.objs.size + 1) scope.names (cloFrom X.env.cells scope.names [])) fp
  have cF : (compEnvC scope (cellsFrom (s3.heap.objs.size + 1) scope.names (cloFrom X.env.cells scope.names [])) s3.heap.objs.size X.env).frame = X.env.frame := rfl
  generalize hce : compEnvC scope (cellsFrom (s3.heap.objs.size + 1) scope.names (cloFrom X.env.cells scope.names [])) s3.heap.objs.size X.env = ce at I4 pg pt pe0 cF ⊢
  have cL : ce.locals = s3.heap.objs.size := by rw [← hce]; rfl
  have st4 : tn 0 (pushCells (s3.heap.push { cls := .type "dict", data := .dict #[] }) scope.names) := T.keep _ _ _ st2 fun b _ o e => pushCells_keeps _ _ _ _ (Heap.get?_push_of_some _ (by rw [hh3]; exact Heap.get?_push_of_some _ e))
  generalize hs4 : ({ s3 with heap := pushCells (s3.heap.push { cls := .type "dict", data := .dict #[] }) scope.names } : Shared) = s4 at I4 ⊢
  have st4' : tn 0 s4.heap := by rw [← hs4]; exact st4
  have stat : ∀ {σ' : L2.St} {H' : Hp} {s' : Shared}, Inv (X.blk s3 H3 scope ce fp) [] σ' H' s' → (∀ b ∈ fp, H' b = none) → ∀ b ∈ fp, FpOk (X.blk s3 H3 scope ce fp) [] H' b := fun I' hn b hb =>
    ⟨hn b hb, (I'.ok.exf b hb).1, I'.ok.exfs b hb, .inl hb, fun x c e => (I'.ok.exf b hb).2 x c e, fun p hp => by cases hp⟩
  -- the def's own view of a state within the block
  have back : ∀ {pins' : List (Addr × Obj)} {σ' : L2.St} {H' : Hp} {s' : Shared}, Inv (X.blk s3 H3 scope ce fp) pins' σ' H' s' → Inv X pins σ H' s' ∧ (∃ m, s'.heap.Ns ce.locals m) ∧ FpOk X pins H' ce.locals := fun {pins' σ' H' s'} I6 => by
    have nC : H' s3.heap.objs.size = none := by rw [← cL]; exact I6.free
    obtain ⟨m, hn, _⟩ := I6.loc
    exact ⟨I3.call' (ch := fp) I6.os I6.base I6.hok I6.bare fun b hb => ⟨(f3 b hb).1.2.2.2.1, (f3 b hb).1.2.1, (f3 b hb).1.2.2.2.2.1, (f3 b hb).1.2.2.2.2.2⟩, ⟨m, hn⟩, by rw [cL]; exact I3.fpOk (Nat.le_refl _) nC⟩
  have pe := pe0 (notedBy (model X.prog X.w) X.A ce fun e s' => cpX (model X.prog X.w) X.A X.xe use Qf (.ref D) ce (.error e) s') (WE W σ) (fun σ' pins' H' s' e s2' I' c => by
    obtain ⟨J1, ⟨m, hn⟩, J2⟩ := back I'.ofBlx
    exact comp_leave tk hst hfm J1 hn J2 (fun _ _ _ z => z) c cF)
  have loop : codeAny (model X.prog X.w) X.A (.compLoop (.ListComp elt [⟨tg, iter, ifs, 0⟩] scope pos) 0 (.ref it) (.ref D) ce) (cpX (model X.prog X.w) X.A X.xe use Qf (.ref D) ce) s4 := by
    refine compLoop_any (fun n s' => ∃ i H', Inv (X.blk s3 H3 scope ce fp) [] (wipe σ (own.map (·.2))) H' s' ∧ tn i s'.heap ∧ (∀ b ∈ fp, H' b = none) ∧ V i n H') ?_ m0 ⟨0, H3, I4, st4', fun b hb => (f3 b hb).1.1, w0⟩
    rintro n s5 ⟨i, H5, I5, st5, n5, w5⟩
    rcases turn i n H5 w5 with ⟨stop, qq⟩ | ⟨go, Nx, hNx, step⟩
    · refine thnF (T.done (X.blk s3 H3 scope ce fp) rfl rfl rfl hc i [] s5 _ H5 (fun _ _ => False) I5 (stat I5 n5) st5 stop) fun r s6 ⟨hr, I6⟩ => ?_
      subst hr
      obtain ⟨J1, ⟨m, hn⟩, J2⟩ := back I6
      exact hRR D ce.locals s6 m H5 J1 qq hn J2
    · refine thnF (T.item (X.blk s3 H3 scope ce fp) rfl rfl rfl hc i [] s5 _ H5 (fun _ _ => False) I5 (stat I5 n5) st5 go) fun r s6 ⟨u, hr, h6⟩ => ?_
      subst hr
      refine thnF h6 fun _ s7 ⟨x, H7, I7, r7, y7, st7, n7⟩ => ?_
      refine thnF (pg.run _ s7 _ H7 x u _ (I7.pinned (stat I7 n7) (T.obj _ _ st7)) r7 (step x H7 y7)) fun _ s8 ⟨σ8, H8, I8, hw8, q8⟩ => ?_
      refine thnF (pt.run _ s8 σ8 H8 _ I8 q8) fun b s9 ⟨H9, I9, q9⟩ => ?_
      have fin : ∀ {s' : Shared} {H' : Hp}, Inv (X.blk s3 H3 scope ce fp) ([] ++ pinsAt fp s7.heap) σ8 H' s' → Nx H' → ∃ m, m < n ∧ ∃ i H', Inv (X.blk s3 H3 scope ce fp) [] (wipe σ (own.map (·.2))) H' s' ∧ tn i s'.heap ∧ (∀ b ∈ fp, H' b = none) ∧ V i m H' := fun {s' H'} I' nx => by
        obtain ⟨m', hm, w'⟩ := hNx H' nx
        have pin' : ∀ b ∈ fp, ∀ o, s7.heap.get? b = some o → s'.heap.get? b = some o ∧ H' b = none := fun b hb o e =>
          let z := I'.pin (b, o) (List.mem_append_right _ (List.mem_append_right _ (mem_pinsAt hb e)))
          ⟨z.1, z.2.1⟩
        refine ⟨m', hm, i + 1, H', (I'.unpinned (pins := [])).weak (by rw [← hw8, wipe_length]) (fun j v e => (wipe_some (by rw [hw8]; exact e)).1), T.keep _ _ _ st7 fun b hb o e => (pin' b hb o e).1, fun b hb => ?_, w'⟩
        obtain ⟨o, e, _⟩ := T.obj _ _ st7 b hb
        exact (pin' b hb o e).2
      cases b with
      | false => exact fin I9 q9
      | true =>
        refine thn (pe.run _ s9 σ8 H9 _ I9.toBlx q9) fun z s10 ⟨yv, H10, I10, r10, acc, hD10, hz10, nx⟩ => ?_
        exact app_ok (X := X.blk s3 H3 scope ce fp) I10.ofBlx hD10 hz10 r10 fun s11 I11 => fin I11 nx
  exact codeAny_compStart_list loop (T.self X.A 0 _ _ _ st4' loop)
theorem pe_lcX {W : WX} {elt tg iter : Expr} {ifs : List Expr} {scope : Scope} {own : List (Str × Nat)} {pos : Pos} {wi : TI} {g : TG} {tt : TT} {te : XK → TE} (tk : Takes X W) (hst : X.stack = X.env :: X.outer) (hfm : X.env.frame = some X.env.locals) (hc : X.calm = true) (hN : X.N.Nodup) (hi : PI X tg iter wi) (ok : BlkOk X.N X.env.scope scope own)
    (hg : ∀ (s : Shared) (H : Hp) (C : Addr) (cl : List (Str × Addr)) (fp : List Addr), PG (X.blk s H scope (compEnvC scope cl C X.env) fp) tg g) (ht : ∀ (s : Shared) (H : Hp) (C : Addr) (cl : List (Str × Addr)) (fp : List Addr), PTs (X.blk s H scope (compEnvC scope cl C X.env) fp) ifs tt)
    (he : ∀ (s : Shared) (H : Hp) (C : Addr) (cl : List (Str × Addr)) (fp : List Addr) (xe : Value → Shared → Prop) (E : XK), (∀ σ', PassesAt (L2.CX X.prog X.w) (EL.blx X s H scope (compEnvC scope cl C X.env) fp xe) σ' E) → PE (EL.blx X s H scope (compEnvC scope cl C X.env) fp xe) elt (te E)) (hs : ∀ x, foldedSetIterable iter X.env x = pure x := by intro _; rfl) :
    PE X (.ListComp elt [⟨tg, iter, ifs, 0⟩] scope pos) (tLcX W wi g tt te (own.map (·.2))) := by
  refine ⟨fun pins s σ H Q I h => ?_⟩
  rw [arm_eval_ListComp]
  refine lcX_core tk hst hfm hc hN I hi ok hg ht he hs h fun D C s' m H' I' q hn f => ⟨m, hn, fun h2 sb => ?_⟩
  obtain ⟨f0, f1, f2, f3, f4, f5⟩ := f
  exact ⟨.ref D, H', I'.turned (t' := s'.toks) (fun b o hb e => (sb.2 b hb).trans e) f0 f1 f3 f4 f5, rfl, q⟩
theorem ps_setLcX {W : WX} {i : Nat} {y : Str} {py : Pos} {elt tg iter : Expr} {ifs : List Expr} {scope : Scope} {own : List (Str × Nat)} {pos spos : Pos} {wi : TI} {g : TG} {tt : TT} {te : XK → TE} (tk : Takes X W) (hst : X.stack = X.env :: X.outer) (hfm : X.env.frame = some X.env.locals) (hc : X.calm = true) (hN : X.N.Nodup) (hy : X.N[i]? = some y) (hyl : X.env.scope.names.lookup y = some .local)
    (hsw : swapsWith (.ListComp elt [⟨tg, iter, ifs, 0⟩] scope pos) (some (.Name y py)) spos.line X.env = pure true) (hi : PI X tg iter wi) (ok : BlkOk X.N X.env.scope scope own)
    (hg : ∀ (s : Shared) (H : Hp) (C : Addr) (cl : List (Str × Addr)) (fp : List Addr), PG (X.blk s H scope (compEnvC scope cl C X.env) fp) tg g) (ht : ∀ (s : Shared) (H : Hp) (C : Addr) (cl : List (Str × Addr)) (fp : List Addr), PTs (X.blk s H scope (compEnvC scope cl C X.env) fp) ifs tt)
    (he : ∀ (s : Shared) (H : Hp) (C : Addr) (cl : List (Str × Addr)) (fp : List Addr) (xe : Value → Shared → Prop) (E : XK), (∀ σ', PassesAt (L2.CX X.prog X.w) (EL.blx X s H scope (compEnvC scope cl C X.env) fp xe) σ' E) → PE (EL.blx X s H scope (compEnvC scope cl C X.env) fp xe) elt (te E)) (hs : ∀ x, foldedSetIterable iter X.env x = pure x := by intro _; rfl) :
    PS X (.Assign [.Name y py] (.ListComp elt [⟨tg, iter, ifs, 0⟩] scope pos) spos) (tAsg (tLcX W wi g tt te (own.map (·.2))) (gName i)) := by
  refine ⟨fun pins s σ H D I h => ?_⟩
  rw [exec_Assign_Name_used _ _ _ _ hsw]
  refine wpAny_bind (wpAny_standAt (wpAny_bind ?_))
  show wpAny _ X.A (do let _ ← comprehension (.ListComp elt [⟨tg, iter, ifs, 0⟩] scope pos) scope X.env (firstIterPos [⟨tg, iter, ifs, 0⟩] pos) (newList []) false (eval iter X.env) (some (assign (.Name y py) X.env))) _ _ s
  have h' : tLcX W wi g tt te (own.map (·.2)) σ H (fun x H1 => gName i x σ H1 D.nx) := h
  refine wpAny_bind (thn (lcX_core (Qf := fun _ s' => SP X pins D .next s') tk hst hfm hc hN I hi ok hg ht he hs h' fun L C s' m H' I' q hn f => ?_) fun _ s' hq => wpAny_pure (wpAny_pure hq))
  obtain ⟨f0, f1, f2, f3, f4, f5⟩ := f
  refine wpAny_assign_Name (store_ok2 (v := V.ref L) I' hN hy (.inl hyl) rfl (fun s2 I2 ⟨a, sb, ha⟩ => ?_) (.inr hyl))
  have haC : C ≠ a := ha.elim (fun z => by rw [z]; exact f1) (fun z e => f4 y a z e.symm)
  exact ⟨m, hn.sameBut sb haC, fun h3 sb3 => ⟨_, H', I2.turned (t' := s2.toks) (fun b o hb e => (sb3.2 b hb).trans e) f0 f1 f3 f4 f5, q⟩⟩
theorem lcX_it {J : It} {n : Nat} {G : Hp → Prop} {Y : Nat → Hp → V → Hp → Prop} (w : L2.Walk J n G Y) {g : TG} {tt : TT} {te : TE} {vs : List Nat} {σ : L2.St} {H1 : Hp} {D : Addr} {Qd : Hp → Prop} (Pv : Nat → Hp → Prop) (h0 : Pv 0 (upd H1 D (.lst []))) (hG : ∀ i H, i ≤ n → Pv i H → G H)
    (hs : ∀ i x H H', i < n → Pv i H → Y i H x H' → LcStep g tt te vs σ D (Pv (i + 1)) x H') (hd : ∀ H, Pv n H → Qd H) :
    ∃ V : Nat → Nat → Hp → Prop, (∃ m, V 0 m (upd H1 D (.lst []))) ∧ ∀ i m H, V i m H → (J.stop i H ∧ Qd H) ∨ (J.go i H ∧ ∃ Nx : Hp → Prop, (∀ H', Nx H' → ∃ m', m' < m ∧ V (i + 1) m' H') ∧ ∀ x H', J.yld i H x H' → LcStep g tt te vs σ D Nx x H') := by
  refine ⟨fun i m H => m + i = n ∧ Pv i H, ⟨n, rfl, h0⟩, fun i m H ⟨hm, p⟩ => ?_⟩
  have q := hG i H (by omega) p
  cases m with
  | zero =>
    have e : i = n := by omega
    subst e
    exact .inl ⟨w.stops H q, hd H p⟩
  | succ m => exact .inr ⟨w.goes i H (by omega) q, Pv (i + 1), fun H' p' => ⟨m, Nat.lt_succ_self m, by omega, p'⟩, fun x H' y => hs i x H H' (by omega) p (w.yields i H x H' (by omega) q y)⟩
/-- a call of a def that may raise, what it lets out being taken as hx says -/
theorem clP {CX : CXT} {k : Nat} {x : Str} {sp : Sp} {E : XK} {e : Expr} {es : List Expr} {t : TA} {p pos : Pos} (hx : ∀ σ, PassesAt CX X σ E) (D : Dn X.prog X.w X.K X.mg X.base CX k x sp) (hr : Room k X.A) (ha : PA X (e :: es) t) (hg : Gl X x := by rfl)
    (hdb : (x == ("__debug__" : Str)) = false := by decide) (he : starEach (e :: es) X.env = (false, eval e X.env) :: starEach es X.env := by rfl) (hpl : (backTo pos (starEach es X.env)).any (·.1) = false := by rfl) :
    PE X (.Call (.Name x p) (e :: es) [] pos) (tCallS sp (fun _ => E) t) := pe_fn D.r hr hg D.g D.kp hx ha hdb he hpl
end
def tCallOE (C : Addr) (sp : Sp) (E : L2.St → XK) (tf : TE) (t : TA) : TE := fun σ H Q => tf σ H fun y H1 => ∃ a, y = V.ref a ∧ t σ H1 fun vs H2 => (∃ dx fs, H2 a = some (.ins C dx fs)) ∧ sp (V.ref a :: vs) H2 Q (E σ)
theorem pe_callOE {X : Cx} {CX : CXT} {k : Nat} {C g : Addr} {sp : Sp} {E : L2.St → XK} {fe e : Expr} {es : List Expr} {tf : TE} {t : TA} {pos : Pos} (hf : PE X fe tf) (c : StX.CallO X.K C g) (F : FnR X.prog X.w X.K X.mg X.base CX k g sp) (hr : Room k X.A) (hx : ∀ σ, PassesAt CX X σ (E σ)) (ha : PA X (e :: es) t)
    (ht : eval (.Call fe (e :: es) [] pos) X.env = (do callWith pos (← eval fe X.env) [] (backTo pos (starEach (e :: es) X.env)) (backToKw pos (keywordEach [] X.env))) := by rfl)
    (he : starEach (e :: es) X.env = (false, eval e X.env) :: starEach es X.env := by rfl) (hpl : (backTo pos (starEach es X.env)).any (·.1) = false := by rfl) : PE X (.Call fe (e :: es) [] pos) (tCallOE C sp E tf t) := by
  refine ⟨fun pins s σ H Q I h => ?_⟩
  refine Call_ (thn (hf.run pins s σ H _ I h) fun u s1 ⟨y, H1, I1, ry, a, ey, q⟩ => ?_) ht
  subst ey
  cases (show u = Value.ref a from ry)
  refine StX.callO_with (thn (ha.run pos pins s1 σ H1 _ I1 q) fun us s2 ⟨vs, H2, I2, r, hi, q2⟩ => ?_) he hpl
  obtain ⟨ox, od, J, hd⟩ := StX.insC_at (C := C) I2 (.inr hi)
  refine ⟨⟨C, ox, od, J, hd⟩, wpAny_call (PySem.W.kco_code I2.kIn J hd c.at_ c.fn c.fi (codeAny_mono (F X.A X.stack s2 H2 (.ref a :: us) (.ref a :: vs) Q (E σ) hr I2.env0 (.cons rfl r) q2) fun r s' hq => ?_))⟩
  cases r with
  | error e => exact hx σ pins _ s2 e s' I2 hq
  | ok fl =>
    cases fl with
    | ret u => exact I2.after hq
    | next => exact False.elim hq
    | brk => exact False.elim hq
    | cont => exact False.elim hq
def callOB (K : PySem.W.Frag) (C : Addr) : Bool := eqO (PySem.W.findIn K (.ref C) "__call__") (some (some (.ref (ma K C "__call__")))) && (PySem.W.isFn K (.ref (ma K C "__call__")) && PySem.W.fnIn K (ma K C "__call__"))
theorem callOB_ok {K : PySem.W.Frag} {C : Addr} (h : callOB K C = true) : StX.CallO K C (ma K C "__call__") := by
  obtain ⟨h1, h⟩ := ba h
  obtain ⟨h2, h3⟩ := ba h
  exact ⟨eqO_ok h1, h2, h3⟩
theorem dunB_ok {K : PySem.W.Frag} {C : Addr} {m : Str} (h : dunB K C m = true) : PySem.W.findIn K (.ref C) m = some (some (.ref (ma K C m))) ∧ PySem.W.isFn K (.ref (ma K C m)) = true := by
  obtain ⟨h1, h2⟩ := ba h
  exact ⟨eqO_ok h1, h2⟩
def nsStrB (K : PySem.W.Frag) (d : Addr) (z y : Str) : Bool := match PySem.W.nsIn K d z with
  | some (some (.str x _)) => decide (x = y)
  | _ => false
theorem nsStrB_ok {K : PySem.W.Frag} {d : Addr} {z y : Str} (h : nsStrB K d z y = true) : ∃ u, PySem.W.nsIn K d z = some (some u) ∧ RelV (.str y) u := by
  unfold nsStrB at h
  split at h
  · rename_i x t q
    cases of_decide_eq_true h
    exact ⟨_, q, t, rfl⟩
  · cases h
theorem kdct {K : PySem.W.Frag} {w : World} {a : Addr} {z y : Str} (D : ∃ es n, KDict K w a es n) (h : ∃ u, PySem.W.nsIn K a z = some (some u) ∧ RelV (.str y) u) : KDct K w a z (.str y) := by
  obtain ⟨es, n, D⟩ := D
  obtain ⟨u, h1, h2⟩ := h
  exact ⟨es, n, u, D.at_, D.lit, h1, h2⟩
def obsYG (n : Nat) (fa : List Fa) (fn : List DefE) (xn : List DefX) (ts : List Tab) (ex : PySem.W.Frag → Bool) (g : Addr → Option Obj) : AlY := obsY fa fn xn ts ex (frG g (He5.asA g n))
def hookY (n : Nat) (fa : List Fa) (fn : List DefE) (xn : List DefX) (ts : List Tab) (ex : PySem.W.Frag → Bool) : PySem.W.Hook where
  α := AlY
  obs := fun s => obsYG n fa fn xn ts ex s.heap.get?
  val := fun w => valY fn xn ts w
  says := fun w h => ∃ K : PySem.W.Frag, K.In h ∧ SaysY fa fn xn ts ex w K
  of := fun _ _ e => ⟨_, frG_in, e⟩
  keeps := fun _ _ _ ⟨K, hK, c⟩ k => ⟨K, PySem.W.Frag.In.keeps hK k, c⟩
theorem obsYG_eq {n : Nat} {fa : List Fa} {fn : List DefE} {xn : List DefX} {ts : List Tab} {ex : PySem.W.Frag → Bool} {g : Addr → Option Obj} {s : Shared} (h : ∀ a, g a = s.heap.get? a) : obsYG n fa fn xn ts ex g = (hookY n fa fn xn ts ex).obs s := by
  have e : g = s.heap.get? := funext h
  rw [e] <;> rfl
section
variable {fa : List Fa} {fn : List DefE} {xn : List DefX} {ts : List Tab} {ex : PySem.W.Frag → Bool} {w : World} {K : PySem.W.Frag}
theorem SaysY.x (c : SaysY fa fn xn ts ex w K) : SaysX fa fn xn ex K := congrArg (fun z : AlY => z.1) c
theorem SaysY.tab (c : SaysY fa fn xn ts ex w K) (i : Nat) {t : Tab} (h : ts[i]? = some t := by rfl) : ∃ es n, KDict K w (t.1 K) es n := by
  have e2 : (ts.map fun t => dicW K (t.1 K))[i]? = (ts.map fun t => some (keysIn w.params t.2))[i]? := congrArg (fun z : AlY => z.2[i]?) c
  rw [List.getElem?_map, List.getElem?_map, h] at e2
  exact dicW_ok (Option.some.inj e2)
end
theorem PI.or_ {X : Cx} {tg e : Expr} {w1 w2 : TI} (h1 : PI X tg e w1) (h2 : PI X tg e w2) : PI X tg e (fun σ H R => w1 σ H R ∨ w2 σ H R) :=
  ⟨fun pins s σ H R I h => h.elim (fun z => h1.run pins s σ H R I z) (fun z => h2.run pins s σ H R I z)⟩
theorem PE.or_ {X : Cx} {e : Expr} {t1 t2 : TE} (h1 : PE X e t1) (h2 : PE X e t2) : PE X e (fun σ H Q => t1 σ H Q ∨ t2 σ H Q) :=
  ⟨fun pins s σ H Q I h => h.elim (fun z => h1.run pins s σ H Q I z) (fun z => h2.run pins s σ H Q I z)⟩
theorem SqL.new {K : PySem.W.Frag} {H H' : Hp} {S : List Addr} {a : Addr} {xs : List V} (h : SqL K H a xs) (m : Md S H H') (n : ∀ b ∈ S, H b = none) : SqL K H' a xs := by
  rcases h with (h | ⟨o, h⟩) | h
  · exact .inl (.inl (m.out _ _ h fun z => by rw [n a z] at h; cases h))
  · exact .inl (.inr ⟨o, m.out _ _ h fun z => by rw [n a z] at h; cases h⟩)
  · exact .inr h
theorem kit_any2 (K : PySem.W.Frag) (A B : Kd) (d : PyData) : PySem.W.kitAny K (.type (tyn d)) [.type (kdN A), .type (kdN B)] = some (isTy A d || isTy B d) := by
  unfold PySem.W.kitAny
  rw [kit_d K A d]
  cases isTy A d with
  | true => rfl
  | false =>
    show PySem.W.kitAny K (.type (tyn d)) [.type (kdN B)] = _
    unfold PySem.W.kitAny
    rw [kit_d K B d]
    cases isTy B d with
    | true => rfl
    | false => rfl
theorem u65 {k : Nat} {A : Around} (r : Room k A) : A.units + 65 < cLine := by have := r.un; omega
/-- x is True, x is False: x a truth value or None -/
def rIsBN : R2 := fun x y H Q => ∃ b : Bool, y = .bl b ∧ ((x = .non ∧ Q (.bl false) H) ∨ ∃ a : Bool, x = .bl a ∧ Q (.bl (decide (a = b))) H)
theorem op_isBN {X : Cx} : OpR X (compareOp .Is) rIsBN := by
  intro pins s σ H x y v u Q I rx ry h
  obtain ⟨b, rfl, ⟨rfl, q⟩ | ⟨a, rfl, q⟩⟩ := h
  · cases (show v = Value.none from rx)
    cases (show u = Value.bool b from ry)
    exact wpAny_is_other rfl (fun z => nomatch z) ⟨.bl false, H, I, rfl, q⟩
  · exact op_is_bl pins s σ H _ _ v u Q I rx ry ⟨a, b, rfl, rfl, q⟩
end EL
namespace EL
open PySem PySem.Spec PyProof.Rows L2 He TL
def rIsA (K : PySem.W.Frag) (D : Addr) (cls : Value) (d : Option Addr) (a : Addr) : List V → Hp → VK → Prop := fun xs H Q => cls = .ref D ∧ (d = none ∨ ∃ dd fs, d = some dd ∧ H dd = some (.xd fs)) ∧ rIsE K D a xs H Q
theorem call_isA {X : Cx} {a D : Addr} {oe : Obj} {pn : List (Addr × Obj)} {cls : Value} {d : Option Addr} (C : ExcC X.K D) (hz : Zc cls d oe) (hf : ∃ vs, oe.data = .fields vs) : CallR (X.suite a ((a, oe) :: pn)) (.builtin "isinstance") (rIsA X.K D cls d a) := by
  intro pins s σ H xs us Q I r h
  obtain ⟨rfl, hd, c, cv, b, rfl, hcv, e, q⟩ := h
  cases r with
  | cons rx rr =>
    cases rr with
    | cons rt rr =>
      cases rr
      cases rx
      cases hcv _ rt
      obtain ⟨hget, _⟩ := I.pin (a, oe) (List.mem_append.mpr (.inl List.mem_cons_self))
      obtain ⟨vs, hv⟩ := hf
      have hcl : (PySem.W.clsIn X.K D).isSome = true := by
        obtain ⟨cd, hc, _⟩ := PySem.W.any_some C.hd
        rw [hc]
        rfl
      have J : ∃ od, PySem.W.InstAt s.heap a oe D od := by
        rcases hd with rfl | ⟨dd, fs, rfl, hx⟩
        · refine ⟨none, hget, hz.1, by unfold PySem.W.notCls; rw [hv] <;> rfl, ?_⟩
          rw [hz.2]
          trivial
        · have hx' : ObjOk X.prog X.w H s.heap dd (.xd fs) := I.hok dd _ hx
          obtain ⟨mA, ⟨o, es, ep, ho, _⟩, _⟩ := hx'
          refine ⟨some o, hget, hz.1, by unfold PySem.W.notCls; rw [hv] <;> rfl, ?_⟩
          rw [hz.2]
          exact ho
      obtain ⟨od, J⟩ := J
      exact PySem.W.kia_one (PySem.W.kitx_exc hcl C.hg C.hk C.hs C.ha C.hn C.ht C.hm) I.kIn J e (fun z => nomatch z) fun tk => ⟨.bl b, H, I.kept (t' := tk) fun _ _ z => z, rfl, q⟩
theorem ip_own {X : Cx} {CX : CXT} {k : Nat} {C g : Addr} {sp : Sp} {E : XK} {op : Operator} (hc : PySem.W.selfFirst X.K C = true) (hs : PySem.W.findIn X.K (.ref C) (PySem.dunderI op.info.2) = some (some (.ref g))) (hf : PySem.W.isFn X.K (.ref g) = true) (F : FnR X.prog X.w X.K X.mg X.base CX k g sp)
    (hr : Room k X.A) (hx : Passes CX X E) : PIp X op (fun x y H Q => ∃ a dx fs, x = .ref a ∧ H a = some (.ins C dx fs) ∧ sp [x, y] H Q E) := by
  intro pins s σ H x y v u Q I rx ry h
  obtain ⟨a, dx, fs, rfl, ha, q⟩ := h
  cases (show v = Value.ref a from rx)
  obtain ⟨ox, od, J, _⟩ := ins_at I ha
  obtain ⟨m, hF⟩ := I.fr
  refine PySem.W.ksp_inplace hF I.ok.mod.kin J hc hs hf ?_
  refine wpAny_mono (wpAny_call (run_fnR (us := [.ref a, u]) (vs := [.ref a, y]) F hr hx I (.cons rfl (.cons ry .nil)) q)) (fun w s' z => ?_) fun _ _ x => x
  obtain ⟨z', H', I', rz, qz⟩ := z
  exact SlX.cmpback rz ⟨z', H', I', rz, qz⟩
def eqDI (ks ls : List (Key × Int)) : Bool := ks.all fun p => decide (valV (ls.map fun q => (q.1, V.int q.2)) p.1 = some (.int p.2))
abbrev dI (ks : List (Key × Int)) : List (Key × V) := ks.map fun q => (q.1, V.int q.2)
theorem hits_int {A : Around} {s : Shared} {ls : List (Key × Int)} {vb : List (Key × Value)} (rb : KV (dI ls) vb) : ∀ {ks : List (Key × Int)} {va : List (Key × Value)}, KV (dI ks) va → PySem.W.KeqHits A s vb va (eqDI ks ls)
  | [], _, r => by
    cases r
    exact .nil
  | (k, i) :: ks, _, r => by
    cases r with
    | @cons _ q _ qs h t =>
      obtain ⟨k', v'⟩ := q
      obtain ⟨h1, h2⟩ := h
      have h1 : k = k' := h1
      subst h1
      obtain ⟨ti, rfl⟩ := (show ∃ t, v' = Value.int i t from h2)
      have ih := hits_int (A := A) (s := s) rb t
      have rk := rb.val k
      have e : eqDI ((k, i) :: ks) ls = (decide (valV (dI ls) k = some (.int i)) && eqDI ks ls) := rfl
      rw [e]
      cases hv : valV (dI ls) k with
      | none =>
        rw [hv] at rk
        cases hb : valueAt vb k with
        | none => rw [decide_eq_false (by intro z; cases z), Bool.false_and]; exact .miss hb
        | some y => rw [hb] at rk; cases rk
      | some y =>
        rw [hv] at rk
        obtain ⟨j, rfl⟩ : ∃ j, y = .int j := by
          have : ∀ (l : List (Key × Int)) y, valV (dI l) k = some y → ∃ j, y = .int j := by
            intro l
            induction l with
            | nil => intro y h; cases h
            | cons p r ih =>
              intro y h
              by_cases e : p.1 = k
              · have : valV (dI (p :: r)) k = some (.int p.2) := valV_pos e
                rw [this] at h
                cases h
                exact ⟨_, rfl⟩
              · have : valV (dI (p :: r)) k = valV (dI r) k := valV_neg e
                rw [this] at h
                exact ih y h
          exact this ls y hv
        cases hb : valueAt vb k with
        | none => rw [hb] at rk; cases rk
        | some y' =>
          rw [hb] at rk
          obtain ⟨tj, rfl⟩ := (show ∃ t, y' = Value.int j t from rk)
          have e2 : decide ((some (V.int j) : Option V) = some (V.int i)) = (i == j) := by
            by_cases h : i = j
            · subst h; simp
            · rw [decide_eq_false (by intro z; injection z with z; injection z with z; exact h z.symm), beq_eq_false_iff_ne.mpr h]
          rw [e2]
          exact .hit hb (SeqAt.EqAt.int_int _ _ _ _) ih
def rEqDI : R2 := fun x y H Q => ∃ a b ks ls, x = .ref a ∧ y = .ref b ∧ H a = some (.dK (dI ks)) ∧ H b = some (.dK (dI ls)) ∧ Q (.bl (decide (ks.length = ls.length) && eqDI ks ls)) H
theorem op_eqDI {X : Cx} (hu : X.A.units < cLine) : OpR X (compareOp .Eq) rEqDI := by
  intro pins s σ H x y v u Q I rx ry h
  obtain ⟨a, b, ks, ls, rfl, rfl, ea, eb, q⟩ := h
  cases (show v = Value.ref a from rx)
  cases (show u = Value.ref b from ry)
  obtain ⟨_, ya, va, ra, da⟩ := (show ObjOk X.prog X.w H s.heap a (.dK (dI ks)) from I.hok a _ ea)
  obtain ⟨_, yb, vb, rb, db⟩ := (show ObjOk X.prog X.w H s.heap b (.dK (dI ls)) from I.hok b _ eb)
  refine PySem.W.keq_eq (knd := mixKind X.prog X.w) (r := eqDI ks ls) ya yb da db hu (fun _ => hits_int rb ra) ?_
  have e : (va.length == vb.length) = decide (ks.length = ls.length) := by
    have h1 : va.length = ks.length := by rw [← ra.length, List.length_map]
    have h2 : vb.length = ls.length := by rw [← rb.length, List.length_map]
    rw [h1, h2]
    rfl
  rw [e]
  exact ⟨.bl _, H, I, rfl, q⟩
end EL
namespace EL
open PySem PySem.Spec PyProof.Rows L2 He TL
def Al (M : List Addr) (H : Hp) : Prop := ∀ a ∈ M, ∃ o, H a = some o
theorem Al.out {M : List Addr} {H : Hp} {a : Addr} (h : Al M H) (n : H a = none) : a ∉ M := fun z => by obtain ⟨o, e⟩ := h a z; rw [n] at e; cases e
theorem Al.same {M : List Addr} {H H' : Hp} (h : Al M H) (s : Same H H') : Al M H' := fun a ha => let ⟨o, e⟩ := h a ha; ⟨o, s _ _ e⟩
theorem Al.md {M S : List Addr} {H H' : Hp} (h : Al M H) (m : Md S H H') (k : Al S H') : Al M H' := fun a ha => by
  by_cases z : a ∈ S
  · exact k a z
  · obtain ⟨o, e⟩ := h a ha
    exact ⟨o, m.out _ _ e z⟩
theorem Al.sub {M M' : List Addr} {H : Hp} (h : Al M H) (k : ∀ b ∈ M', b ∈ M) : Al M' H := fun a ha => h a (k a ha)
theorem free_md {S : List Addr} {H H' : Hp} {a : Addr} (m : Md S H H') (k : Al S H') (n : H' a = none) : H a = none := by
  cases hh : H a with
  | none => rfl
  | some o =>
    by_cases z : a ∈ S
    · obtain ⟨o', e⟩ := k a z
      rw [n] at e; cases e
    · rw [m.out _ _ hh z] at n; cases n
theorem al1 {a : Addr} {H : Hp} {o : HO} (h : H a = some o) : Al [a] H := fun b hb => by cases List.mem_singleton.mp hb; exact ⟨o, h⟩
theorem al_cons {a : Addr} {S : List Addr} {H : Hp} {o : HO} (h : H a = some o) (k : Al S H) : Al (a :: S) H := fun b hb => (List.mem_cons.mp hb).elim (fun e => e ▸ ⟨o, h⟩) (k b)
theorem al_nil {H : Hp} : Al [] H := fun b hb => by cases hb
theorem not1 {a b : Addr} (h : a ≠ b) : a ∉ [b] := by simp [h]
theorem not2 {a b c : Addr} (h : a ≠ b) (h2 : a ≠ c) : a ∉ [b, c] := by simp [h, h2]
theorem Src.md {H H' : Hp} {p l : Addr} {S : List Addr} (h : Src H p l) (m : Md S H H') (h1 : p ∉ S) (h2 : l ∉ S) : Src H' p l := by
  obtain ⟨ns, i, c, r, k1, k2, h3⟩ := h
  exact ⟨ns, i, c, r, m.out _ _ k1 h1, m.out _ _ k2 h2, h3⟩
mutual
inductive DpX (K : PySem.W.Frag) (S : List Addr) (H : Hp) : V → PyData → Prop
  | non : DpX K S H .non .none
  | bl (b : Bool) : DpX K S H (.bl b) (.bool b)
  | int (i : Int) : DpX K S H (.int i) (.int i)
  | str (x : Str) : DpX K S H (.str x) (.str x)
  | lst {a : Addr} {xs : List V} {ds : List PyData} : H a = some (.lst xs) → a ∉ S → DpXs K S H xs ds → DpX K S H (.ref a) (.list ds)
  | tup {a : Addr} {xs : List V} {ds : List PyData} : SqT K H a xs → DpXs K S H xs ds → DpX K S H (.ref a) (.tuple ds)
inductive DpXs (K : PySem.W.Frag) (S : List Addr) (H : Hp) : List V → List PyData → Prop
  | nil : DpXs K S H [] []
  | cons {v : V} {d : PyData} {vs : List V} {ds : List PyData} : DpX K S H v d → DpXs K S H vs ds → DpXs K S H (v :: vs) (d :: ds)
end
section
variable {K : PySem.W.Frag} {S S' : List Addr} {H H' : Hp}
mutual
theorem DpX.dp : ∀ {d : PyData} {v : V}, DpX K S H v d → Dp K H v d
  | _, _, .non => .non
  | _, _, .bl b => .bl b
  | _, _, .int i => .int i
  | _, _, .str x => .str x
  | _, _, .lst h _ a => .lst (SqL.of h) (DpXs.dp a)
  | _, _, .tup h a => .tup h (DpXs.dp a)
theorem DpXs.dp : ∀ {ds : List PyData} {vs : List V}, DpXs K S H vs ds → DpAll K H vs ds
  | _, _, .nil => .nil
  | _, _, .cons a b => .cons (DpX.dp a) (DpXs.dp b)
end
mutual
theorem DpX.md (m : Md S H H') : ∀ {d : PyData} {v : V}, DpX K S H v d → DpX K S H' v d
  | _, _, .non => .non
  | _, _, .bl b => .bl b
  | _, _, .int i => .int i
  | _, _, .str x => .str x
  | _, _, .lst h n a => .lst (m.out _ _ h n) n (DpXs.md m a)
  | _, _, .tup h a => .tup (m.sqT h) (DpXs.md m a)
theorem DpXs.md (m : Md S H H') : ∀ {ds : List PyData} {vs : List V}, DpXs K S H vs ds → DpXs K S H' vs ds
  | _, _, .nil => .nil
  | _, _, .cons a b => .cons (DpX.md m a) (DpXs.md m b)
end
theorem DpX.same {d : PyData} {v : V} (s : Same H H') (h : DpX K S H v d) : DpX K S H' v d := h.md (.of s)
theorem DpXs.same {ds : List PyData} {vs : List V} (s : Same H H') (h : DpXs K S H vs ds) : DpXs K S H' vs ds := h.md (.of s)
mutual
theorem DpX.re (hm : ∀ b, b ∉ S → (∃ o, H b = some o) → b ∉ S') : ∀ {d : PyData} {v : V}, DpX K S H v d → DpX K S' H v d
  | _, _, .non => .non
  | _, _, .bl b => .bl b
  | _, _, .int i => .int i
  | _, _, .str x => .str x
  | _, _, .lst h n a => .lst h (hm _ n ⟨_, h⟩) (DpXs.re hm a)
  | _, _, .tup h a => .tup h (DpXs.re hm a)
theorem DpXs.re (hm : ∀ b, b ∉ S → (∃ o, H b = some o) → b ∉ S') : ∀ {ds : List PyData} {vs : List V}, DpXs K S H vs ds → DpXs K S' H vs ds
  | _, _, .nil => .nil
  | _, _, .cons a b => .cons (DpX.re hm a) (DpXs.re hm b)
end
theorem DpX.sub {d : PyData} {v : V} (h : DpX K S H v d) (k : ∀ b ∈ S', b ∈ S) : DpX K S' H v d := h.re fun b n _ z => n (k b z)
/-- one more place, which was not there -/
theorem DpX.more {d : PyData} {v : V} {p : Addr} (h : DpX K S H v d) (n : H p = none) : DpX K (p :: S) H v d := h.re fun b nb ⟨o, e⟩ z => (List.mem_cons.mp z).elim (fun e2 => by rw [e2, n] at e; cases e) nb
mutual
theorem DpX.of : ∀ {d : PyData} {v : V}, noL d = true → Dp K H v d → DpX K S H v d
  | _, _, _, .non => .non
  | _, _, _, .bl b => .bl b
  | _, _, _, .int i => .int i
  | _, _, _, .str x => .str x
  | _, _, n, .lst h a => by cases n
  | _, _, n, .tup h a => .tup h (DpXs.of n a)
theorem DpXs.of : ∀ {ds : List PyData} {vs : List V}, noLs ds = true → DpAll K H vs ds → DpXs K S H vs ds
  | _, _, _, .nil => .nil
  | _, _, n, .cons a b => .cons (DpX.of (Bool.and_eq_true_iff.mp n).1 a) (DpXs.of (Bool.and_eq_true_iff.mp n).2 b)
end
theorem DpXs.length : ∀ {ds : List PyData} {vs : List V}, DpXs K S H vs ds → vs.length = ds.length
  | _, _, .nil => rfl
  | _, _, .cons _ b => congrArg Nat.succ (DpXs.length b)
theorem DpXs.get : ∀ {ds : List PyData} {vs : List V} {i : Nat} {v : V}, DpXs K S H vs ds → vs[i]? = some v → ∃ d, ds[i]? = some d ∧ DpX K S H v d
  | _, _, 0, _, .cons a b, e => by cases e; exact ⟨_, rfl, a⟩
  | _, _, i + 1, _, .cons a b, e => DpXs.get (i := i) b e
theorem DpXs.at {ds : List PyData} {vs : List V} {n : Int} (h : DpXs K S H vs ds) (h0 : 0 ≤ n) (h1 : n < (ds.length : Nat)) : ∃ v d, atI vs n = some v ∧ ds[n.toNat]? = some d ∧ d ∈ ds ∧ DpX K S H v d := by
  obtain ⟨k, rfl⟩ := Int.eq_ofNat_of_zero_le h0
  have hk : k < vs.length := by rw [h.length]; omega
  have e := List.getElem?_eq_getElem hk
  obtain ⟨d, e2, x⟩ := h.get e
  exact ⟨vs[k], d, atI_nat e, e2, List.mem_of_getElem? e2, x⟩
theorem DpXs.snoc {v : V} {d : PyData} (k : DpX K S H v d) : ∀ {ds : List PyData} {vs : List V}, DpXs K S H vs ds → DpXs K S H (vs ++ [v]) (ds ++ [d])
  | _, _, .nil => .cons k .nil
  | _, _, .cons a b => .cons a (DpXs.snoc k b)
theorem DpX.lst_inv {v : V} {ds : List PyData} (h : DpX K S H v (.list ds)) : ∃ a xs, v = .ref a ∧ H a = some (.lst xs) ∧ a ∉ S ∧ DpXs K S H xs ds := by
  cases h with
  | lst h n a => exact ⟨_, _, rfl, h, n, a⟩
theorem DpX.tup_inv {v : V} {ds : List PyData} (h : DpX K S H v (.tuple ds)) : ∃ a xs, v = .ref a ∧ SqT K H a xs ∧ DpXs K S H xs ds := by
  cases h with
  | tup h a => exact ⟨_, _, rfl, h, a⟩
end
section
variable {X : Cx}
theorem pe_imp {e : Expr} {t t' : TE} (h : PE X e t) (k : ∀ σ H Q, t' σ H Q → t σ H Q) : PE X e t' := ⟨fun pins s σ H Q I q => h.run pins s σ H Q I (k σ H Q q)⟩
theorem pa_imp {es : List Expr} {t t' : TA} (h : PA X es t) (k : ∀ σ H Q, t' σ H Q → t σ H Q) : PA X es t' := ⟨fun pos pins s σ H Q I q => h.run pos pins s σ H Q I (k σ H Q q)⟩
def tLit (K : PySem.W.Frag) (d : PyData) : TE := fun _ H Q => ∀ v H', Same H H' → (∀ S, Al S H → DpX K S H' v d) → Q v H'
def tLits (K : PySem.W.Frag) (ds : List PyData) : TA := fun _ H Q => ∀ vs H', Same H H' → (∀ S, Al S H → DpXs K S H' vs ds) → Q vs H'
theorem lit_n {j pos} : PE X (.Constant .none j pos) (tLit X.K .none) := pe_imp pe_non fun _ H Q h => h _ _ (.refl _) fun _ _ => .non
theorem lit_b {b j pos} : PE X (.Constant (.bool b) j pos) (tLit X.K (.bool b)) := pe_imp pe_bl fun _ H Q h => h _ _ (.refl _) fun _ _ => .bl b
theorem lit_i {i j pos} : PE X (.Constant (.int i) j pos) (tLit X.K (.int i)) := pe_imp pe_int fun _ H Q h => h _ _ (.refl _) fun _ _ => .int i
theorem lit_s {z j pos} : PE X (.Constant (.str z) j pos) (tLit X.K (.str z)) := pe_imp pe_str fun _ H Q h => h _ _ (.refl _) fun _ _ => .str z
/-- an expression that is an int -/
theorem lit_e {e : Expr} {t : TE} (i : Int) (h : PE X e t) (k : ∀ σ H (Q : VK), Q (.int i) H → t σ H Q) : PE X e (tLit X.K (.int i)) := pe_imp h fun σ H Q q => k σ H Q (q _ _ (.refl _) fun _ _ => .int i)
theorem lits_nil : PA X [] (tLits X.K []) := pa_imp pa_nil fun _ H Q h => h _ _ (.refl _) fun _ _ => .nil
theorem lits_cons {e : Expr} {es : List Expr} {d : PyData} {ds : List PyData} (h : PE X e (tLit X.K d)) (r : PA X es (tLits X.K ds)) (hs : starEach (e :: es) X.env = (false, eval e X.env) :: starEach es X.env := by rfl) : PA X (e :: es) (tLits X.K (d :: ds)) :=
  pa_imp (pa_cons h r hs) fun _ H Q q v H1 s1 h1 vs H2 s2 h2 => q _ _ (s1.trans s2) fun S al => .cons ((h1 S al).same s2) (h2 S (al.same s1))
theorem lit_t {es : List Expr} {ds : List PyData} {x1 pos} (h : PA X es (tLits X.K ds)) (hl : ds.length ≤ 1000 := by decide) : PE X (.Tuple es x1 pos) (tLit X.K (.tuple ds)) :=
  pe_imp (pe_tup h) fun _ H Q q vs H1 s1 h1 => by
    have l := (h1 [] al_nil).length
    refine ⟨Nat.le_trans (by rw [l]; exact hl) (by decide), fun p np => q _ _ (s1.trans (same_upd np)) fun S al => .tup (SqT.of upd_same) ((h1 S al).same (same_upd np))⟩
theorem lit_l {es : List Expr} {ds : List PyData} {pos} (h : PA X es (tLits X.K ds)) (hl : ds.length ≤ 1000 := by decide) : PE X (.List es pos) (tLit X.K (.list ds)) :=
  pe_imp (pe_lst h) fun _ H Q q vs H1 s1 h1 => by
    have l := (h1 [] al_nil).length
    refine ⟨Nat.le_trans (by rw [l]; exact hl) (by decide), fun p np => q _ _ (s1.trans (same_upd np)) fun S al => .lst upd_same ((al.same s1).out np) ((h1 S al).same (same_upd np))⟩
end
section
variable {X : Cx} {CX : CXT} {k n : Nat} {f : Addr} {fd : FuncData} {ps ks : List Str} {sp : Sp} {E : L2.St → XK} {x : Str} {p pos : Pos} {e : Expr} {es : List Expr} {kws : List Keyword} {t tk : TA} {g : List Value → List Value → List Value} {gV : List V → List V → List V}
def tCallNE (n m : Nat) (sp : Sp) (gV : List V → List V → List V) (E : L2.St → XK) (t tk : TA) : TE := fun σ H Q => t σ H fun vs H1 => tk σ H1 fun zs H2 => vs.length = n ∧ zs.length = m ∧ sp (gV vs zs) H2 Q (E σ)
theorem run_fnNE {pins : List (Addr × Obj)} {σ : L2.St} {H : Hp} {s : Shared} {Q : VK} {us ws : List Value} {vs zs : List V} (F : FnOk X.prog X.w X.K X.mg X.base CX k f fd ps sp) (hr : Room k X.A) (hb : KBn X.K fd ps n ks g gV) (hx : PassesAt CX X σ (E σ))
    (I : Inv X pins σ H s) (r : Vals vs us) (rz : Vals zs ws) (l1 : vs.length = n) (l2 : zs.length = ks.length) (h : sp (gV vs zs) H Q (E σ)) : wpAny (model X.prog X.w) X.A (call (.ref f) us (ks.zip ws)) (EP X pins σ Q) X.xe s := by
  have r2 := hb.rel r rz
  refine wpAny_call (codeAny_mono (F.run X.A X.stack s H ⟨us, ks.zip ws⟩ (g us ws) (gV vs zs) Q (E σ) hr I.env0 (hb.to s us ws I.kIn (r.length.symm.trans l1) (rz.length.symm.trans l2)) r2 h) fun r s' hq => ?_)
  cases r with
  | error e => exact hx pins H s e s' I hq
  | ok fl =>
    cases fl with
    | ret u => exact I.after hq
    | next => exact False.elim hq
    | brk => exact False.elim hq
    | cont => exact False.elim hq
theorem pe_callNE (F : FnOk X.prog X.w X.K X.mg X.base CX k f fd ps sp) (hr : Room k X.A) (hm : X.mg x = some (.ref f)) (hk : PySem.W.keepIn X.K (.ref f) = true) (hb : KBn X.K fd ps n ks g gV) (hx : ∀ σ, PassesAt CX X σ (E σ))
    (ha : PA X (e :: es) t) (hkw : PK X kws tk) (hg : Gl X x := by rfl) (hall : (backToKw pos (keywordEach kws X.env)).all (·.1.isSome) = true := by rfl) (hks : (backToKw pos (keywordEach kws X.env)).filterMap (·.1) = ks := by rfl)
    (hdb : (x == ("__debug__" : Str)) = false := by decide) (he : starEach (e :: es) X.env = (false, eval e X.env) :: starEach es X.env := by rfl)
    (hpl : ((backTo pos (starEach (e :: es) X.env)).any (·.1) || (backToKw pos (keywordEach kws X.env)).any (·.1.isNone)) = false := by rfl) :
    PE X (.Call (.Name x p) (e :: es) kws pos) (tCallNE n ks.length sp gV E t tk) := by
  refine ⟨fun pins s σ H Q I h => ?_⟩
  refine wpAny_Call_Name_kw (ld_glob I hg hm ?_ hdb)
  refine PySem.W.callWith_KW (h₀ := X.base) I.ok.mod.kin hk hall (thn (ha.run pos pins s σ H _ I h) fun us s1 ⟨vs, H1, I1, r, q⟩ => ?_) hpl he
  refine thn (hkw.run pos pins s1 σ H1 _ I1 q) fun ws s2 ⟨zs, H2, I2, rz, l1, l2, q2⟩ => ⟨I2.kIn, ?_⟩
  rw [hks]
  exact run_fnNE F hr hb (hx σ) I2 r rz l1 l2 q2
end
end EL
namespace EL
open PySem PySem.Spec PyProof.Rows L2 He TL
theorem one_entry : entryFor table "object.__ne__" = some Builtin.«object.__ne__» := entryFor_of_tree (by kernel_rfl)
theorem one_plain : plainId "object.__ne__" = true := by decide +kernel
theorem one_kind : builtinKind "object.__ne__" = some .slot := by decide +kernel
theorem one_split : splitId "object.__ne__" = some ("object", "__ne__") := by decide +kernel
theorem one_args (a b : Value) : argsOk "object.__ne__" ⟨[a, b], []⟩ := by unfold argsOk; kernel_rfl
theorem one_bind (self : Value) : bindSpecial (.builtin "object.__ne__") self = pure (.builtin "object.__ne__", [self]) :=
  (Slot.of (T := "object") (name := "__ne__") (owner := "object") (n := "__ne__") (by rw [typeLookup_type, builtinLookup_eq_fast]; kernel_rfl) (by decide +kernel) (by decide +kernel) (by decide +kernel)
    (.inl (by decide +kernel)) (by rw [isSubtype_type]; kernel_rfl)).bind self
section
variable {prog : Program} {w : World} {A : Around} {E : Value → Shared → Prop} {s : Shared} {K : PySem.W.Frag} {C g x : Addr} {ox : Obj} {od : Option Obj} {b tb : Value}
theorem ne_call {Q : Value → Shared → Prop} (hu : A.units + 1 < cLine) (X : K.In s.heap) (I : PySem.W.InstAt s.heap x ox C od) (ho : PySem.W.mroIn K C (.type "object") = some true) (he : PySem.W.findIn K (.ref C) "__eq__" = some (some (.ref g))) (hf : PySem.W.isFn K (.ref g) = true)
    (h : wpAny (model prog w) A.in1 (call (.ref g) [.ref x, b]) (fun v s' => ∃ k : Bool, v = .bool k ∧ Q (.bool (!k)) s') E s) : wpAny (model prog w) A (call (.builtin "object.__ne__") [.ref x, b]) Q E s := by
  have t2 : PySem.W.Looks (model prog w) s.heap (isInstance (.ref x) (.type "object")) true := I.type.andThen (PySem.W.looks_mroIn X ho)
  refine wpAny_call (codeAny_call_builtin one_plain one_entry (PySem.W.check_slot one_kind one_split t2 (one_args _ _) ?_))
  show wpAny (model prog w) A.in1 (do
    cRoomFor "comparison" [.ref x, b]
    match ← callSpecialIfBound? (.ref x) "__eq__" [b] with
    | some .notImplemented | none => ret .notImplemented
    | some r => ret (.bool (!(← truthy r)))) _ _ s
  refine wpAny_bind (wpAny_cRoomFor (show A.units + 1 < cLine from hu) (wpAny_bind (PySem.W.ifBound_K X I he hf (wpAny_mono h (fun v s' hv => ?_) fun _ _ e => e))))
  obtain ⟨k, rfl, q⟩ := hv
  exact wpAny_bind (wpAny_truthy_bool (wpAny_pure q))
theorem ne_own {Q : Value → Shared → Prop} (hu : A.units + 1 < cLine) (X : K.In s.heap) (I : PySem.W.InstAt s.heap x ox C od) (hb : PySem.W.Looks (model prog w) s.heap (typeOf b) tb) (hn : PySem.W.notFirst K C tb = true)
    (hs : PySem.W.findIn K (.ref C) "__ne__" = some (some (.builtin "object.__ne__"))) (ho : PySem.W.mroIn K C (.type "object") = some true) (he : PySem.W.findIn K (.ref C) "__eq__" = some (some (.ref g))) (hf : PySem.W.isFn K (.ref g) = true)
    (h : wpAny (model prog w) A.in1 (call (.ref g) [.ref x, b]) (fun v s' => ∃ k : Bool, v = .bool k ∧ Q (.bool (!k)) s') E s) : wpAny (model prog w) A (richCompare .NotEq (.ref x) b) Q E s := by
  have one : wpAny (model prog w) A (tryCompare (.ref x) (cmpInfo .NotEq).2.1 b) (fun r s' => ∃ v, r = some v ∧ Q v s') E s := by
    unfold tryCompare
    refine wpAny_bind ?_
    simp only [callSpecialIfBound?, bindSpecialIfBound?]
    refine wpAny_holding (wpAny_bind (wpAny_bind (wpAny_bind (I.type.here ((PySem.W.looks_findIn X hs).here ?_)))))
    refine wpAny_bind (wpAny_askSetting (wpAny_ite ?_))
    have fin : ∀ (Q' : Option Value → Shared → Prop), (∀ (k : Bool) s', Q (.bool (!k)) s' → Q' (some (.bool (!k))) s') → wpAny (model prog w) A (call (.builtin "object.__ne__") ([.ref x] ++ [b]) >>= fun v => pure (some v)) Q' E s := fun Q' hQ => wpAny_bind (wpAny_mono (ne_call (Q := fun v s' => ∃ k : Bool, v = .bool (!k) ∧ Q (.bool (!k)) s') hu X I ho he hf (wpAny_mono h (fun v s' ⟨k, e, q⟩ => ⟨k, e, k, rfl, q⟩) fun _ _ e => e)) (fun v s' ⟨k, e, q⟩ => by subst e; exact wpAny_pure (hQ k s' q)) fun _ _ e => e)
    split
    · exact wpAny_bind ((PySem.W.Looks.of_pure (one_bind _)).here (wpAny_pure (by exact fin _ fun k s' q => wpAny_pure ⟨_, rfl, q⟩)))
    · exact wpAny_tryCatch (wpAny_bind ((PySem.W.Looks.of_pure (one_bind _)).here (wpAny_pure (by exact fin _ fun k s' q => wpAny_pure ⟨_, rfl, q⟩))))
  unfold richCompare
  simp only [oneThing_ref]
  refine wpAny_holding (wpAny_bind (wpAny_cRoomFor (by omega) ?_))
  refine wpAny_bind (I.type.here (wpAny_bind (hb.here ?_)))
  split
  · rename_i q
    have e : PySem.W.subIn K tb (.ref C) = some false := by
      rcases Bool.or_eq_true_iff.mp hn with e | e
      · rw [beq_iff_eq.mp e] at q; simp at q
      · exact beq_iff_eq.mp e
    refine wpAny_bind ((PySem.W.looks_subIn X e).here ?_)
    simp only [Bool.false_eq_true, if_false]
    refine wpAny_bind (wpAny_mono one (fun r s' z => ?_) fun _ _ e => e)
    obtain ⟨v, rfl, hq⟩ := z
    exact wpAny_pure hq
  · refine wpAny_bind (wpAny_pure ?_)
    simp only [Bool.false_eq_true, if_false]
    refine wpAny_bind (wpAny_mono one (fun r s' z => ?_) fun _ _ e => e)
    obtain ⟨v, rfl, hq⟩ := z
    exact wpAny_pure hq
end
section
variable {X : Cx} {CX : CXT} {k : Nat} {C g : Addr} {sp : Sp} {E : XK}
def rNeO (K : PySem.W.Frag) (C : Addr) (sp : Sp) (E : XK) : R2 := fun x y H Q => ∃ a dx fs t, x = .ref a ∧ H a = some (.ins C dx fs) ∧ TyX K H y t ∧ PySem.W.notFirst K C t = true ∧ sp [x, y] H (fun z H' => ∃ b : Bool, z = .bl b ∧ Q (.bl (!b)) H') E
theorem op_neO (c : OC X.K C) (hn : PySem.W.findIn X.K (.ref C) "__ne__" = some (some (.builtin "object.__ne__"))) (hs : PySem.W.findIn X.K (.ref C) "__eq__" = some (some (.ref g))) (hf : PySem.W.isFn X.K (.ref g) = true) (F : FnR X.prog X.w X.K X.mg X.base CX k g sp)
    (hr : Room (k + 1) X.A) (hx : Passes CX X E) : OpR X (compareOp .NotEq) (rNeO X.K C sp E) := by
  intro pins s σ H x y v u Q I rx ry h
  obtain ⟨a, dx, fs, t, rfl, ha, ty, hnf, q⟩ := h
  cases (show v = Value.ref a from rx)
  obtain ⟨ox, od, J, _⟩ := ins_at I ha
  obtain ⟨P, Z, p, _⟩ := kit_of I ry ty
  show wpAny _ X.A (richCompare .NotEq (.ref a) u) _ _ s
  refine ne_own (tb := t) (by have := hr.units; omega) I.kIn J (Z.ty _ _ I.kIn p) hnf hn c.ob hs hf ?_
  refine wpAny_mono (wpAny_call (SlX.run_at (us := [.ref a, u]) (ws := [.ref a, y]) F (Room.in1 hr) I.env0.in1 hx I (.cons rfl (.cons ry .nil)) q)) (fun w s' z => ?_) fun _ _ x => x
  obtain ⟨z', H', I', rz, b, eb, qz⟩ := z
  subst eb
  cases (show w = Value.bool b from rz)
  exact ⟨b, rfl, .bl (!b), H', I', rfl, qz⟩
end
end EL
namespace EL
open PySem PySem.Spec PyProof.Rows L2 He TL
end EL
namespace EL
open PySem PySem.Spec PyProof.Rows L2 He TL
open AutoSeq1 (wpAny_loadPart')
open MeetsSeq MeetsSeq2 MeetsSeq3 SeqRoads2
def EqG (prog : Program) (w : World) (A : Around) (G : Shared → Prop) (E : Value → Shared → Prop) (y x : Value) (b : Bool) : Prop := ∀ (s : Shared) (Q : Bool → Shared → Prop), G s → (∀ s', G s' → Q b s') → wpAny (model prog w) A (eqBool y x) Q E s
theorem contains_loopG {prog : Program} {w : World} (G : Shared → Prop) (l : Addr) (items : List Value) (x : Value) (e : Nat → Bool) (k : Nat) :
    ∀ i : Nat, items.length - i = k → MeetsIn prog w (Builtin.«list.__contains__.loop» ⟨[.ref l, x, rawInt i], []⟩)
      (fun A R s => G s ∧ (∀ s, G s → ∃ n, s.heap.get? l = some { cls := .type "list", data := .seq items.toArray n }) ∧ (∀ j y, items[j]? = some y → EqG prog w A.in1 G (fun e s' => R (.error e) s') y x (e j)) ∧ ∀ s', G s' → R (.ok (.ret (.bool (((List.range items.length).drop i).any e)))) s') := by
  induction k with
  | zero =>
    intro i hk A R s h
    obtain ⟨g, hl, he, h⟩ := h
    obtain ⟨n, hl⟩ := hl s g
    have h := h s g
    obtain ⟨hp, gg, d, tk, os⟩ := s
    wp_walk using wpAny_loadPart' hl
    have hi : items.toArray[((i : Nat) : Int).toNat]? = none := by simp; omega
    have hd : (List.range items.length).drop i = [] := by simp; omega
    rw [hd] at h
    rw [hi]
    wp_walk
    exact h
  | succ k ih =>
    intro i hk A R s h
    obtain ⟨g, hl, he, h⟩ := h
    obtain ⟨n, hl0⟩ := hl s g
    have g0 := g
    obtain ⟨hp, gg, d, tk, os⟩ := s
    wp_walk using wpAny_loadPart' hl0
    have hlt : i < items.length := by omega
    have hi : items.toArray[((i : Nat) : Int).toNat]? = some items[i] := by simp [hlt]
    have hd : (List.range items.length).drop i = i :: (List.range items.length).drop (i + 1) := by simp [List.drop_eq_getElem_cons, hlt]
    rw [hd] at h
    simp only [List.any_cons] at h
    rw [hi]
    refine wpAny_bind (he i _ (List.getElem?_eq_getElem hlt) _ _ g0 fun s1 g1 => ?_)
    cases hb : e i with
    | true =>
      have h := h s1 g1
      rw [hb] at h
      obtain ⟨hp, gg, d, tk, os⟩ := s1
      wp_walk
      exact h
    | false =>
      simp only [hb, Bool.false_or] at h
      have hc : ((i : Int) + 1) = ((i + 1 : Nat) : Int) := by push_cast; rfl
      obtain ⟨hp, gg, d, tk, os⟩ := s1
      wp_walk
      rw [hc]
      exact ⟨plainId_quiet plain_contains_loop _, codeAny_builtin entry_contains_loop (by
        rw [Around.under_plainId plain_contains_loop _]
        exact ih (i + 1) (by omega) A R _ ⟨g1, hl, he, h⟩)⟩
theorem containsG {prog : Program} {w : World} (G : Shared → Prop) (l : Addr) (items : List Value) (x : Value) (e : Nat → Bool) : MeetsIn prog w (Builtin.«list.__contains__» ⟨[.ref l, x], []⟩)
      (fun A R s => G s ∧ (∀ s, G s → ∃ n, s.heap.get? l = some { cls := .type "list", data := .seq items.toArray n }) ∧ (∀ j y, items[j]? = some y → EqG prog w A.in1 G (fun e s' => R (.error e) s') y x (e j)) ∧ ∀ s', G s' → R (.ok (.ret (.bool ((List.range items.length).any e)))) s') := by
  intro A R s h
  obtain ⟨g, hl, he, h⟩ := h
  obtain ⟨hp, gg, d, tk, os⟩ := s
  wp_walk
  exact ⟨plainId_quiet plain_contains_loop _, codeAny_builtin entry_contains_loop (by
    rw [Around.under_plainId plain_contains_loop _]
    exact contains_loopG G l items x e _ 0 rfl A R _ ⟨g, hl, he, h⟩)⟩
theorem eq_loopG {prog : Program} {w : World} (G : Shared → Prop) (l b : Addr) (items items2 : List Value) (hsz : items.length = items2.length) (e : Nat → Bool) (k : Nat) :
    ∀ i : Nat, items.length - i = k → MeetsIn prog w (Builtin.«list.__eq__.loop» ⟨[.ref l, .ref b, rawInt i, rawInt 2], []⟩)
      (fun A R s => G s ∧ (∀ s, G s → ∃ n, s.heap.get? l = some { cls := .type "list", data := .seq items.toArray n }) ∧ (∀ s, G s → ∃ n, s.heap.get? b = some { cls := .type "list", data := .seq items2.toArray n }) ∧
        (∀ j x y, items[j]? = some x → items2[j]? = some y → EqG prog w A.in1 G (fun e s' => R (.error e) s') x y (e j)) ∧ ∀ s', G s' → R (.ok (.ret (.bool (((List.range items.length).drop i).all e)))) s') := by
  induction k with
  | zero =>
    intro i hk A R s h
    obtain ⟨g, hl, hb, he, h⟩ := h
    obtain ⟨n, hl⟩ := hl s g
    obtain ⟨n2, hb⟩ := hb s g
    have h := h s g
    obtain ⟨hp, gg, d, tk, os⟩ := s
    wp_walk using wpAny_loadPart' hl, wpAny_loadPart' hb
    have hi1 : items.toArray[((i : Nat) : Int).toNat]? = none := by simp; omega
    have hi2 : items2.toArray[((i : Nat) : Int).toNat]? = none := by simp; omega
    have hd : (List.range items.length).drop i = [] := by simp; omega
    rw [hd] at h
    rw [hi1, hi2]
    wp_walk using wpAny_loadPart' hl, wpAny_loadPart' hb
    show R (.ok (.ret (.bool (items.toArray.size == items2.toArray.size)))) _
    simpa [hsz] using h
  | succ k ih =>
    intro i hk A R s h
    obtain ⟨g, hl, hb, he, h⟩ := h
    obtain ⟨n, hl0⟩ := hl s g
    obtain ⟨n2, hb0⟩ := hb s g
    have g0 := g
    obtain ⟨hp, gg, d, tk, os⟩ := s
    wp_walk using wpAny_loadPart' hl0, wpAny_loadPart' hb0
    have hlt : i < items.length := by omega
    have hlt2 : i < items2.length := by omega
    have hi1 : items.toArray[((i : Nat) : Int).toNat]? = some items[i] := by simp [hlt]
    have hi2 : items2.toArray[((i : Nat) : Int).toNat]? = some items2[i] := by simp [hlt2]
    have hd : (List.range items.length).drop i = i :: (List.range items.length).drop (i + 1) := by simp [List.drop_eq_getElem_cons, hlt]
    have hc : ((i : Int) + 1) = ((i + 1 : Nat) : Int) := by push_cast; rfl
    rw [hd] at h
    simp only [List.all_cons] at h
    rw [hi1, hi2]
    refine wpAny_bind (he i _ _ (List.getElem?_eq_getElem hlt) (List.getElem?_eq_getElem hlt2) _ _ g0 fun s1 g1 => ?_)
    cases hb' : e i with
    | true =>
      simp only [hb', Bool.true_and] at h
      obtain ⟨hp, gg, d, tk, os⟩ := s1
      wp_walk
      rw [hc]
      exact ⟨plainId_quiet plain_eq_loop _, codeAny_builtin entry_eq_loop (by
        rw [Around.under_plainId plain_eq_loop _]
        exact ih (i + 1) (by omega) A R _ ⟨g1, hl, hb, he, h⟩)⟩
    | false =>
      have h := h s1 g1
      rw [hb'] at h
      obtain ⟨n3, hl1⟩ := hl s1 g1
      obtain ⟨n4, hb1⟩ := hb s1 g1
      obtain ⟨hp, gg, d, tk, os⟩ := s1
      wp_walk using wpAny_loadPart' hl1, wpAny_loadPart' hb1
      rw [hi1, hi2]
      wp_walk
      simpa using h
theorem eqG {prog : Program} {w : World} (G : Shared → Prop) (l b : Addr) (items items2 : List Value) (e : Nat → Bool) : MeetsIn prog w (Builtin.«list.__eq__» ⟨[.ref l, .ref b], []⟩)
      (fun A R s => G s ∧ (∀ s, G s → ∃ n, s.heap.get? l = some { cls := .type "list", data := .seq items.toArray n }) ∧ (∀ s, G s → ∃ n, s.heap.get? b = some { cls := .type "list", data := .seq items2.toArray n }) ∧
        (∀ j x y, items[j]? = some x → items2[j]? = some y → EqG prog w A.in1 G (fun e s' => R (.error e) s') x y (e j)) ∧ ∀ s', G s' → R (.ok (.ret (.bool (decide (items.length = items2.length) && (List.range items.length).all e)))) s') := by
  intro A R s h
  obtain ⟨g, hl, hb, he, h⟩ := h
  obtain ⟨n, hl0⟩ := hl s g
  obtain ⟨n2, hb0⟩ := hb s g
  have g0 := g
  have f3 := AutoSeq1.sub_list_list
  by_cases hsz : items.length = items2.length
  · simp only [decide_eq_true hsz, Bool.true_and] at h
    obtain ⟨hp, gg, d, tk, os⟩ := s
    have hne : ¬ (items.toArray.size != items2.toArray.size) = true := by simp [hsz]
    wp_walk using wpAny_loadPart' hl0, wpAny_loadPart' hb0
    exact ⟨plainId_quiet plain_eq_loop _, codeAny_builtin entry_eq_loop (by
      rw [Around.under_plainId plain_eq_loop _]
      exact eq_loopG G l b items items2 hsz e _ 0 rfl A R _ ⟨g0, hl, hb, he, h⟩)⟩
  · have h := h s g
    rw [decide_eq_false hsz, Bool.false_and] at h
    obtain ⟨hp, gg, d, tk, os⟩ := s
    have hc0 : (items.toArray.size != items2.toArray.size) = true := by simp [hsz]
    wp_walk using wpAny_loadPart' hl0, wpAny_loadPart' hb0
    exact h
end EL
namespace EL
open PySem PySem.Spec PyProof.Rows L2 He TL
theorem range_any {α : Type} {f : α → Bool} {e : Nat → Bool} : ∀ {l : List α}, (∀ i a, l[i]? = some a → e i = f a) → (List.range l.length).any e = l.any f := by
  intro l
  induction l generalizing e with
  | nil => intro _; rfl
  | cons x r ih =>
    intro h
    rw [List.length_cons, List.range_succ_eq_map, List.any_cons, List.any_map, List.any_cons, h 0 x rfl, ih (e := e ∘ Nat.succ) fun i a ha => h (i + 1) a ha]
theorem range_all {α : Type} {f : α → Bool} {e : Nat → Bool} : ∀ {l : List α}, (∀ i a, l[i]? = some a → e i = f a) → (List.range l.length).all e = l.all f := by
  intro l
  induction l generalizing e with
  | nil => intro _; rfl
  | cons x r ih =>
    intro h
    rw [List.length_cons, List.range_succ_eq_map, List.all_cons, List.all_map, List.all_cons, h 0 x rfl, ih (e := e ∘ Nat.succ) fun i a ha => h (i + 1) a ha]
theorem vals_refs : ∀ {ss : List Addr} {us : List Value}, Vals (ss.map V.ref) us → us = ss.map Value.ref
  | [], _, .nil => rfl
  | a :: r, _, .cons h t => by
    cases (show _ = Value.ref a from h)
    rw [vals_refs t]
    rfl
section
variable {X : Cx} {CX : CXT} {k : Nat} {C g : Addr} {sp : Sp} {E : XK}
def OwnEq1 (K : PySem.W.Frag) (C : Addr) (sp : Sp) (E : XK) (H : Hp) (a b : Addr) (e : Bool) : Prop := (a = b → e = true) ∧ ∃ dx fs t, H a = some (.ins C dx fs) ∧ TyX K H (.ref b) t ∧ PySem.W.notFirst K C t = true ∧ sp [.ref a, .ref b] H (fun z H' => z = .bl e ∧ H = H') E
theorem eqG_own (hs : PySem.W.findIn X.K (.ref C) "__eq__" = some (some (.ref g))) (hf : PySem.W.isFn X.K (.ref g) = true) (F : FnR X.prog X.w X.K X.mg X.base CX k g sp) (hr : Room (k + 1) X.A) (hx : Passes CX X E) {pins : List (Addr × Obj)} {σ : L2.St} {H : Hp} {a b : Addr} {e : Bool}
    (h : OwnEq1 X.K C sp E H a b e) : EqG X.prog X.w X.A.in1 (Inv X pins σ H) X.xe (.ref a) (.ref b) e := by
  intro s Q I q
  obtain ⟨h1, dx, fs, t, ha, ty, hn, hsp⟩ := h
  unfold eqBool
  refine wpAny_holding ?_
  refine wpAny_ite_split (fun hab => ?_) (fun _ => ?_)
  · have := eq_of_beq hab
    injection this with this
    rw [h1 this] at q
    exact wpAny_bind (wpAny_rule (wpAny_pure (q s I)))
  · obtain ⟨ox, od, J, _⟩ := ins_at I ha
    obtain ⟨P, Z, p, _⟩ := kit_of I (show RelV (.ref b) (.ref b) from rfl) ty
    obtain ⟨m, hF⟩ := I.fr
    refine wpAny_bind (PySem.W.cmp_K (op := .Eq) (tb := t) (by show X.A.units + 1 < cLine; have := hr.units; omega) hF I.ok.mod.kin J (Z.ty _ _ I.kIn p) hn hs hf ?_)
    refine wpAny_mono (wpAny_call (SlX.run_at (us := [.ref a, .ref b]) (ws := [.ref a, .ref b]) F (Room.in1 hr) I.env0.in1 hx I (.cons rfl (.cons rfl .nil)) hsp)) (fun w s' z => ?_) fun _ _ x => x
    obtain ⟨z', H', I', rz, ez, eH⟩ := z
    subst ez eH
    cases (show w = Value.bool e from rz)
    exact wpAny_truthy_bool (q s' I')
theorem lst_obj {pins : List (Addr × Obj)} {σ : L2.St} {H : Hp} {p : Addr} {ss : List Addr} (h : H p = some (.lst (ss.map V.ref))) : ∀ s, Inv X pins σ H s → ∃ n, s.heap.get? p = some { cls := .type "list", data := .seq (ss.map Value.ref).toArray n } := fun s I => by
  obtain ⟨_, its, n, r, e⟩ := (show ObjOk X.prog X.w H s.heap p (.lst (ss.map V.ref)) from I.hok p _ h)
  rw [vals_refs r] at e
  exact ⟨n, e⟩
def rInOwn (K : PySem.W.Frag) (C : Addr) (sp : Sp) (E : XK) (neg : Bool) : R2 := fun x y H Q => ∃ (p b : Addr) (ss : List Addr) (e : Addr → Bool), x = .ref b ∧ y = .ref p ∧ H p = some (.lst (ss.map V.ref)) ∧ (∀ a ∈ ss, OwnEq1 K C sp E H a b (e a)) ∧ Q (.bl (if neg then !ss.any e else ss.any e)) H
theorem inOwn_core (hs : PySem.W.findIn X.K (.ref C) "__eq__" = some (some (.ref g))) (hf : PySem.W.isFn X.K (.ref g) = true) (F : FnR X.prog X.w X.K X.mg X.base CX k g sp) (hr : Room (k + 1) X.A) (hx : Passes CX X E) {pins : List (Addr × Obj)} {σ : L2.St} {H : Hp} {s : Shared} {p b : Addr} {ss : List Addr} {e : Addr → Bool} {Q : Value → Shared → Prop}
    (I : Inv X pins σ H s) (hp : H p = some (.lst (ss.map V.ref))) (he : ∀ a ∈ ss, OwnEq1 X.K C sp E H a b (e a)) (q : ∀ s', Inv X pins σ H s' → Q (.bool (ss.any e)) s') : wpAny (model X.prog X.w) X.A (call (.builtin "list.__contains__") [.ref p, .ref b]) Q X.xe s := by
  obtain ⟨n, ho⟩ := lst_obj hp s I
  refine call_meetsIn PySem.F.slot_list_contains ⟨_, ho, rfl⟩ PySem.F.entry_list_contains (PySem.F.args_list_contains_2 _ _) (containsG (Inv X pins σ H) p (ss.map Value.ref) (.ref b) (fun i => match ss[i]? with | some a => e a | none => false)) ⟨I, lst_obj hp, fun j y hy => ?_, fun s' I' => ?_⟩
  · rw [List.getElem?_map] at hy
    cases ha : ss[j]? with
    | none => rw [ha] at hy; cases hy
    | some a =>
      rw [ha] at hy
      cases hy
      exact eqG_own hs hf F hr hx (he a (List.mem_of_getElem? ha))
  · have z := q s' I'
    rw [List.length_map, range_any (l := ss) (f := e) (fun i a ha => by rw [ha])]
    exact z
theorem op_inOwn (hs : PySem.W.findIn X.K (.ref C) "__eq__" = some (some (.ref g))) (hf : PySem.W.isFn X.K (.ref g) = true) (F : FnR X.prog X.w X.K X.mg X.base CX k g sp) (hr : Room (k + 1) X.A) (hx : Passes CX X E) : OpR X (compareOp .In) (rInOwn X.K C sp E false) := by
  intro pins s σ H x y v u Q I rx ry h
  obtain ⟨p, b, ss, e, rfl, rfl, hp, he, q⟩ := h
  cases (show v = Value.ref b from rx)
  cases (show u = Value.ref p from ry)
  obtain ⟨n, ho⟩ := lst_obj hp s I
  show wpAny _ X.A (do return Value.bool (← contains (.ref p) (.ref b))) _ _ s
  refine wpAny_bind (wpAny_contains_slot ⟨_, ho, rfl⟩ PySem.F.slot_list_contains (inOwn_core hs hf F hr hx I hp he fun s' I' => ?_))
  exact wpAny_truthy_bool (wpAny_pure ⟨.bl _, H, I', rfl, q⟩)
theorem op_notInOwn (hs : PySem.W.findIn X.K (.ref C) "__eq__" = some (some (.ref g))) (hf : PySem.W.isFn X.K (.ref g) = true) (F : FnR X.prog X.w X.K X.mg X.base CX k g sp) (hr : Room (k + 1) X.A) (hx : Passes CX X E) : OpR X (compareOp .NotIn) (rInOwn X.K C sp E true) := by
  intro pins s σ H x y v u Q I rx ry h
  obtain ⟨p, b, ss, e, rfl, rfl, hp, he, q⟩ := h
  cases (show v = Value.ref b from rx)
  cases (show u = Value.ref p from ry)
  obtain ⟨n, ho⟩ := lst_obj hp s I
  show wpAny _ X.A (do return Value.bool (!(← contains (.ref p) (.ref b)))) _ _ s
  refine wpAny_bind (wpAny_contains_slot ⟨_, ho, rfl⟩ PySem.F.slot_list_contains (inOwn_core hs hf F hr hx I hp he fun s' I' => ?_))
  exact wpAny_truthy_bool (wpAny_pure ⟨.bl _, H, I', rfl, q⟩)
/-- xs == ys -/
def rEqOwn (K : PySem.W.Frag) (C : Addr) (sp : Sp) (E : XK) : R2 := fun x y H Q => ∃ (p q : Addr) (ss ts : List Addr) (e : Addr → Addr → Bool), x = .ref p ∧ y = .ref q ∧ H p = some (.lst (ss.map V.ref)) ∧ H q = some (.lst (ts.map V.ref)) ∧ (∀ a ∈ ss, ∀ b ∈ ts, OwnEq1 K C sp E H a b (e a b)) ∧
  Q (.bl (decide (ss.length = ts.length) && (ss.zip ts).all fun p => e p.1 p.2)) H
theorem op_eqOwn (hs : PySem.W.findIn X.K (.ref C) "__eq__" = some (some (.ref g))) (hf : PySem.W.isFn X.K (.ref g) = true) (F : FnR X.prog X.w X.K X.mg X.base CX k g sp) (hr : Room (k + 1) X.A) (hx : Passes CX X E) : OpR X (compareOp .Eq) (rEqOwn X.K C sp E) := by
  intro pins s σ H x y v u Q I rx ry h
  obtain ⟨p, q, ss, ts, e, rfl, rfl, hp, hq, he, z⟩ := h
  cases (show v = Value.ref p from rx)
  cases (show u = Value.ref q from ry)
  obtain ⟨n, ho⟩ := lst_obj hp s I
  obtain ⟨n2, ho2⟩ := lst_obj hq s I
  show wpAny _ X.A (richCompare .Eq (.ref p) (.ref q)) _ _ s
  refine wpAny_richCompare_same_room ⟨_, ho, rfl⟩ ⟨_, ho2, rfl⟩ PySem.F.slot_list_eq (call_meetsIn PySem.F.slot_list_eq ⟨_, ho, rfl⟩ PySem.F.entry_list_eq (PySem.F.args_list_eq_2 _ _) (eqG (Inv X pins σ H) p q (ss.map Value.ref) (ts.map Value.ref) (fun i => match (ss.zip ts)[i]? with | some p => e p.1 p.2 | none => true)) ⟨I, lst_obj hp, lst_obj hq, fun j x y hx' hy => ?_, fun s' I' => ?_⟩) hr.units0
  · rw [List.getElem?_map] at hx' hy
    cases ha : ss[j]? with
    | none => rw [ha] at hx'; cases hx'
    | some a =>
      cases hb : ts[j]? with
      | none => rw [hb] at hy; cases hy
      | some b =>
        rw [ha] at hx'
        rw [hb] at hy
        cases hx'
        cases hy
        rw [(List.getElem?_zip_eq_some (z := (a, b))).mpr ⟨ha, hb⟩]
        refine eqG_own hs hf F hr hx (he a (List.mem_of_getElem? ha) b (List.mem_of_getElem? hb))
  · rw [List.length_map, List.length_map]
    have e1 : (decide (ss.length = ts.length) && (List.range ss.length).all fun i => match (ss.zip ts)[i]? with | some p => e p.1 p.2 | none => true) = (decide (ss.length = ts.length) && (ss.zip ts).all fun p => e p.1 p.2) := by
      by_cases hl : ss.length = ts.length
      · have hz : (ss.zip ts).length = ss.length := by rw [List.length_zip, ← hl, Nat.min_self]
        have hr := range_all (l := ss.zip ts) (f := fun p => e p.1 p.2) (e := fun i => match (ss.zip ts)[i]? with | some p => e p.1 p.2 | none => true) (fun i a ha => by rw [ha])
        rw [hz] at hr
        rw [hr]
      · rw [decide_eq_false hl, Bool.false_and, Bool.false_and]
    rw [e1]
    exact ⟨fun z => (by cases z), .bl _, H, I', rfl, z⟩
end
end EL
namespace EL
open PySem PySem.Spec PyProof.Rows L2 He TL
theorem walk_zipT {K : PySem.W.Frag} {a b : Addr} {xs ys : List V} {n : Nat} (hn : n = min xs.length ys.length) : L2.Walk (RZ.ItzT K a b) n (fun H => SqT K H a xs ∧ SqT K H b ys) (YPair (fun i => xs[i]?) (fun i => ys[i]?)) := by
  subst hn
  refine ⟨fun i _ hi q => ?_, fun _ q => ⟨xs, ys, q.1, q.2, by omega⟩, fun i H v H' _ q y => ?_⟩
  · have h1 : i < xs.length := by omega
    have h2 : i < ys.length := by omega
    exact ⟨xs, ys, xs[i], ys[i], q.1, q.2, by simp [h1], by simp [h2]⟩
  · obtain ⟨T, x, z, h1, h2, h3, h4, h5⟩ := y
    exact ⟨T, x, z, h1, h2, h3, h4 xs q.1, h5 ys q.2⟩
end EL
namespace EL
open PySem PySem.Spec PyProof.Rows L2 He TL
variable {r : PySem.W.OpenRow} {q : Program} {as : List Addr} {fa : List Fa} {fn : List DefE} {xn : List DefX} {ts : List Tab} {ex : PySem.W.Frag → Bool} {M : Nat} {loose : List Str} {w : World}
end EL
namespace EL
open PySem PySem.Spec PyProof.Rows L2 He TL
/-! ### operators by own defs that raise inside a try: the errors' postcondition hangs on the slots -/
def tOpX (C : Addr) (sp : Sp) (E : L2.St → XK) (ta tb : TE) : TE := fun σ H Q => ta σ H fun x H1 => tb σ H1 fun y H2 => rBinO C sp (E σ) x y H2 Q
def tAugX (i : Nat) (C : Addr) (sp : Sp) (E : L2.St → XK) (te : TE) : TS := fun D σ H => ∃ x, σ[i]? = some (some x) ∧ te σ H fun y H1 => ∃ a dx fs, x = .ref a ∧ H1 a = some (.ins C dx fs) ∧ sp [x, y] H1 (fun z H2 => D.nx (σ.set i (some z)) H2) (E σ)
section
variable {X : Cx} {CX : CXT} {k : Nat} {C g : Addr} {sp : Sp} {E : L2.St → XK} {op : Operator} {a b : Expr} {ta tb : TE} {pos : Pos}
theorem pe_binOX (hc : PySem.W.selfFirst X.K C = true) (hs : PySem.W.findIn X.K (.ref C) (PySem.dunder op.info.2) = some (some (.ref g))) (hf : PySem.W.isFn X.K (.ref g) = true) (F : FnR X.prog X.w X.K X.mg X.base CX k g sp)
    (hr : Room k X.A) (hx : ∀ σ, PassesAt CX X σ (E σ)) (ha : PE X a ta) (hb : PE X b tb) : PE X (.BinOp a op b pos) (tOpX C sp E ta tb) := by
  refine ⟨fun pins s σ H Q I h => ?_⟩
  refine wpAny_BinOp (binT ha hb I h fun v u s2 x y H2 I2 rx ry q => ?_)
  obtain ⟨a', dx, fs, b', dy, gs, rfl, rfl, ha', hb', q⟩ := q
  cases (show v = Value.ref a' from rx)
  cases (show u = Value.ref b' from ry)
  obtain ⟨ox, od, J, _⟩ := ins_at I2 ha'
  obtain ⟨ox', od', J', _⟩ := ins_at I2 hb'
  obtain ⟨m, hF⟩ := I2.fr
  refine PySem.W.binop_K hF I2.ok.mod.kin J J'.type hc hs hf ?_
  refine wpAny_mono (run_fnRS (us := [.ref a', .ref b']) (vs := [.ref a', .ref b']) F hr (hx σ) I2 (.cons rfl (.cons rfl .nil)) q) (fun w s' z => ?_) fun _ _ x => x
  obtain ⟨z', H', I', rz, qz⟩ := z
  exact SlX.cmpback rz ⟨z', H', I', rz, qz⟩
theorem ps_augOX {i : Nat} {x : Str} {e : Expr} {te : TE} {pos' : Pos} (hN : X.N.Nodup) (hi : X.N[i]? = some x) (hx : Loc X.env.scope x) (hc : PySem.W.selfFirst X.K C = true) (hs : PySem.W.findIn X.K (.ref C) (PySem.dunderI op.info.2) = some (some (.ref g))) (hf : PySem.W.isFn X.K (.ref g) = true)
    (F : FnR X.prog X.w X.K X.mg X.base CX k g sp) (hr : Room k X.A) (hp : ∀ σ, PassesAt CX X σ (E σ)) (he : PE X e te) (hl' : X.fn x = true ∨ X.env.scope.names.lookup x = some .local := by first | exact .inl rfl | exact .inr rfl | assumption) :
    PS X (.AugAssign (.Name x pos') op e pos) (tAugX i C sp E te) := by
  refine ⟨fun pins s σ H D I h => ?_⟩
  obtain ⟨v, e1, h⟩ := h
  obtain ⟨m, hn, hl⟩ := I.loc
  have vis : Vis X.env.scope x := by rcases hx with k | k; exact .inl k; exact .inr (.inl k)
  obtain ⟨u, r, l⟩ := hl i x v hi e1 vis
  refine wpAny_AugAssign_Name ?_
  have go : wpAny (model X.prog X.w) X.A (eval e X.env) (fun w s₂ => wpAny (model X.prog X.w) X.A (inplaceOp op u w) (fun r s₃ => wpAny (model X.prog X.w) X.A (storeName X.env x r) (fun _ => SP X pins D .next) X.xe s₃) X.xe s₂) X.xe s := by
    refine thn (he.run pins s σ H _ I h) fun w s1 ⟨y, H1, I1, r1, q1⟩ => ?_
    have step : wpAny (model X.prog X.w) X.A (inplaceOp op u w) (EP X pins σ fun z H2 => D.nx (σ.set i (some z)) H2) X.xe s1 := by
      obtain ⟨a, dx, fs, rfl, ha, q⟩ := q1
      cases (show u = Value.ref a from r)
      obtain ⟨ox, od, J, _⟩ := ins_at I1 ha
      obtain ⟨m, hF⟩ := I1.fr
      refine PySem.W.ksp_inplace hF I1.ok.mod.kin J hc hs hf ?_
      refine wpAny_mono (run_fnRS (us := [.ref a, w]) (vs := [.ref a, y]) F hr (hp σ) I1 (.cons rfl (.cons r1 .nil)) q) (fun w s' z => ?_) fun _ _ x => x
      obtain ⟨z', H', I', rz, qz⟩ := z
      exact SlX.cmpback rz ⟨z', H', I', rz, qz⟩
    refine thn step fun z s2 ⟨zv, H2, I2, r2, q2⟩ => ?_
    exact store_ok I2 hN hi hx r2 (fun s3 I3 => ⟨_, H2, I3, q2⟩) hl'
  rcases l with ⟨hk, hm⟩ | ⟨hk, c, hc, hcell⟩
  · exact wpAny_loadName_local I.ok.kind hk hn hm go
  · rcases hk with hk | hk
    · exact wpAny_loadName_cell I.ok.kind hk hc hcell go
    · rcases hx with k | k
      · have : X.env.scope.names.lookup x = some .free := hk
        rw [k] at this; cases this
      · have : X.env.scope.names.lookup x = some .free := hk
        rw [k] at this; cases this
end
end EL
namespace EL
open PySem PySem.Spec PyProof.Rows L2 He TL
open AutoSeq1 (wpAny_loadPart')
open MeetsSeq MeetsSeq2 MeetsSeq3 SeqRoads2
/-! ### dicts with the same keys whose values are data -/
structure DDat (K : PySem.W.Frag) (H : Hp) (ks ls : List (Key × V)) (ds es : List PyData) : Prop where
  keys : ks.map Prod.fst = ls.map Prod.fst
  nd : (ls.map Prod.fst).Nodup
  dk : DpAll K H (ks.map Prod.snd) ds
  dl : DpAll K H (ls.map Prod.snd) es
  sk : ∀ d ∈ ds, SeqAt.shaped d = true
  sl : ∀ e ∈ es, SeqAt.shaped e = true
theorem hits_D {X : Cx} {A : Around} {pins : List (Addr × Obj)} {σ : L2.St} {H : Hp} {s : Shared} (I : Inv X pins σ H s) (hu : A.in1.units + 64 < cLine) {ls : List (Key × V)} {vb : List (Key × Value)} (rb : KV ls vb) :
    ∀ {ks ls' : List (Key × V)} {va : List (Key × Value)} {ds es : List PyData}, KV ks va → ks.map Prod.fst = ls'.map Prod.fst → (∀ p ∈ ls', valV ls p.1 = some p.2) → DpAll X.K H (ks.map Prod.snd) ds → DpAll X.K H (ls'.map Prod.snd) es → (∀ d ∈ ds, SeqAt.shaped d = true) → (∀ e ∈ es, SeqAt.shaped e = true) →
      PySem.W.KeqHits A.in1 s vb va (PyData.eqv (.list ds) (.list es))
  | [], [], _, _, _, r, _, _, hd, he, _, _ => by
    cases r
    cases hd
    cases he
    exact .nil
  | [], _ :: _, _, _, _, _, hk, _, _, _, _, _ => by cases hk
  | _ :: _, [], _, _, _, _, hk, _, _, _, _, _ => by cases hk
  | (k, v) :: ks, (k2, v2) :: ls', _, _, _, r, hk, hv, hd, he, sd, se => by
    cases r with
    | @cons _ q _ qs h t =>
      obtain ⟨k', v'⟩ := q
      obtain ⟨h1, h2⟩ := h
      have h1 : k = k' := h1
      subst h1
      obtain ⟨hk1, hk2⟩ := List.cons_eq_cons.mp (show k :: ks.map Prod.fst = k2 :: ls'.map Prod.fst from hk)
      subst hk1
      cases hd with
      | cons d1 d2 =>
        cases he with
        | cons e1 e2 =>
          have ih := hits_D I hu rb t hk2 (fun p hp => hv p (by simp [hp])) d2 e2 (fun d hd => sd d (by simp [hd])) fun e he => se e (by simp [he])
          have rk := rb.val k
          rw [hv (k, v2) (by simp)] at rk
          cases hb : valueAt vb k with
          | none => rw [hb] at rk; cases rk
          | some y' =>
            rw [hb] at rk
            obtain ⟨as, r1⟩ := Dp.reads I _ v v' d1 h2
            obtain ⟨bs, r2⟩ := Dp.reads I _ v2 y' e1 rk
            exact .hit hb (PySem.W.keq_at r1 r2 (sd _ (List.mem_cons_self ..)) (se _ (List.mem_cons_self ..)) hu) ih
theorem val_nodup : ∀ {ls : List (Key × V)}, (ls.map Prod.fst).Nodup → ∀ p ∈ ls, valV ls p.1 = some p.2
  | [], _, p, hp => by cases hp
  | q :: r, nd, p, hp => by
    obtain ⟨n1, n2⟩ := List.nodup_cons.mp (show (q.1 :: r.map Prod.fst).Nodup from nd)
    rcases List.mem_cons.mp hp with rfl | hp
    · exact valV_pos rfl
    · rw [valV_neg (fun e => n1 (List.mem_map.mpr ⟨p, hp, e.symm⟩)), val_nodup n2 p hp]
def rEqDD (K : PySem.W.Frag) (neg : Bool) : R2 := fun x y H Q => ∃ a b ks ls ds es, x = .ref a ∧ y = .ref b ∧ H a = some (.dK ks) ∧ H b = some (.dK ls) ∧ DDat K H ks ls ds es ∧ Q (.bl (if neg then !PyData.eqv (.list ds) (.list es) else PyData.eqv (.list ds) (.list es))) H
theorem op_neDD {X : Cx} (hu : X.A.units + 65 < cLine) : OpR X (compareOp .NotEq) (rEqDD X.K true) := by
  intro pins s σ H x y v u Q I rx ry h
  obtain ⟨a, b, ks, ls, ds, es, rfl, rfl, ea, eb, D, q⟩ := h
  cases (show v = Value.ref a from rx)
  cases (show u = Value.ref b from ry)
  obtain ⟨_, ya, va, ra, da⟩ := (show ObjOk X.prog X.w H s.heap a (.dK ks) from I.hok a _ ea)
  obtain ⟨_, yb, vb, rb, db⟩ := (show ObjOk X.prog X.w H s.heap b (.dK ls) from I.hok b _ eb)
  refine PySem.W.keq_ne (knd := mixKind X.prog X.w) (r := PyData.eqv (.list ds) (.list es)) ya yb da db (by omega) (fun _ => hits_D I (by show X.A.units + 1 + 64 < cLine; omega) rb ra D.keys (val_nodup D.nd) D.dk D.dl D.sk D.sl) ?_
  have e : (va.length == vb.length) = true := by
    have h1 := congrArg List.length D.keys
    rw [List.length_map, List.length_map, ra.length, rb.length] at h1
    rw [h1]
    exact beq_self_eq_true _
  rw [e, Bool.true_and]
  exact ⟨.bl _, H, I, rfl, q⟩
/-- two states: lists of a dict and a list of data -/
def rEqSt (K : PySem.W.Frag) : R2 := fun x y H Q => ∃ p q a b c d ks ls ds es f g, x = .ref p ∧ y = .ref q ∧ H p = some (.lst [.ref a, .ref c]) ∧ H q = some (.lst [.ref b, .ref d]) ∧ H a = some (.dK ks) ∧ H b = some (.dK ls) ∧ DDat K H ks ls ds es ∧ (a = b → PyData.eqv (.list ds) (.list es) = true) ∧
  Dp K H (.ref c) f ∧ Dp K H (.ref d) g ∧ SeqAt.shaped f = true ∧ SeqAt.shaped g = true ∧ (c = d → PyData.eqv f g = true) ∧ Q (.bl (PyData.eqv (.list ds) (.list es) && PyData.eqv f g)) H
theorem op_eqSt {X : Cx} (hu : X.A.units + 66 < cLine) : OpR X (compareOp .Eq) (rEqSt X.K) := by
  intro pins s σ H x y v u Q I rx ry h
  obtain ⟨p, q, a, b, c, d, ks, ls, ds, es, f, g, rfl, rfl, ep, eq, ea, eb, D, hab, hf, hg, sf, sg, hcd, z⟩ := h
  cases (show v = Value.ref p from rx)
  cases (show u = Value.ref q from ry)
  have ep' : H p = some (.lst ([a, c].map V.ref)) := ep
  have eq' : H q = some (.lst ([b, d].map V.ref)) := eq
  obtain ⟨n, ho⟩ := lst_obj ep' s I
  obtain ⟨n2, ho2⟩ := lst_obj eq' s I
  show wpAny _ X.A (richCompare .Eq (.ref p) (.ref q)) _ _ s
  refine wpAny_richCompare_same_room ⟨_, ho, rfl⟩ ⟨_, ho2, rfl⟩ PySem.F.slot_list_eq (call_meetsIn PySem.F.slot_list_eq ⟨_, ho, rfl⟩ PySem.F.entry_list_eq (PySem.F.args_list_eq_2 _ _) (eqG (Inv X pins σ H) p q ([a, c].map Value.ref) ([b, d].map Value.ref) (fun i => if i = 0 then PyData.eqv (.list ds) (.list es) else PyData.eqv f g)) ⟨I, lst_obj ep', lst_obj eq', fun j x y hx' hy => ?_, fun s' I' => ?_⟩) (by omega)
  · match j, hx', hy with
    | 0, hx', hy =>
      cases hx'
      cases hy
      intro s Q I q
      rw [if_pos rfl] at q
      unfold eqBool
      refine wpAny_holding ?_
      refine wpAny_ite_split (fun e => ?_) (fun _ => ?_)
      · have := eq_of_beq e
        injection this with this
        rw [hab this] at q
        exact wpAny_bind (wpAny_rule (wpAny_pure (q s I)))
      · obtain ⟨_, ya, va, ra, da⟩ := (show ObjOk X.prog X.w H s.heap a (.dK ks) from I.hok a _ ea)
        obtain ⟨_, yb, vb, rb, db⟩ := (show ObjOk X.prog X.w H s.heap b (.dK ls) from I.hok b _ eb)
        refine wpAny_bind (PySem.W.keq_eq (knd := mixKind X.prog X.w) (r := PyData.eqv (.list ds) (.list es)) ya yb da db (by show X.A.units + 1 < cLine; omega) (fun _ => hits_D I (by show X.A.units + 1 + 1 + 64 < cLine; omega) rb ra D.keys (val_nodup D.nd) D.dk D.dl D.sk D.sl) ?_)
        have e : (va.length == vb.length) = true := by
          have h1 := congrArg List.length D.keys
          rw [List.length_map, List.length_map, ra.length, rb.length] at h1
          rw [h1]
          exact beq_self_eq_true _
        rw [e, Bool.true_and]
        exact wpAny_truthy_bool (q s I)
    | 1, hx', hy =>
      cases hx'
      cases hy
      intro s Q I q
      rw [if_neg (by decide)] at q
      obtain ⟨as, r1⟩ := Dp.reads I f _ _ hf (show RelV (.ref c) (.ref c) from rfl)
      obtain ⟨bs, r2⟩ := Dp.reads I g _ _ hg (show RelV (.ref d) (.ref d) from rfl)
      exact PySem.W.keq_at r1 r2 sf sg (by show X.A.units + 1 + 64 < cLine; omega) X.prog X.w _ _ (q s I)
    | j + 2, hx', _ => cases hx'
  · have e1 : (decide (([a, c].map Value.ref).length = ([b, d].map Value.ref).length) && (List.range ([a, c].map Value.ref).length).all fun i => if i = 0 then PyData.eqv (.list ds) (.list es) else PyData.eqv f g) = (PyData.eqv (.list ds) (.list es) && PyData.eqv f g) := by
      show (true && (PyData.eqv (.list ds) (.list es) && (PyData.eqv f g && true))) = _
      rw [Bool.true_and, Bool.and_true]
    rw [e1]
    exact ⟨fun z => (by cases z), .bl _, H, I', rfl, z⟩
end EL
namespace EL
open PySem PySem.Spec PyProof.Rows L2 He TL
/-! ### where an exception is being handled: the ends of iterators, list(d), all(xs), a list comprehension over a dict's keys, own == and != -/
section
variable {prog : Program} {w : World} {A : Around} {E : Value → Shared → Prop} {s : Shared}
theorem hot_ext {it a : Addr} {h0 h1 h2 h3 : Heap} {f : Obj → Obj} {o2 o3 : Obj} (ex : Heap.ExtBut it h0 h1) (e2 : h2 = h1.push o2) (e3 : h3 = h2.push o3) (ea : a = h2.objs.size) : Heap.ExtBut it h0 (h3.update a f) := fun b o hb e => by
  have g1 := ex b o hb e
  have g2 : h2.get? b = some o := by rw [e2]; exact Heap.get?_push_of_some _ g1
  have g3 : h3.get? b = some o := by rw [e3]; exact Heap.get?_push_of_some _ g2
  rw [Heap.get?_update_other _ _ (by rw [ea]; exact Nat.ne_of_gt (Heap.lt_size g2))]
  exact g3
theorem keys_end_hot {it d x1 : Addr} {i n ep : Nat} {od : Obj} {es : Array DictEntry} {Q : Option Value → Shared → Prop} (hot : HotX.HotAt A x1 s.heap) (nx : x1 ≠ it) (hit : s.heap.IsKeyIter it d i n ep) (hod : s.heap.get? d = some od) (hdd : od.data = .dict es ep)
    (hsz : es.size = n) (hge : n ≤ i) (hQ : ∀ h', Heap.ExtBut it s.heap h' → Q none { s with heap := h' }) : wpAny (model prog w) A (pyNext (.ref it)) Q E s := by
  obtain ⟨hh, o1, vs1, g1, d1, c1⟩ := hot
  obtain ⟨oi, hoi, hci, hdi⟩ := id hit
  have big : es.size ≤ i := by omega
  unfold pyNext
  refine wpAny_bind (wpAny_attempt (wpAny_callSpecial?_slot (name := Str.ofString "__next__") hit.typeIs F.slot_dict_keyiterator_next (wpAny_call_entry F.slot_dict_keyiterator_next hit.typeIs F.entry_dict_keyiterator_next ?_ (F.args_dict_keyiterator_next_1 _))))
  refine wpAny_bind (wpAny_pure (wpAny_bind (wpAny_bind ?_)))
  first | refine wpAny_bind (wpAny_typeNameOfWhole_keyiter hit.typeIs (wpAny_pure ?_)) | refine wpAny_bind (wpAny_typeNameOf_keyiter hit.typeIs (wpAny_pure ?_))
  refine wpAny_bind (wpAny_fieldsOf hoi hdi ?_)
  simp only [show Builtin.Dict_items.ownsTuple "dict_keyiterator" = false by decide, Bool.false_eq_true, if_false]
  show wpAny _ _ (if (Value.ref d == Value.none) = true then _ else _) _ _ s
  rw [if_neg (show ¬ ((Value.ref d == Value.none) = true) from Bool.false_ne_true)]
  refine wpAny_bind (wpAny_pure (wpAny_bind (wpAny_dictEntries hod hdd ?_)))
  rw [if_neg (by rw [hsz]; simp)]
  refine wpAny_bind (wpAny_pure (wpAny_bind (wpAny_dictEpoch hod hdd ?_)))
  rw [if_neg (by simp)]
  refine wpAny_pure ?_
  simp only [show ¬ ((i : Int) < 0) by omega, if_false, Int.toNat_natCast, Array.getElem?_eq_none big]
  refine wpAny_bind ?_
  first | refine wpAny_bind (wpAny_typeNameOfWhole_keyiter hit.typeIs (wpAny_pure ?_)) | refine wpAny_bind (wpAny_typeNameOf_keyiter hit.typeIs (wpAny_pure ?_))
  show wpAny _ _ (setField (.ref it) 0 .none >>= _) _ _ s
  refine wpAny_bind (wpAny_setField hoi hdi (by simp) ?_)
  show wpAny _ _ (newExc (.type "StopIteration") [] >>= _) _ _ _
  refine wpAny_bind ?_
  simp only [newExc, newTuple]
  refine wpAny_bind (wpAny_newObj_type ?_ (by size_fits))
  refine wpAny_bind (m := firstArgMember _ _) (wpAny_of_eq (a := Value.none) (by first | rfl | (simp only [firstArgMember]; rfl)) ?_)
  refine wpAny_newObj_type ?_ (by size_fits)
  have q1 : (s.heap.update it (Obj.mapFields fun x => x.setIfInBounds 0 Value.none)).get? x1 = some o1 := (Heap.get?_update_other s.heap _ (Ne.symm nx)).trans g1
  refine HotX.raiseNew_hot ⟨hh, o1, vs1, Heap.get?_push_of_some _ (Heap.get?_push_of_some _ q1), d1, c1⟩ (Nat.ne_of_lt (Heap.lt_size (Heap.get?_push_of_some _ q1))) (Heap.get?_push_size _ rfl) rfl (by first | (simp; done) | (simp; omega) | (simp only [Array.size_append]; simp; omega)) ?_
  refine wpAny_bind (wpAny_isInstance (T := "StopIteration") (b := true) ⟨_, Heap.get?_update_self _ (Heap.get?_push_size _ rfl) rfl, rfl⟩ isSubtype_stop (wpAny_pure (hQ _ ?_)))
  exact hot_ext (Heap.SameBut.update ..).extBut rfl rfl rfl
theorem list_end_hot {it l x1 : Addr} {i : Nat} {items : Array Value} {Q : Option Value → Shared → Prop} (hot : HotX.HotAt A x1 s.heap) (nx : x1 ≠ it) (hit : s.heap.IsListIter it l i) (hl : s.heap.IsList l items) (hx : items[i]? = none)
    (hQ : ∀ h', Heap.ExtBut it s.heap h' → Q none { s with heap := h' }) : wpAny (model prog w) A (pyNext (.ref it)) Q E s := by
  obtain ⟨hh, o1, vs1, g1, d1, c1⟩ := hot
  obtain ⟨oi, hoi, hci, hdi⟩ := id hit
  obtain ⟨ol, hol, _, nl, hdl⟩ := hl
  unfold pyNext
  refine wpAny_bind (wpAny_attempt (wpAny_callSpecial?_slot (name := Str.ofString "__next__") hit.typeIs slot_listiter_next (wpAny_call_entry slot_listiter_next hit.typeIs entry_listiter_next ?_ (args_listiter_next _))))
  show wpAny _ _ (field (.ref it) 0 >>= _) _ _ s
  refine wpAny_bind (wpAny_field hoi hdi (x := .ref l) rfl ?_)
  show wpAny _ _ (if (Value.ref l == Value.none) = true then _ else _) _ _ s
  rw [if_neg (show ¬ ((Value.ref l == Value.none) = true) from Bool.false_ne_true)]
  show wpAny _ _ (field (.ref it) 1 >>= _) _ _ s
  refine wpAny_bind (wpAny_field hoi hdi (x := .int i 0) rfl ?_)
  show wpAny _ _ (seqItems? (.ref l) >>= _) _ _ s
  refine wpAny_bind (wpAny_seqItems hol hdl ?_)
  simp only [Int.toNat_natCast, hx]
  refine wpAny_bind (wpAny_rule (wpAny_bind (wpAny_setField hoi hdi (by simp) ?_)))
  show wpAny _ _ (newExc (.type "StopIteration") [] >>= _) _ _ _
  refine wpAny_bind ?_
  simp only [newExc, newTuple]
  refine wpAny_bind (wpAny_newObj_type ?_ (by size_fits))
  refine wpAny_bind (m := firstArgMember _ _) (wpAny_of_eq (a := Value.none) (by first | rfl | (simp only [firstArgMember]; rfl)) ?_)
  refine wpAny_newObj_type ?_ (by size_fits)
  have q1 : (s.heap.update it (Obj.mapFields fun x => x.setIfInBounds 0 Value.none)).get? x1 = some o1 := (Heap.get?_update_other s.heap _ (Ne.symm nx)).trans g1
  refine HotX.raiseNew_hot ⟨hh, o1, vs1, Heap.get?_push_of_some _ (Heap.get?_push_of_some _ q1), d1, c1⟩ (Nat.ne_of_lt (Heap.lt_size (Heap.get?_push_of_some _ q1))) (Heap.get?_push_size _ rfl) rfl (by first | (simp; done) | (simp; omega) | (simp only [Array.size_append]; simp; omega)) ?_
  refine wpAny_bind (wpAny_isInstance (T := "StopIteration") (b := true) ⟨_, Heap.get?_update_self _ (Heap.get?_push_size _ rfl) rfl, rfl⟩ isSubtype_stop (wpAny_pure (hQ _ ?_)))
  exact hot_ext (Heap.SameBut.update ..).extBut rfl rfl rfl
theorem hot_keep {x1 : Addr} {h h' : Heap} (c : HotX.HotAt A x1 h) (e : ∀ o, h.get? x1 = some o → h'.get? x1 = some o) : HotX.HotAt A x1 h' := by
  obtain ⟨hh, o1, vs1, g1, r⟩ := c
  exact ⟨hh, o1, vs1, e _ g1, r⟩
theorem walk_listH (x1 I ax : Addr) (n1 : x1 ≠ I) (hne : ax ≠ I) (items : Array Value) : Walks prog w A I [I, ax, x1] [I] items.size (fun i v => items[i]? = some v) (fun i h => h.IsListIter I ax i ∧ h.IsList ax items ∧ HotX.HotAt A x1 h) where
  sub := fun b hb => by cases List.mem_singleton.mp hb; simp
  frame := fun _ _ _ st k => ⟨st.1.at fun o e => k I (by simp) o e, st.2.1.at fun o e => k ax (by simp) o e, hot_keep st.2.2 fun o e => k x1 (by simp) o e⟩
  item := fun i s Q E hi st q => by
    refine wpAny_pyNext_list_item st.1 st.2.1 (x := items[i]) (by simp [hi]) fun h' hit' sb => ?_
    exact q _ h' s.toks (by simp [hi]) ⟨hit', st.2.1.extBut sb.extBut hne, hot_keep st.2.2 fun o e => sb.extBut _ o n1 e⟩ fun b o hb e => sb.extBut b o (fun z => hb (by simp [z])) e
  done := fun s Q E st q => list_end_hot st.2.2 n1 st.1 st.2.1 (by simp) fun h' ex => q h' s.toks fun b o hb e => ex b o (fun z => hb (by simp [z])) e
  self := fun _ _ _ _ st q => wpAny_pyIter_listiter st.1 q
theorem walk_keysH {κ : Type} [DecidableEq κ] {knd : KeyKind prog w κ} (x1 I d : Addr) (n1 : x1 ≠ I) (hne : d ≠ I) (kvs : List (κ × Value)) (ep : Nat) :
    Walks prog w A I [I, d, x1] [I] kvs.length (fun i v => ∃ k x, kvs[i]? = some (k, x) ∧ knd.is k v = true) (fun i h => h.IsKeyIter I d i kvs.length ep ∧ h.DictAt knd d kvs ep ∧ HotX.HotAt A x1 h) where
  sub := fun b hb => by cases List.mem_singleton.mp hb; simp
  frame := fun _ _ _ st k => ⟨st.1.at fun o e => k I (by simp) o e, st.2.1.at' fun o e => k d (by simp) o e, hot_keep st.2.2 fun o e => k x1 (by simp) o e⟩
  item := fun i s Q E hi st q => by
    obtain ⟨⟨k, x⟩, hx⟩ : ∃ p, kvs[i]? = some p := ⟨kvs[i], by simp [hi]⟩
    refine wpAny_pyNext_dict_item st.1 st.2.1 hx fun key h' hkey hit' sb => ?_
    exact q key h' s.toks ⟨k, x, hx, hkey⟩ ⟨hit', st.2.1.extBut sb.extBut hne, hot_keep st.2.2 fun o e => sb.extBut _ o n1 e⟩ fun b o hb e => sb.extBut b o (fun z => hb (by simp [z])) e
  done := fun s Q E st q => by
    obtain ⟨o, es, ho, _, hd, _, hp, _⟩ := id st.2.1
    have hsz : es.size = kvs.length := by
      have := hp.length
      simpa using this
    exact keys_end_hot st.2.2 n1 st.1 ho hd hsz (Nat.le_refl _) fun h' ex => q h' s.toks fun b o hb e => ex b o (fun z => hb (by simp [z])) e
  self := fun _ _ _ _ st q => wpAny_pyIter_keyiter st.1 q
section
variable {κ : Type} [DecidableEq κ] {knd : KeyKind prog w κ} {d x1 : Addr} {kvs : List (κ × Value)} {ep : Nat}
/-- list.__init__ of a new list and a dict -/
theorem init_hot {R : Result → Shared → Prop} (lo : (d == sysModules) = false) (hot : HotX.HotAt A x1 s.heap) (hm : s.heap.DictAt knd d kvs ep) {S : Addr} (n1 : S ≠ d) (n2 : S ≠ x1) (hS : s.heap.get? S = some { cls := .type "list", data := .seq #[] }) (hn : kvs.length ≤ sizeLine)
    (hR : ∀ h' tk acc c, (∀ b o, b ≠ S → s.heap.get? b = some o → h'.get? b = some o) → h'.get? S = some { cls := .type "list", dict := none, data := .seq acc c, slots := #[] } → ItemsOf (fun i v => ∃ k x, kvs[i]? = some (k, x) ∧ knd.is k v = true) acc kvs.length → R (.ok (.ret .none)) { s with heap := h', toks := tk }) :
    wpAny (model prog w) A.in1 (Builtin.«list.__init__» ⟨[.ref S, .ref d], []⟩) (fun fin s' => match fin with | .done f => R (.ok f) s' | .again c' => c'.quiet = true ∧ codeAny (model prog w) A c' R s') (fun e s' => R (.error e) s') s := by
  show wpAny _ _ (do let old ← Builtin.List.listItems (.ref S); Builtin.List.listUpdate (.ref S) (fun _ => #[]); letGo old.toList.reverse; Builtin.List.listExtendWith (.ref S) (.ref d) .none) _ _ s
  refine wpAny_bind ?_
  unfold Builtin.List.listItems
  refine wpAny_bind (wpAny_seqItems hS rfl (wpAny_pure ?_))
  show wpAny _ _ (updateSeq S (fun _ => #[]) >>= fun _ => letGo (#[] : Array Value).toList.reverse >>= fun _ => Builtin.List.listExtendWith (.ref S) (.ref d) .none) _ _ s
  refine wpAny_bind (wpAny_updateSeq hS rfl ?_)
  have hS2 := Heap.get?_update_self (Obj.mapSeq (fun _ => (#[] : Array Value))) hS rfl
  have oth : ∀ b o, b ≠ S → s.heap.get? b = some o → (s.heap.update S (Obj.mapSeq (fun _ => (#[] : Array Value)))).get? b = some o := fun b o hb e => (Heap.get?_update_other _ _ (Ne.symm hb)).trans e
  refine wpAny_bind (wpAny_letGo ?_)
  generalize hh2 : s.heap.update S (Obj.mapSeq (fun _ => (#[] : Array Value))) = h2 at hS2 oth
  have hm2 : h2.DictAt knd d kvs ep := hm.at' fun o e => oth _ o (Ne.symm n1) e
  have hot2 : HotX.HotAt A x1 h2 := hot_keep hot fun o e => oth _ o (Ne.symm n2) e
  have lS : S < h2.objs.size := Heap.lt_size hS2
  have ld : d < h2.objs.size := hm2.lt_size
  have lx : x1 < h2.objs.size := by obtain ⟨_, o1, _, g, _⟩ := hot2; exact Heap.lt_size g
  unfold Builtin.List.listExtendWith
  refine wpAny_bind (wpAny_typeOf (T := "dict") (show Shared.TypeIs { s with heap := h2 } (.ref d) "dict" from hm2.dictOf.typeIs) ?_)
  simp only [show Builtin.List.listSameRef (.ref S) (.ref d) = false by simp [Builtin.List.listSameRef, n1], show (Value.type "dict" == Value.type "list") = false by decide, show (Value.type "dict" == Value.type "tuple") = false by decide, Bool.or_false, Bool.false_eq_true, if_false]
  refine wpAny_bind (wpAny_pyIter_dict lo hm2 ?_)
  have W := walk_keysH (prog := prog) (w := w) (A := A.in1) (knd := knd) x1 h2.objs.size d (Nat.ne_of_lt lx) (Nat.ne_of_lt ld) kvs ep
  have hSf : S ∉ [h2.objs.size, d, x1] := by
    simp only [List.mem_cons, List.not_mem_nil, or_false, not_or]
    exact ⟨Nat.ne_of_lt lS, n1, n2⟩
  have st0 : ∀ {h3 : Heap}, (∀ b o, b ≠ S → (h2.push { cls := .type "dict_keyiterator", data := .fields #[.ref d, .int 0 0, .int kvs.length 0, .int ep 0] }).get? b = some o → h3.get? b = some o) →
      h3.IsKeyIter h2.objs.size d 0 kvs.length ep ∧ h3.DictAt knd d kvs ep ∧ HotX.HotAt A.in1 x1 h3 := fun k =>
    ⟨⟨_, k _ _ (Ne.symm (Nat.ne_of_lt lS)) (Heap.get?_push_size _ rfl), rfl, rfl⟩, hm2.at' fun o e => k _ o (Ne.symm n1) (Heap.get?_push_of_some _ e), hot_keep (A := A) hot2 fun o e => k _ o (Ne.symm n2) (Heap.get?_push_of_some _ e)⟩
  have key : ∀ (h3 : Heap) (c : Nat), (∀ b o, b ≠ S → (h2.push { cls := .type "dict_keyiterator", data := .fields #[.ref d, .int 0 0, .int kvs.length 0, .int ep 0] }).get? b = some o → h3.get? b = some o) →
      h3.get? S = some { cls := .type "list", data := .seq #[] c } → codeAny (model prog w) A (.builtin "list.extend.loop" ⟨[.ref S, .ref h2.objs.size, .none], []⟩) R { s with heap := h3 } := fun h3 c k hS3 => by
    refine codeAny_extend_loopS W.toS hn S hSf .none kvs.length 0 _ #[] c rfl (Nat.zero_le _) (st0 k) hS3 (ItemsOf.nil _) fun s' acc c' mv hS' ha => ?_
    rw [Moved.eq_with mv]
    refine hR s'.heap s'.toks acc c' (fun b o hb e => mv.heap b o (fun hmem => ?_) (k b o hb (Heap.get?_push_of_some _ (oth b o hb e)))) hS' ha
    rcases List.mem_cons.mp hmem with z | hmem
    · exact hb z
    · have lb := Heap.lt_size (oth b o hb e)
      rw [List.mem_singleton.mp hmem] at lb
      exact Nat.lt_irrefl _ lb
  have hS3 := Heap.get?_push_of_some { cls := .type "dict_keyiterator", data := .fields #[.ref d, .int 0 0, .int kvs.length 0, .int ep 0] } hS2
  refine wpAny_bind (wpAny_holding (PySem.W.kdl_hint_dict (show Shared.TypeIs _ (.ref d) "dict" from (hm2.at' fun o e => Heap.get?_push_of_some _ e).dictOf.typeIs) ?_))
  refine wpAny_ite_split (fun _ => ?_) (fun _ => wpAny_pure ⟨plainId_quiet PySem.F.plain_extend_loop _, key _ _ (fun _ _ _ e => e) hS3⟩)
  refine wpAny_bind (wpAny_rule (wpAny_bind ?_))
  show wpAny _ _ (updateSeq S (·.push .none) >>= fun _ => updateSeq S (·.pop)) _ _ _
  refine wpAny_bind (wpAny_updateSeq hS3 rfl ?_)
  have hS4 := Heap.get?_update_self (Obj.mapSeq (·.push Value.none)) hS3 rfl
  refine wpAny_updateSeq (hz := by seq_fits) hS4 rfl ?_
  have hS5 := Heap.get?_update_self (Obj.mapSeq (·.pop)) hS4 rfl
  exact wpAny_pure ⟨plainId_quiet PySem.F.plain_extend_loop _, key _ _ (fun b o hb e => (Heap.get?_update_other _ _ (Ne.symm hb)).trans ((Heap.get?_update_other _ _ (Ne.symm hb)).trans e)) hS5⟩
theorem list_hot {Q : Value → Shared → Prop} (lo : (d == sysModules) = false) (hot : HotX.HotAt A x1 s.heap) (hm : s.heap.DictAt knd d kvs ep) (hn : kvs.length ≤ sizeLine)
    (hQ : ∀ h' tk acc c, (∀ b o, s.heap.get? b = some o → h'.get? b = some o) → h'.get? s.heap.objs.size = some { cls := .type "list", dict := none, data := .seq acc c, slots := #[] } → ItemsOf (fun i v => ∃ k x, kvs[i]? = some (k, x) ∧ knd.is k v = true) acc kvs.length → Q (.ref s.heap.objs.size) { s with heap := h', toks := tk }) :
    wpAny (model prog w) A (call (.type "list") [.ref d]) Q E s := by
  refine callType_codes (Q₁ := fun obj s₁ => obj = .ref s.heap.objs.size ∧ s₁ = { s with heap := s.heap.push { cls := .type "list", data := .seq #[] } }) PySem.F.called_list (PySem.F.typeCall_list_1 _) PySem.F.entry_list_init (code_list_new _ ⟨rfl, rfl⟩) fun obj s₁ h₁ => ?_
  obtain ⟨rfl, rfl⟩ := h₁
  have hS : (s.heap.push { cls := .type "list", data := .seq #[] }).get? s.heap.objs.size = some { cls := .type "list", data := .seq #[] } := Heap.get?_push_size _ rfl
  have lx : x1 < s.heap.objs.size := by obtain ⟨_, o1, _, g, _⟩ := hot; exact Heap.lt_size g
  refine ⟨⟨_, hS, rfl⟩, PySem.F.args_list_init_2 _ _, init_hot (A := A.in1) lo (hot_keep (A := A) hot fun o e => Heap.get?_push_of_some _ e) (hm.at' fun o e => Heap.get?_push_of_some _ e) (Nat.ne_of_gt hm.lt_size) (Nat.ne_of_gt lx) hS hn fun h' tk acc c k hS' ha => ?_⟩
  exact ⟨rfl, hQ h' tk acc c (fun b o e => k b o (Nat.ne_of_lt (Heap.lt_size e)) (Heap.get?_push_of_some _ e)) hS' ha⟩
end
end
section
variable {X : Cx}
theorem call_list_dKH (hc : L2H.HotC X) : CallR X (.type "list") rListD := by
  intro pins s σ H xs us Q I r h
  obtain ⟨p, kvs, e, hk, q⟩ := h
  subst e
  obtain ⟨u, eu, rx⟩ := vals1 r
  subst eu
  obtain rfl : u = Value.ref p := rx
  obtain ⟨x1, hot⟩ := hc.at I
  obtain ⟨z, lo, vs, rk, hd⟩ := (show ObjOk X.prog X.w H s.heap p (.dK kvs) from I.hok p _ hk)
  obtain ⟨ep, hat⟩ := hd.dictAt
  have hl : kvs.length = vs.length := Paired.length rk
  refine list_hot (knd := mixKind X.prog X.w) lo hot hat (by rw [← hl]; exact z) fun h' tk acc c hkeep hS hacc => ?_
  have fresh := I.hok.fresh (Nat.le_refl _)
  have vv : Vals (kvs.map fun kv => kV kv.1) acc.toList := by
    have el : acc.toList.length = acc.size := by simp
    refine vals_of_at (by rw [List.length_map, el, hacc.1, hl]) fun j x w h1 h2 => ?_
    obtain ⟨k, y, hky, hi⟩ := hacc.2 j w (by rw [← Array.getElem?_toList]; exact h2)
    have e1 : (kvs.map (·.1))[j]? = some k := by rw [KV.keys rk, List.getElem?_map, hky] <;> rfl
    have e3 : (kvs.map fun kv => kV kv.1) = (kvs.map (·.1)).map kV := by rw [List.map_map] <;> rfl
    rw [e3, List.getElem?_map, e1] at h1
    cases h1
    exact keyIs_rel hi
  exact ⟨.ref s.heap.objs.size, upd H s.heap.objs.size (.lst (kvs.map fun kv => kV kv.1)), I.laid hkeep (Nat.le_refl _) (show ObjOk X.prog X.w _ _ _ (.lst (kvs.map fun kv => kV kv.1)) from ⟨by rw [List.length_map]; exact z, acc.toList, c, vv, by rw [Array.toArray_toList]; exact hS⟩), rfl, q _ fresh⟩
theorem cr_allH (hc : L2H.HotC X) : CallR X (.builtin "all") (rAll X.K) := by
  intro pins s σ H vs us Q I r h
  obtain ⟨a, bs, rfl, hs, q⟩ := h
  obtain ⟨its, rv, hl, _⟩ := I.list hs
  rw [Vals.ref1 r]
  have hb := rv.bls
  obtain ⟨x1, hot⟩ := hc.at I
  have lx : x1 < s.heap.objs.size := by obtain ⟨_, o1, _, g, _⟩ := hot; exact Heap.lt_size g
  refine call_all_walk (iter_any hl.isList fun s₂ e2 st hne => ?_)
  subst e2
  refine ⟨_, _, _, _, _, _, _, rfl, walk_listH (A := X.A.in1) x1 _ a (Nat.ne_of_lt lx) hne its.toArray, ⟨st.1, st.2, hot_keep (A := X.A) hot fun o e => Heap.get?_push_of_some _ e⟩, truth_bools hb, fun h' tk hk => ?_⟩
  refine ⟨.bl _, H, I.kept fun b o eo => hk b o (fun hm => ?_) (Heap.get?_push_of_some _ eo), ?_, q⟩
  · have lb := Heap.lt_size eo
    rw [List.mem_singleton.mp hm] at lb
    exact Nat.lt_irrefl _ lb
  · show Value.bool _ = Value.bool _
    rw [← L2.all_range, hb, List.size_toArray, List.length_map]
end
end EL
namespace EL
open PySem PySem.Spec PyProof.Rows L2 He TL
/-! ### for x in d, within a comprehension -/
section
variable {P : Program} {w : World} {K : PySem.W.Frag} {tg : Expr} {d : Addr} {o : Obj} {es : Array DictEntry} {ep : Nat}
theorem turn_keysH {kvs : List (Key × V)} (it : Addr) (hod : o.data = .dict es ep) : L2H.TurnH P w K tg (Itk d o kvs) [it] it (fun i h => h.IsKeyIter it d i kvs.length ep) where
  mem := by simp
  obj := fun i h st b hb => by
    cases List.mem_singleton.mp hb
    obtain ⟨oi, e, c, dd⟩ := st
    exact ⟨oi, e, fun v z => by rw [dd] at z; cases z⟩
  keep := fun i h h' st k => st.at fun oi e => k it (by simp) oi e
  item := by
    intro X hP hw hK hc i pins s σ H E I hf st hg
    subst hP hw hK
    obtain ⟨hd, hi⟩ := hg
    obtain ⟨f0, f1, f2, f3, f4, f5⟩ := hf it (by simp)
    obtain ⟨hs, hgd, hx, es', ep', vs, hdt, hsz, kv, hm⟩ := I.frzK hd
    obtain ⟨rfl, rfl⟩ := dict_ep hod hdt
    obtain ⟨⟨k, v⟩, hkv⟩ : ∃ p, kvs[i]? = some p := ⟨kvs[i], List.getElem?_eq_getElem hi⟩
    obtain ⟨u, hu, ru⟩ := kv_get kv hkv
    have hl : kvs.length = vs.length := Paired.length kv
    rw [hl] at st
    refine wpAny_pyNext_dict_item st hm hu fun key h' hkey st' sb => ?_
    obtain ⟨oi, e, c, dd⟩ := id st'
    exact ⟨key, rfl, go_of (s := { s with heap := h' }) e c dd (by decide) ⟨kV k, H, I.turned (t' := s.toks) (fun b ob hb e => (sb.2 b hb).trans e) f0 f1 f3 f4 f5, relV_key (show keyIs k key = true from hkey), ⟨rfl, k, v, hkv, rfl⟩, (by show h'.IsKeyIter it d (i + 1) kvs.length _; rw [hl]; exact st'), fun b hb => (hf b hb).1⟩⟩
  done := by
    intro X hP hw hK hc i pins s σ H E I hf st hg
    subst hP hw hK
    obtain ⟨hd, hi⟩ := hg
    obtain ⟨f0, f1, f2, f3, f4, f5⟩ := hf it (by simp)
    obtain ⟨hs, hgd, hx, es', ep', vs, hdt, hsz, kv, hm⟩ := I.frzK hd
    obtain ⟨rfl, rfl⟩ := dict_ep hod hdt
    obtain ⟨x1, hot⟩ := hc.at I
    have n1 : x1 ≠ it := fun z => by
      obtain ⟨_, o1, vs1, g1, d1, c1⟩ := hot
      obtain ⟨oi, e, _, dd⟩ := st
      rw [z, e] at g1
      cases g1
      rw [dd] at d1
      cases d1
      cases c1
    exact keys_end_hot hot n1 st hgd hdt hsz hi fun h' eb => ⟨rfl, I.turned (t' := s.toks) (fun b ob hb e => eb b ob hb e) f0 f1 f3 f4 f5⟩
  self := fun A i s Q E st h => wpAny_pyIter_keyiter st h
end
section
variable {X : Cx}
def iKeysH (td : TE) : TI := fun σ H R => td σ H fun x H1 => ∃ d o, x = .ref d ∧ ((∃ kvs, H1 d = some (.frz o (.dK kvs)) ∧ R (Itk d o kvs) H1) ∨ False)
theorem pi_keysH {tg e : Expr} {td : TE} (he : PE X e td) : L2H.PIH X tg e (iKeysH td) := by
  refine ⟨fun pins s σ H R I h => ?_⟩
  refine thn (he.run pins s σ H _ I h) fun u s1 ⟨x, H1, I1, rx, d, o, ex, hd⟩ => ?_
  subst ex
  obtain ⟨kvs, hd, q⟩ : ∃ kvs, H1 d = some (.frz o (.dK kvs)) ∧ R (Itk d o kvs) H1 := hd.elim id False.elim
  obtain rfl : u = Value.ref d := rx
  obtain ⟨hs, hgd, hx, es, ep, vs, hdt, hsz, kv, hm⟩ := I1.frzK hd
  refine iter_keys hs hgd hx hdt ?_
  refine ⟨s1.heap.objs.size, [s1.heap.objs.size], _, _, H1, rfl, I1.kept (t' := s1.toks) fun b ob e => Heap.get?_push_of_some _ e, turn_keysH _ hdt, ⟨_, Heap.get?_push_size _ rfl, rfl, by rw [hsz]; rfl⟩, fun b hb => ?_, q⟩
  cases List.mem_singleton.mp hb
  exact I1.fpOk (Nat.le_refl _) (I1.hok.fresh (Nat.le_refl _))
/-- a comprehension's block where an exception is being handled -/
abbrev blkH (X : Cx) (s : Shared) (H : Hp) (scope : Scope) (cenv : Env) (fp : List Addr) (p : Addr × Obj) : Cx := { X.blk s H scope cenv fp with pn := [p] }
theorem _root_.L2.Inv.toBlkH {s0 : Shared} {H0 : Hp} {scope : Scope} {ce : Env} {fp : List Addr} {p : Addr × Obj} {σ : L2.St} {H : Hp} {s : Shared} (I : Inv (X.blk s0 H0 scope ce fp) [] σ H s) (hp : s.heap.get? p.1 = some p.2 ∧ H p.1 = none ∧ p.1 ≠ ce.locals ∧ p.1 ∉ frs X.stack ∧ ∀ v, p.2.data ≠ .cell v) : Inv (EL.blkH X s0 H0 scope ce fp p) [] σ H s :=
  ⟨⟨I.ok.mod, I.ok.kind, I.ok.glob, I.ok.blt, I.ok.above, I.ok.inj, I.ok.has, I.ok.cab, I.ok.hd, I.ok.frames, I.ok.stk, I.ok.exf, I.ok.bs, I.ok.bsz, I.ok.noex, I.ok.exfs, I.ok.funs, I.ok.frf⟩, I.os, I.bare, I.base, I.loc, I.cell, I.free, I.freeC, fun q hq => by
    cases List.mem_singleton.mp (show q ∈ [p] from by simpa using hq)
    exact hp, I.hok, I.len⟩
theorem lcH_core {pins : List (Addr × Obj)} {s : Shared} {σ : L2.St} {H : Hp} {Q : VK} {elt tg iter : Expr} {ifs : List Expr} {scope : Scope} {own : List (Str × Nat)} {pos pos' : Pos} {wi : TI} {g : TG} {tt : TT} {te : TE} {use : Option (Value → Sem Unit)} {Qf : Value → Shared → Prop}
    (hc : L2H.HotC X) (hN : X.N.Nodup) (I : Inv X pins σ H s) (hi : L2H.PIH X tg iter wi) (ok : BlkOk X.N X.env.scope scope own)
    (hg : ∀ (s : Shared) (H : Hp) (C : Addr) (cl : List (Str × Addr)) (fp : List Addr) (p : Addr × Obj), L2H.Hot1 X.A p → PG (EL.blkH X s H scope (compEnvC scope cl C X.env) fp p) tg g) (ht : ∀ (s : Shared) (H : Hp) (C : Addr) (cl : List (Str × Addr)) (fp : List Addr) (p : Addr × Obj), L2H.Hot1 X.A p → PTs (EL.blkH X s H scope (compEnvC scope cl C X.env) fp p) ifs tt)
    (he : ∀ (s : Shared) (H : Hp) (C : Addr) (cl : List (Str × Addr)) (fp : List Addr) (p : Addr × Obj), L2H.Hot1 X.A p → PE (EL.blkH X s H scope (compEnvC scope cl C X.env) fp p) elt te) (hs : ∀ x, foldedSetIterable iter X.env x = pure x)
    (h : tLc wi g tt te (own.map (·.2)) σ H Q)
    (hRR : ∀ D C s' m H', Inv X pins σ H' s' → Q (.ref D) H' → s'.heap.Ns C m → FpOk X pins H' C → compPost (model X.prog X.w) X.A X.xe use Qf (.ref D) C (.ok .next) s') :
    wpAny (model X.prog X.w) X.A (comprehension (.ListComp elt [⟨tg, iter, ifs, 0⟩] scope pos) scope X.env pos' (newList []) false (eval iter X.env) use) Qf X.xe s := by
  obtain ⟨p, hot, hpn⟩ := hc
  have cl : ∀ y ∈ scope.names, y.2 = .free → ∃ c, X.env.cells.lookup y.1 = some c := fun y hy e => (ok.free y hy e).elim (fun k => I.ok.has _ (.inl k)) (fun k => I.ok.has _ (.inr k))
  refine wpAny_comprehension_free (use := use) rfl hs (closure_ok cl) ok.kind (fun y hy e => by rw [ok.uniq y hy, e]) (thn (hi.run pins s σ H _ I h) fun xv s1 hx => thn hx fun itv s2 h2 => ?_)
  obtain ⟨it, fp, tn, J, H2, e, I2, T, st2, f2, q⟩ := h2
  subst e
  refine wpAny_newObj_type (newEnv_comp ?_)
  generalize hD : s2.heap.objs.size = D
  obtain ⟨V, ⟨m0, w0⟩, turn⟩ := q D (I2.hok.fresh (Nat.le_of_eq hD))
  obtain ⟨s3, hs3⟩ : ∃ s3 : Shared, ({ s2 with heap := s2.heap.push { cls := .type "list", data := .seq ([] : List Value).toArray } } : Shared) = s3 := ⟨_, rfl⟩
  have hh3 : s3.heap = s2.heap.push { cls := .type "list", data := .seq ([] : List Value).toArray } := by rw [← hs3]
  obtain ⟨H3, hH3⟩ : ∃ H3, upd H2 D (.lst []) = H3 := ⟨_, rfl⟩
  have I3 : Inv X pins σ H3 s3 := by
    rw [← hs3, ← hH3]
    refine I2.laid (t' := s2.toks) (fun b o e => Heap.get?_push_of_some _ e) (Nat.le_of_eq hD) ?_
    rw [← hD]
    exact ⟨Nat.zero_le _, [], 0, .nil, Heap.get?_push_size _ rfl⟩
  rw [hH3] at w0
  have lt2 : ∀ b ∈ fp, b < s2.heap.objs.size := fun b hb => let ⟨o, e, _⟩ := T.obj _ _ st2 b hb; Heap.lt_size e
  have f3 : ∀ b ∈ fp, FpOk X pins H3 b ∧ b < s3.heap.objs.size := fun b hb => by
    refine ⟨⟨?_, (f2 b hb).2⟩, by rw [hh3, Heap.size_push]; exact Nat.lt_succ_of_lt (lt2 b hb)⟩
    rw [← hH3, upd_ne (by rw [← hD]; exact Nat.ne_of_lt (lt2 b hb))]
    exact (f2 b hb).1
  have I4' := block_start I3 ok hN f3
  have P3 := I3.pin p (List.mem_append_left _ hpn)
  rw [hs3]
  show codeAny _ _ (.compStart (.ListComp elt [⟨tg, iter, ifs, 0⟩] scope pos) 0 (.ref it) (.ref D) (compEnvC scope (cellsFrom (s3.heap.objs.size + 1) scope.names (cloFrom X.env.cells scope.names [])) s3.heap.objs.size X.env)) (compPost (model X.prog X.w) X.A X.xe use Qf (.ref D) s3.heap.objs.size) { s3 with heap := pushCells (s3.heap.push { cls := .type "dict", data := .dict #[] }) scope.names }
  have pg := hg s3 H3 s3.heap.objs.size (cellsFrom (s3.heap.objs.size + 1) scope.names (cloFrom X.env.cells scope.names [])) fp p hot
  have pt := ht s3 H3 s3.heap.objs.size (cellsFrom (s3.heap.objs.size + 1) scope.names (cloFrom X.env.cells scope.names [])) fp p hot
  have pe := he s3 H3 s3.heap.objs.size (cellsFrom (s3.heap.objs.size + 1) scope.names (cloFrom X.env.cells scope.names [])) fp p hot
  generalize hce : compEnvC scope (cellsFrom (s3.heap.objs.size + 1) scope.names (cloFrom X.env.cells scope.names [])) s3.heap.objs.size X.env = ce at I4' pg pt pe ⊢
  have cL : ce.locals = s3.heap.objs.size := by rw [← hce]; rfl
  have keep4 : ∀ b o, s3.heap.get? b = some o → (pushCells (s3.heap.push { cls := .type "dict", data := .dict #[] }) scope.names).get? b = some o := fun b o e => pushCells_keeps _ _ _ _ (Heap.get?_push_of_some _ e)
  have st4 : tn 0 (pushCells (s3.heap.push { cls := .type "dict", data := .dict #[] }) scope.names) := T.keep _ _ _ st2 fun b _ o e => keep4 _ _ (by rw [hh3]; exact Heap.get?_push_of_some _ e)
  have I4 : Inv (EL.blkH X s3 H3 scope ce fp p) [] (wipe σ (own.map (·.2))) H3 { s3 with heap := pushCells (s3.heap.push { cls := .type "dict", data := .dict #[] }) scope.names } := by
    refine I4'.toBlkH ⟨keep4 _ _ P3.1, P3.2.1, by rw [cL]; exact Nat.ne_of_lt (Heap.lt_size P3.1), fun hm => (List.mem_cons.mp (I3.stkSub p.1 hm)).elim P3.2.2.1 P3.2.2.2.1, P3.2.2.2.2⟩
  generalize hs4 : ({ s3 with heap := pushCells (s3.heap.push { cls := .type "dict", data := .dict #[] }) scope.names } : Shared) = s4 at I4 ⊢
  have st4' : tn 0 s4.heap := by rw [← hs4]; exact st4
  have hcB : L2H.HotC (EL.blkH X s3 H3 scope ce fp p) := ⟨p, hot, by simp⟩
  have stat : ∀ {σ' : L2.St} {H' : Hp} {s' : Shared}, Inv (EL.blkH X s3 H3 scope ce fp p) [] σ' H' s' → (∀ b ∈ fp, H' b = none) → ∀ b ∈ fp, FpOk (EL.blkH X s3 H3 scope ce fp p) [] H' b := fun I' hn b hb =>
    ⟨hn b hb, (I'.ok.exf b hb).1, I'.ok.exfs b hb, .inl hb, fun x c e => (I'.ok.exf b hb).2 x c e, fun q hq => by
      cases List.mem_singleton.mp (show q ∈ [p] from by simpa using hq)
      exact (f3 b hb).1.2.2.2.2.2 p (List.mem_append_left _ hpn)⟩
  have loop : codeAny (model X.prog X.w) X.A (.compLoop (.ListComp elt [⟨tg, iter, ifs, 0⟩] scope pos) 0 (.ref it) (.ref D) ce) (compPost (model X.prog X.w) X.A X.xe use Qf (.ref D) s3.heap.objs.size) s4 := by
    refine compLoop_any (fun n s' => ∃ i H', Inv (EL.blkH X s3 H3 scope ce fp p) [] (wipe σ (own.map (·.2))) H' s' ∧ tn i s'.heap ∧ (∀ b ∈ fp, H' b = none) ∧ V i n H') ?_ m0 ⟨0, H3, I4, st4', fun b hb => (f3 b hb).1.1, w0⟩
    rintro n s5 ⟨i, H5, I5, st5, n5, w5⟩
    rcases turn i n H5 w5 with ⟨stop, qq⟩ | ⟨go, Nx, hNx, step⟩
    · refine thnF (T.done (EL.blkH X s3 H3 scope ce fp p) rfl rfl rfl hcB i [] s5 _ H5 (fun _ _ => False) I5 (stat I5 n5) st5 stop) fun r s6 ⟨hr, I6⟩ => ?_
      subst hr
      have I7 : Inv X pins σ H5 s6 := I3.call' (ch := fp) I6.os I6.base I6.hok I6.bare fun b hb => ⟨(f3 b hb).1.2.2.2.1, (f3 b hb).1.2.1, (f3 b hb).1.2.2.2.2.1, (f3 b hb).1.2.2.2.2.2⟩
      have nC : H5 s3.heap.objs.size = none := by rw [← cL]; exact I6.free
      obtain ⟨m, hn, _⟩ := I6.loc
      have hn : s6.heap.Ns ce.locals m := hn
      rw [cL] at hn
      exact hRR D s3.heap.objs.size s6 m H5 I7 qq hn (I3.fpOk (Nat.le_refl _) nC)
    · refine thnF (T.item (EL.blkH X s3 H3 scope ce fp p) rfl rfl rfl hcB i [] s5 _ H5 (fun _ _ => False) I5 (stat I5 n5) st5 go) fun r s6 ⟨u, hr, h6⟩ => ?_
      subst hr
      refine thnF h6 fun _ s7 ⟨x, H7, I7, r7, y7, st7, n7⟩ => ?_
      refine thnF (pg.run _ s7 _ H7 x u _ (I7.pinned (stat I7 n7) (T.obj _ _ st7)) r7 (step x H7 y7)) fun _ s8 ⟨σ8, H8, I8, hw8, q8⟩ => ?_
      refine thnF (pt.run _ s8 σ8 H8 _ I8 q8) fun b s9 ⟨H9, I9, q9⟩ => ?_
      have fin : ∀ {s' : Shared} {H' : Hp}, Inv (EL.blkH X s3 H3 scope ce fp p) ([] ++ pinsAt fp s7.heap) σ8 H' s' → Nx H' → ∃ m, m < n ∧ ∃ i H', Inv (EL.blkH X s3 H3 scope ce fp p) [] (wipe σ (own.map (·.2))) H' s' ∧ tn i s'.heap ∧ (∀ b ∈ fp, H' b = none) ∧ V i m H' := fun {s' H'} I' nx => by
        obtain ⟨m', hm, w'⟩ := hNx H' nx
        have pin' : ∀ b ∈ fp, ∀ o, s7.heap.get? b = some o → s'.heap.get? b = some o ∧ H' b = none := fun b hb o e =>
          let z := I'.pin (b, o) (List.mem_append_right _ (List.mem_append_right _ (mem_pinsAt hb e)))
          ⟨z.1, z.2.1⟩
        refine ⟨m', hm, i + 1, H', (I'.unpinned (pins := [])).weak (by rw [← hw8, wipe_length]) (fun j v e => (wipe_some (by rw [hw8]; exact e)).1), T.keep _ _ _ st7 fun b hb o e => (pin' b hb o e).1, fun b hb => ?_, w'⟩
        obtain ⟨o, e, _⟩ := T.obj _ _ st7 b hb
        exact (pin' b hb o e).2
      cases b with
      | false => exact fin I9 q9
      | true =>
        refine thnF (pe.run _ s9 σ8 H9 _ I9 q9) fun z s10 ⟨yv, H10, I10, r10, acc, hD10, hz10, nx⟩ => ?_
        exact app_ok (X := EL.blkH X s3 H3 scope ce fp p) I10 hD10 hz10 r10 fun s11 I11 => fin I11 nx
  exact codeAny_compStart_list loop (T.self X.A 0 _ _ _ st4' loop)
theorem pe_lcH {elt tg iter : Expr} {ifs : List Expr} {scope : Scope} {own : List (Str × Nat)} {pos : Pos} {wi : TI} {g : TG} {tt : TT} {te : TE} (hc : L2H.HotC X) (hN : X.N.Nodup) (hi : L2H.PIH X tg iter wi) (ok : BlkOk X.N X.env.scope scope own)
    (hg : ∀ (s : Shared) (H : Hp) (C : Addr) (cl : List (Str × Addr)) (fp : List Addr) (p : Addr × Obj), L2H.Hot1 X.A p → PG (EL.blkH X s H scope (compEnvC scope cl C X.env) fp p) tg g) (ht : ∀ (s : Shared) (H : Hp) (C : Addr) (cl : List (Str × Addr)) (fp : List Addr) (p : Addr × Obj), L2H.Hot1 X.A p → PTs (EL.blkH X s H scope (compEnvC scope cl C X.env) fp p) ifs tt)
    (he : ∀ (s : Shared) (H : Hp) (C : Addr) (cl : List (Str × Addr)) (fp : List Addr) (p : Addr × Obj), L2H.Hot1 X.A p → PE (EL.blkH X s H scope (compEnvC scope cl C X.env) fp p) elt te) (hs : ∀ x, foldedSetIterable iter X.env x = pure x := by intro _; rfl) :
    PE X (.ListComp elt [⟨tg, iter, ifs, 0⟩] scope pos) (tLc wi g tt te (own.map (·.2))) := by
  refine ⟨fun pins s σ H Q I h => ?_⟩
  rw [arm_eval_ListComp]
  refine lcH_core hc hN I hi ok hg ht he hs h fun D C s' m H' I' q hn f => ⟨m, hn, fun h2 sb => ?_⟩
  obtain ⟨f0, f1, f2, f3, f4, f5⟩ := f
  exact ⟨.ref D, H', I'.turned (t' := s'.toks) (fun b o hb e => (sb.2 b hb).trans e) f0 f1 f3 f4 f5, rfl, q⟩
end
end EL
namespace EL
open PySem PySem.Spec PyProof.Rows L2 He TL
/-! ### defs where an exception is being handled -/
def FnHx (P : Program) (w : World) (K : PySem.W.Frag) (mg : Str → Option Value) (base : Heap) (CX : CXT) (k : Nat) (f : Addr) (sp : Sp) : Prop := ∃ fd ps, L2H.FnH P w K mg base CX k f fd ps sp ∧ Binds K fd ps []
section
variable {P : Program} {w : World} {K : PySem.W.Frag} {mg : Str → Option Value} {base : Heap} {CX : CXT} {k : Nat} {x qual : Str} {sp : Sp} {params : Arguments} {body : List Stmt} {scope : Scope} {f : Addr} {fd : FuncData} {ps N : List Str}
theorem fnHx (F : FunD K x qual params body scope [] [] f fd)
    (hb : ∀ (kV doc pm : Value) (an : Option Addr) (cdv ct : Value) (us : List Value), us.length = ps.length → bindArgs (PySem.W.fnOf x qual params body scope .none kV doc pm an cdv ct) ⟨us, []⟩ = pure (ps.zip us))
    (S : FnScope N ps scope) (len : ∀ vs H Q E, sp vs H Q E → vs.length = ps.length)
    (hbody : ∀ (cdv : Value) (A : Around) (outer : List Env) (s : Shared) (H : Hp) (vs : List V) (Q : VK) (E : XK) (p : Addr × Obj), L2H.Hot1 A p → L2H.RoomH k (A.deeper (envOfC qual scope s.heap.objs.size f cdv)) → sp vs H Q E →
      ∃ t, PSs (L2H.cxH CX P w K mg base N qual scope f cdv A outer s H E p) body t ∧ t { nx := fun _ H' => Q .non H', rt := Q } (start N vs) H) : FnHx P w K mg base CX (k + 1) f sp := by
  have b := F.bindsN hb
  obtain ⟨oc, od, dV, kV, doc, pm, an, cdv, ct, osl, rfl, lk, hcd, hD, hK⟩ := F.ex
  exact ⟨_, ps, L2H.fn_ofH lk hcd S len fun A outer s H vs Q E p hot hr h => hbody cdv A outer s H vs Q E p hot hr h, b⟩
theorem FnHx.mono {j : Nat} (F : FnHx P w K mg base CX j f sp) (h : j ≤ k) : FnHx P w K mg base CX k f sp := by
  obtain ⟨fd, ps, F, b⟩ := F
  exact ⟨fd, ps, ⟨F.len, fun A outer s H args us vs Q E p hr => F.run A outer s H args us vs Q E p (hr.mono h)⟩, b⟩
end
section
variable {X : Cx} {CX : CXT} {k : Nat} {C g : Addr} {sp : Sp}
theorem uH64 {A : Around} (r : L2H.RoomH k A) : A.units + 64 < cLine := by have := r.un; omega
theorem uH65 {A : Around} (r : L2H.RoomH k A) : A.units + 65 < cLine := by have := r.un; omega
theorem uH0 {A : Around} (r : L2H.RoomH k A) : A.units < cLine := by have := r.un; omega
theorem uH1 {A : Around} (r : L2H.RoomH k A) : A.units + 1 < cLine := by have := r.un; omega
theorem uH {A : Around} (r : L2H.RoomH k A) : A.units + 66 < cLine := by have := r.un; omega
theorem runH_at {A : Around} {E : XK} {pins : List (Addr × Obj)} {σ : L2.St} {H : Hp} {s : Shared} {Q : VK} {us : List Value} {vs : List V} (F : FnHx X.prog X.w X.K X.mg X.base CX k g sp) (hr : L2H.RoomH k A) (hA : A.handled = X.A.handled) (e0 : Env0 X.prog X.w X.K X.mg X.base A X.stack s H) (hc : L2H.HotC X) (hx : PassesAt CX X σ E)
    (I : Inv X pins σ H s) (r : Vals vs us) (h : sp vs H Q E) : codeAny (model X.prog X.w) A (.call (.ref g) ⟨us, []⟩) (fun r s' => match r with | .ok (.ret v) => EP X pins σ Q v s' | .ok _ => False | .error e => X.xe e s') s := by
  obtain ⟨fd, ps, F, hb⟩ := F
  obtain ⟨p, ⟨h1, h2⟩, hp⟩ := hc
  have b := hb s us I.kIn (by rw [List.append_nil, ← r.length]; exact F.len _ _ _ _ h)
  rw [List.append_nil] at b
  have P1 := I.pin p (List.mem_append_left _ hp)
  have hpin : L2H.PinOk X.stack H s p := ⟨P1.1, P1.2.1, fun hm => (List.mem_cons.mp (I.stkSub p.1 hm)).elim P1.2.2.1 P1.2.2.2.1, P1.2.2.2.2⟩
  refine codeAny_mono (F.run A X.stack s H ⟨us, []⟩ us vs Q E p hr ⟨hA.trans h1, h2⟩ hpin e0 b r h) fun r s' hq => ?_
  cases r with
  | error e => exact hx pins H s e s' I hq
  | ok fl =>
    cases fl with
    | ret u => exact I.after hq
    | next => exact False.elim hq
    | brk => exact False.elim hq
    | cont => exact False.elim hq
theorem px0H {σ : L2.St} : PassesAt CX0 X σ E0 := fun _ _ _ _ _ _ h => h.elim
theorem op_cmpOH {op : CmpOp} (hop : ∀ a b, compareOp op a b = richCompare op a b) (hs : PySem.W.findIn X.K (.ref C) (cmpInfo op).2.1 = some (some (.ref g))) (hf : PySem.W.isFn X.K (.ref g) = true) (F : FnHx X.prog X.w X.K X.mg X.base CX0 k g sp)
    (hr : L2H.RoomH k X.A) (hc : L2H.HotC X) : OpR X (compareOp op) (rCmpO X.K C sp E0) := by
  intro pins s σ H x y v u Q I rx ry h
  obtain ⟨a, dx, fs, t, rfl, ha, ty, hn, q⟩ := h
  cases (show v = Value.ref a from rx)
  obtain ⟨ox, od, J, _⟩ := ins_at I ha
  obtain ⟨P, Z, p, _⟩ := kit_of I ry ty
  obtain ⟨m, hF⟩ := I.fr
  rw [hop]
  refine PySem.W.cmp_K (op := op) (tb := t) (by have := uH hr; omega) hF I.ok.mod.kin J (Z.ty _ _ I.kIn p) hn hs hf ?_
  refine wpAny_mono (wpAny_call (runH_at (us := [.ref a, u]) (vs := [.ref a, y]) F hr rfl I.env0 hc px0H I (.cons rfl (.cons ry .nil)) q)) (fun w s' z => ?_) fun _ _ x => x
  obtain ⟨z', H', I', rz, qz⟩ := z
  exact SlX.cmpback rz ⟨z', H', I', rz, qz⟩
end
end EL
namespace EL
open PySem PySem.Spec PyProof.Rows L2 He TL
section
variable {X : Cx} {CX : CXT} {k : Nat} {C g : Addr} {sp : Sp}
theorem roomH_mark {A : Around} {hd : Option Value} (r : Room k A) : L2H.RoomH k (A.mark hd) := ⟨r.dp, r.un⟩
theorem RoomH_in1 {A : Around} (r : L2H.RoomH (k + 1) A) : L2H.RoomH k A.in1 := ⟨by have := r.dp; show A.depth + 3 * k + 5 < _; omega, by have := r.un; show A.units + 1 + 16 * k + 200 < _; omega⟩
theorem op_neOH (c : OC X.K C) (hn : PySem.W.findIn X.K (.ref C) "__ne__" = some (some (.builtin "object.__ne__"))) (hs : PySem.W.findIn X.K (.ref C) "__eq__" = some (some (.ref g))) (hf : PySem.W.isFn X.K (.ref g) = true) (F : FnHx X.prog X.w X.K X.mg X.base CX0 k g sp)
    (hr : L2H.RoomH (k + 1) X.A) (hc : L2H.HotC X) : OpR X (compareOp .NotEq) (rNeO X.K C sp E0) := by
  intro pins s σ H x y v u Q I rx ry h
  obtain ⟨a, dx, fs, t, rfl, ha, ty, hnf, q⟩ := h
  cases (show v = Value.ref a from rx)
  obtain ⟨ox, od, J, _⟩ := ins_at I ha
  obtain ⟨P, Z, p, _⟩ := kit_of I ry ty
  show wpAny _ X.A (richCompare .NotEq (.ref a) u) _ _ s
  refine ne_own (tb := t) (by have := uH hr; omega) I.kIn J (Z.ty _ _ I.kIn p) hnf hn c.ob hs hf ?_
  refine wpAny_mono (wpAny_call (runH_at (A := X.A.in1) (us := [.ref a, u]) (vs := [.ref a, y]) F (RoomH_in1 hr) rfl I.env0.in1 hc px0H I (.cons rfl (.cons ry .nil)) q)) (fun w s' z => ?_) fun _ _ x => x
  obtain ⟨z', H', I', rz, b, eb, qz⟩ := z
  subst eb
  cases (show w = Value.bool b from rz)
  exact ⟨b, rfl, .bl (!b), H', I', rfl, qz⟩
/-- raise C('..') where an exception is being handled -/
theorem rsH {W : WX} {c m : Str} {j : Nat} {p p2 pos pos2 : Pos} (hc : L2H.HotC X) (tk : Takes X W) (x : XC X.K X.mg c) (hg : Gl X c) (hdb : (c == ("__debug__" : Str)) = false := by decide) :
    PS X (.Raise (some (.Call (.Name c p) [.Constant (.str m) j p2] [] pos)) none pos2) (fun _ σ H => W (.ref (ga X.K c)) none σ H) :=
  L2H.ps_raiseH hc tk (L2N.pmk_own PySem.F.excBase_ValueError x.q x.g x.k (raises_own x.b x.t) hg hdb)
/-- the same in a def whose exceptions bear no context -/
theorem rsN {W : WX} {c m : Str} {j : Nat} {p p2 pos pos2 : Pos} (hc : X.calm = true) (tk : L2N.Takes X W) (x : XC X.K X.mg c) (hg : Gl X c) (hdb : (c == ("__debug__" : Str)) = false := by decide) :
    PS X (.Raise (some (.Call (.Name c p) [.Constant (.str m) j p2] [] pos)) none pos2) (fun _ σ H => W (.ref (ga X.K c)) none σ H) :=
  L2N.ps_raise hc tk (L2N.pmk_own PySem.F.excBase_ValueError x.q x.g x.k (raises_own x.b x.t) hg hdb)
theorem pxN {W : WX} (tk : L2N.Takes X W) : ∀ σ, PassesAt (L2N.CX X.prog X.w) X σ (WE W σ) := fun σ => L2N.passAt tk σ
theorem ps_augOH {E : L2.St → XK} {op : Operator} {i : Nat} {x : Str} {e : Expr} {te : TE} {pos pos' : Pos} (hN : X.N.Nodup) (hi : X.N[i]? = some x) (hx : Loc X.env.scope x) (hc : PySem.W.selfFirst X.K C = true) (hs : PySem.W.findIn X.K (.ref C) (PySem.dunderI op.info.2) = some (some (.ref g))) (hf : PySem.W.isFn X.K (.ref g) = true)
    (F : FnHx X.prog X.w X.K X.mg X.base CX k g sp) (hr : L2H.RoomH k X.A) (hot : L2H.HotC X) (hp : ∀ σ, PassesAt CX X σ (E σ)) (he : PE X e te) (hl' : X.fn x = true ∨ X.env.scope.names.lookup x = some .local := by first | exact .inl rfl | exact .inr rfl | assumption) :
    PS X (.AugAssign (.Name x pos') op e pos) (tAugX i C sp E te) := by
  refine ⟨fun pins s σ H D I h => ?_⟩
  obtain ⟨v, e1, h⟩ := h
  obtain ⟨m0, hn, hl⟩ := I.loc
  have vis : Vis X.env.scope x := hx.elim .inl fun k => .inr (.inl k)
  obtain ⟨u, r, l⟩ := hl i x v hi e1 vis
  refine wpAny_AugAssign_Name ?_
  have go : wpAny (model X.prog X.w) X.A (eval e X.env) (fun w s₂ => wpAny (model X.prog X.w) X.A (inplaceOp op u w) (fun r s₃ => wpAny (model X.prog X.w) X.A (storeName X.env x r) (fun _ => SP X pins D .next) X.xe s₃) X.xe s₂) X.xe s := by
    refine thn (he.run pins s σ H _ I h) fun w s1 ⟨y, H1, I1, r1, q1⟩ => ?_
    have step : wpAny (model X.prog X.w) X.A (inplaceOp op u w) (EP X pins σ fun z H2 => D.nx (σ.set i (some z)) H2) X.xe s1 := by
      obtain ⟨a, dx, fs, rfl, ha, q⟩ := q1
      cases (show u = Value.ref a from r)
      obtain ⟨ox, od, J, _⟩ := ins_at I1 ha
      obtain ⟨m, hF⟩ := I1.fr
      refine PySem.W.ksp_inplace hF I1.ok.mod.kin J hc hs hf ?_
      refine wpAny_mono (wpAny_call (runH_at (us := [.ref a, w]) (vs := [.ref a, y]) F hr rfl I1.env0 hot (hp σ) I1 (.cons rfl (.cons r1 .nil)) q)) (fun w s' z => ?_) fun _ _ x => x
      obtain ⟨z', H', I', rz, qz⟩ := z
      exact SlX.cmpback rz ⟨z', H', I', rz, qz⟩
    exact thn step fun z s2 ⟨zv, H2, I2, r2, q2⟩ => store_ok I2 hN hi hx r2 (fun s3 I3 => ⟨_, H2, I3, q2⟩) hl'
  rcases l with ⟨hk, hm⟩ | ⟨hk, c, hc, hcell⟩
  · exact wpAny_loadName_local I.ok.kind hk hn hm go
  · refine hk.elim (fun hk => wpAny_loadName_cell I.ok.kind hk hc hcell go) fun hk => ?_
    have z : X.env.scope.names.lookup x = some .free := hk
    rcases hx with k | k <;> (rw [k] at z; cases z)
end
end EL
namespace K51
open PySem PySem.Spec PyProof.Rows L2 He TL EL
structure Txt (K : PySem.W.Frag) (mg : Str → Option Value) : Prop where
  g_is_whole : mg "is_whole" = some (.ref (ga K "is_whole"))
  g_is_word : mg "is_word" = some (.ref (ga K "is_word"))
  g_common_divisor : mg "common_divisor" = some (.ref (ga K "common_divisor"))
  g_is_value : mg "is_value" = some (.ref (ga K "is_value"))
  g_less : mg "less" = some (.ref (ga K "less"))
  g_is_term : mg "is_term" = some (.ref (ga K "is_term"))
  g_is_atom : mg "is_atom" = some (.ref (ga K "is_atom"))
  g_is_column_count : mg "is_column_count" = some (.ref (ga K "is_column_count"))
  g_names_cells : mg "names_cells" = some (.ref (ga K "names_cells"))
  g_are_row_rules : mg "are_row_rules" = some (.ref (ga K "are_row_rules"))
  g_is_stock_item : mg "is_stock_item" = some (.ref (ga K "is_stock_item"))
  g_look_at_stock : mg "look_at_stock" = some (.ref (ga K "look_at_stock"))
  g_is_chosen : mg "is_chosen" = some (.ref (ga K "is_chosen"))
  g_with_stock : mg "with_stock" = some (.ref (ga K "with_stock"))
  g_least_sets : mg "least_sets" = some (.ref (ga K "least_sets"))
  g_floors : mg "floors" = some (.ref (ga K "floors"))
  g_are_words : mg "are_words" = some (.ref (ga K "are_words"))
  g_maker_of : mg "maker_of" = some (.ref (ga K "maker_of"))
  g_base : mg "base" = some (.ref (ga K "base"))
  g__law_begin : mg "_law_begin" = some (.ref (ga K "_law_begin"))
  g__law_draw : mg "_law_draw" = some (.ref (ga K "_law_draw"))
  g__law_atom : mg "_law_atom" = some (.ref (ga K "_law_atom"))
  g__law_rules : mg "_law_rules" = some (.ref (ga K "_law_rules"))
  g__law_item : mg "_law_item" = some (.ref (ga K "_law_item"))
  g__law_wrong : mg "_law_wrong" = some (.ref (ga K "_law_wrong"))
  g__law_asked : mg "_law_asked" = some (.ref (ga K "_law_asked"))
  g__law_choice_refused : mg "_law_choice_refused" = some (.ref (ga K "_law_choice_refused"))
  g__law_is : mg "_law_is" = some (.ref (ga K "_law_is"))
  g__law_wrong_choices : mg "_law_wrong_choices" = some (.ref (ga K "_law_wrong_choices"))
  g__law_begun : mg "_law_begun" = some (.ref (ga K "_law_begun"))
  g__law_good : mg "_law_good" = some (.ref (ga K "_law_good"))
  g_law : mg "law" = some (.ref (ga K "law"))
  g_NotSingle : mg "NotSingle" = some (.ref (ga K "NotSingle"))
  g_NoPoint : mg "NoPoint" = some (.ref (ga K "NoPoint"))
  g_NoTable : mg "NoTable" = some (.ref (ga K "NoTable"))
  g_NoRow : mg "NoRow" = some (.ref (ga K "NoRow"))
  g_BadRow : mg "BadRow" = some (.ref (ga K "BadRow"))
  g_NoRule : mg "NoRule" = some (.ref (ga K "NoRule"))
  g_TwoAnswers : mg "TwoAnswers" = some (.ref (ga K "TwoAnswers"))
  g_TooLarge : mg "TooLarge" = some (.ref (ga K "TooLarge"))
  g_NoStock : mg "NoStock" = some (.ref (ga K "NoStock"))
  g_Conditions : mg "Conditions" = some (.ref (ga K "Conditions"))
  g_Cell : mg "Cell" = some (.ref (ga K "Cell"))
  g_Maker : mg "Maker" = some (.ref (ga K "Maker"))
  g_Web : mg "Web" = some (.ref (ga K "Web"))
  g_Frame : mg "Frame" = some (.ref (ga K "Frame"))
  g_Reach : mg "Reach" = some (.ref (ga K "Reach"))
  g_Schema : mg "Schema" = some (.ref (ga K "Schema"))
  g_Tables : mg "Tables" = some (.ref (ga K "Tables"))
  g_Rule : mg "Rule" = some (.ref (ga K "Rule"))
  g_Question : mg "Question" = some (.ref (ga K "Question"))
  x_AskError : XC K mg "AskError"
  x_NoValue : XC K mg "NoValue"
  x_NoCell : XC K mg "NoCell"
  x_NoCondition : XC K mg "NoCondition"
  x_NotMet : XC K mg "NotMet"
  x_NoQuestion : XC K mg "NoQuestion"
  x_NoNode : XC K mg "NoNode"
  x_NoWord : XC K mg "NoWord"
  g_LETTERS : ∃ u, mg "LETTERS" = some u ∧ RelV (.str "abcdefghijklmnopqrstuvwxyz") u
  g_SIGNS : mg "SIGNS" = some (.ref (ga K "SIGNS"))
  g_NEGATED : mg "NEGATED" = some (.ref (ga K "NEGATED"))
  g_PLACES : mg "PLACES" = some (.ref (ga K "PLACES"))
  g_MOST_COLUMNS : ∃ u, mg "MOST_COLUMNS" = some u ∧ RelV (.int 3) u
  g_MOST_FULLS : ∃ u, mg "MOST_FULLS" = some u ∧ RelV (.int 20000) u
  g_MOST_SHAPES : ∃ u, mg "MOST_SHAPES" = some u ∧ RelV (.int 6000) u
  g_MOST_STOCK : ∃ u, mg "MOST_STOCK" = some u ∧ RelV (.int 5) u
  g_MOST_ANSWERS : ∃ u, mg "MOST_ANSWERS" = some u ∧ RelV (.int 3) u
  g_TABLE_PLACES : mg "TABLE_PLACES" = some (.ref (ga K "TABLE_PLACES"))
  z_ValueError : mg "ValueError" = none
  z_super : mg "super" = none
  z_isinstance : mg "isinstance" = none
  z_int : mg "int" = none
  z_bool : mg "bool" = none
  z_str : mg "str" = none
  z_len : mg "len" = none
  z_abs : mg "abs" = none
  z_tuple : mg "tuple" = none
  z_list : mg "list" = none
  z_staticmethod : mg "staticmethod" = none
  z_range : mg "range" = none
  z_zip : mg "zip" = none
  z_all : mg "all" = none
  z_sum : mg "sum" = none
  z_enumerate : mg "enumerate" = none
  z_sorted : mg "sorted" = none
  z_iter : mg "iter" = none
  z_dict : mg "dict" = none
  z_any : mg "any" = none
  e_NoCell_NoCell : PySem.W.exmOne K (.ref (ga K "NoCell")) (.ref (ga K "NoCell")) = some true
  e_NoStock_NoStock : PySem.W.exmOne K (.ref (ga K "NoStock")) (.ref (ga K "NoStock")) = some true
  m_Conditions : Mk K (ga K "Conditions") (ma K (ga K "Conditions") "__init__")
  h_Conditions_atoms : Meth K (ga K "Conditions") "atoms" (ma K (ga K "Conditions") "atoms")
  h_Conditions___len__ : Meth K (ga K "Conditions") "__len__" (ma K (ga K "Conditions") "__len__")
  h_Conditions___eq__ : Meth K (ga K "Conditions") "__eq__" (ma K (ga K "Conditions") "__eq__")
  h_Conditions___and__ : Meth K (ga K "Conditions") "__and__" (ma K (ga K "Conditions") "__and__")
  h_Conditions___iand__ : Meth K (ga K "Conditions") "__iand__" (ma K (ga K "Conditions") "__iand__")
  m_Cell : Mk K (ga K "Cell") (ma K (ga K "Cell") "__init__")
  m_Maker : Mk K (ga K "Maker") (ma K (ga K "Maker") "__init__")
  h_Maker_terms : Meth K (ga K "Maker") "terms" (ma K (ga K "Maker") "terms")
  h_Maker___len__ : Meth K (ga K "Maker") "__len__" (ma K (ga K "Maker") "__len__")
  h_Maker___eq__ : Meth K (ga K "Maker") "__eq__" (ma K (ga K "Maker") "__eq__")
  m_Schema : Mk K (ga K "Schema") (ma K (ga K "Schema") "__init__")
  h_Schema___len__ : Meth K (ga K "Schema") "__len__" (ma K (ga K "Schema") "__len__")
  h_Schema___contains__ : Meth K (ga K "Schema") "__contains__" (ma K (ga K "Schema") "__contains__")
  h_Schema_names : Meth K (ga K "Schema") "names" (ma K (ga K "Schema") "names")
  h_Schema_add : Meth K (ga K "Schema") "add" (ma K (ga K "Schema") "add")
  h_Schema_columns : Meth K (ga K "Schema") "columns" (ma K (ga K "Schema") "columns")
  h_Schema_rules : Meth K (ga K "Schema") "rules" (ma K (ga K "Schema") "rules")
  h_Schema_narrow : Meth K (ga K "Schema") "narrow" (ma K (ga K "Schema") "narrow")
  h_Schema_twin : Meth K (ga K "Schema") "twin" (ma K (ga K "Schema") "twin")
  m_Rule : Mk K (ga K "Rule") (ma K (ga K "Rule") "__init__")
  h_Rule_is_step : Meth K (ga K "Rule") "is_step" (ma K (ga K "Rule") "is_step")
  h_Rule_answer : Meth K (ga K "Rule") "answer" (ma K (ga K "Rule") "answer")
  h_Rule_old : Meth K (ga K "Rule") "old" (ma K (ga K "Rule") "old")
  h_Rule_tables : Meth K (ga K "Rule") "tables" (ma K (ga K "Rule") "tables")
  h_Rule_maker : Meth K (ga K "Rule") "maker" (ma K (ga K "Rule") "maker")
  h_Rule_conditions : Meth K (ga K "Rule") "conditions" (ma K (ga K "Rule") "conditions")
  h_Rule_depths : Meth K (ga K "Rule") "depths" (ma K (ga K "Rule") "depths")
  h_Rule___eq__ : Meth K (ga K "Rule") "__eq__" (ma K (ga K "Rule") "__eq__")
  m_Question : Mk K (ga K "Question") (ma K (ga K "Question") "__init__")
  h_Question___len__ : Meth K (ga K "Question") "__len__" (ma K (ga K "Question") "__len__")
  h_Question_schema : Meth K (ga K "Question") "schema" (ma K (ga K "Question") "schema")
  h_Question_answers : Meth K (ga K "Question") "answers" (ma K (ga K "Question") "answers")
  h_Question_places_of : Meth K (ga K "Question") "places_of" (ma K (ga K "Question") "places_of")
  h_Question_look : Meth K (ga K "Question") "look" (ma K (ga K "Question") "look")
  h_Question_add : Meth K (ga K "Question") "add" (ma K (ga K "Question") "add")
  h_Question_rule : Meth K (ga K "Question") "rule" (ma K (ga K "Question") "rule")
  h_Question_narrow : Meth K (ga K "Question") "narrow" (ma K (ga K "Question") "narrow")
  h_Question_without : Meth K (ga K "Question") "without" (ma K (ga K "Question") "without")
  h_Question_twin : Meth K (ga K "Question") "twin" (ma K (ga K "Question") "twin")
  n_Conditions_kept_atoms : NoAttr K (ga K "Conditions") "kept_atoms"
  n_Cell_place : NoAttr K (ga K "Cell") "place"
  n_Cell_at : NoAttr K (ga K "Cell") "at"
  n_Maker_kept_terms : NoAttr K (ga K "Maker") "kept_terms"
  n_Schema_widths : NoAttr K (ga K "Schema") "widths"
  n_Schema_limits : NoAttr K (ga K "Schema") "limits"
  n_Rule_made : NoAttr K (ga K "Rule") "made"
  n_Rule_source : NoAttr K (ga K "Rule") "source"
  n_Rule_joined : NoAttr K (ga K "Rule") "joined"
  n_Rule_making : NoAttr K (ga K "Rule") "making"
  n_Rule_demanded : NoAttr K (ga K "Rule") "demanded"
  n_Rule_span : NoAttr K (ga K "Rule") "span"
  n_Question_form : NoAttr K (ga K "Question") "form"
  n_Question_widths : NoAttr K (ga K "Question") "widths"
  n_Question_steps : NoAttr K (ga K "Question") "steps"
  n_Question_extra : NoAttr K (ga K "Question") "extra"
  f_is_whole : ∃ fd, FunD K "is_whole" "is_whole" (defArgs s_is_whole) (defBody s_is_whole) (defScope s_is_whole) ([] : List V) [] (ga K "is_whole") fd
  f_is_word : ∃ fd, FunD K "is_word" "is_word" (defArgs s_is_word) (defBody s_is_word) (defScope s_is_word) ([] : List V) [] (ga K "is_word") fd
  f_common_divisor : ∃ fd, FunD K "common_divisor" "common_divisor" (defArgs s_common_divisor) (defBody s_common_divisor) (defScope s_common_divisor) ([] : List V) [] (ga K "common_divisor") fd
  f_is_value : ∃ fd, FunD K "is_value" "is_value" (defArgs s_is_value) (defBody s_is_value) (defScope s_is_value) ([] : List V) [] (ga K "is_value") fd
  f_less : ∃ fd, FunD K "less" "less" (defArgs s_less) (defBody s_less) (defScope s_less) ([] : List V) [] (ga K "less") fd
  f_is_term : ∃ fd, FunD K "is_term" "is_term" (defArgs s_is_term) (defBody s_is_term) (defScope s_is_term) ([] : List V) [] (ga K "is_term") fd
  f_is_atom : ∃ fd, FunD K "is_atom" "is_atom" (defArgs s_is_atom) (defBody s_is_atom) (defScope s_is_atom) ([] : List V) [] (ga K "is_atom") fd
  f_Conditions___init__ : ∃ fd, FunD K "__init__" "Conditions.__init__" (defArgs s_Conditions___init__) (defBody s_Conditions___init__) (defScope s_Conditions___init__) ([.ref (dflAt ("Conditions", some "__init__") 0 K)] : List V) [] (ma K (ga K "Conditions") "__init__") fd
  f_Conditions_atoms : ∃ fd, FunD K "atoms" "Conditions.atoms" (defArgs s_Conditions_atoms) (defBody s_Conditions_atoms) (defScope s_Conditions_atoms) ([] : List V) [] (ma K (ga K "Conditions") "atoms") fd
  f_Conditions___len__ : ∃ fd, FunD K "__len__" "Conditions.__len__" (defArgs s_Conditions___len__) (defBody s_Conditions___len__) (defScope s_Conditions___len__) ([] : List V) [] (ma K (ga K "Conditions") "__len__") fd
  f_Conditions___eq__ : ∃ fd, FunD K "__eq__" "Conditions.__eq__" (defArgs s_Conditions___eq__) (defBody s_Conditions___eq__) (defScope s_Conditions___eq__) ([] : List V) [] (ma K (ga K "Conditions") "__eq__") fd
  f_Conditions___and__ : ∃ fd, FunD K "__and__" "Conditions.__and__" (defArgs s_Conditions___and__) (defBody s_Conditions___and__) (defScope s_Conditions___and__) ([] : List V) [] (ma K (ga K "Conditions") "__and__") fd
  f_Conditions___iand__ : ∃ fd, FunD K "__iand__" "Conditions.__iand__" (defArgs s_Conditions___iand__) (defBody s_Conditions___iand__) (defScope s_Conditions___iand__) ([] : List V) [] (ma K (ga K "Conditions") "__iand__") fd
  f_Cell___init__ : ∃ fd, FunD K "__init__" "Cell.__init__" (defArgs s_Cell___init__) (defBody s_Cell___init__) (defScope s_Cell___init__) ([] : List V) [] (ma K (ga K "Cell") "__init__") fd
  f_Cell_of : ∃ fd, FunD K "of" "Cell.of" (defArgs s_Cell_of) (defBody s_Cell_of) (defScope s_Cell_of) ([] : List V) [] (He5.wf K (ga K "Cell") "staticmethod" "of") fd
  f_Maker___init__ : ∃ fd, FunD K "__init__" "Maker.__init__" (defArgs s_Maker___init__) (defBody s_Maker___init__) (defScope s_Maker___init__) ([] : List V) [] (ma K (ga K "Maker") "__init__") fd
  f_Maker_terms : ∃ fd, FunD K "terms" "Maker.terms" (defArgs s_Maker_terms) (defBody s_Maker_terms) (defScope s_Maker_terms) ([] : List V) [] (ma K (ga K "Maker") "terms") fd
  f_Maker___len__ : ∃ fd, FunD K "__len__" "Maker.__len__" (defArgs s_Maker___len__) (defBody s_Maker___len__) (defScope s_Maker___len__) ([] : List V) [] (ma K (ga K "Maker") "__len__") fd
  f_Maker___eq__ : ∃ fd, FunD K "__eq__" "Maker.__eq__" (defArgs s_Maker___eq__) (defBody s_Maker___eq__) (defScope s_Maker___eq__) ([] : List V) [] (ma K (ga K "Maker") "__eq__") fd
  f_is_column_count : ∃ fd, FunD K "is_column_count" "is_column_count" (defArgs s_is_column_count) (defBody s_is_column_count) (defScope s_is_column_count) ([] : List V) [] (ga K "is_column_count") fd
  f_names_cells : ∃ fd, FunD K "names_cells" "names_cells" (defArgs s_names_cells) (defBody s_names_cells) (defScope s_names_cells) ([] : List V) [] (ga K "names_cells") fd
  f_are_row_rules : ∃ fd, FunD K "are_row_rules" "are_row_rules" (defArgs s_are_row_rules) (defBody s_are_row_rules) (defScope s_are_row_rules) ([] : List V) [] (ga K "are_row_rules") fd
  f_Schema___init__ : ∃ fd, FunD K "__init__" "Schema.__init__" (defArgs s_Schema___init__) (defBody s_Schema___init__) (defScope s_Schema___init__) ([.non, .non] : List V) [] (ma K (ga K "Schema") "__init__") fd
  f_Schema___len__ : ∃ fd, FunD K "__len__" "Schema.__len__" (defArgs s_Schema___len__) (defBody s_Schema___len__) (defScope s_Schema___len__) ([] : List V) [] (ma K (ga K "Schema") "__len__") fd
  f_Schema___contains__ : ∃ fd, FunD K "__contains__" "Schema.__contains__" (defArgs s_Schema___contains__) (defBody s_Schema___contains__) (defScope s_Schema___contains__) ([] : List V) [] (ma K (ga K "Schema") "__contains__") fd
  f_Schema_names : ∃ fd, FunD K "names" "Schema.names" (defArgs s_Schema_names) (defBody s_Schema_names) (defScope s_Schema_names) ([] : List V) [] (ma K (ga K "Schema") "names") fd
  f_Schema_add : ∃ fd, FunD K "add" "Schema.add" (defArgs s_Schema_add) (defBody s_Schema_add) (defScope s_Schema_add) ([.non] : List V) [] (ma K (ga K "Schema") "add") fd
  f_Schema_columns : ∃ fd, FunD K "columns" "Schema.columns" (defArgs s_Schema_columns) (defBody s_Schema_columns) (defScope s_Schema_columns) ([] : List V) [] (ma K (ga K "Schema") "columns") fd
  f_Schema_rules : ∃ fd, FunD K "rules" "Schema.rules" (defArgs s_Schema_rules) (defBody s_Schema_rules) (defScope s_Schema_rules) ([] : List V) [] (ma K (ga K "Schema") "rules") fd
  f_Schema_narrow : ∃ fd, FunD K "narrow" "Schema.narrow" (defArgs s_Schema_narrow) (defBody s_Schema_narrow) (defScope s_Schema_narrow) ([] : List V) [] (ma K (ga K "Schema") "narrow") fd
  f_Schema_twin : ∃ fd, FunD K "twin" "Schema.twin" (defArgs s_Schema_twin) (defBody s_Schema_twin) (defScope s_Schema_twin) ([] : List V) [] (ma K (ga K "Schema") "twin") fd
  f_is_stock_item : ∃ fd, FunD K "is_stock_item" "is_stock_item" (defArgs s_is_stock_item) (defBody s_is_stock_item) (defScope s_is_stock_item) ([] : List V) [] (ga K "is_stock_item") fd
  f_look_at_stock : ∃ fd, FunD K "look_at_stock" "look_at_stock" (defArgs s_look_at_stock) (defBody s_look_at_stock) (defScope s_look_at_stock) ([] : List V) [] (ga K "look_at_stock") fd
  f_is_chosen : ∃ fd, FunD K "is_chosen" "is_chosen" (defArgs s_is_chosen) (defBody s_is_chosen) (defScope s_is_chosen) ([] : List V) [] (ga K "is_chosen") fd
  f_with_stock : ∃ fd, FunD K "with_stock" "with_stock" (defArgs s_with_stock) (defBody s_with_stock) (defScope s_with_stock) ([] : List V) [] (ga K "with_stock") fd
  f_least_sets : ∃ fd, FunD K "least_sets" "least_sets" (defArgs s_least_sets) (defBody s_least_sets) (defScope s_least_sets) ([] : List V) [] (ga K "least_sets") fd
  f_floors : ∃ fd, FunD K "floors" "floors" (defArgs s_floors) (defBody s_floors) (defScope s_floors) ([] : List V) [] (ga K "floors") fd
  f_are_words : ∃ fd, FunD K "are_words" "are_words" (defArgs s_are_words) (defBody s_are_words) (defScope s_are_words) ([] : List V) [] (ga K "are_words") fd
  f_maker_of : ∃ fd, FunD K "maker_of" "maker_of" (defArgs s_maker_of) (defBody s_maker_of) (defScope s_maker_of) ([] : List V) [] (ga K "maker_of") fd
  f_Rule___init__ : ∃ fd, FunD K "__init__" "Rule.__init__" (defArgs s_Rule___init__) (defBody s_Rule___init__) (defScope s_Rule___init__) ([] : List V) [] (ma K (ga K "Rule") "__init__") fd
  f_Rule_is_step : ∃ fd, FunD K "is_step" "Rule.is_step" (defArgs s_Rule_is_step) (defBody s_Rule_is_step) (defScope s_Rule_is_step) ([] : List V) [] (ma K (ga K "Rule") "is_step") fd
  f_Rule_answer : ∃ fd, FunD K "answer" "Rule.answer" (defArgs s_Rule_answer) (defBody s_Rule_answer) (defScope s_Rule_answer) ([] : List V) [] (ma K (ga K "Rule") "answer") fd
  f_Rule_old : ∃ fd, FunD K "old" "Rule.old" (defArgs s_Rule_old) (defBody s_Rule_old) (defScope s_Rule_old) ([] : List V) [] (ma K (ga K "Rule") "old") fd
  f_Rule_tables : ∃ fd, FunD K "tables" "Rule.tables" (defArgs s_Rule_tables) (defBody s_Rule_tables) (defScope s_Rule_tables) ([] : List V) [] (ma K (ga K "Rule") "tables") fd
  f_Rule_maker : ∃ fd, FunD K "maker" "Rule.maker" (defArgs s_Rule_maker) (defBody s_Rule_maker) (defScope s_Rule_maker) ([] : List V) [] (ma K (ga K "Rule") "maker") fd
  f_Rule_conditions : ∃ fd, FunD K "conditions" "Rule.conditions" (defArgs s_Rule_conditions) (defBody s_Rule_conditions) (defScope s_Rule_conditions) ([] : List V) [] (ma K (ga K "Rule") "conditions") fd
  f_Rule_depths : ∃ fd, FunD K "depths" "Rule.depths" (defArgs s_Rule_depths) (defBody s_Rule_depths) (defScope s_Rule_depths) ([] : List V) [] (ma K (ga K "Rule") "depths") fd
  f_Rule___eq__ : ∃ fd, FunD K "__eq__" "Rule.__eq__" (defArgs s_Rule___eq__) (defBody s_Rule___eq__) (defScope s_Rule___eq__) ([] : List V) [] (ma K (ga K "Rule") "__eq__") fd
  f_base : ∃ fd, FunD K "base" "base" (defArgs s_base) (defBody s_base) (defScope s_base) ([.non] : List V) [] (ga K "base") fd
  f_Question___init__ : ∃ fd, FunD K "__init__" "Question.__init__" (defArgs s_Question___init__) (defBody s_Question___init__) (defScope s_Question___init__) ([.non, .ref (dflAt ("Question", some "__init__") 1 K)] : List V) [] (ma K (ga K "Question") "__init__") fd
  f_Question___len__ : ∃ fd, FunD K "__len__" "Question.__len__" (defArgs s_Question___len__) (defBody s_Question___len__) (defScope s_Question___len__) ([] : List V) [] (ma K (ga K "Question") "__len__") fd
  f_Question_schema : ∃ fd, FunD K "schema" "Question.schema" (defArgs s_Question_schema) (defBody s_Question_schema) (defScope s_Question_schema) ([] : List V) [] (ma K (ga K "Question") "schema") fd
  f_Question_answers : ∃ fd, FunD K "answers" "Question.answers" (defArgs s_Question_answers) (defBody s_Question_answers) (defScope s_Question_answers) ([] : List V) [] (ma K (ga K "Question") "answers") fd
  f_Question_places_of : ∃ fd, FunD K "places_of" "Question.places_of" (defArgs s_Question_places_of) (defBody s_Question_places_of) (defScope s_Question_places_of) ([] : List V) [] (ma K (ga K "Question") "places_of") fd
  f_Question_look : ∃ fd, FunD K "look" "Question.look" (defArgs s_Question_look) (defBody s_Question_look) (defScope s_Question_look) ([] : List V) [] (ma K (ga K "Question") "look") fd
  f_Question_add : ∃ fd, FunD K "add" "Question.add" (defArgs s_Question_add) (defBody s_Question_add) (defScope s_Question_add) ([] : List V) [] (ma K (ga K "Question") "add") fd
  f_Question_rule : ∃ fd, FunD K "rule" "Question.rule" (defArgs s_Question_rule) (defBody s_Question_rule) (defScope s_Question_rule) ([] : List V) [] (ma K (ga K "Question") "rule") fd
  f_Question_narrow : ∃ fd, FunD K "narrow" "Question.narrow" (defArgs s_Question_narrow) (defBody s_Question_narrow) (defScope s_Question_narrow) ([] : List V) [] (ma K (ga K "Question") "narrow") fd
  f_Question_without : ∃ fd, FunD K "without" "Question.without" (defArgs s_Question_without) (defBody s_Question_without) (defScope s_Question_without) ([] : List V) [] (ma K (ga K "Question") "without") fd
  f_Question_twin : ∃ fd, FunD K "twin" "Question.twin" (defArgs s_Question_twin) (defBody s_Question_twin) (defScope s_Question_twin) ([] : List V) [] (ma K (ga K "Question") "twin") fd
  f__law_begin : ∃ fd, FunD K "_law_begin" "_law_begin" (defArgs s__law_begin) (defBody s__law_begin) (defScope s__law_begin) ([] : List V) [] (ga K "_law_begin") fd
  f__law_draw : ∃ fd, FunD K "_law_draw" "_law_draw" (defArgs s__law_draw) (defBody s__law_draw) (defScope s__law_draw) ([] : List V) [] (ga K "_law_draw") fd
  f__law_atom : ∃ fd, FunD K "_law_atom" "_law_atom" (defArgs s__law_atom) (defBody s__law_atom) (defScope s__law_atom) ([] : List V) [] (ga K "_law_atom") fd
  f__law_rules : ∃ fd, FunD K "_law_rules" "_law_rules" (defArgs s__law_rules) (defBody s__law_rules) (defScope s__law_rules) ([] : List V) [] (ga K "_law_rules") fd
  f__law_item : ∃ fd, FunD K "_law_item" "_law_item" (defArgs s__law_item) (defBody s__law_item) (defScope s__law_item) ([] : List V) [] (ga K "_law_item") fd
  f__law_wrong : ∃ fd, FunD K "_law_wrong" "_law_wrong" (defArgs s__law_wrong) (defBody s__law_wrong) (defScope s__law_wrong) ([] : List V) [] (ga K "_law_wrong") fd
  f__law_asked : ∃ fd, FunD K "_law_asked" "_law_asked" (defArgs s__law_asked) (defBody s__law_asked) (defScope s__law_asked) ([] : List V) [] (ga K "_law_asked") fd
  f__law_choice_refused : ∃ fd, FunD K "_law_choice_refused" "_law_choice_refused" (defArgs s__law_choice_refused) (defBody s__law_choice_refused) (defScope s__law_choice_refused) ([] : List V) [] (ga K "_law_choice_refused") fd
  f__law_is : ∃ fd, FunD K "_law_is" "_law_is" (defArgs s__law_is) (defBody s__law_is) (defScope s__law_is) ([] : List V) [] (ga K "_law_is") fd
  f__law_wrong_choices : ∃ fd, FunD K "_law_wrong_choices" "_law_wrong_choices" (defArgs s__law_wrong_choices) (defBody s__law_wrong_choices) (defScope s__law_wrong_choices) ([] : List V) [] (ga K "_law_wrong_choices") fd
  f__law_begun : ∃ fd, FunD K "_law_begun" "_law_begun" (defArgs s__law_begun) (defBody s__law_begun) (defScope s__law_begun) ([] : List V) [] (ga K "_law_begun") fd
  f__law_good : ∃ fd, FunD K "_law_good" "_law_good" (defArgs s__law_good) (defBody s__law_good) (defScope s__law_good) ([] : List V) [] (ga K "_law_good") fd
  f_law : ∃ fd, FunD K "law" "law" (defArgs s_law) (defBody s_law) (defScope s_law) ([] : List V) [] (ga K "law") fd
  dc0 : ∀ H : Hp, SqT K H (dflAt ("Conditions", some "__init__") 0 K) []
  dq1 : ∀ H : Hp, SqT K H (dflAt ("Question", some "__init__") 1 K) []
  ne_Rule : PySem.W.findIn K (.ref (ga K "Rule")) "__ne__" = some (some (.builtin "object.__ne__"))
  c_NoStock : ExcC K (ga K "NoStock")
  k_NoStock_ValueError : PySem.W.kitOne K (.ref (ga K "NoStock")) (.type "ValueError") = some true
  o_Conditions : OC K (ga K "Conditions")
  o_Cell : OC K (ga K "Cell")
  o_Maker : OC K (ga K "Maker")
  o_Schema : OC K (ga K "Schema")
  o_Rule : OC K (ga K "Rule")
  o_Question : OC K (ga K "Question")
  s_Cell_of : Sm K (ga K "Cell") "of" (He5.wf K (ga K "Cell") "staticmethod" "of")
  u_Conditions___eq__ : PySem.W.findIn K (.ref (ga K "Conditions")) "__eq__" = some (some (.ref (ma K (ga K "Conditions") "__eq__"))) ∧ PySem.W.isFn K (.ref (ma K (ga K "Conditions") "__eq__")) = true
  u_Conditions___and__ : PySem.W.findIn K (.ref (ga K "Conditions")) "__and__" = some (some (.ref (ma K (ga K "Conditions") "__and__"))) ∧ PySem.W.isFn K (.ref (ma K (ga K "Conditions") "__and__")) = true
  u_Conditions___iand__ : PySem.W.findIn K (.ref (ga K "Conditions")) "__iand__" = some (some (.ref (ma K (ga K "Conditions") "__iand__"))) ∧ PySem.W.isFn K (.ref (ma K (ga K "Conditions") "__iand__")) = true
  u_Maker___eq__ : PySem.W.findIn K (.ref (ga K "Maker")) "__eq__" = some (some (.ref (ma K (ga K "Maker") "__eq__"))) ∧ PySem.W.isFn K (.ref (ma K (ga K "Maker") "__eq__")) = true
  u_Rule___eq__ : PySem.W.findIn K (.ref (ga K "Rule")) "__eq__" = some (some (.ref (ma K (ga K "Rule") "__eq__"))) ∧ PySem.W.isFn K (.ref (ma K (ga K "Rule") "__eq__")) = true
  sf_Conditions : PySem.W.selfFirst K (ga K "Conditions") = true
  sf_Question : PySem.W.selfFirst K (ga K "Question") = true
  nf_Conditions : PySem.W.notFirst K (ga K "Conditions") (.ref (ga K "Conditions")) = true
  nf_Maker : PySem.W.notFirst K (ga K "Maker") (.ref (ga K "Maker")) = true
  nf_Schema : PySem.W.notFirst K (ga K "Schema") (.ref (ga K "Schema")) = true
  nf_Rule : PySem.W.notFirst K (ga K "Rule") (.ref (ga K "Rule")) = true
  nf_Question : PySem.W.notFirst K (ga K "Question") (.ref (ga K "Question")) = true
  t_PLACES : ∀ H : Hp, SqT K H (ga K "PLACES") [.str "old", .str "first", .str "second"]
  t_SIGNS : ∀ H : Hp, SqT K H (ga K "SIGNS") [.str "<", .str "<=", .str "=", .str "!="]
  t_TABLE_PLACES : ∀ H : Hp, SqT K H (ga K "TABLE_PLACES") [.str "first", .str "second"]
  y_NoRule : XTf K mg "NoRule" "reason" "/claim/cut.py" ∧ XfC K (ga K "NoRule") ∧ PySem.W.findIn K (.ref (ga K "NoRule")) "reason" = some none
  y_NoTable : XT K mg "NoTable" "name" "/claim/cut.py" ∧ XfC K (ga K "NoTable") ∧ PySem.W.findIn K (.ref (ga K "NoTable")) "name" = some none
  y_TwoAnswers : XT K mg "TwoAnswers" "name" "/claim/cut.py" ∧ XfC K (ga K "TwoAnswers") ∧ PySem.W.findIn K (.ref (ga K "TwoAnswers")) "name" = some none
  y_NoStock : XT K mg "NoStock" "index" "/claim/cut.py" ∧ XfC K (ga K "NoStock") ∧ PySem.W.findIn K (.ref (ga K "NoStock")) "index" = some none
end K51
namespace K51
open PySem PySem.Spec PyProof.Rows L2 He TL EL
theorem txt_of {K : PySem.W.Frag} {h : Heap} {mg : Str → Option Value} (X : K.In h) (G : h.Ns mainGlobals mg) (cx : EL.SaysX fa fn xn ex K) : Txt K mg := by
  have c := cx.e
  have m := c.ex_
  exact ⟨He.glo_ok X G (c.fact 0 (by rfl)),
    He.glo_ok X G (c.fact 1 (by rfl)),
    He.glo_ok X G (c.fact 2 (by rfl)),
    He.glo_ok X G (c.fact 3 (by rfl)),
    He.glo_ok X G (c.fact 4 (by rfl)),
    He.glo_ok X G (c.fact 5 (by rfl)),
    He.glo_ok X G (c.fact 6 (by rfl)),
    He.glo_ok X G (c.fact 7 (by rfl)),
    He.glo_ok X G (c.fact 8 (by rfl)),
    He.glo_ok X G (c.fact 9 (by rfl)),
    He.glo_ok X G (c.fact 10 (by rfl)),
    He.glo_ok X G (c.fact 11 (by rfl)),
    He.glo_ok X G (c.fact 12 (by rfl)),
    He.glo_ok X G (c.fact 13 (by rfl)),
    He.glo_ok X G (c.fact 14 (by rfl)),
    He.glo_ok X G (c.fact 15 (by rfl)),
    He.glo_ok X G (c.fact 16 (by rfl)),
    He.glo_ok X G (c.fact 17 (by rfl)),
    He.glo_ok X G (c.fact 18 (by rfl)),
    He.glo_ok X G (c.fact 19 (by rfl)),
    He.glo_ok X G (c.fact 20 (by rfl)),
    He.glo_ok X G (c.fact 21 (by rfl)),
    He.glo_ok X G (c.fact 22 (by rfl)),
    He.glo_ok X G (c.fact 23 (by rfl)),
    He.glo_ok X G (c.fact 24 (by rfl)),
    He.glo_ok X G (c.fact 25 (by rfl)),
    He.glo_ok X G (c.fact 26 (by rfl)),
    He.glo_ok X G (c.fact 27 (by rfl)),
    He.glo_ok X G (c.fact 28 (by rfl)),
    He.glo_ok X G (c.fact 29 (by rfl)),
    He.glo_ok X G (c.fact 30 (by rfl)),
    He.glo_ok X G (c.fact 31 (by rfl)),
    He.glo_ok X G (c.fact 32 (by rfl)),
    He.glo_ok X G (c.fact 33 (by rfl)),
    He.glo_ok X G (c.fact 34 (by rfl)),
    He.glo_ok X G (c.fact 35 (by rfl)),
    He.glo_ok X G (c.fact 36 (by rfl)),
    He.glo_ok X G (c.fact 37 (by rfl)),
    He.glo_ok X G (c.fact 38 (by rfl)),
    He.glo_ok X G (c.fact 39 (by rfl)),
    He.glo_ok X G (c.fact 40 (by rfl)),
    He.glo_ok X G (c.fact 41 (by rfl)),
    He.glo_ok X G (c.fact 42 (by rfl)),
    He.glo_ok X G (c.fact 43 (by rfl)),
    He.glo_ok X G (c.fact 44 (by rfl)),
    He.glo_ok X G (c.fact 45 (by rfl)),
    He.glo_ok X G (c.fact 46 (by rfl)),
    He.glo_ok X G (c.fact 47 (by rfl)),
    He.glo_ok X G (c.fact 48 (by rfl)),
    He.glo_ok X G (c.fact 49 (by rfl)),
    He.glo_ok X G (c.fact 50 (by rfl)),
    xc_of (He.glo_ok X G (c.fact 51 (by rfl))) (He.exc_ok (c.fact 52 (by rfl))),
    xc_of (He.glo_ok X G (c.fact 53 (by rfl))) (He.exc_ok (c.fact 54 (by rfl))),
    xc_of (He.glo_ok X G (c.fact 55 (by rfl))) (He.exc_ok (c.fact 56 (by rfl))),
    xc_of (He.glo_ok X G (c.fact 57 (by rfl))) (He.exc_ok (c.fact 58 (by rfl))),
    xc_of (He.glo_ok X G (c.fact 59 (by rfl))) (He.exc_ok (c.fact 60 (by rfl))),
    xc_of (He.glo_ok X G (c.fact 61 (by rfl))) (He.exc_ok (c.fact 62 (by rfl))),
    xc_of (He.glo_ok X G (c.fact 63 (by rfl))) (He.exc_ok (c.fact 64 (by rfl))),
    xc_of (He.glo_ok X G (c.fact 65 (by rfl))) (He.exc_ok (c.fact 66 (by rfl))),
    gv_str (He.str_ok X G (c.fact 67 (by rfl))),
    He.glo_ok X G (c.fact 68 (by rfl)),
    He.glo_ok X G (c.fact 69 (by rfl)),
    He.glo_ok X G (c.fact 70 (by rfl)),
    gv_int (He.int_ok X G (c.fact 71 (by rfl))),
    gv_int (He.int_ok X G (c.fact 72 (by rfl))),
    gv_int (He.int_ok X G (c.fact 73 (by rfl))),
    gv_int (He.int_ok X G (c.fact 74 (by rfl))),
    gv_int (He.int_ok X G (c.fact 75 (by rfl))),
    He.glo_ok X G (c.fact 76 (by rfl)),
    He.free_ok X G (c.fact 77 (by rfl)),
    He.free_ok X G (c.fact 78 (by rfl)),
    He.free_ok X G (c.fact 79 (by rfl)),
    He.free_ok X G (c.fact 80 (by rfl)),
    He.free_ok X G (c.fact 81 (by rfl)),
    He.free_ok X G (c.fact 82 (by rfl)),
    He.free_ok X G (c.fact 83 (by rfl)),
    He.free_ok X G (c.fact 84 (by rfl)),
    He.free_ok X G (c.fact 85 (by rfl)),
    He.free_ok X G (c.fact 86 (by rfl)),
    He.free_ok X G (c.fact 87 (by rfl)),
    He.free_ok X G (c.fact 88 (by rfl)),
    He.free_ok X G (c.fact 89 (by rfl)),
    He.free_ok X G (c.fact 90 (by rfl)),
    He.free_ok X G (c.fact 91 (by rfl)),
    He.free_ok X G (c.fact 92 (by rfl)),
    He.free_ok X G (c.fact 93 (by rfl)),
    He.free_ok X G (c.fact 94 (by rfl)),
    He.free_ok X G (c.fact 95 (by rfl)),
    He.free_ok X G (c.fact 96 (by rfl)),
    He.exm_ok (c.fact 97 (by rfl)),
    He.exm_ok (c.fact 98 (by rfl)),
    He.mkr_ok (c.fact 99 (by rfl)),
    He.meth_ok (c.fact 100 (by rfl)),
    He.meth_ok (c.fact 101 (by rfl)),
    He.meth_ok (c.fact 102 (by rfl)),
    He.meth_ok (c.fact 103 (by rfl)),
    He.meth_ok (c.fact 104 (by rfl)),
    He.mkr_ok (c.fact 105 (by rfl)),
    He.mkr_ok (c.fact 106 (by rfl)),
    He.meth_ok (c.fact 107 (by rfl)),
    He.meth_ok (c.fact 108 (by rfl)),
    He.meth_ok (c.fact 109 (by rfl)),
    He.mkr_ok (c.fact 110 (by rfl)),
    He.meth_ok (c.fact 111 (by rfl)),
    He.meth_ok (c.fact 112 (by rfl)),
    He.meth_ok (c.fact 113 (by rfl)),
    He.meth_ok (c.fact 114 (by rfl)),
    He.meth_ok (c.fact 115 (by rfl)),
    He.meth_ok (c.fact 116 (by rfl)),
    He.meth_ok (c.fact 117 (by rfl)),
    He.meth_ok (c.fact 118 (by rfl)),
    He.mkr_ok (c.fact 119 (by rfl)),
    He.meth_ok (c.fact 120 (by rfl)),
    He.meth_ok (c.fact 121 (by rfl)),
    He.meth_ok (c.fact 122 (by rfl)),
    He.meth_ok (c.fact 123 (by rfl)),
    He.meth_ok (c.fact 124 (by rfl)),
    He.meth_ok (c.fact 125 (by rfl)),
    He.meth_ok (c.fact 126 (by rfl)),
    He.meth_ok (c.fact 127 (by rfl)),
    He.mkr_ok (c.fact 128 (by rfl)),
    He.meth_ok (c.fact 129 (by rfl)),
    He.meth_ok (c.fact 130 (by rfl)),
    He.meth_ok (c.fact 131 (by rfl)),
    He.meth_ok (c.fact 132 (by rfl)),
    He.meth_ok (c.fact 133 (by rfl)),
    He.meth_ok (c.fact 134 (by rfl)),
    He.meth_ok (c.fact 135 (by rfl)),
    He.meth_ok (c.fact 136 (by rfl)),
    He.meth_ok (c.fact 137 (by rfl)),
    He.meth_ok (c.fact 138 (by rfl)),
    He.noat_ok (c.fact 139 (by rfl)),
    He.noat_ok (c.fact 140 (by rfl)),
    He.noat_ok (c.fact 141 (by rfl)),
    He.noat_ok (c.fact 142 (by rfl)),
    He.noat_ok (c.fact 143 (by rfl)),
    He.noat_ok (c.fact 144 (by rfl)),
    He.noat_ok (c.fact 145 (by rfl)),
    He.noat_ok (c.fact 146 (by rfl)),
    He.noat_ok (c.fact 147 (by rfl)),
    He.noat_ok (c.fact 148 (by rfl)),
    He.noat_ok (c.fact 149 (by rfl)),
    He.noat_ok (c.fact 150 (by rfl)),
    He.noat_ok (c.fact 151 (by rfl)),
    He.noat_ok (c.fact 152 (by rfl)),
    He.noat_ok (c.fact 153 (by rfl)),
    He.noat_ok (c.fact 154 (by rfl)),
    c.def_ 0 (d := dd_is_whole) rfl,
    c.def_ 1 (d := dd_is_word) rfl,
    c.def_ 2 (d := dd_common_divisor) rfl,
    c.def_ 3 (d := dd_is_value) rfl,
    c.def_ 4 (d := dd_less) rfl,
    c.def_ 5 (d := dd_is_term) rfl,
    c.def_ 6 (d := dd_is_atom) rfl,
    c.def_ 7 (d := dd_Conditions___init__) rfl,
    c.def_ 8 (d := dd_Conditions_atoms) rfl,
    c.def_ 9 (d := dd_Conditions___len__) rfl,
    c.def_ 10 (d := dd_Conditions___eq__) rfl,
    c.def_ 11 (d := dd_Conditions___and__) rfl,
    c.def_ 12 (d := dd_Conditions___iand__) rfl,
    c.def_ 13 (d := dd_Cell___init__) rfl,
    c.def_ 14 (d := dd_Cell_of) rfl,
    c.def_ 15 (d := dd_Maker___init__) rfl,
    c.def_ 16 (d := dd_Maker_terms) rfl,
    c.def_ 17 (d := dd_Maker___len__) rfl,
    c.def_ 18 (d := dd_Maker___eq__) rfl,
    c.def_ 19 (d := dd_is_column_count) rfl,
    c.def_ 20 (d := dd_names_cells) rfl,
    c.def_ 21 (d := dd_are_row_rules) rfl,
    c.def_ 22 (d := dd_Schema___init__) rfl,
    c.def_ 23 (d := dd_Schema___len__) rfl,
    c.def_ 24 (d := dd_Schema___contains__) rfl,
    c.def_ 25 (d := dd_Schema_names) rfl,
    c.def_ 26 (d := dd_Schema_add) rfl,
    c.def_ 27 (d := dd_Schema_columns) rfl,
    c.def_ 28 (d := dd_Schema_rules) rfl,
    c.def_ 29 (d := dd_Schema_narrow) rfl,
    c.def_ 30 (d := dd_Schema_twin) rfl,
    c.def_ 31 (d := dd_is_stock_item) rfl,
    c.def_ 32 (d := dd_look_at_stock) rfl,
    c.def_ 33 (d := dd_is_chosen) rfl,
    c.def_ 34 (d := dd_with_stock) rfl,
    c.def_ 35 (d := dd_least_sets) rfl,
    c.def_ 36 (d := dd_floors) rfl,
    c.def_ 37 (d := dd_are_words) rfl,
    c.def_ 38 (d := dd_maker_of) rfl,
    c.def_ 39 (d := dd_Rule___init__) rfl,
    c.def_ 40 (d := dd_Rule_is_step) rfl,
    c.def_ 41 (d := dd_Rule_answer) rfl,
    c.def_ 42 (d := dd_Rule_old) rfl,
    c.def_ 43 (d := dd_Rule_tables) rfl,
    c.def_ 44 (d := dd_Rule_maker) rfl,
    c.def_ 45 (d := dd_Rule_conditions) rfl,
    c.def_ 46 (d := dd_Rule_depths) rfl,
    c.def_ 47 (d := dd_Rule___eq__) rfl,
    c.def_ 48 (d := dd_base) rfl,
    c.def_ 49 (d := dd_Question___init__) rfl,
    c.def_ 50 (d := dd_Question___len__) rfl,
    c.def_ 51 (d := dd_Question_schema) rfl,
    c.def_ 52 (d := dd_Question_answers) rfl,
    c.def_ 53 (d := dd_Question_places_of) rfl,
    c.def_ 54 (d := dd_Question_look) rfl,
    c.def_ 55 (d := dd_Question_add) rfl,
    c.def_ 56 (d := dd_Question_rule) rfl,
    c.def_ 57 (d := dd_Question_narrow) rfl,
    c.def_ 58 (d := dd_Question_without) rfl,
    c.def_ 59 (d := dd_Question_twin) rfl,
    c.def_ 60 (d := dd__law_begin) rfl,
    c.def_ 61 (d := dd__law_draw) rfl,
    c.def_ 62 (d := dd__law_atom) rfl,
    c.def_ 63 (d := dd__law_rules) rfl,
    c.def_ 64 (d := dd__law_item) rfl,
    c.def_ 65 (d := dd__law_wrong) rfl,
    c.def_ 66 (d := dd__law_asked) rfl,
    c.def_ 67 (d := dd__law_choice_refused) rfl,
    c.def_ 68 (d := dd__law_is) rfl,
    c.def_ 69 (d := dd__law_wrong_choices) rfl,
    c.def_ 70 (d := dd__law_begun) rfl,
    c.def_ 71 (d := dd__law_good) rfl,
    c.def_ 72 (d := dd_law) rfl,
    fun H => tupAB_ok (exG m 0 (by rfl)) H,
    fun H => tupAB_ok (exG m 1 (by rfl)) H,
    eqO_ok (exG m 2 (by rfl)),
    excCB_ok (exG m 3 (by rfl)),
    of_decide_eq_true (exG m 4 (by rfl)),
    ocB_ok (exG m 5 (by rfl)),
    ocB_ok (exG m 6 (by rfl)),
    ocB_ok (exG m 7 (by rfl)),
    ocB_ok (exG m 8 (by rfl)),
    ocB_ok (exG m 9 (by rfl)),
    ocB_ok (exG m 10 (by rfl)),
    smB_ok (exG m 11 (by rfl)),
    dunB_ok (exG m 12 (by rfl)),
    dunB_ok (exG m 13 (by rfl)),
    dunB_ok (exG m 14 (by rfl)),
    dunB_ok (exG m 15 (by rfl)),
    dunB_ok (exG m 16 (by rfl)),
    (exG m 17 (by rfl)),
    (exG m 18 (by rfl)),
    (exG m 19 (by rfl)),
    (exG m 20 (by rfl)),
    (exG m 21 (by rfl)),
    (exG m 22 (by rfl)),
    (exG m 23 (by rfl)),
    fun H => tupB_ok (exG m 24 (by rfl)) H,
    fun H => tupB_ok (exG m 25 (by rfl)) H,
    fun H => tupB_ok (exG m 26 (by rfl)) H,
    xt_of xwok_NoRule (cx.xd 0 (by rfl)) (He.glo_ok X G (c.fact 37 (by rfl))) (He.free_ok X G (c.fact 78 (by rfl))) (exG m 27 (by rfl)),
    xt_of xwok_NoTable (cx.xd 1 (by rfl)) (He.glo_ok X G (c.fact 34 (by rfl))) (He.free_ok X G (c.fact 78 (by rfl))) (exG m 28 (by rfl)),
    xt_of xwok_TwoAnswers (cx.xd 2 (by rfl)) (He.glo_ok X G (c.fact 38 (by rfl))) (He.free_ok X G (c.fact 78 (by rfl))) (exG m 29 (by rfl)),
    xt_of xwok_NoStock (cx.xd 3 (by rfl)) (He.glo_ok X G (c.fact 40 (by rfl))) (He.free_ok X G (c.fact 78 (by rfl))) (exG m 30 (by rfl))⟩
end K51
namespace K51
open PySem PySem.Spec PyProof.Rows L2 He TL EL
section
variable {P : Program} {w : World} {K : PySem.W.Frag} {mg : Str → Option Value} {base : Heap}
/-! is_whole -/
def spIsWhole (K : PySem.W.Frag) : Sp := fun vs H Q _ => ∃ v th, vs = [v] ∧ ThOk K H v th ∧ Q (.bl (isWholeT th)) H
theorem d_is_whole (T : Txt K mg) : Dn P w K mg base CX0 1 "is_whole" (spIsWhole K) := by
  obtain ⟨fd, F⟩ := T.f_is_whole
  refine dnN T.g_is_whole F (fun _ _ _ _ _ _ us hl => match us, hl with | [_], _ => rfl) sc_is_whole (fun vs H Q E h => ?_) (fun cdv A outer s H vs Q E hr h => ?_)
  · obtain ⟨v, th, rfl, _⟩ := h
    rfl
  · obtain ⟨v, th, rfl, ht, q⟩ := h
    obtain ⟨t, ty, ki⟩ := ht.ty
    refine ⟨_, PSs.nox (pss_one (ps_ret (pe_and (pe_callB call_isi (by rfl) T.z_isinstance (by decide +kernel) (pa_cons (pv 0) (pa_cons (pe_bltn (v := .ty "int") (by rfl) T.z_int (by decide +kernel) rfl) pa_nil))) (pe_one (pe_not (pe_callB call_isi (by rfl) T.z_isinstance (by decide +kernel) (pa_cons (pv 0) (pa_cons (pe_bltn (v := .ty "bool") (by rfl) T.z_bool (by decide +kernel) rfl) pa_nil)))))))), ?_⟩
    refine ⟨_, rfl, _, _, t, _, _, rfl, .ty _, ty, ki .int, _, rfl, ie (fun h1 => ?_) (fun h1 => ?_)⟩
    · refine ⟨_, rfl, _, _, t, _, _, rfl, .ty _, ty, ki .bl, _, rfl, ?_⟩
      have e : isWholeT th = !th.is .bl := by unfold isWholeT; rw [h1]; rfl
      rw [e] at q
      exact q
    · have e : isWholeT th = false := by unfold isWholeT; rw [h1]; rfl
      rw [e] at q
      exact q
/-! common_divisor -/
def spCD : Sp := fun vs H Q _ => ∃ a b : Int, vs = [.int a, .int b] ∧ Q (.int (cd a b)) H
theorem d_common_divisor (T : Txt K mg) : Dn P w K mg base CX0 1 "common_divisor" spCD := by
  obtain ⟨fd, F⟩ := T.f_common_divisor
  refine dnN T.g_common_divisor F (fun _ _ _ _ _ _ us hl => match us, hl with | [_, _], _ => rfl) sc_common_divisor (fun vs H Q E h => ?_) (fun cdv A outer s H vs Q E hr h => ?_)
  · obtain ⟨a, b, rfl, _⟩ := h
    rfl
  · obtain ⟨a, b, rfl, q⟩ := h
    refine ⟨_, PSs.nox (pss_cons (ps_par (i := 0) (j := 1) (by rfl) sc_common_divisor.nd rfl rfl (by decide) rfl rfl (pa_cons (pe_callB call_abs (by rfl) T.z_abs (by decide +kernel) (pa_cons (pv 0) pa_nil)) (pa_cons (pe_callB call_abs (by rfl) T.z_abs (by decide +kernel) (pa_cons (pv 1) pa_nil)) pa_nil)) (by rfl))
      (pss_cons (ps_while PassesOwn.never (pt_cmpR op_gt (pv 1) pe_int (nomark _))
      (pss_one (ps_par (i := 0) (j := 1) (by rfl) sc_common_divisor.nd rfl rfl (by decide) rfl rfl (pa_cons (pv 1) (pa_cons (pe_op op_mod (pv 0) (pv 1)) pa_nil)) (by rfl))))
      (pss_one (ps_ret (pv 0))))), ?_⟩
    refine ⟨_, rfl, _, rfl, _, rfl, _, rfl, _, _, rfl, ?_⟩
    refine ⟨fun m σ H' => ∃ x y : Nat, m = y ∧ σ = [some (.int x), some (.int y)] ∧ H' = H ∧ Nat.gcd x y = Nat.gcd a.natAbs b.natAbs, ⟨b.natAbs, a.natAbs, b.natAbs, rfl, ?_, rfl, rfl⟩, ?_⟩
    · have e : ∀ z : Int, (if z < 0 then -z else z) = (z.natAbs : Int) := fun z => by split <;> omega
      show [some (V.int _), some (V.int _)] = _
      rw [e, e]
    · rintro m σ H' ⟨x, y, em, rfl, rfl, hg⟩
      subst m
      refine ⟨_, rfl, _, _, rfl, rfl, _, rfl, ie (fun h1 => ?_) (fun h1 => ?_)⟩
      · have hy : 0 < y := by
          have := of_decide_eq_true h1
          omega
        refine ⟨_, fun σ' H2 hN => hN, _, rfl, _, rfl, _, rfl, _, _, rfl, rfl, (by show (0 : Int) < (y : Int); omega), _, _, rfl, ?_⟩
        exact ⟨x % y, Nat.mod_lt _ hy, y, x % y, rfl, rfl, rfl, by rw [← hg, Nat.gcd_comm x y, Nat.gcd_rec y x, Nat.gcd_comm]⟩
      · have hy : y = 0 := by
          have := of_decide_eq_false h1
          omega
        refine ⟨_, rfl, ?_⟩
        subst hy
        rw [Nat.gcd_zero_right] at hg
        unfold cd at q
        rw [← hg] at q
        exact q
/-! is_value -/
def spIsValue (K : PySem.W.Frag) : Sp := fun vs H Q _ => ∃ v th, vs = [v] ∧ ThOk K H v th ∧ Q (.bl (isValT th)) H
theorem d_is_value (T : Txt K mg) : Dn P w K mg base CX0 2 "is_value" (spIsValue K) := by
  obtain ⟨fd, F⟩ := T.f_is_value
  have D_is_whole := d_is_whole (P := P) (w := w) (base := base) T
  have D_common_divisor := d_common_divisor (P := P) (w := w) (base := base) T
  refine dnN T.g_is_value F (fun _ _ _ _ _ _ us hl => match us, hl with | [_], _ => rfl) sc_is_value (fun vs H Q E h => ?_) (fun cdv A outer s H vs Q E hr h => ?_)
  · obtain ⟨v, th, rfl, _⟩ := h
    rfl
  · obtain ⟨v, th, rfl, ht, q⟩ := h
    obtain ⟨t, ty, ki⟩ := ht.ty
    refine ⟨_, PSs.nox (pss_cons (ps_if (PW.pt (pw_or (pt_not (pt_val (pe_callB call_isi (by rfl) T.z_isinstance (by decide +kernel) (pa_cons (pv 0) (pa_cons (pe_bltn (v := .ty "tuple") (by rfl) T.z_tuple (by decide +kernel) rfl) pa_nil))))) (pw_or1 (pt_cmpR op_ne (pe_callB call_len_seq (by rfl) T.z_len (by decide +kernel) (pa_cons (pv 0) pa_nil)) pe_int (nomark _))))) (pss_one (ps_ret pe_bl)) pss_nil)
      (pss_cons (ps_if (PW.pt (pw_or (pt_not (pt_val (cl D_is_whole (hr.mono (by decide)) (pa_cons (pe_ix ix_tup (pv 0) pe_int (fun _ _ => rfl)) pa_nil)))) (pw_or (pt_not (pt_val (cl D_is_whole (hr.mono (by decide)) (pa_cons (pe_ix ix_tup (pv 0) pe_int (fun _ _ => rfl)) pa_nil)))) (pw_or1 (pt_cmpR op_lt (pe_ix ix_tup (pv 0) pe_int (fun _ _ => rfl)) pe_int (nomark _)))))) (pss_one (ps_ret pe_bl)) pss_nil)
      (pss_one (ps_ret (pe_cmpR op_eq (cl D_common_divisor (hr.mono (by decide)) (pa_cons (pe_ix ix_tup (pv 0) pe_int (fun _ _ => rfl)) (pa_cons (pe_ix ix_tup (pv 0) pe_int (fun _ _ => rfl)) pa_nil))) pe_int (nomark _)))))), ?_⟩
    refine ⟨_, rfl, _, _, t, _, _, rfl, .ty _, ty, ki .tup, _, rfl, ?_⟩
    by_cases hn : ∃ ds, th = .d (.tuple ds)
    · obtain ⟨ds, rfl⟩ := hn
      refine iteF ?_
      cases ht with
      | @tup a xs _ hS hA =>
      refine ⟨_, rfl, _, _, rfl, .inr hS, rfl, _, rfl, ?_⟩
      by_cases hl : xs.length = 2
      · match xs, hl with
        | [v0, v1], _ =>
        match ds, hA with
        | [d0, d1], .cons h0 (.cons h1 .nil) =>
        refine iteF ?_
        -- is_whole(thing[0])
        refine ⟨_, rfl, _, _, 0, v0, rfl, rfl, hS, atI_nat (j := 0) rfl, v0, .d d0, rfl, h0, _, rfl, ?_⟩
        rw [isWholeT_d]
        by_cases w0 : ∃ a, d0 = .int a
        · obtain ⟨a0, rfl⟩ := w0
          refine iteF ?_
          refine ⟨_, rfl, _, _, 1, v1, rfl, rfl, hS, atI_nat (j := 1) rfl, v1, .d d1, rfl, h1, _, rfl, ?_⟩
          rw [isWholeT_d]
          by_cases w1 : ∃ b, d1 = .int b
          · obtain ⟨b0, rfl⟩ := w1
            refine iteF ?_
            cases h0
            cases h1
            refine ⟨_, rfl, _, _, 1, _, rfl, rfl, hS, atI_nat (j := 1) rfl, _, _, rfl, rfl, _, rfl, ie (fun c => ?_) (fun c => ?_)⟩
            · have e : isValT (.d (.tuple [.int a0, .int b0])) = false := by
                show (!decide (b0 < 1) && decide (cd a0 b0 = 1)) = false
                rw [c]
                rfl
              rw [e] at q
              exact q
            · have e : isValT (.d (.tuple [.int a0, .int b0])) = decide (V.int (cd a0 b0) = V.int 1) := by
                show (!decide (b0 < 1) && decide (cd a0 b0 = 1)) = decide (V.int (cd a0 b0) = V.int 1)
                rw [c]
                simp
              rw [e] at q
              exact ⟨_, rfl, _, _, 0, _, rfl, rfl, hS, atI_nat (j := 0) rfl, _, rfl, _, _, 1, _, rfl, rfl, hS, atI_nat (j := 1) rfl, _, _, rfl, rfl, q⟩
          · have e2 : isWholeD d1 = false := by
              cases d1 <;> first | rfl | exact absurd ⟨_, rfl⟩ w1
            rw [e2]
            have e : isValT (.d (.tuple [.int a0, d1])) = false := by
              cases d1 <;> first | rfl | exact absurd ⟨_, rfl⟩ w1
            rw [e] at q
            exact q
        · have e2 : isWholeD d0 = false := by
            cases d0 <;> first | rfl | exact absurd ⟨_, rfl⟩ w0
          rw [e2]
          have e : isValT (.d (.tuple [d0, d1])) = false := by
            cases d0 <;> first | rfl | exact absurd ⟨_, rfl⟩ w0
          rw [e] at q
          exact q
      · have e2 : decide (V.int (xs.length : Int) = V.int 2) = false := decide_eq_false fun z => hl (by injection z; omega)
        rw [e2]
        have hdl : ds.length ≠ 2 := by
          rw [← DpAll.length hA]
          exact hl
        have e : isValT (.d (.tuple ds)) = false := by
          match ds, hdl with
          | [], _ => rfl
          | [_], _ => simp [isValT, isValD]
          | [_, _], h => exact absurd rfl h
          | _ :: _ :: _ :: _, _ => simp [isValT, isValD]
        rw [e] at q
        exact q
    · have e1 : th.is .tup = false := by
        cases th with
        | o => rfl
        | d d => cases d <;> first | rfl | exact absurd ⟨_, rfl⟩ hn
      rw [e1]
      have e : isValT th = false := by
        cases th with
        | o => rfl
        | d d => cases d <;> first | rfl | exact absurd ⟨_, rfl⟩ hn
      rw [e] at q
      exact q
/-! _law_begin -/
def spBegin (K : PySem.W.Frag) : Sp := fun vs H Q _ => ∃ (a : Addr) (ns : List Int), vs = [.ref a] ∧ SqL K H a (ns.map V.int) ∧ ∀ p l H', H p = none → H l = none → Same H H' → Src H' p l → Q (.ref p) H'
theorem cut_map (ns : List Int) (lo hi : Option Int) : ∃ ms : List Int, cutV (ns.map V.int) lo hi = ms.map V.int := by
  unfold cutV
  rw [← List.map_drop, ← List.map_take]
  exact ⟨_, rfl⟩
theorem d_begin (T : Txt K mg) : Dn P w K mg base CX0 1 "_law_begin" (spBegin K) := by
  obtain ⟨fd, F⟩ := T.f__law_begin
  refine dnN T.g__law_begin F (fun _ _ _ _ _ _ us hl => match us, hl with | [_], _ => rfl) sc__law_begin (fun vs H Q E h => ?_) (fun cdv A outer s H vs Q E hr h => ?_)
  · obtain ⟨a, ns, rfl, _⟩ := h
    rfl
  · obtain ⟨a, ns, rfl, hS, q⟩ := h
    refine ⟨_, PSs.nox (pss_one (ps_ret (pe_lst (pa_cons (pe_callTy call_list_of (by rfl) T.z_list (by decide +kernel) (pa_cons (pe_slice sl_list (pv 0) po_none (po_some pe_int)) pa_nil)) (pa_cons pe_int (pa_cons pe_int (pa_cons pe_int pa_nil))))))), ?_⟩
    obtain ⟨ms, hm⟩ := cut_map ns none (some 63)
    refine ⟨_, rfl, _, rfl, _, _, rfl, hS, fun c nc => ?_⟩
    rw [hm]
    generalize eH1 : upd H c _ = H1
    have s1 : Same H H1 := eH1 ▸ same_upd nc
    have h1 : H1 c = some _ := eH1 ▸ upd_same
    refine ⟨_, _, rfl, .inl (SqL.of h1), fun l nl => ?_⟩
    generalize eH2 : upd H1 l _ = H2
    have s2 : Same H1 H2 := eH2 ▸ same_upd nl
    have h2 : H2 l = some _ := eH2 ▸ upd_same
    refine ⟨(by show 4 ≤ sizeLine; decide), fun p np => ?_⟩
    generalize eH3 : upd H2 p _ = H3
    have s3 : Same H2 H3 := eH3 ▸ same_upd np
    have h3 : H3 p = some _ := eH3 ▸ upd_same
    exact q p l H3 (s1.free (s2.free np)) (s1.free nl) (s1.trans (s2.trans s3)) ⟨ms, 0, 0, 7, h3, s3 _ _ h2, by omega, by omega, by omega⟩
/-! _law_draw -/
def spDraw : Sp := fun vs H Q _ => ∃ (p l : Addr) (L : Int), vs = [.ref p, .int L] ∧ 0 < L ∧ L ≤ 1000000000000000000 ∧ Src H p l ∧ ∀ (n : Int) (H' : Hp), 0 ≤ n → n < L → Src H' p l → But p H H' → Q (.int n) H'
theorem mulok {i j : Int} {a : Nat} (h1 : i.natAbs < 2 ^ 70) (h2 : j.natAbs < 2 ^ 70) : CMulW i j := wide_mul h1 h2 (by decide) (by decide) (by decide)
theorem pow18 : ((10 : Int) ^ (18 : Int).toNat) = 1000000000000000000 := by decide +kernel
theorem d_draw (T : Txt K mg) : Dn P w K mg base CX0 1 "_law_draw" spDraw := by
  obtain ⟨fd, F⟩ := T.f__law_draw
  refine dnN T.g__law_draw F (fun _ _ _ _ _ _ us hl => match us, hl with | [_, _], _ => rfl) sc__law_draw (fun vs H Q E h => ?_) (fun cdv A outer s H vs Q E hr h => ?_)
  · obtain ⟨p, l, L, rfl, _⟩ := h
    rfl
  · obtain ⟨p, l, L, rfl, hL0, hL1, hS, q⟩ := h
    obtain ⟨ns, i, c, r, h1, h2, hc, hr0, hr1⟩ := id hS
    have npl : l ≠ p := hS.ne
    have hpw : CPow 10 18 := ⟨by decide, by decide, by decide⟩
    refine ⟨_, PSs.nox (pss_mid (ps_if (PW.pt (pw_and (pt_cmpR op_lt (pe_ix ix_list (pv 0) pe_int (fun _ _ => rfl)) (pe_op op_pow pe_int pe_int) (nomark _)) (pw_and1 (pt_cmpR op_lt (pe_ix ix_list (pv 0) pe_int (fun _ _ => rfl)) (pe_callB call_len_seq (by rfl) T.z_len (by decide +kernel) (pa_cons (pe_ix ix_list (pv 0) pe_int (fun _ _ => rfl)) pa_nil)) (nomark _))))) (pss_cons (ps_set (i := 2) sc__law_draw.nd rfl (.inl rfl) (pe_callTy call_int1 (by rfl) T.z_int (by decide +kernel) (pa_cons (pe_ix ix_list (pe_ix ix_list (pv 0) pe_int (fun _ _ => rfl)) (pe_ix ix_list (pv 0) pe_int (fun _ _ => rfl)) (fun _ _ => rfl)) pa_nil)))
      (pss_cons (ps_asg (pe_op op_add (pe_ix ix_list (pv 0) pe_int (fun _ _ => rfl)) pe_int) (pg_sub (pv 0) pe_int set_list))
      (pss_cons (ps_asg pe_int (pg_sub (pv 0) pe_int set_list))
      (pss_mid (ps_if (pt_cmpR op_ge (pv 2) (pe_op op_pow pe_int pe_int) (nomark _)) (pss_one (ps_asg (pv 2) (pg_sub (pv 0) pe_int set_list))) pss_nil)
      (pss_one (ps_asg (pe_op op_mod (pe_op op_add (pe_op op_add (pe_op op_mulW (pe_ix ix_list (pv 0) pe_int (fun _ _ => rfl)) pe_int) (pe_op op_mod (pv 2) pe_int)) pe_int) pe_int) (pg_sub (pv 0) pe_int set_list))))))) pss_nil)
      (pss_cons (ps_if (pt_cmpR op_ge (pe_ix ix_list (pv 0) pe_int (fun _ _ => rfl)) (pe_op op_pow pe_int pe_int) (nomark _)) (pss_cons (ps_set (i := 3) sc__law_draw.nd rfl (.inl rfl) (pe_op op_mod (pe_ix ix_list (pv 0) pe_int (fun _ _ => rfl)) (pv 1)))
      (pss_cons (ps_asg (pe_op op_fdivW (pe_ix ix_list (pv 0) pe_int (fun _ _ => rfl)) (pv 1)) (pg_sub (pv 0) pe_int set_list))
      (pss_one (ps_ret (pv 3))))) pss_nil)
      (pss_cons (ps_asg (pe_op op_mod (pe_op op_add (pe_op op_mulW (pe_ix ix_list (pv 0) pe_int (fun _ _ => rfl)) pe_int) pe_int) pe_int) (pg_sub (pv 0) pe_int set_list))
      (pss_one (ps_ret (pe_op op_mod (pe_op op_fdivW (pe_ix ix_list (pv 0) pe_int (fun _ _ => rfl)) pe_int) (pv 1))))))), ?_⟩
    refine ⟨fun σ' H' => ∃ v2, σ' = [some (.ref p), some (.int L), v2, none] ∧ Src H' p l ∧ But p H H', ?_, ?_⟩
    · -- the first test
      refine ⟨_, rfl, _, _, 2, _, rfl, rfl, SqL.of h1, atI_nat (j := 2) rfl, _, _, rfl, rfl, hpw, _, _, rfl, rfl, _, rfl, ie (fun c1 => ?_) (fun c1 => ?_)⟩
      · refine ⟨_, rfl, _, _, 1, _, rfl, rfl, SqL.of h1, atI_nat (j := 1) rfl, _, rfl, _, _, 0, _, rfl, rfl, SqL.of h1, atI_nat (j := 0) rfl, _, _, rfl, .inl (SqL.of h2), _, _, rfl, rfl, _, rfl, ie (fun c2 => ?_) (fun c2 => ?_)⟩
        · have c2 := of_decide_eq_true c2
          rw [List.length_map] at c2
          have hi : i < ns.length := by omega
          have hg : (ns.map V.int)[i]? = some (.int ns[i]) := by
            rw [List.getElem?_map, List.getElem?_eq_getElem hi]
            rfl
          generalize ns[i] = z at hg
          -- _law_cell = int(_law_source[0][_law_source[1]])
          refine ⟨_, rfl, _, _, 0, _, rfl, rfl, SqL.of h1, atI_nat (j := 0) rfl, _, rfl, _, _, 1, _, rfl, rfl, SqL.of h1, atI_nat (j := 1) rfl, _, _, _, _, rfl, rfl, SqL.of h2, atI_nat hg, .inl ⟨_, rfl, ?_⟩⟩
          -- _law_source[1] = _law_source[1] + 1
          refine ⟨_, rfl, _, _, 1, _, rfl, rfl, SqL.of h1, atI_nat (j := 1) rfl, _, _, rfl, rfl, _, rfl, p, _, 1, 1, rfl, rfl, h1, rfl, ?_⟩
          generalize e3 : upd H p _ = H3
          have b3 : But p H H3 := e3 ▸ but_upd
          have h3 : H3 p = some (.lst [.ref l, .int (i + 1), .int c, .int r]) := e3 ▸ upd_same
          -- _law_source[2] = 0
          refine ⟨_, rfl, p, _, 2, 2, rfl, rfl, h3, rfl, ?_⟩
          generalize e4 : upd H3 p _ = H4
          have b4 : But p H3 H4 := e4 ▸ but_upd
          have h4 : H4 p = some (.lst [.ref l, .int (i + 1), .int 0, .int r]) := e4 ▸ upd_same
          -- if _law_cell >= 10 ** 18: _law_source[2] = _law_cell
          refine ⟨fun σ' H' => ∃ c' : Int, 0 ≤ c' ∧ σ' = [some (.ref p), some (.int L), some (.int z), none] ∧ But p H H' ∧ H' p = some (.lst [.ref l, .int (i + 1), .int c', .int r]), ?_, ?_⟩
          · refine ⟨_, rfl, _, _, rfl, rfl, hpw, _, _, rfl, rfl, _, rfl, ie (fun c3 => ?_) (fun c3 => ?_)⟩
            · have c3 := of_decide_eq_true c3
              rw [pow18] at c3
              refine ⟨_, rfl, _, rfl, p, _, 2, 2, rfl, rfl, h4, rfl, ?_⟩
              exact ⟨z, by omega, rfl, b3.trans (b4.trans but_upd), upd_same⟩
            · exact ⟨0, by omega, rfl, b3.trans b4, h4⟩
          · rintro σ' H5 ⟨c', hc', rfl, b5, h5⟩
            have hm : CMulW r 48271 := mulok (a := 0) (by omega) (by decide)
            have hmod : 0 ≤ (r * 48271 + z % 2147483629 + 11) % 2147483647 ∧ (r * 48271 + z % 2147483629 + 11) % 2147483647 < 2147483647 := ⟨Int.emod_nonneg _ (by decide), Int.emod_lt_of_pos _ (by decide)⟩
            refine ⟨_, rfl, _, _, 3, _, rfl, rfl, SqL.of h5, atI_nat (j := 3) rfl, _, _, rfl, rfl, hm, _, rfl, _, _, rfl, rfl, (by show (0 : Int) < 2147483629; decide), _, _, rfl, rfl, _, _, rfl, rfl, _, _, rfl, rfl, (by show (0 : Int) < 2147483647; decide), _, rfl, p, _, 3, 3, rfl, rfl, h5, rfl, ?_⟩
            exact ⟨_, rfl, ⟨ns, i + 1, c', _, upd_same, by rw [upd_ne npl]; exact b5 _ _ h2 npl, hc', hmod.1, hmod.2⟩, b5.trans but_upd⟩
        · exact ⟨none, rfl, hS, .refl _ _⟩
      · exact ⟨none, rfl, hS, .refl _ _⟩
    · rintro σ' H1 ⟨v2, rfl, hS1, b1⟩
      clear h1 h2 hc hr0 hr1 npl
      obtain ⟨ns, i, c, r, h1, h2, hc, hr0, hr1⟩ := id hS1
      have npl : l ≠ p := hS1.ne
      refine ⟨_, rfl, _, _, 2, _, rfl, rfl, SqL.of h1, atI_nat (j := 2) rfl, _, _, rfl, rfl, hpw, _, _, rfl, rfl, _, rfl, ie (fun c1 => ?_) (fun c1 => ?_)⟩
      · refine ⟨_, rfl, _, _, 2, _, rfl, rfl, SqL.of h1, atI_nat (j := 2) rfl, _, rfl, _, _, rfl, rfl, hL0, ?_⟩
        have hdv : CDivW c L := wide_div hL0 (b := 64) (by omega) (by decide) (by decide)
        refine ⟨_, rfl, _, _, 2, _, rfl, rfl, SqL.of h1, atI_nat (j := 2) rfl, _, rfl, _, _, rfl, rfl, hdv, _, rfl, p, _, 2, 2, rfl, rfl, h1, rfl, ?_⟩
        refine ⟨_, rfl, ?_⟩
        refine q (c % L) _ (Int.emod_nonneg _ (by omega)) (Int.emod_lt_of_pos _ hL0) ⟨ns, i, c / L, r, upd_same, by rw [upd_ne npl]; exact h2, Int.ediv_nonneg hc (by omega), hr0, hr1⟩ (b1.trans but_upd)
      · have hm : CMulW r 39373 := mulok (a := 0) (by omega) (by decide)
        have hmod : 0 ≤ (r * 39373 + 12820163) % 2147483647 ∧ (r * 39373 + 12820163) % 2147483647 < 2147483647 := ⟨Int.emod_nonneg _ (by decide), Int.emod_lt_of_pos _ (by decide)⟩
        refine ⟨_, rfl, _, _, 3, _, rfl, rfl, SqL.of h1, atI_nat (j := 3) rfl, _, _, rfl, rfl, hm, _, _, rfl, rfl, _, _, rfl, rfl, (by show (0 : Int) < 2147483647; decide), _, rfl, p, _, 3, 3, rfl, rfl, h1, rfl, ?_⟩
        generalize e3 : upd H1 p _ = H3
        have b3 : But p H1 H3 := e3 ▸ but_upd
        have h3 : H3 p = some (.lst [.ref l, .int i, .int c, .int ((r * 39373 + 12820163) % 2147483647)]) := e3 ▸ upd_same
        generalize (r * 39373 + 12820163) % 2147483647 = r2 at *
        have hdv : CDivW r2 16 := ⟨by decide, by decide⟩
        refine ⟨_, rfl, _, _, 3, _, rfl, rfl, SqL.of h3, atI_nat (j := 3) rfl, _, _, rfl, rfl, hdv, _, rfl, _, _, rfl, rfl, hL0, ?_⟩
        exact q (r2 / 16 % L) _ (Int.emod_nonneg _ (by omega)) (Int.emod_lt_of_pos _ hL0) ⟨ns, i, c, r2, h3, b3 _ _ h2 npl, hc, hmod.1, hmod.2⟩ (b1.trans b3)
/-! is_term -/
def plV : List V := [.str "old", .str "first", .str "second"]
def sgV : List V := [.str "<", .str "<=", .str "=", .str "!="]
def colD : PyData → Bool
  | .int i => decide (0 ≤ i) && decide (i < 3)
  | _ => false
def termD (z : Str) (d : PyData) : Bool := if decide (V.str z = V.str "value") = true then isValD d else inV (.str z) plV && colD d
def isTermD : PyData → Bool
  | .tuple [.str z, d] => termD z d
  | _ => false
def isTermT : Th → Bool
  | Th.d x => isTermD x
  | Th.o => false
def spIsTerm (K : PySem.W.Frag) : Sp := fun vs H Q _ => ∃ v th, vs = [v] ∧ ThOk K H v th ∧ Q (.bl (isTermT th)) H
theorem d_is_term (T : Txt K mg) : Dn P w K mg base CX0 3 "is_term" (spIsTerm K) := by
  obtain ⟨fd, F⟩ := T.f_is_term
  have D_is_whole := d_is_whole (P := P) (w := w) (base := base) T
  have D_is_value := d_is_value (P := P) (w := w) (base := base) T
  refine dnN T.g_is_term F (fun _ _ _ _ _ _ us hl => match us, hl with | [_], _ => rfl) sc_is_term (fun vs H Q E h => ?_) (fun cdv A outer s H vs Q E hr h => ?_)
  · obtain ⟨v, th, rfl, _⟩ := h
    rfl
  · obtain ⟨v, th, rfl, ht, q⟩ := h
    obtain ⟨t, ty, ki⟩ := ht.ty
    refine ⟨_, PSs.nox (pss_cons (ps_if (PW.pt (pw_or (pt_not (pt_val (pe_callB call_isi (by rfl) T.z_isinstance (by decide +kernel) (pa_cons (pv 0) (pa_cons (pe_bltn (v := .ty "tuple") (by rfl) T.z_tuple (by decide +kernel) rfl) pa_nil))))) (pw_or (pt_cmpR op_ne (pe_callB call_len_seq (by rfl) T.z_len (by decide +kernel) (pa_cons (pv 0) pa_nil)) pe_int (nomark _)) (pw_or1 (pt_not (pt_val (pe_callB call_isi (by rfl) T.z_isinstance (by decide +kernel) (pa_cons (pe_ix ix_tup (pv 0) pe_int (fun _ _ => rfl)) (pa_cons (pe_bltn (v := .ty "str") (by rfl) T.z_str (by decide +kernel) rfl) pa_nil))))))))) (pss_one (ps_ret pe_bl)) pss_nil)
      (pss_cons (ps_if (pt_cmpR op_eq (pe_ix ix_tup (pv 0) pe_int (fun _ _ => rfl)) pe_str (nomark _)) (pss_one (ps_ret (cl D_is_value (hr.mono (by decide)) (pa_cons (pe_ix ix_tup (pv 0) pe_int (fun _ _ => rfl)) pa_nil)))) pss_nil)
      (pss_one (ps_ret (pe_and (pe_cmpR op_in_seq (pe_ix ix_tup (pv 0) pe_int (fun _ _ => rfl)) (pe_glob (v := .ref (ga K "PLACES")) (by rfl) T.g_PLACES rfl) (by rfl)) (pe_and (cl D_is_whole (hr.mono (by decide)) (pa_cons (pe_ix ix_tup (pv 0) pe_int (fun _ _ => rfl)) pa_nil)) (pe_one (pe_chain op_le op_lt pe_int (pe_ix ix_tup (pv 0) pe_int (fun _ _ => rfl)) (pe_gv T.g_MOST_COLUMNS))))))))), ?_⟩
    refine ⟨_, rfl, _, _, t, _, _, rfl, .ty _, ty, ki .tup, _, rfl, ?_⟩
    by_cases hn : ∃ ds, th = .d (.tuple ds)
    · obtain ⟨ds, rfl⟩ := hn
      refine iteF ?_
      cases ht with
      | @tup a xs _ hS hA =>
      refine ⟨_, rfl, _, _, rfl, .inr hS, rfl, _, rfl, ?_⟩
      by_cases hl : xs.length = 2
      · match xs, hl with
        | [v0, v1], _ =>
        match ds, hA with
        | [d0, d1], .cons h0 (.cons h1 .nil) =>
        refine iteF ?_
        refine ⟨_, rfl, _, _, 0, v0, rfl, rfl, hS, atI_nat (j := 0) rfl, _, _, _, _, _, rfl, .ty _, Dp.ty h0, kit_d K .str d0, _, rfl, ?_⟩
        by_cases w0 : ∃ z, d0 = .str z
        · obtain ⟨z, rfl⟩ := w0
          cases h0
          refine iteF ?_
          have e : isTermT (.d (.tuple [.str z, d1])) = termD z d1 := rfl
          rw [e] at q
          unfold termD at q
          refine ⟨_, rfl, _, _, 0, _, rfl, rfl, hS, atI_nat (j := 0) rfl, rfl, _, rfl, ie (fun c => ?_) (fun c => ?_)⟩
          · rw [if_pos c] at q
            exact ⟨_, rfl, _, _, 1, _, rfl, rfl, hS, atI_nat (j := 1) rfl, v1, .d d1, rfl, h1, q⟩
          · rw [c, if_neg Bool.false_ne_true] at q
            refine ⟨_, rfl, _, _, 0, _, rfl, rfl, hS, atI_nat (j := 0) rfl, _, _, rfl, .inr (T.t_PLACES _), rfl, rfl, _, rfl, ie (fun c1 => ?_) (fun c1 => ?_)⟩
            · have c1' : inV (.str z) plV = true := c1
              rw [c1', Bool.true_and] at q
              refine ⟨_, rfl, _, _, 1, _, rfl, rfl, hS, atI_nat (j := 1) rfl, v1, .d d1, rfl, h1, _, rfl, ?_⟩
              rw [isWholeT_d]
              by_cases w1 : ∃ b, d1 = .int b
              · obtain ⟨b, rfl⟩ := w1
                cases h1
                refine iteT ?_
                have q : Q (.bl (decide (0 ≤ b) && decide (b < 3))) H := q
                refine ⟨_, rfl, _, _, 1, _, rfl, rfl, hS, atI_nat (j := 1) rfl, _, _, rfl, rfl, _, rfl, ie (fun c2 => ?_) (fun c2 => ?_)⟩
                · rw [c2, Bool.true_and] at q
                  exact ⟨_, _, rfl, rfl, q⟩
                · rw [c2] at q
                  exact q
              · have e2 : isWholeD d1 = false := by
                  cases d1 <;> first | rfl | exact absurd ⟨_, rfl⟩ w1
                rw [e2]
                have e3 : colD d1 = false := by
                  cases d1 <;> first | rfl | exact absurd ⟨_, rfl⟩ w1
                rw [e3] at q
                exact q
            · have c1' : inV (.str z) plV = false := c1
              rw [c1', Bool.false_and] at q
              exact q
        · have e2 : isTy .str d0 = false := by
            cases d0 <;> first | rfl | exact absurd ⟨_, rfl⟩ w0
          rw [e2]
          have e : isTermT (.d (.tuple [d0, d1])) = false := by
            cases d0 <;> first | rfl | exact absurd ⟨_, rfl⟩ w0
          rw [e] at q
          exact q
      · have e2 : decide (V.int (xs.length : Int) = V.int 2) = false := decide_eq_false fun z => hl (by injection z; omega)
        rw [e2]
        have hdl : ds.length ≠ 2 := by
          rw [← DpAll.length hA]
          exact hl
        have e : isTermT (.d (.tuple ds)) = false := by
          match ds, hdl with
          | [], _ => rfl
          | [_], _ => simp [isTermT, isTermD]
          | [_, _], h => exact absurd rfl h
          | _ :: _ :: _ :: _, _ => simp [isTermT, isTermD]
        rw [e] at q
        exact q
    · have e1 : th.is .tup = false := by
        cases th with
        | o => rfl
        | d d => cases d <;> first | rfl | exact absurd ⟨_, rfl⟩ hn
      rw [e1]
      have e : isTermT th = false := by
        cases th with
        | o => rfl
        | d d => cases d <;> first | rfl | exact absurd ⟨_, rfl⟩ hn
      rw [e] at q
      exact q
/-! is_atom -/
def isAtomD : PyData → Bool
  | .tuple [.str z, d1, d2] => inV (.str z) sgV && (isTermD d1 && isTermD d2)
  | _ => false
def isAtomT : Th → Bool
  | Th.d x => isAtomD x
  | Th.o => false
def spIsAtom (K : PySem.W.Frag) : Sp := fun vs H Q _ => ∃ v th, vs = [v] ∧ ThOk K H v th ∧ Q (.bl (isAtomT th)) H
theorem d_is_atom (T : Txt K mg) : Dn P w K mg base CX0 4 "is_atom" (spIsAtom K) := by
  obtain ⟨fd, F⟩ := T.f_is_atom
  have D_is_term := d_is_term (P := P) (w := w) (base := base) T
  refine dnN T.g_is_atom F (fun _ _ _ _ _ _ us hl => match us, hl with | [_], _ => rfl) sc_is_atom (fun vs H Q E h => ?_) (fun cdv A outer s H vs Q E hr h => ?_)
  · obtain ⟨v, th, rfl, _⟩ := h
    rfl
  · obtain ⟨v, th, rfl, ht, q⟩ := h
    obtain ⟨t, ty, ki⟩ := ht.ty
    refine ⟨_, PSs.nox (pss_cons (ps_if (PW.pt (pw_or (pt_not (pt_val (pe_callB call_isi (by rfl) T.z_isinstance (by decide +kernel) (pa_cons (pv 0) (pa_cons (pe_bltn (v := .ty "tuple") (by rfl) T.z_tuple (by decide +kernel) rfl) pa_nil))))) (pw_or (pt_cmpR op_ne (pe_callB call_len_seq (by rfl) T.z_len (by decide +kernel) (pa_cons (pv 0) pa_nil)) pe_int (nomark _)) (pw_or1 (pt_not (pt_val (pe_callB call_isi (by rfl) T.z_isinstance (by decide +kernel) (pa_cons (pe_ix ix_tup (pv 0) pe_int (fun _ _ => rfl)) (pa_cons (pe_bltn (v := .ty "str") (by rfl) T.z_str (by decide +kernel) rfl) pa_nil))))))))) (pss_one (ps_ret pe_bl)) pss_nil)
      (pss_one (ps_ret (pe_and (pe_cmpR op_in_seq (pe_ix ix_tup (pv 0) pe_int (fun _ _ => rfl)) (pe_glob (v := .ref (ga K "SIGNS")) (by rfl) T.g_SIGNS rfl) (by rfl)) (pe_and (cl D_is_term (hr.mono (by decide)) (pa_cons (pe_ix ix_tup (pv 0) pe_int (fun _ _ => rfl)) pa_nil)) (pe_one (cl D_is_term (hr.mono (by decide)) (pa_cons (pe_ix ix_tup (pv 0) pe_int (fun _ _ => rfl)) pa_nil)))))))), ?_⟩
    refine ⟨_, rfl, _, _, t, _, _, rfl, .ty _, ty, ki .tup, _, rfl, ?_⟩
    by_cases hn : ∃ ds, th = .d (.tuple ds)
    · obtain ⟨ds, rfl⟩ := hn
      refine iteF ?_
      cases ht with
      | @tup a xs _ hS hA =>
      refine ⟨_, rfl, _, _, rfl, .inr hS, rfl, _, rfl, ?_⟩
      by_cases hl : xs.length = 3
      · match xs, hl with
        | [v0, v1, v2], _ =>
        match ds, hA with
        | [d0, d1, d2], .cons h0 (.cons h1 (.cons h2 .nil)) =>
        refine iteF ?_
        refine ⟨_, rfl, _, _, 0, v0, rfl, rfl, hS, atI_nat (j := 0) rfl, _, _, _, _, _, rfl, .ty _, Dp.ty h0, kit_d K .str d0, _, rfl, ?_⟩
        by_cases w0 : ∃ z, d0 = .str z
        · obtain ⟨z, rfl⟩ := w0
          cases h0
          refine iteF ?_
          have e : isAtomT (.d (.tuple [.str z, d1, d2])) = (inV (.str z) sgV && (isTermD d1 && isTermD d2)) := rfl
          rw [e] at q
          refine ⟨_, rfl, _, _, 0, _, rfl, rfl, hS, atI_nat (j := 0) rfl, _, _, rfl, .inr (T.t_SIGNS _), rfl, rfl, _, rfl, ie (fun c1 => ?_) (fun c1 => ?_)⟩
          · have c1' : inV (.str z) sgV = true := c1
            rw [c1', Bool.true_and] at q
            refine ⟨_, rfl, _, _, 1, _, rfl, rfl, hS, atI_nat (j := 1) rfl, v1, .d d1, rfl, h1, _, rfl, ie (fun c2 => ?_) (fun c2 => ?_)⟩
            · have c2' : isTermD d1 = true := c2
              rw [c2', Bool.true_and] at q
              exact ⟨_, rfl, _, _, 2, _, rfl, rfl, hS, atI_nat (j := 2) rfl, v2, .d d2, rfl, h2, q⟩
            · have c2' : isTermD d1 = false := c2
              rw [c2', Bool.false_and] at q
              exact q
          · have c1' : inV (.str z) sgV = false := c1
            rw [c1', Bool.false_and] at q
            exact q
        · have e2 : isTy .str d0 = false := by
            cases d0 <;> first | rfl | exact absurd ⟨_, rfl⟩ w0
          rw [e2]
          have e : isAtomT (.d (.tuple [d0, d1, d2])) = false := by
            cases d0 <;> first | rfl | exact absurd ⟨_, rfl⟩ w0
          rw [e] at q
          exact q
      · have e2 : decide (V.int (xs.length : Int) = V.int 3) = false := decide_eq_false fun z => hl (by injection z; omega)
        rw [e2]
        have hdl : ds.length ≠ 3 := by
          rw [← DpAll.length hA]
          exact hl
        have e : isAtomT (.d (.tuple ds)) = false := by
          match ds, hdl with
          | [], _ => rfl
          | [_], _ => simp [isAtomT, isAtomD]
          | [_, _], _ => simp [isAtomT, isAtomD]
          | [_, _, _], h => exact absurd rfl h
          | _ :: _ :: _ :: _ :: _, _ => simp [isAtomT, isAtomD]
        rw [e] at q
        exact q
    · have e1 : th.is .tup = false := by
        cases th with
        | o => rfl
        | d d => cases d <;> first | rfl | exact absurd ⟨_, rfl⟩ hn
      rw [e1]
      have e : isAtomT th = false := by
        cases th with
        | o => rfl
        | d d => cases d <;> first | rfl | exact absurd ⟨_, rfl⟩ hn
      rw [e] at q
      exact q
/-! is_word -/
def ltL : List Nat := (List.range 26).map (· + 97)
def wordS (z : Str) : Bool := (decide (1 ≤ (tl z).length) && decide ((tl z).length ≤ 8)) && (tl z).all fun c => decide (c ∈ ltL)
def isWordD : PyData → Bool
  | .str z => wordS z
  | _ => false
theorem tl_letters : tl ("abcdefghijklmnopqrstuvwxyz" : Str) = ltL := by decide +kernel
theorem mem_letters (c : Nat) : decide (c ∈ tl ("abcdefghijklmnopqrstuvwxyz" : Str)) = decide (c ∈ ltL) := by rw [tl_letters]
def spWord (K : PySem.W.Frag) : Sp := fun vs H Q _ => ∃ v d, vs = [v] ∧ Dp K H v d ∧ (∀ z, d = .str z → z.length ≤ 100000) ∧ Q (.bl (isWordD d)) H
theorem d_is_word (T : Txt K mg) : Dn P w K mg base CX0 1 "is_word" (spWord K) := by
  obtain ⟨fd, F⟩ := T.f_is_word
  refine dnN T.g_is_word F (fun _ _ _ _ _ _ us hl => match us, hl with | [_], _ => rfl) sc_is_word (fun vs H Q E h => ?_) (fun cdv A outer s H vs Q E hr h => ?_)
  · obtain ⟨v, d, rfl, _⟩ := h
    rfl
  · obtain ⟨v, d, rfl, hd, hlz, q⟩ := h
    refine ⟨_, PSs.nox (pss_cons (ps_if (PW.pt (pw_or (pt_not (pt_val (pe_callB call_isi (by rfl) T.z_isinstance (by decide +kernel) (pa_cons (pv 0) (pa_cons (pe_bltn (v := .ty "str") (by rfl) T.z_str (by decide +kernel) rfl) pa_nil))))) (pw_or1 (pt_not (pt_chain op_le op_le pe_int (pe_callB call_len_str (by rfl) T.z_len (by decide +kernel) (pa_cons (pv 0) pa_nil)) pe_int))))) (pss_one (ps_ret pe_bl)) pss_nil)
      (pss_cons (ps_for PassesOwn.never rfl (pi_str (pv 0)) (pg_name (i := 1) sc_is_word.nd rfl (.inl rfl))
      (pss_one (ps_if (pt_cmpR op_notIn_sign (pv 1) (pe_gv T.g_LETTERS) (by rfl)) (pss_one (ps_ret pe_bl)) pss_nil)))
      (pss_one (ps_ret pe_bl)))), ?_⟩
    refine ⟨_, rfl, _, _, _, _, _, rfl, .ty _, Dp.ty hd, kit_d K .str d, _, rfl, ?_⟩
    by_cases w0 : ∃ z, d = .str z
    · obtain ⟨z, rfl⟩ := w0
      cases hd
      refine iteF ?_
      have hz' : z.length ≤ sizeLine := small40 (hlz z rfl)
      have hlt := len_tl z
      have qf : isWordD (.str z) = false → Q (.bl false) H := fun e => by rw [e] at q; exact q
      refine ⟨_, rfl, _, rfl, hz', _, _, rfl, rfl, _, rfl, ?_⟩
      cases c1 : decide ((1 : Int) ≤ (z.length : Nat)) with
      | false =>
        have := of_decide_eq_false c1
        refine iteF ⟨_, rfl, iteT ?_⟩
        refine qf ?_
        show ((decide (1 ≤ (tl z).length) && decide ((tl z).length ≤ 8)) && _) = false
        rw [decide_eq_false (by omega)]
        rfl
      | true =>
        have := of_decide_eq_true c1
        refine iteT ⟨_, _, rfl, rfl, _, rfl, ?_⟩
        cases c2 : decide (((z.length : Nat) : Int) ≤ 8) with
        | false =>
          have := of_decide_eq_false c2
          refine iteT ?_
          refine qf ?_
          show ((decide (1 ≤ (tl z).length) && decide ((tl z).length ≤ 8)) && _) = false
          rw [decide_eq_false (show ¬ (tl z).length ≤ 8 by omega), Bool.and_false]
          rfl
        | true =>
          have := of_decide_eq_true c2
          refine iteF ?_
          have eW : isWordD (.str z) = (tl z).all fun c => decide (c ∈ ltL) := by
            show ((decide (1 ≤ (tl z).length) && decide ((tl z).length ≤ 8)) && _) = _
            rw [decide_eq_true (by omega), decide_eq_true (by omega)]
            rfl
          refine ⟨_, rfl, _, rfl, for_it walk_str (fun i σ H' => ∃ v, σ = [some (.str z), v] ∧ H' = H ∧ ((tl z).take i).all (fun c => decide (c ∈ ltL)) = true) ⟨none, rfl, rfl, rfl⟩ (fun _ _ _ _ _ => trivial) ?_ ?_⟩
          · rintro i x σ H1 H2 hi ⟨v, rfl, rfl, ha⟩ ⟨rfl, c, hc, rfl⟩
            have hc' : (tl z)[i]? = some c := by rw [← hc]; simp
            obtain ⟨u, hu1, hu2⟩ := T.g_LETTERS
            refine ⟨_, rfl, _, _, rfl, rfl, _, rfl, ?_⟩
            rw [mem_letters]
            cases hd : decide (c ∈ ltL) with
            | true =>
              refine iteF ⟨_, rfl, rfl, ?_⟩
              rw [List.take_add_one, hc', List.all_append, ha]
              simp [of_decide_eq_true hd]
            | false =>
              refine iteT ?_
              refine qf ?_
              rw [eW, Bool.eq_false_iff]
              intro h
              have := List.all_eq_true.mp h c (List.mem_of_getElem? hc')
              rw [hd] at this
              cases this
          · rintro σ H1 ⟨v, rfl, rfl, ha⟩
            have ha' : (tl z).all (fun c => decide (c ∈ ltL)) = true := by
              have e : z.cps.size = (tl z).length := by simp
              rw [e, List.take_length] at ha
              exact ha
            rw [eW, ha'] at q
            exact q
    · have e2 : isTy .str d = false := by
        cases d <;> first | rfl | exact absurd ⟨_, rfl⟩ w0
      rw [e2]
      refine iteT ?_
      have e : isWordD d = false := by
        cases d <;> first | rfl | exact absurd ⟨_, rfl⟩ w0
      rw [e] at q
      exact q
/-! less -/
def spLess (K : PySem.W.Frag) : Sp := fun vs H Q _ => ∃ (p q : Addr) (a b c d : Int), vs = [.ref p, .ref q] ∧ SqT K H p [.int a, .int b] ∧ SqT K H q [.int c, .int d] ∧ CMulW a d ∧ CMulW c b ∧ Q (.bl (decide (a * d < c * b))) H
theorem d_less (T : Txt K mg) : Dn P w K mg base CX0 1 "less" (spLess K) := by
  obtain ⟨fd, F⟩ := T.f_less
  refine dnN T.g_less F (fun _ _ _ _ _ _ us hl => match us, hl with | [_, _], _ => rfl) sc_less (fun vs H Q E h => ?_) (fun cdv A outer s H vs Q E hr h => ?_)
  · obtain ⟨p, q, a, b, c, d, rfl, _⟩ := h
    rfl
  · obtain ⟨p, q, a, b, c, d, rfl, h1, h2, m1, m2, hq⟩ := h
    refine ⟨_, PSs.nox (pss_one (ps_ret (pe_cmpR op_lt (pe_op op_mulW (pe_ix ix_tup (pv 0) pe_int (fun _ _ => rfl)) (pe_ix ix_tup (pv 1) pe_int (fun _ _ => rfl))) (pe_op op_mulW (pe_ix ix_tup (pv 1) pe_int (fun _ _ => rfl)) (pe_ix ix_tup (pv 0) pe_int (fun _ _ => rfl))) (nomark _)))), ?_⟩
    exact ⟨_, rfl, _, _, 0, _, rfl, rfl, h1, atI_nat (j := 0) rfl, _, rfl, _, _, 1, _, rfl, rfl, h2, atI_nat (j := 1) rfl, _, _, rfl, rfl, m1,
      _, rfl, _, _, 0, _, rfl, rfl, h2, atI_nat (j := 0) rfl, _, rfl, _, _, 1, _, rfl, rfl, h1, atI_nat (j := 1) rfl, _, _, rfl, rfl, m2, _, _, rfl, rfl, hq⟩

end
/-! terms, atoms and rows, as the law and the program have them -/
inductive Pl where
  | old | first | second
  deriving DecidableEq
def Pl.s : Pl → Str
  | .old => "old"
  | .first => "first"
  | .second => "second"
inductive Tm where
  | cell (p : Pl) (c : Nat)
  | val (a b : Int)
  deriving DecidableEq
inductive Sg where
  | lt | le | eq | ne
  deriving DecidableEq
def Sg.s : Sg → Str
  | .lt => "<"
  | .le => "<="
  | .eq => "="
  | .ne => "!="
structure At where
  s : Sg
  l : Tm
  r : Tm
  deriving DecidableEq
def valD (x : Int × Int) : PyData := .tuple [.int x.1, .int x.2]
def Tm.d : Tm → PyData
  | .cell p c => .tuple [.str p.s, .int (c : Nat)]
  | .val a b => .tuple [.str "value", valD (a, b)]
def At.d (a : At) : PyData := .tuple [.str a.s.s, a.l.d, a.r.d]
abbrev Row := Option (List (Int × Int))
def rowD : Row → PyData
  | none => .none
  | some l => .tuple (l.map valD)
/-- a value: lowest terms, not too great -/
structure Vl (x : Int × Int) : Prop where
  low : Low x.1 x.2
  top : x.1.natAbs < 2 ^ 70
  bot : x.2.natAbs < 2 ^ 70
def Tm.ok : Tm → Prop
  | .cell _ c => c < 3
  | .val a b => Vl (a, b)
def At.ok (a : At) : Prop := a.l.ok ∧ a.r.ok
def rowOk (r : Row) : Prop := ∀ l, r = some l → (l.length ≤ 3 ∧ ∀ x ∈ l, Vl x)
def Tm.at (r : Pl → Row) : Tm → Option (Int × Int)
  | .val a b => some (a, b)
  | .cell p c => (r p).bind fun l => l[c]?
def Sg.holds : Sg → Int × Int → Int × Int → Bool
  | .lt, x, y => decide (x.1 * y.2 < y.1 * x.2)
  | .le, x, y => !decide (y.1 * x.2 < x.1 * y.2)
  | .eq, x, y => decide (x = y)
  | .ne, x, y => !decide (x = y)
def At.at (r : Pl → Row) (a : At) : Option Bool := match a.l.at r, a.r.at r with
  | some x, some y => some (a.s.holds x y)
  | _, _ => none
def holdO (r : Pl → Row) (as : List At) : Option Bool := if (as.any fun a => (a.at r).isNone) = true then none else some (as.all fun a => decide (a.at r = some true))
theorem Pl.ne_value (p : Pl) : decide (V.str p.s = V.str "value") = false := by cases p <;> decide +kernel
theorem Pl.inj {p q : Pl} : (p.s == q.s) = decide (p = q) := by cases p <;> cases q <;> decide +kernel
theorem Sg.inj {p q : Sg} : (p.s == q.s) = decide (p = q) := by cases p <;> cases q <;> decide +kernel
theorem isVal_of {x : Int × Int} (h : Low x.1 x.2) : isValD (valD x) = true := by
  show (!decide (x.2 < 1) && decide (cd x.1 x.2 = 1)) = true
  rw [decide_eq_false (by have := h.1; omega), decide_eq_true h.2]
  rfl
theorem Tm.isTerm {t : Tm} (h : t.ok) : isTermD t.d = true := by
  cases t with
  | cell p c =>
    show termD p.s (.int (c : Nat)) = true
    unfold termD
    rw [Pl.ne_value, if_neg Bool.false_ne_true]
    have h' : c < 3 := h
    have e1 : inV (.str p.s) plV = true := by cases p <;> decide +kernel
    rw [e1]
    show (decide ((0 : Int) ≤ (c : Nat)) && decide (((c : Nat) : Int) < 3)) = true
    rw [decide_eq_true (by omega), decide_eq_true (by omega)]
    rfl
  | val a b =>
    show termD "value" (valD (a, b)) = true
    unfold termD
    rw [if_pos (by decide +kernel)]
    exact isVal_of (x := (a, b)) h.low
theorem At.isAtom {a : At} (h : a.ok) : isAtomD a.d = true := by
  show (inV (.str a.s.s) sgV && (isTermD a.l.d && isTermD a.r.d)) = true
  have e1 : inV (.str a.s.s) sgV = true := by cases a.s <;> decide +kernel
  rw [e1, Tm.isTerm h.1, Tm.isTerm h.2]
  rfl
theorem eqv_int (i j : Int) : PyData.eqv (.int i) (.int j) = decide (i = j) := by
  show (i == j) = _
  by_cases h : i = j
  · subst h; simp
  · rw [decide_eq_false h, beq_eq_false_iff_ne.mpr h]
theorem eqv_valD (x y : Int × Int) : PyData.eqv (valD x) (valD y) = decide (x = y) := by
  show (PyData.eqv (.int x.1) (.int y.1) && (PyData.eqv (.int x.2) (.int y.2) && true)) = _
  rw [eqv_int, eqv_int, Bool.and_true, ← Bool.decide_and]
  exact decide_eq_decide.mpr ⟨fun h => Prod.ext h.1 h.2, fun h => by subst h; exact ⟨rfl, rfl⟩⟩
theorem eqv_tm (x y : Tm) : PyData.eqv x.d y.d = decide (x = y) := by
  cases x with
  | cell p c =>
    cases y with
    | cell q e =>
      show ((p.s == q.s) && (PyData.eqv (.int (c : Nat)) (.int (e : Nat)) && true)) = _
      rw [Pl.inj, eqv_int, Bool.and_true, ← Bool.decide_and]
      refine decide_eq_decide.mpr ⟨fun h => ?_, fun h => by cases h; exact ⟨rfl, rfl⟩⟩
      obtain ⟨rfl, h2⟩ := h
      have : c = e := by omega
      subst this
      rfl
    | val a b =>
      show ((p.s == "value") && (PyData.eqv (.int (c : Nat)) (valD (a, b)) && true)) = _
      rw [show (p.s == ("value" : Str)) = false by cases p <;> decide +kernel, decide_eq_false (by intro h; cases h)]
      rfl
  | val a b =>
    cases y with
    | cell q e =>
      show ((("value" : Str) == q.s) && (PyData.eqv (valD (a, b)) (.int (e : Nat)) && true)) = _
      rw [show (("value" : Str) == q.s) = false by cases q <;> decide +kernel, decide_eq_false (by intro h; cases h)]
      rfl
    | val c d =>
      show ((("value" : Str) == "value") && (PyData.eqv (valD (a, b)) (valD (c, d)) && true)) = _
      rw [eqv_valD, show (("value" : Str) == "value") = true by decide +kernel, Bool.true_and, Bool.and_true]
      exact decide_eq_decide.mpr ⟨fun h => by cases h; rfl, fun h => by cases h; rfl⟩
theorem eqv_at (x y : At) : PyData.eqv x.d y.d = decide (x = y) := by
  show ((x.s.s == y.s.s) && (PyData.eqv x.l.d y.l.d && (PyData.eqv x.r.d y.r.d && true))) = _
  rw [Sg.inj, eqv_tm, eqv_tm, Bool.and_true, ← Bool.decide_and, ← Bool.decide_and]
  refine decide_eq_decide.mpr ⟨fun h => ?_, fun h => by subst h; exact ⟨rfl, rfl, rfl⟩⟩
  obtain ⟨xs, xl, xr⟩ := x
  obtain ⟨ys, yl, yr⟩ := y
  obtain ⟨h1, h2, h3⟩ := h
  dsimp only at h1 h2 h3
  subst h1 h2 h3
  rfl
theorem Pd.valD (x : Int × Int) : Pd (valD x) := ⟨rfl, rfl, by show 1 ≤ 16; decide⟩
theorem Tm.pd (t : Tm) : Pd t.d ∧ t.d.depth ≤ 2 := by
  cases t with
  | cell p c => exact ⟨⟨rfl, (show (PyData.strOk p.s && (true && true)) = true from by cases p <;> decide +kernel), by show 1 ≤ 16; decide⟩, by show 1 ≤ 2; decide⟩
  | val a b => exact ⟨⟨rfl, (show (PyData.strOk "value" && ((true && (true && true)) && true)) = true from by decide +kernel), by show 2 ≤ 16; decide⟩, by show 2 ≤ 2; decide⟩
theorem At.pd (a : At) : Pd a.d := by
  obtain ⟨h1, e1⟩ := Tm.pd a.l
  obtain ⟨h2, e2⟩ := Tm.pd a.r
  refine ⟨?_, ?_, ?_⟩
  · show (true && (noL a.l.d && (noL a.r.d && true))) = true
    rw [h1.nl, h2.nl]; rfl
  · show (PyData.strOk a.s.s && (a.l.d.canLay0 && (a.r.d.canLay0 && true))) = true
    rw [h1.cl, h2.cl, show PyData.strOk a.s.s = true by cases a.s <;> decide +kernel]; rfl
  · show max 0 (max a.l.d.depth (max a.r.d.depth 0)) + 1 ≤ 16
    omega
theorem rowD_pd (r : Row) : Pd (rowD r) := by
  cases r with
  | none => exact ⟨rfl, rfl, by decide⟩
  | some l =>
    have h : Pds (l.map valD) ∧ PyData.depthAll (l.map valD) ≤ 1 := by
      refine ⟨fun d hd => ?_, ?_⟩
      · obtain ⟨x, _, rfl⟩ := List.mem_map.mp hd
        exact Pd.valD x
      · induction l with
        | nil => exact Nat.zero_le _
        | cons x r ih => exact Nat.max_le.mpr ⟨Nat.le_refl 1, ih⟩
    exact ⟨h.1.nl, h.1.cl, by show PyData.depthAll (l.map valD) + 1 ≤ 16; have := h.2; omega⟩

section
variable {P : Program} {w : World} {K : PySem.W.Frag} {mg : Str → Option Value} {base : Heap}
/-! Conditions.__init__ -/
abbrev aCd (K : PySem.W.Frag) : Addr := ga K "Conditions"
def cdF (l : Addr) : List (Str × V) := putF "kept_atoms" (.ref l) []
theorem cdF_at {l : Addr} : (cdF l).lookup ("kept_atoms" : Str) = some (.ref l) := by
  unfold cdF
  rw [lookup_putF, if_pos rfl]
theorem cdF_no {l : Addr} {m : Str} (h : m ≠ "kept_atoms") : (cdF l).lookup m = none := by
  unfold cdF
  rw [lookup_putF, if_neg h]
  rfl
/-- each atom once -/
def ddS (acc : List At) (a : At) : List At := if (acc.any fun z => decide (z = a)) = true then acc else acc ++ [a]
def dd (as : List At) : List At := as.foldl ddS []
theorem dd_snoc (as : List At) (a : At) : dd (as ++ [a]) = ddS (dd as) a := by
  unfold dd
  rw [List.foldl_append]
  rfl
theorem dd_len (as : List At) : (dd as).length ≤ as.length := by
  have h : ∀ (l acc : List At), (l.foldl ddS acc).length ≤ acc.length + l.length := by
    intro l
    induction l with
    | nil => intro acc; exact Nat.le_refl _
    | cons a r ih =>
      intro acc
      have h1 := ih (ddS acc a)
      have h2 : (ddS acc a).length ≤ acc.length + 1 := by
        unfold ddS
        split
        · omega
        · rw [List.length_append]; exact Nat.le_refl _
      show (r.foldl ddS (ddS acc a)).length ≤ acc.length + (r.length + 1)
      omega
  have := h as []
  simpa [dd] using this
theorem dd_mem (as : List At) (a : At) : a ∈ dd as ↔ a ∈ as := by
  have h : ∀ (l acc : List At), a ∈ l.foldl ddS acc ↔ a ∈ acc ∨ a ∈ l := by
    intro l
    induction l with
    | nil => intro acc; simp
    | cons b r ih =>
      intro acc
      show a ∈ r.foldl ddS (ddS acc b) ↔ _
      rw [ih]
      have h2 : a ∈ ddS acc b ↔ a ∈ acc ∨ a = b := by
        unfold ddS
        split
        · rename_i hc
          obtain ⟨z, hz, e⟩ := List.any_eq_true.mp hc
          have e' := of_decide_eq_true e
          subst e'
          exact ⟨.inl, fun h => h.elim id (fun e => by rw [e]; exact hz)⟩
        · simp
      rw [h2, List.mem_cons]
      constructor
      · rintro ((h | h) | h)
        · exact .inl h
        · exact .inr (.inl h)
        · exact .inr (.inr h)
      · rintro (h | h | h)
        · exact .inl (.inl h)
        · exact .inl (.inr h)
        · exact .inr h
  have := h as []
  simpa [dd] using this
theorem any_eqv (as : List At) (a : At) : ((as.map At.d).any fun z => PyData.eqv z a.d) = as.any fun z => decide (z = a) := by
  rw [List.any_map]
  congr 1
  funext z
  exact eqv_at z a
theorem pds_at (as : List At) : Pds (as.map At.d) := fun d hd => by
  obtain ⟨a, _, rfl⟩ := List.mem_map.mp hd
  exact At.pd a
def spCd (K : PySem.W.Frag) : Sp := fun args H Q _ => ∃ x dx a vs as, args = [.ref x, .ref a] ∧ H x = some (.ins (aCd K) dx []) ∧ (SqL K H a vs ∨ SqT K H a vs) ∧ DpAll K H vs (as.map At.d) ∧ (∀ a ∈ as, At.ok a) ∧ as.length ≤ 1000 ∧
  ∀ l us H', Md [x] H H' → H l = none → H' x = some (.ins (aCd K) dx (cdF l)) → H' l = some (.lst us) → DpAll K H' us ((dd as).map At.d) → Q .non H'
theorem ok_cd (T : Txt K mg) : ∃ fd, FunD K "__init__" "Conditions.__init__" (defArgs s_Conditions___init__) (defBody s_Conditions___init__) (defScope s_Conditions___init__) ([.ref (dflAt ("Conditions", some "__init__") 0 K)] : List V) [] (ma K (ga K "Conditions") "__init__") fd ∧
    FnOk P w K mg base (L2.CX P w) 5 (ma K (ga K "Conditions") "__init__") fd ["self", "atoms"] (spCd K) := by
  obtain ⟨fd, F⟩ := T.f_Conditions___init__
  have D_is_atom := d_is_atom (P := P) (w := w) (base := base) T
  refine ⟨fd, F, F.ok sc_Conditions___init__ (fun vs H Q E h => ?_) (fun cdv A outer s H vs Q E hr h => ?_)⟩
  · obtain ⟨x, dx, a, vs, as, rfl, _⟩ := h
    rfl
  · obtain ⟨x, dx, a, vs, as, rfl, hx, ha, hA, hok, hl, hQ⟩ := h
    refine ⟨_, (pss_cons (ps_if (pt_not (pt_val (pe_callB call_isiT (by rfl) T.z_isinstance (by decide +kernel) (pa_cons (pv 1) (pa_cons (pe_tup (pa_cons (pe_bltn (v := .ty "list") (by rfl) T.z_list (by decide +kernel) rfl) (pa_cons (pe_bltn (v := .ty "tuple") (by rfl) T.z_tuple (by decide +kernel) rfl) pa_nil))) pa_nil))))) (pss_one (EL.rs (by rfl) (takes_of rfl rfl rfl rfl) T.x_NoCondition (by rfl))) pss_nil)
      (pss_cons (ps_set (i := 2) sc_Conditions___init__.nd rfl (.inl rfl) (pe_lst pa_nil))
      (pss_cons (ps_for (passes_of rfl) rfl (PI.or_ (pi_list (pv 1)) (pi_tup (pv 1))) (pg_name (i := 3) sc_Conditions___init__.nd rfl (.inl rfl))
      (pss_cons (ps_if (pt_not (pt_val (cl D_is_atom (hr.mono (by decide)) (pa_cons (pv 3) pa_nil)))) (pss_one (EL.rs (by rfl) (takes_of rfl rfl rfl rfl) T.x_NoCondition (by rfl))) pss_nil)
      (pss_one (ps_if (pt_cmpR (op_notInD (u65 hr)) (pv 3) (pv 2) (by rfl)) (pss_one (ps_expr (pe_bm PySem.F.plainAttrs_list PySem.F.slot_list_append PySem.F.type_list_append mt_append (pv 2) (pa_cons (pv 3) pa_nil)))) pss_nil))))
      (pss_one (ps_fld (pv 0) (pv 2) rfl))))), ?_⟩
    refine ⟨_, rfl, (by show 2 ≤ sizeLine; decide), fun tp ntp => ?_⟩
    generalize eH1 : upd H tp _ = H1
    have s1 : Same H H1 := eH1 ▸ same_upd ntp
    have e1 : H1 tp = some _ := eH1 ▸ upd_same
    have lv : vs.length = as.length := by rw [DpAll.length hA, List.length_map]
    have tyA : ∃ t, TyX K H1 (.ref a) t ∧ PySem.W.kitAny K t [.type "list", .type "tuple"] = some true := by
      rcases ha with ha | ha
      · exact ⟨_, SqL.ty (s1.seq ha), kit_any2 K .lst .tup (.list [])⟩
      · exact ⟨_, SqT.ty (Same.seqT s1 ha), kit_any2 K .lst .tup (.tuple [])⟩
    obtain ⟨t, ty, ki⟩ := tyA
    refine ⟨_, tp, _, t, _, true, rfl, e1, .cons (.ty _) (.cons (.ty _) .nil), ty, ki, _, rfl, iteF ?_⟩
    refine ⟨(by show 0 ≤ sizeLine; decide), fun kl nkl => ?_⟩
    generalize eH2 : upd H1 kl _ = H2
    have s2 : Same H1 H2 := eH2 ▸ same_upd nkl
    have e2 : H2 kl = some _ := eH2 ▸ upd_same
    have s12 := s1.trans s2
    have nk0 : H kl = none := s1.free nkl
    have hx2 := s12 _ _ hx
    have nkx : kl ≠ x := fun z => by rw [z, hx] at nk0; cases nk0
    have step : ∀ (i : Nat) (xv : V) (σ : L2.St) (H' : Hp), vs[i]? = some xv → (∃ o, σ = [some (.ref x), some (.ref a), some (.ref kl), o]) → (∃ us, H' kl = some (.lst us) ∧ DpAll K H' us ((dd (as.take i)).map At.d) ∧ Md [kl] H2 H') → ∃ at_, as[i]? = some at_ ∧ Dp K H' xv at_.d := by
      rintro i xv σ H' hg _ ⟨us, _, _, m⟩
      obtain ⟨d, hd, hdp⟩ := DpAll.get hA hg
      rw [List.getElem?_map] at hd
      cases he : as[i]? with
      | none => rw [he] at hd; cases hd
      | some at_ =>
        rw [he] at hd
        have e : at_.d = d := Option.some.inj hd
        subst e
        exact ⟨at_, rfl, m.dp (At.pd at_).nl (Dp.same s12 hdp)⟩
    have fin : ∀ H', (∃ us, H' kl = some (.lst us) ∧ DpAll K H' us ((dd (as.take as.length)).map At.d) ∧ Md [kl] H2 H') → Q .non (upd H' x (.ins (aCd K) dx (putF "kept_atoms" (.ref kl) []))) := by
      rintro H' ⟨us, eu, au, m⟩
      rw [List.take_length] at au
      have hx' := m.out _ _ hx2 (by simp; exact Ne.symm nkx)
      have mx : Md [x] H' (upd H' x (.ins (aCd K) dx (putF "kept_atoms" (.ref kl) []))) := Md.upd hx' rfl (by simp)
      have m0 : Md [x] H H' := Md.mono (S := []) (Md.newM (S := []) (m) (Md.of s12) nk0) (by simp)
      exact hQ kl us _ (m0.trans mx) nk0 upd_same (by rw [upd_ne nkx]; exact eu) (mx.dpAll (pds_at _).nl au)
    have body : ∀ (i : Nat) (xv : V) (σ : L2.St) (H' : Hp) (NX : L2.St → Hp → Prop), vs[i]? = some xv → (∃ o, σ = [some (.ref x), some (.ref a), some (.ref kl), o]) ∧ (∃ us, H' kl = some (.lst us) ∧ DpAll K H' us ((dd (as.take i)).map At.d) ∧ Md [kl] H2 H') →
        (∀ σ' H'', (∃ o, σ' = [some (.ref x), some (.ref a), some (.ref kl), o]) ∧ (∃ us, H'' kl = some (.lst us) ∧ DpAll K H'' us ((dd (as.take (i + 1))).map At.d) ∧ Md [kl] H2 H'') → NX σ' H'') →
        (∃ at_ us, Dp K H' xv (At.d at_) ∧ At.ok at_ ∧ H' kl = some (.lst us) ∧ us.length < sizeLine ∧ DpAll K H' us ((dd (as.take i)).map At.d) ∧ ((((dd (as.take i)).map At.d).any fun z => PyData.eqv z at_.d) = true → NX [some (.ref x), some (.ref a), some (.ref kl), some xv] H') ∧
          ((((dd (as.take i)).map At.d).any fun z => PyData.eqv z at_.d) = false → NX [some (.ref x), some (.ref a), some (.ref kl), some xv] (upd H' kl (.lst (us ++ [xv]))))) := by
      rintro i xv σ H' NX hg ⟨ho, us, eu, au, m⟩ hN
      obtain ⟨at_, hat, hdp⟩ := step i xv σ H' hg ho ⟨us, eu, au, m⟩
      have tk1 : as.take (i + 1) = as.take i ++ [at_] := by rw [List.take_add_one, hat]; rfl
      have hlu : us.length < sizeLine := by
        rw [DpAll.length au, List.length_map]
        have h1 := dd_len (as.take i)
        rw [List.length_take] at h1
        exact Nat.lt_of_le_of_lt (Nat.le_trans h1 (Nat.le_trans (Nat.min_le_right _ _) hl)) (by decide)
      refine ⟨at_, us, hdp, hok _ (List.mem_of_getElem? hat), eu, hlu, au, fun c => ?_, fun c => ?_⟩
      · refine hN _ _ ⟨⟨_, rfl⟩, us, eu, ?_, m⟩
        rw [any_eqv] at c
        rw [tk1, dd_snoc, ddS, if_pos c]
        exact au
      · have mu : Md [kl] H' (upd H' kl (.lst (us ++ [xv]))) := Md.upd eu rfl (by simp)
        refine hN _ _ ⟨⟨_, rfl⟩, _, upd_same, ?_, m.trans mu⟩
        rw [any_eqv] at c
        rw [tk1, dd_snoc, ddS, if_neg (by rw [c]; exact Bool.false_ne_true), List.map_append]
        exact DpAll.snoc (mu.dp (At.pd at_).nl hdp) (mu.dpAll (pds_at _).nl au)
    have start : (∃ o : Option V, ([some (.ref x), some (.ref a), some (.ref kl), none] : L2.St) = [some (.ref x), some (.ref a), some (.ref kl), o]) ∧ ∃ us, H2 kl = some (.lst us) ∧ DpAll K H2 us ((dd (as.take 0)).map At.d) ∧ Md [kl] H2 H2 := ⟨⟨none, rfl⟩, [], e2, .nil, .refl _ _⟩
    rcases ha with ha | ha
    · refine .inl ⟨_, rfl, a, rfl, ⟨_, s12.seq ha⟩, for_list (K := K) (a := a) (xs := vs) (fun i σ H' => (∃ o, σ = [some (.ref x), some (.ref a), some (.ref kl), o]) ∧ ∃ us, H' kl = some (.lst us) ∧ DpAll K H' us ((dd (as.take i)).map At.d) ∧ Md [kl] H2 H') start (fun i σ H' _ h => ?_) ?_ ?_⟩
      · obtain ⟨_, us, _, _, m⟩ := h
        exact SqL.new ha (Md.newM (S := []) m (Md.of s12) nk0) (by simp)
      · rintro i xv σ H' hg h
        obtain ⟨at_, us, hdp, hao, eu, hlu, au, h1, h2⟩ := body i xv σ H' _ hg h (fun _ _ z => z)
        obtain ⟨⟨o, rfl⟩, _⟩ := h
        refine ⟨_, rfl, xv, .d at_.d, rfl, hdp, _, rfl, ?_⟩
        rw [show isAtomT (.d at_.d) = true from At.isAtom hao]
        refine iteF ?_
        refine ⟨_, rfl, _, rfl, at_.d, _, hdp, .lst (SqL.of eu) au, (At.pd at_).shaped, (pds_at _).shaped, _, rfl, ie (fun c => ?_) (fun c => ?_)⟩
        · have c' : (((dd (as.take i)).map At.d).any fun z => PyData.eqv z at_.d) = false := by
            cases hb : (((dd (as.take i)).map At.d).any fun z => PyData.eqv z at_.d) with
            | false => rfl
            | true => rw [hb] at c; cases c
          exact ⟨_, rfl, .inl ⟨rfl, _, SqL.of eu⟩, _, rfl, kl, _, _, rfl, rfl, eu, hlu, h2 c'⟩
        · have c' : (((dd (as.take i)).map At.d).any fun z => PyData.eqv z at_.d) = true := by
            cases hb : (((dd (as.take i)).map At.d).any fun z => PyData.eqv z at_.d) with
            | true => rfl
            | false => rw [hb] at c; cases c
          exact h1 c'
      · rintro σ H' ⟨⟨o, rfl⟩, h⟩
        have h' : ∃ us, H' kl = some (.lst us) ∧ DpAll K H' us ((dd (as.take as.length)).map At.d) ∧ Md [kl] H2 H' := by rw [← lv]; exact h
        obtain ⟨us, eu, au, m⟩ := id h'
        exact ⟨_, rfl, _, rfl, _, _, _, _, rfl, m.out _ _ hx2 (by simp; exact Ne.symm nkx), T.o_Conditions.cl, T.n_Conditions_kept_atoms, (by show 0 < 1000; decide), fin H' h'⟩
    · refine .inr ⟨_, rfl, a, rfl, ⟨_, Same.seqT s12 ha⟩, for_tup (K := K) (a := a) (xs := vs) (fun i σ H' => (∃ o, σ = [some (.ref x), some (.ref a), some (.ref kl), o]) ∧ ∃ us, H' kl = some (.lst us) ∧ DpAll K H' us ((dd (as.take i)).map At.d) ∧ Md [kl] H2 H') start (fun i σ H' _ h => ?_) ?_ ?_⟩
      · obtain ⟨_, us, _, _, m⟩ := h
        exact m.sqT (Same.seqT s12 ha)
      · rintro i xv σ H' hg h
        obtain ⟨at_, us, hdp, hao, eu, hlu, au, h1, h2⟩ := body i xv σ H' _ hg h (fun _ _ z => z)
        obtain ⟨⟨o, rfl⟩, _⟩ := h
        refine ⟨_, rfl, xv, .d at_.d, rfl, hdp, _, rfl, ?_⟩
        rw [show isAtomT (.d at_.d) = true from At.isAtom hao]
        refine iteF ?_
        refine ⟨_, rfl, _, rfl, at_.d, _, hdp, .lst (SqL.of eu) au, (At.pd at_).shaped, (pds_at _).shaped, _, rfl, ie (fun c => ?_) (fun c => ?_)⟩
        · have c' : (((dd (as.take i)).map At.d).any fun z => PyData.eqv z at_.d) = false := by
            cases hb : (((dd (as.take i)).map At.d).any fun z => PyData.eqv z at_.d) with
            | false => rfl
            | true => rw [hb] at c; cases c
          exact ⟨_, rfl, .inl ⟨rfl, _, SqL.of eu⟩, _, rfl, kl, _, _, rfl, rfl, eu, hlu, h2 c'⟩
        · have c' : (((dd (as.take i)).map At.d).any fun z => PyData.eqv z at_.d) = true := by
            cases hb : (((dd (as.take i)).map At.d).any fun z => PyData.eqv z at_.d) with
            | true => rfl
            | false => rw [hb] at c; cases c
          exact h1 c'
      · rintro σ H' ⟨⟨o, rfl⟩, h⟩
        have h' : ∃ us, H' kl = some (.lst us) ∧ DpAll K H' us ((dd (as.take as.length)).map At.d) ∧ Md [kl] H2 H' := by rw [← lv]; exact h
        obtain ⟨us, eu, au, m⟩ := id h'
        exact ⟨_, rfl, _, rfl, _, _, _, _, rfl, m.out _ _ hx2 (by simp; exact Ne.symm nkx), T.o_Conditions.cl, T.n_Conditions_kept_atoms, (by show 0 < 1000; decide), fin H' h'⟩
/-! Conditions objects -/
structure CdAt (K : PySem.W.Frag) (H : Hp) (x dx l : Addr) (as : List At) : Prop where
  hx : H x = some (.ins (aCd K) dx (cdF l))
  hl : ∃ vs, H l = some (.lst vs) ∧ DpAll K H vs (as.map At.d)
  ok : ∀ a ∈ as, At.ok a
theorem CdAt.md {H H' : Hp} {x dx l : Addr} {as : List At} {S : List Addr} (C : CdAt K H x dx l as) (m : Md S H H') (h1 : x ∉ S) (h2 : l ∉ S) : CdAt K H' x dx l as := by
  obtain ⟨hx, ⟨vs, e, a⟩, ok⟩ := C
  exact ⟨m.out _ _ hx h1, ⟨vs, m.out _ _ e h2, m.dpAll (pds_at as).nl a⟩, ok⟩
theorem CdAt.same {H H' : Hp} {x dx l : Addr} {as : List At} (C : CdAt K H x dx l as) (s : Same H H') : CdAt K H' x dx l as := C.md (S := []) (.of s) (by simp) (by simp)
theorem at_tup {H : Hp} {v : V} {a : At} (h : Dp K H v a.d) : ∃ t v1 v2, v = .ref t ∧ SqT K H t [.str a.s.s, v1, v2] ∧ Dp K H v1 a.l.d ∧ Dp K H v2 a.r.d := by
  cases h with
  | tup hS hA =>
    cases hA with
    | cons h1 hA =>
      cases hA with
      | cons h2 hA =>
        cases hA with
        | cons h3 hA =>
          cases hA
          cases h1
          exact ⟨_, _, _, rfl, hS, h2, h3⟩
theorem getM {α β : Type} {f : α → β} {l : List α} {i : Nat} {d : β} (h : (l.map f)[i]? = some d) : ∃ a, l[i]? = some a ∧ f a = d := by
  rw [List.getElem?_map] at h
  cases e : l[i]? with
  | none => rw [e] at h; cases h
  | some a => rw [e] at h; exact ⟨a, rfl, Option.some.inj h⟩
theorem tk1 {α : Type} {l : List α} {i : Nat} {a : α} (h : l[i]? = some a) : l.take (i + 1) = l.take i ++ [a] := by
  rw [List.take_add_one, h]
  rfl
theorem DpAll.app {H : Hp} : ∀ {ds es : List PyData} {vs us : List V}, DpAll K H vs ds → DpAll K H us es → DpAll K H (vs ++ us) (ds ++ es)
  | _, _, _, _, .nil, h => h
  | _, _, _, _, .cons a b, h => .cons a (DpAll.app b h)
/-! making Conditions -/
theorem mkCd {H : Hp} {a : Addr} {vs : List V} {as : List At} {Q : Addr → Hp → Prop} {E : XK} (ha : SqL K H a vs ∨ SqT K H a vs) (hA : DpAll K H vs (as.map At.d)) (hok : ∀ a ∈ as, At.ok a) (hl : as.length ≤ 1000)
    (hQ : ∀ z dz n H', Same H H' → H z = none → H n = none → z ≠ n → CdAt K H' z dz n (dd as) → Q z H') :
    ∀ x dx, H x = none → H dx = none → dx ≠ x → spCd K [.ref x, .ref a] (upd (upd H dx (.own x)) x (.ins (aCd K) dx [])) (fun v H2 => v = .non ∧ Q x H2) E := by
  intro x dx nx ndx hne
  generalize eH1 : upd (upd H dx _) x _ = H1
  have s1 : Same H H1 := eH1 ▸ (same_upd ndx).trans (same_upd (by rw [upd_ne (Ne.symm hne)]; exact nx))
  have x1 : H1 x = some (.ins (aCd K) dx []) := eH1 ▸ upd_same
  refine ⟨x, dx, a, vs, as, rfl, x1, ha.elim (fun z => .inl (s1.seq z)) (fun z => .inr (Same.seqT s1 z)), DpAll.same s1 hA, hok, hl, fun l us H' m nl hx hu hd => ⟨rfl, ?_⟩⟩
  have sH : Same H H' := fun b o hb => m.out _ _ (s1 _ _ hb) (by simp; exact ne_of_none hb nx)
  have nl0 : H l = none := s1.free nl
  have nxl : x ≠ l := fun z => by rw [← z, x1] at nl; cases nl
  exact hQ x dx l H' sH nx nl0 nxl ⟨hx, ⟨us, hu, hd⟩, fun a ha => hok a ((dd_mem as a).mp ha)⟩
theorem d_cd1 (T : Txt K mg) : FnR P w K mg base (L2.CX P w) 5 (ma K (ga K "Conditions") "__init__") (spCd K) := by
  obtain ⟨fd, F, ok⟩ := ok_cd (P := P) (w := w) (base := base) T
  have := fnD F ok 2 1 (by simp) rfl (fun _ _ _ _ _ _ _ us its h1 h2 => match us, its, h1, h2 with | [_, _], [_], _, _ => ⟨_, rfl, rfl⟩)
  exact this.imp fun vs H Q E h => by
    rw [show ([V.ref (dflAt ("Conditions", some "__init__") 0 K)] : List V).drop 1 = [] from rfl, List.append_nil]
    exact h
theorem d_cd0 (T : Txt K mg) : FnR P w K mg base (L2.CX P w) 5 (ma K (ga K "Conditions") "__init__") (fun vs H Q E => spCd K (vs ++ [.ref (dflAt ("Conditions", some "__init__") 0 K)]) H Q E) := by
  obtain ⟨fd, F, ok⟩ := ok_cd (P := P) (w := w) (base := base) T
  exact fnD F ok 1 0 (by simp) rfl (fun _ _ _ _ _ _ _ us its h1 h2 => match us, its, h1, h2 with | [_], [_], _, _ => ⟨_, rfl, rfl⟩)
/-! & and ~ -/
def spAnd (K : PySem.W.Frag) : Sp := fun vs H Q _ => ∃ x dx l as y dy m bs, vs = [.ref x, .ref y] ∧ CdAt K H x dx l as ∧ CdAt K H y dy m bs ∧ as.length ≤ 400 ∧ bs.length ≤ 400 ∧ ∀ z dz n H', Same H H' → H z = none → H n = none → z ≠ n → CdAt K H' z dz n (dd (as ++ bs)) → Q (.ref z) H'
theorem d_and (T : Txt K mg) : FnR P w K mg base CX0 7 (ma K (ga K "Conditions") "__and__") (spAnd K) := by
  obtain ⟨fd, F⟩ := T.f_Conditions___and__
  have D_cd := d_cd1 (P := P) (w := w) (base := base) T
  refine fnN F (fun _ _ _ _ _ _ us hl => match us, hl with | [_, _], _ => rfl) sc_Conditions___and__ (fun vs H Q E h => ?_) (fun cdv A outer s H vs Q E hr h => ?_)
  · obtain ⟨x, dx, l, as, y, dy, m, bs, rfl, _⟩ := h
    rfl
  · obtain ⟨x, dx, l, as, y, dy, m, bs, rfl, C, D, h1, h2, hQ⟩ := h
    refine ⟨_, PSs.nox (pss_cons (ps_if (pt_not (pt_val (pe_callB call_isi (by rfl) T.z_isinstance (by decide +kernel) (pa_cons (pv 1) (pa_cons (pe_glob (v := .ref (ga K "Conditions")) (by rfl) T.g_Conditions rfl) pa_nil))))) (pss_one ps_never) pss_nil)
      (pss_one (ps_ret (pe_makeE T.m_Conditions D_cd hr T.g_Conditions pxq (pa_cons (pe_op op_cat (pe_fld (pv 0) rfl) (pe_fld (pv 1) rfl)) pa_nil))))), ?_⟩
    obtain ⟨v1, e1, a1⟩ := C.hl
    obtain ⟨v2, e2, a2⟩ := D.hl
    have l1 : v1.length = as.length := by rw [DpAll.length a1, List.length_map]
    have l2 : v2.length = bs.length := by rw [DpAll.length a2, List.length_map]
    refine ⟨_, rfl, _, _, _, _, _, rfl, .own _, T.o_Conditions.ty D.hx, T.o_Conditions.self, _, rfl, iteF ?_⟩
    refine ⟨_, rfl, _, _, _, _, _, rfl, C.hx, T.o_Conditions.cl, T.n_Conditions_kept_atoms, cdF_at, _, rfl, _, _, _, _, _, rfl, D.hx, T.o_Conditions.cl, T.n_Conditions_kept_atoms, cdF_at, l, m, _, _, rfl, rfl, e1, e2, (by rw [l1, l2]; exact Nat.le_trans (Nat.add_le_add h1 h2) (by decide)), fun p np => ?_⟩
    generalize eH1 : upd H p _ = H1
    have s1 : Same H H1 := eH1 ▸ same_upd np
    have e3 : H1 p = some _ := eH1 ▸ upd_same
    refine mkCd (Q := fun z H' => Q (.ref z) H') (as := as ++ bs) (.inl (SqL.of e3)) ?_ ?_ (by rw [List.length_append]; omega) fun z dz n H' sH nz nn hzn CD => ?_
    · rw [List.map_append]
      exact DpAll.app (DpAll.same s1 a1) (DpAll.same s1 a2)
    · exact fun a ha => (List.mem_append.mp ha).elim (C.ok a) (D.ok a)
    · exact hQ z dz n H' (s1.trans sH) (s1.free nz) (s1.free nn) hzn CD

end
end K51
namespace K51
open PySem PySem.Spec PyProof.Rows L2 He TL EL
section
variable {P : Program} {w : World} {K : PySem.W.Frag} {mg : Str → Option Value} {base : Heap}
/-! Conditions.atoms, __eq__, __iand__ -/
def spAtoms (K : PySem.W.Frag) : Sp := fun vs H Q _ => ∃ x dx l as, vs = [.ref x] ∧ CdAt K H x dx l as ∧ ∀ p us H', H p = none → Same H H' → H' p = some (.lst us) → DpAll K H' us (as.map At.d) → Q (.ref p) H'
theorem d_atoms (T : Txt K mg) : FnR P w K mg base CX0 1 (ma K (ga K "Conditions") "atoms") (spAtoms K) := by
  obtain ⟨fd, F⟩ := T.f_Conditions_atoms
  refine fnN F (fun _ _ _ _ _ _ us hl => match us, hl with | [_], _ => rfl) sc_Conditions_atoms (fun vs H Q E h => ?_) (fun cdv A outer s H vs Q E hr h => ?_)
  · obtain ⟨x, dx, l, as, rfl, _⟩ := h
    rfl
  · obtain ⟨x, dx, l, as, rfl, C, hQ⟩ := h
    obtain ⟨v1, e1, a1⟩ := C.hl
    refine ⟨_, PSs.nox (pss_one (ps_ret (pe_callTy call_list_of (by rfl) T.z_list (by decide +kernel) (pa_cons (pe_fld (pv 0) rfl) pa_nil)))), ?_⟩
    refine ⟨_, rfl, _, _, _, _, _, rfl, C.hx, T.o_Conditions.cl, T.n_Conditions_kept_atoms, cdF_at, _, _, rfl, .inl (SqL.of e1), fun p np => ?_⟩
    generalize eH1 : upd H p _ = H1
    have s1 : Same H H1 := eH1 ▸ same_upd np
    have h1 : H1 p = some _ := eH1 ▸ upd_same
    exact hQ p v1 H1 np s1 h1 (DpAll.same s1 a1)
theorem eqv_ats : ∀ as bs : List At, PyData.eqv (.list (as.map At.d)) (.list (bs.map At.d)) = decide (as = bs)
  | [], [] => rfl
  | [], _ :: _ => rfl
  | _ :: _, [] => rfl
  | t :: ts, u :: us => by
    show (PyData.eqv t.d u.d && PyData.eqv (.list (ts.map At.d)) (.list (us.map At.d))) = _
    rw [eqv_at, eqv_ats ts us, ← Bool.decide_and]
    exact decide_eq_decide.mpr ⟨fun h => by rw [h.1, h.2], fun h => by cases h; exact ⟨rfl, rfl⟩⟩
def spCdEq (K : PySem.W.Frag) : Sp := fun vs H Q _ => ∃ x dx l as y dy m bs, vs = [.ref x, .ref y] ∧ CdAt K H x dx l as ∧ CdAt K H y dy m bs ∧ Q (.bl (decide (as = bs))) H
theorem d_cd_eq (T : Txt K mg) : FnR P w K mg base CX0 1 (ma K (ga K "Conditions") "__eq__") (spCdEq K) := by
  obtain ⟨fd, F⟩ := T.f_Conditions___eq__
  refine fnN F (fun _ _ _ _ _ _ us hl => match us, hl with | [_, _], _ => rfl) sc_Conditions___eq__ (fun vs H Q E h => ?_) (fun cdv A outer s H vs Q E hr h => ?_)
  · obtain ⟨x, dx, l, as, y, dy, m, bs, rfl, _⟩ := h
    rfl
  · obtain ⟨x, dx, l, as, y, dy, m, bs, rfl, C, D, q⟩ := h
    obtain ⟨v1, e1, a1⟩ := C.hl
    obtain ⟨v2, e2, a2⟩ := D.hl
    refine ⟨_, PSs.nox (pss_one (ps_ret (pe_and (pe_callB call_isi (by rfl) T.z_isinstance (by decide +kernel) (pa_cons (pv 1) (pa_cons (pe_glob (v := .ref (ga K "Conditions")) (by rfl) T.g_Conditions rfl) pa_nil))) (pe_one (pe_cmpR (op_eqD hr.units) (pe_fld (pv 0) rfl) (pe_fld (pv 1) rfl) (nomark _)))))), ?_⟩
    refine ⟨_, rfl, _, _, _, _, _, rfl, .own _, T.o_Conditions.ty D.hx, T.o_Conditions.self, _, rfl, iteT ?_⟩
    refine ⟨_, rfl, _, _, _, _, _, rfl, C.hx, T.o_Conditions.cl, T.n_Conditions_kept_atoms, cdF_at, _, rfl, _, _, _, _, _, rfl, D.hx, T.o_Conditions.cl, T.n_Conditions_kept_atoms, cdF_at, _, _, .lst (SqL.of e1) a1, .lst (SqL.of e2) a2, (pds_at as).shaped, (pds_at bs).shaped, ?_⟩
    rw [eqv_ats]
    exact q
def spIand (K : PySem.W.Frag) : Sp := fun vs H Q _ => ∃ x dx l as y dy m bs, vs = [.ref x, .ref y] ∧ CdAt K H x dx l as ∧ CdAt K H y dy m bs ∧ as.length ≤ 400 ∧ bs.length ≤ 400 ∧ ∀ n H', Md [x] H H' → H n = none → CdAt K H' x dx n (dd (as ++ bs)) → Q (.ref x) H'
theorem d_iand (T : Txt K mg) : FnR P w K mg base CX0 7 (ma K (ga K "Conditions") "__iand__") (spIand K) := by
  obtain ⟨fd, F⟩ := T.f_Conditions___iand__
  have D_cd := d_cd1 (P := P) (w := w) (base := base) T
  refine fnN F (fun _ _ _ _ _ _ us hl => match us, hl with | [_, _], _ => rfl) sc_Conditions___iand__ (fun vs H Q E h => ?_) (fun cdv A outer s H vs Q E hr h => ?_)
  · obtain ⟨x, dx, l, as, y, dy, m, bs, rfl, _⟩ := h
    rfl
  · obtain ⟨x, dx, l, as, y, dy, m, bs, rfl, C, D, h1, h2, hQ⟩ := h
    refine ⟨_, PSs.nox (pss_cons (ps_if (pt_not (pt_val (pe_callB call_isi (by rfl) T.z_isinstance (by decide +kernel) (pa_cons (pv 1) (pa_cons (pe_glob (v := .ref (ga K "Conditions")) (by rfl) T.g_Conditions rfl) pa_nil))))) (pss_one ps_never) pss_nil)
      (pss_cons (ps_fld (pv 0) (pe_fld (pe_makeE T.m_Conditions D_cd hr T.g_Conditions pxq (pa_cons (pe_op op_cat (pe_fld (pv 0) rfl) (pe_fld (pv 1) rfl)) pa_nil)) rfl) rfl)
      (pss_one (ps_ret (pv 0))))), ?_⟩
    obtain ⟨v1, e1, a1⟩ := C.hl
    obtain ⟨v2, e2, a2⟩ := D.hl
    have l1 : v1.length = as.length := by rw [DpAll.length a1, List.length_map]
    have l2 : v2.length = bs.length := by rw [DpAll.length a2, List.length_map]
    refine ⟨_, rfl, _, _, _, _, _, rfl, .own _, T.o_Conditions.ty D.hx, T.o_Conditions.self, _, rfl, iteF ?_⟩
    refine ⟨_, rfl, _, _, _, _, _, rfl, C.hx, T.o_Conditions.cl, T.n_Conditions_kept_atoms, cdF_at, _, rfl, _, _, _, _, _, rfl, D.hx, T.o_Conditions.cl, T.n_Conditions_kept_atoms, cdF_at, l, m, _, _, rfl, rfl, e1, e2, (by rw [l1, l2]; exact Nat.le_trans (Nat.add_le_add h1 h2) (by decide)), fun p np => ?_⟩
    generalize eH1 : upd H p _ = H1
    have s1 : Same H H1 := eH1 ▸ same_upd np
    have e3 : H1 p = some _ := eH1 ▸ upd_same
    refine mkCd (as := as ++ bs) (.inl (SqL.of e3)) ?_ ?_ (by rw [List.length_append]; omega) fun z dz n H2 s2 nz nn hzn CD => ?_
    · rw [List.map_append]
      exact DpAll.app (DpAll.same s1 a1) (DpAll.same s1 a2)
    · exact fun a ha => (List.mem_append.mp ha).elim (C.ok a) (D.ok a)
    · have s02 := s1.trans s2
      have hx2 := s02 _ _ C.hx
      refine ⟨_, _, _, _, _, rfl, CD.hx, T.o_Conditions.cl, T.n_Conditions_kept_atoms, cdF_at, _, rfl, _, _, _, _, rfl, hx2, T.o_Conditions.cl, T.n_Conditions_kept_atoms, (by show 1 < 1000; decide), _, rfl, ?_⟩
      have mx : Md [x] H2 (upd H2 x (.ins (aCd K) dx (putF "kept_atoms" (.ref n) (cdF l)))) := Md.upd hx2 rfl (by simp)
      obtain ⟨v3, e4, a4⟩ := CD.hl
      have nx : n ≠ x := fun z => by rw [z] at nn; rw [s1 _ _ C.hx] at nn; cases nn
      have ef : putF "kept_atoms" (.ref n) (cdF l) = cdF n := by
        show (if ("kept_atoms" : Str) = "kept_atoms" then [(("kept_atoms" : Str), V.ref n)] else _) = _
        rw [if_pos rfl]
        rfl
      refine hQ n _ ((Md.of s02).trans mx) (s1.free nn) ⟨by rw [upd_same, ef], ⟨v3, by rw [upd_ne nx]; exact e4, mx.dpAll (pds_at _).nl a4⟩, CD.ok⟩

end
end K51
namespace K51
open PySem PySem.Spec PyProof.Rows L2 He TL EL
section
variable {P : Program} {w : World} {K : PySem.W.Frag} {mg : Str → Option Value} {base : Heap}
/-! what stands for a term -/
theorem tm_cell {H : Hp} {v : V} {p : Pl} {c : Nat} (h : Dp K H v (Tm.cell p c).d) : ∃ a, v = .ref a ∧ SqT K H a [.str p.s, .int (c : Nat)] := by
  cases h with
  | tup hS hA =>
    cases hA with
    | cons h1 hA =>
      cases hA with
      | cons h2 hA =>
        cases hA
        cases h1
        cases h2
        exact ⟨_, rfl, hS⟩
theorem tm_val {H : Hp} {v : V} {a b : Int} (h : Dp K H v (Tm.val a b).d) : ∃ q r, v = .ref q ∧ SqT K H q [.str "value", r] ∧ Dp K H r (valD (a, b)) := by
  cases h with
  | tup hS hA =>
    cases hA with
    | cons h1 hA =>
      cases hA with
      | cons h2 hA =>
        cases hA
        cases h1
        exact ⟨_, _, rfl, hS, h2⟩
theorem dp_val {H : Hp} {v : V} {x : Int × Int} (h : Dp K H v (valD x)) : ∃ q, v = .ref q ∧ SqT K H q [.int x.1, .int x.2] := by
  cases h with
  | tup hS hA =>
    cases hA with
    | cons h1 hA =>
      cases hA with
      | cons h2 hA =>
        cases hA
        cases h1
        cases h2
        exact ⟨_, rfl, hS⟩
theorem DpAll.at {H : Hp} : ∀ {ds : List PyData} {vs : List V} {i : Nat} {d : PyData}, DpAll K H vs ds → ds[i]? = some d → ∃ v, vs[i]? = some v ∧ Dp K H v d
  | _, _, 0, _, .cons a b, e => by cases e; exact ⟨_, rfl, a⟩
  | _, _, i + 1, _, .cons a b, e => DpAll.at (i := i) b e
theorem vl_mul {x y : Int × Int} (h1 : Vl x) (h2 : Vl y) : CMulW x.1 y.2 := wide_mul h1.top h2.bot (by decide) (by decide) (by decide)
/-! is_column_count, names_cells, are_row_rules -/
def colOk : PyData → Bool
  | .int i => decide (1 ≤ i) && decide (i ≤ 3)
  | _ => false
def spCol (K : PySem.W.Frag) : Sp := fun vs H Q _ => ∃ v d, vs = [v] ∧ Dp K H v d ∧ Q (.bl (colOk d)) H
theorem d_col (T : Txt K mg) : Dn P w K mg base CX0 2 "is_column_count" (spCol K) := by
  obtain ⟨fd, F⟩ := T.f_is_column_count
  have D_is_whole := d_is_whole (P := P) (w := w) (base := base) T
  refine dnN T.g_is_column_count F (fun _ _ _ _ _ _ us hl => match us, hl with | [_], _ => rfl) sc_is_column_count (fun vs H Q E h => ?_) (fun cdv A outer s H vs Q E hr h => ?_)
  · obtain ⟨v, d, rfl, _⟩ := h
    rfl
  · obtain ⟨v, d, rfl, hd, q⟩ := h
    refine ⟨_, PSs.nox (pss_one (ps_ret (pe_and (cl D_is_whole (hr.mono (by decide)) (pa_cons (pv 0) pa_nil)) (pe_one (pe_chain op_le op_le pe_int (pv 0) (pe_gv T.g_MOST_COLUMNS)))))), ?_⟩
    refine ⟨_, rfl, v, .d d, rfl, hd, _, rfl, ?_⟩
    rw [isWholeT_d]
    by_cases w0 : ∃ i, d = .int i
    · obtain ⟨i, rfl⟩ := w0
      cases hd
      refine iteT ?_
      refine ⟨_, rfl, _, _, rfl, rfl, _, rfl, ?_⟩
      have e : colOk (.int i) = (decide (1 ≤ i) && decide (i ≤ 3)) := rfl
      rw [e] at q
      cases c : decide (1 ≤ i) with
      | true =>
        rw [c, Bool.true_and] at q
        exact iteT ⟨_, _, rfl, rfl, q⟩
      | false =>
        rw [c, Bool.false_and] at q
        exact iteF q
    · have e2 : isWholeD d = false := by
        cases d <;> first | rfl | exact absurd ⟨_, rfl⟩ w0
      rw [e2]
      have e3 : colOk d = false := by
        cases d <;> first | rfl | exact absurd ⟨_, rfl⟩ w0
      rw [e3] at q
      exact iteF q
def Tm.fits (pn : Pl → Nat) : Tm → Bool
  | .cell p c => decide (c < pn p)
  | .val _ _ => true
def At.fits (pn : Pl → Nat) (a : At) : Bool := a.l.fits pn && a.r.fits pn
def PlcAt (H : Hp) (pd : Addr) (pn : Pl → Nat) : Prop := ∃ kvs, H pd = some (.dK kvs) ∧ ∀ p : Pl, (valV kvs (.inr p.s)).getD (.int 0) = .int (pn p : Nat)
theorem PlcAt.same {H H' : Hp} {pd : Addr} {pn : Pl → Nat} (h : PlcAt H pd pn) (s : Same H H') : PlcAt H' pd pn := by
  obtain ⟨kvs, e, k⟩ := h
  exact ⟨kvs, s _ _ e, k⟩
def spNames (K : PySem.W.Frag) : Sp := fun vs H Q _ => ∃ x dx l as pd pn, vs = [.ref x, .ref pd] ∧ CdAt K H x dx l as ∧ PlcAt H pd pn ∧ ∀ H', Same H H' → Q (.bl (as.all (At.fits pn))) H'
theorem d_names (T : Txt K mg) : Dn P w K mg base CX0 2 "names_cells" (spNames K) := by
  obtain ⟨fd, F⟩ := T.f_names_cells
  have D_atoms := d_atoms (P := P) (w := w) (base := base) T
  refine dnN T.g_names_cells F (fun _ _ _ _ _ _ us hl => match us, hl with | [_, _], _ => rfl) sc_names_cells (fun vs H Q E h => ?_) (fun cdv A outer s H vs Q E hr h => ?_)
  · obtain ⟨x, dx, l, as, pd, pn, rfl, _⟩ := h
    rfl
  · obtain ⟨x, dx, l, as, pd, pn, rfl, C, hp, hQ⟩ := h
    refine ⟨_, PSs.nox (pss_cons (ps_for PassesOwn.never rfl (pi_list (pe_methE0 (pv 0) T.o_Conditions.cl T.h_Conditions_atoms D_atoms hr px0)) (pg_tup rfl (pgs_cons (pg_name (i := 2) sc_names_cells.nd rfl (.inl rfl)) (pgs_cons (pg_name (i := 3) sc_names_cells.nd rfl (.inl rfl)) (pgs_cons (pg_name (i := 4) sc_names_cells.nd rfl (.inl rfl)) pgs_nil))))
      (pss_one (ps_for PassesOwn.never rfl (pi_tup (pe_tup (pa_cons (pv 3) (pa_cons (pv 4) pa_nil)))) (pg_name (i := 5) sc_names_cells.nd rfl (.inl rfl))
      (pss_one (ps_if (PW.pt (pw_and (pt_cmpR op_ne (pe_ix ix_tup (pv 5) pe_int (fun _ _ => rfl)) pe_str (nomark _)) (pw_and1 (pt_cmpR op_ge (pe_ix ix_tup (pv 5) pe_int (fun _ _ => rfl)) (pe_dget2 (hu_of hr) (pv 1) (pe_ix ix_tup (pv 5) pe_int (fun _ _ => rfl)) pe_int ⟨by rfl, by rfl, by rfl, by rfl⟩) (nomark _))))) (pss_one (ps_ret pe_bl)) pss_nil)))))
      (pss_one (ps_ret pe_bl))), ?_⟩
    refine ⟨_, rfl, _, _, _, rfl, C.hx, cdF_no (by decide), x, dx, l, as, rfl, C, fun q us H1 nq s1 e1 a1 => ?_⟩
    have lu : us.length = as.length := by rw [DpAll.length a1, List.length_map]
    refine ⟨q, rfl, ⟨_, SqL.of e1⟩, for_list (K := K) (a := q) (xs := us) (fun i σ H' => Same H1 H' ∧ (∃ o2 o3 o4 o5, σ = [some (.ref x), some (.ref pd), o2, o3, o4, o5]) ∧ (as.take i).all (At.fits pn) = true) ⟨.refl _, ⟨none, none, none, none, rfl⟩, rfl⟩ (fun i σ H' _ h => SqL.of (h.1 _ _ e1)) ?_ ?_⟩
    · rintro i xv σ H' hg ⟨s', ⟨o2, o3, o4, o5, rfl⟩, hall⟩
      obtain ⟨d, hd, hdp⟩ := DpAll.get a1 hg
      obtain ⟨a, ha, rfl⟩ := getM hd
      obtain ⟨t, v1, v2, rfl, ht, h1, h2⟩ := at_tup (Dp.same s' hdp)
      refine ⟨t, _, rfl, ht, rfl, _, _, rfl, _, _, rfl, _, _, rfl, rfl, ?_⟩
      refine ⟨_, rfl, _, rfl, (by show 2 ≤ sizeLine; decide), fun tp ntp => ?_⟩
      generalize eH2 : upd H' tp _ = H2
      have s2 : Same H' H2 := eH2 ▸ same_upd ntp
      have e2 : H2 tp = some _ := eH2 ▸ upd_same
      have s12 := s'.trans s2
      have hp2 := hp.same (s1.trans s12)
      have bad : ∀ b : Tm, (b = a.l ∨ b = a.r) → b.fits pn = false → as.all (At.fits pn) = false := fun b hb hf => by
        rw [Bool.eq_false_iff]
        intro z
        have := List.all_eq_true.mp z a (List.mem_of_getElem? ha)
        unfold At.fits at this
        rw [Bool.and_eq_true] at this
        rcases hb with rfl | rfl
        · rw [this.1] at hf; cases hf
        · rw [this.2] at hf; cases hf
      refine ⟨tp, rfl, ⟨_, SqT.of e2⟩, for_tup (K := K) (a := tp) (xs := [v1, v2]) (fun j σ H'' => H2 = H'' ∧ (∃ o5, σ = [some (.ref x), some (.ref pd), some (.str a.s.s), some v1, some v2, o5]) ∧ (1 ≤ j → a.l.fits pn = true) ∧ (2 ≤ j → a.r.fits pn = true)) ⟨rfl, ⟨_, rfl⟩, fun z => absurd z (by decide), fun z => absurd z (by decide)⟩ (fun j σ H'' _ h => by rw [← h.1]; exact SqT.of e2) ?_ ?_⟩
      · rintro j yv σ H'' hgy ⟨rfl, ⟨o5, rfl⟩, g1, g2⟩
        have key : ∃ b : Tm, Dp K H2 yv b.d ∧ (b = a.l ∨ b = a.r) ∧ (b.fits pn = true → (1 ≤ j + 1 → a.l.fits pn = true) ∧ (2 ≤ j + 1 → a.r.fits pn = true)) := by
          match j, hgy with
          | 0, hgy =>
            cases hgy
            exact ⟨a.l, Dp.same s2 h1, .inl rfl, fun z => ⟨fun _ => z, fun z => absurd z (by decide)⟩⟩
          | 1, hgy =>
            cases hgy
            exact ⟨a.r, Dp.same s2 h2, .inr rfl, fun z => ⟨fun _ => g1 (by decide), fun _ => z⟩⟩
        obtain ⟨b, hb, hor, good⟩ := key
        cases b with
        | val x1 x2 =>
          obtain ⟨q1, y1, rfl, hq1, _⟩ := tm_val hb
          refine ⟨_, rfl, _, _, 0, _, rfl, rfl, hq1, atI_nat (j := 0) rfl, rfl, _, rfl, iteF ?_⟩
          obtain ⟨k1, k2⟩ := good rfl
          exact ⟨rfl, ⟨_, rfl⟩, k1, k2⟩
        | cell pl c =>
          obtain ⟨q1, rfl, hq1⟩ := tm_cell hb
          refine ⟨_, rfl, _, _, 0, _, rfl, rfl, hq1, atI_nat (j := 0) rfl, rfl, _, rfl, if_pos_of (by show (!decide (V.str pl.s = V.str "value")) = true; rw [Pl.ne_value]; rfl) ?_⟩
          obtain ⟨kvs, ek, hk⟩ := hp2
          refine ⟨_, rfl, _, _, 1, _, rfl, rfl, hq1, atI_nat (j := 1) rfl, _, rfl, pd, rfl, .inl ⟨kvs, .of ek⟩, _, rfl, _, _, 0, _, rfl, rfl, hq1, atI_nat (j := 0) rfl, _, DGet.k (k := .inr pl.s) ek, ?_⟩
          rw [hk pl]
          refine ⟨_, _, rfl, rfl, _, rfl, ?_⟩
          cases cc : decide (((c : Nat) : Int) ≥ ((pn pl : Nat) : Int)) with
          | true =>
            have := of_decide_eq_true cc
            refine iteT ?_
            have e := hQ H2 (s1.trans s12)
            rw [bad (.cell pl c) hor (decide_eq_false (by omega))] at e
            exact e
          | false =>
            have := of_decide_eq_false cc
            refine iteF ?_
            obtain ⟨k1, k2⟩ := good (decide_eq_true (by omega))
            exact ⟨rfl, ⟨_, rfl⟩, k1, k2⟩
      · rintro σ H'' ⟨rfl, ⟨o5, rfl⟩, g1, g2⟩
        refine ⟨s12, ⟨_, _, _, _, rfl⟩, ?_⟩
        rw [tk1 ha, List.all_append, hall]
        have e : At.fits pn a = true := by
          unfold At.fits
          rw [g1 (by show 1 ≤ 2; decide), g2 (by show 2 ≤ 2; decide)]
          rfl
        simp [e]
    · rintro σ H' ⟨s', ⟨o2, o3, o4, o5, rfl⟩, hall⟩
      rw [lu, List.take_length] at hall
      have e := hQ H' (s1.trans s')
      rw [hall] at e
      exact e
def pn1 (n : Nat) : Pl → Nat
  | .first => n
  | _ => 0
def spRowRules (K : PySem.W.Frag) : Sp := fun vs H Q _ => ∃ x dx l as n, vs = [.ref x, .int (n : Nat)] ∧ CdAt K H x dx l as ∧ ∀ H', Same H H' → Q (.bl (as.all (At.fits (pn1 n)))) H'
theorem d_rowrules (T : Txt K mg) : Dn P w K mg base CX0 3 "are_row_rules" (spRowRules K) := by
  obtain ⟨fd, F⟩ := T.f_are_row_rules
  have D_names_cells := d_names (P := P) (w := w) (base := base) T
  refine dnN T.g_are_row_rules F (fun _ _ _ _ _ _ us hl => match us, hl with | [_, _], _ => rfl) sc_are_row_rules (fun vs H Q E h => ?_) (fun cdv A outer s H vs Q E hr h => ?_)
  · obtain ⟨x, dx, l, as, n, rfl, _⟩ := h
    rfl
  · obtain ⟨x, dx, l, as, n, rfl, C, hQ⟩ := h
    refine ⟨_, PSs.nox (pss_one (ps_ret (pe_and (pe_callB call_isi (by rfl) T.z_isinstance (by decide +kernel) (pa_cons (pv 0) (pa_cons (pe_glob (v := .ref (ga K "Conditions")) (by rfl) T.g_Conditions rfl) pa_nil))) (pe_one (cl D_names_cells (hr.mono (by decide)) (pa_cons (pv 0) (pa_cons (pe_disp (pps_cons pe_str (pv 1) pps_nil) rfl rfl (by simp) (by decide)) pa_nil))))))), ?_⟩
    refine ⟨_, rfl, _, _, _, _, _, rfl, .own _, T.o_Conditions.ty C.hx, T.o_Conditions.self, _, rfl, iteT ?_⟩
    refine ⟨_, rfl, fun pd npd => ?_⟩
    refine ⟨_, rfl, upd_same, [(.inr "first", .int (n : Nat))], rfl, (by show 1 ≤ 15; decide), ?_⟩
    rw [upd_upd, show mergeK [] [((.inr "first" : Key), V.int (n : Nat))] = [((.inr "first" : Key), V.int (n : Nat))] from (putK_new (kvs := ([] : List (Key × V))) (k := (Sum.inr "first" : Key)) (V.int (n : Nat)) rfl)]
    generalize eH1 : upd H pd _ = H1
    have s1 : Same H H1 := eH1 ▸ same_upd npd
    have e1 : H1 pd = some _ := eH1 ▸ upd_same
    refine ⟨x, dx, l, as, pd, pn1 n, rfl, C.same s1, ⟨_, e1, fun p => ?_⟩, fun H' s' => hQ H' (s1.trans s')⟩
    cases p with
    | first =>
      have e : valV [((Sum.inr "first" : Key), V.int (n : Nat))] (.inr (Pl.s .first)) = some (.int (n : Nat)) := valV_pos rfl
      rw [e]
      rfl
    | old =>
      have e : valV [((Sum.inr "first" : Key), V.int (n : Nat))] (.inr (Pl.s .old)) = none := valV_neg (by intro z; exact absurd (Sum.inr.inj z) (by decide +kernel))
      rw [e]
      rfl
    | second =>
      have e : valV [((Sum.inr "first" : Key), V.int (n : Nat))] (.inr (Pl.s .second)) = none := valV_neg (by intro z; exact absurd (Sum.inr.inj z) (by decide +kernel))
      rw [e]
      rfl

end
end K51
namespace K51
open PySem PySem.Spec PyProof.Rows L2 He TL EL
section
variable {P : Program} {w : World} {K : PySem.W.Frag} {mg : Str → Option Value} {base : Heap}
/-! Schema -/
structure Sch where
  nm : Str
  n : Nat
  c : Addr
  dc : Addr
  l : Addr
  as : List At
abbrev aSc (K : PySem.W.Frag) : Addr := ga K "Schema"
def scF (a b : Addr) : List (Str × V) := putF "limits" (.ref b) (putF "widths" (.ref a) [])
theorem scF_widths {a b : Addr} : (scF a b).lookup ("widths" : Str) = some (.ref a) := by
  unfold scF
  rw [lookup_putF, if_neg (by decide +kernel), lookup_putF, if_pos rfl]
theorem scF_limits {a b : Addr} : (scF a b).lookup ("limits" : Str) = some (.ref b) := by
  unfold scF
  rw [lookup_putF, if_pos rfl]
theorem scF_no {a b : Addr} {m : Str} (h1 : m ≠ "widths") (h2 : m ≠ "limits") : (scF a b).lookup m = none := by
  unfold scF
  rw [lookup_putF, if_neg h2, lookup_putF, if_neg h1]
  rfl
def wI (rs : List Sch) : List (Key × Int) := rs.map fun s => (.inr s.nm, (s.n : Int))
def lK (rs : List Sch) : List (Key × V) := rs.map fun s => (.inr s.nm, .ref s.c)
def findS (rs : List Sch) (z : Str) : Option Sch := rs.find? fun s => decide (s.nm = z)
theorem val_w (rs : List Sch) (z : Str) : valV (dI (wI rs)) (.inr z) = (findS rs z).map fun s => V.int (s.n : Nat) := by
  induction rs with
  | nil => rfl
  | cons s r ih =>
    by_cases e : s.nm = z
    · have h1 : valV (dI (wI (s :: r))) (.inr z) = some (.int (s.n : Nat)) := valV_pos (by show (Sum.inr s.nm : Key) = .inr z; rw [e])
      have h2 : findS (s :: r) z = some s := by unfold findS; rw [List.find?_cons]; simp [e]
      rw [h1, h2]
      rfl
    · have h1 : valV (dI (wI (s :: r))) (.inr z) = valV (dI (wI r)) (.inr z) := valV_neg (fun h => e (Sum.inr.inj h))
      have h2 : findS (s :: r) z = findS r z := by unfold findS; rw [List.find?_cons]; simp [e]
      rw [h1, h2, ih]
theorem val_l (rs : List Sch) (z : Str) : valV (lK rs) (.inr z) = (findS rs z).map fun s => V.ref s.c := by
  induction rs with
  | nil => rfl
  | cons s r ih =>
    by_cases e : s.nm = z
    · have h1 : valV (lK (s :: r)) (.inr z) = some (.ref s.c) := valV_pos (by show (Sum.inr s.nm : Key) = .inr z; rw [e])
      have h2 : findS (s :: r) z = some s := by unfold findS; rw [List.find?_cons]; simp [e]
      rw [h1, h2]
      rfl
    · have h1 : valV (lK (s :: r)) (.inr z) = valV (lK r) (.inr z) := valV_neg (fun h => e (Sum.inr.inj h))
      have h2 : findS (s :: r) z = findS r z := by unfold findS; rw [List.find?_cons]; simp [e]
      rw [h1, h2, ih]
theorem findS_mem {rs : List Sch} {z : Str} {s : Sch} (h : findS rs z = some s) : s ∈ rs ∧ s.nm = z := by
  refine ⟨List.mem_of_find?_eq_some h, ?_⟩
  have := List.find?_some h
  exact of_decide_eq_true this
structure ScAt (K : PySem.W.Frag) (H : Hp) (x dx dw dl : Addr) (rs : List Sch) : Prop where
  hx : H x = some (.ins (aSc K) dx (scF dw dl))
  hw : H dw = some (.dK (dI (wI rs)))
  hl : H dl = some (.dK (lK rs))
  hc : ∀ s ∈ rs, CdAt K H s.c s.dc s.l s.as
theorem ScAt.md {H H' : Hp} {x dx dw dl : Addr} {rs : List Sch} {S : List Addr} (C : ScAt K H x dx dw dl rs) (m : Md S H H') (h1 : x ∉ S) (h2 : dw ∉ S) (h3 : dl ∉ S) (h4 : ∀ s ∈ rs, s.c ∉ S ∧ s.l ∉ S) : ScAt K H' x dx dw dl rs :=
  ⟨m.out _ _ C.hx h1, m.out _ _ C.hw h2, m.out _ _ C.hl h3, fun s hs => (C.hc s hs).md m (h4 s hs).1 (h4 s hs).2⟩
theorem ScAt.same {H H' : Hp} {x dx dw dl : Addr} {rs : List Sch} (C : ScAt K H x dx dw dl rs) (s : Same H H') : ScAt K H' x dx dw dl rs := C.md (S := []) (.of s) (by simp) (by simp) (by simp) (fun _ _ => ⟨by simp, by simp⟩)
/-! __init__, twin -/
def DctV (H : Hp) (v : V) (kvs : List (Key × V)) : Prop := (v = .non ∧ kvs = []) ∨ ∃ d, v = .ref d ∧ H d = some (.dK kvs)
def spSc (K : PySem.W.Frag) : Sp := fun vs H Q _ => ∃ x dx v1 v2 ks ls, vs = [.ref x, v1, v2] ∧ H x = some (.ins (aSc K) dx []) ∧ DctV H v1 ks ∧ DctV H v2 ls ∧
  ∀ dw dl H', Md [x] H H' → H dw = none → H dl = none → dw ≠ dl → H' x = some (.ins (aSc K) dx (scF dw dl)) → H' dw = some (.dK ks) → H' dl = some (.dK ls) → Q .non H'
theorem ok_sc (T : Txt K mg) : ∃ fd, FunD K "__init__" "Schema.__init__" (defArgs s_Schema___init__) (defBody s_Schema___init__) (defScope s_Schema___init__) ([.non, .non] : List V) [] (ma K (ga K "Schema") "__init__") fd ∧
    FnOk P w K mg base CX0 1 (ma K (ga K "Schema") "__init__") fd ["self", "widths", "limits"] (spSc K) := by
  obtain ⟨fd, F⟩ := T.f_Schema___init__
  refine ⟨fd, F, F.ok sc_Schema___init__ (fun vs H Q E h => ?_) (fun cdv A outer s H vs Q E hr h => ?_)⟩
  · obtain ⟨x, dx, v1, v2, ks, ls, rfl, _⟩ := h
    rfl
  · obtain ⟨x, dx, v1, v2, ks, ls, rfl, hx, h1, h2, hQ⟩ := h
    refine ⟨_, PSs.nox (pss_cons (ps_fld (pv 0) (pe_ifExp (pt_cmpR op_isN (pv 1) pe_non (nomark _)) pe_dnewK (pe_callTy call_dictD (by rfl) T.z_dict (by decide +kernel) (pa_cons (pv 1) pa_nil))) rfl)
      (pss_one (ps_fld (pv 0) (pe_ifExp (pt_cmpR op_isN (pv 2) pe_non (nomark _)) pe_dnewK (pe_callTy call_dictD (by rfl) T.z_dict (by decide +kernel) (pa_cons (pv 2) pa_nil))) rfl))), ?_⟩
    -- the second dict
    have two : ∀ (dw : Addr) (H2 : Hp), Md [x] H H2 → H dw = none → H2 dw = some (.dK ks) → H2 x = some (.ins (aSc K) dx (putF "widths" (.ref dw) [])) → ∀ (dl : Addr) (H3 : Hp), H2 dl = none → Same H2 H3 → H3 dl = some (.dK ls) → Q .non (upd H3 x (.ins (aSc K) dx (putF "limits" (.ref dl) (putF "widths" (.ref dw) [])))) := fun dw H2 m2 nw e2 x2 dl H3 nl s3 e3 => by
      have nl0 : H dl = none := by
        cases hh : H dl with
        | none => rfl
        | some o =>
          by_cases z : dl = x
          · rw [z, x2] at nl; cases nl
          · rw [m2.out _ _ hh (by simp [z])] at nl; cases nl
      have nwx : dw ≠ x := fun z => by rw [z, hx] at nw; cases nw
      have nlx : dl ≠ x := fun z => by rw [z, hx] at nl0; cases nl0
      have nwl : dw ≠ dl := fun z => by rw [← z, e2] at nl; cases nl
      have mx : Md [x] H3 (upd H3 x (.ins (aSc K) dx (putF "limits" (.ref dl) (putF "widths" (.ref dw) [])))) := Md.upd (s3 _ _ x2) rfl (by simp)
      exact hQ dw dl _ (m2.trans ((Md.of s3).trans mx)) nw nl0 nwl upd_same (by rw [upd_ne nwx]; exact s3 _ _ e2) (by rw [upd_ne nlx]; exact e3)
    have h2' : ∀ {H2 : Hp}, Md [x] H H2 → DctV H2 v2 ls := fun {H2} m2 => by
      rcases h2 with ⟨rfl, rfl⟩ | ⟨d, rfl, hd⟩
      · exact .inl ⟨rfl, rfl⟩
      · exact .inr ⟨d, rfl, m2.out _ _ hd (by simp; exact ne_of hd hx (by intro z; cases z))⟩
    have fin : ∀ (dw : Addr) (H1 : Hp), H dw = none → Same H H1 → H1 dw = some (.dK ks) → ∃ m2 : Md [x] H (upd H1 x (.ins (aSc K) dx (putF "widths" (.ref dw) []))), upd H1 x (.ins (aSc K) dx (putF "widths" (.ref dw) [])) dw = some (.dK ks) := fun dw H1 nw s1 e1 => by
      have nwx : dw ≠ x := fun z => by rw [z, hx] at nw; cases nw
      exact ⟨(Md.of s1).trans (Md.upd (s1 _ _ hx) rfl (by simp)), by rw [upd_ne nwx]; exact e1⟩
    have rest : ∀ (dw : Addr) (H2 : Hp), Md [x] H H2 → H dw = none → H2 dw = some (.dK ks) → H2 x = some (.ins (aSc K) dx (putF "widths" (.ref dw) [])) → ((v2 = .non ∧ ls = []) ∨ ∃ d, v2 = .ref d ∧ H2 d = some (.dK ls)) := fun dw H2 m2 _ _ _ => h2' m2
    rcases h1 with ⟨rfl, rfl⟩ | ⟨d1, rfl, hd1⟩
    · refine ⟨_, rfl, rfl, _, rfl, iteT ?_⟩
      intro dw nw
      generalize eH1 : upd H dw _ = H1
      have s1 : Same H H1 := eH1 ▸ same_upd nw
      have e1 : H1 dw = some _ := eH1 ▸ upd_same
      refine ⟨_, rfl, _, _, _, _, rfl, s1 _ _ hx, T.o_Schema.cl, T.n_Schema_widths, (by decide), ?_⟩
      obtain ⟨m2, e2⟩ := fin dw H1 nw s1 e1
      have x2 : upd H1 x (.ins (aSc K) dx (putF "widths" (.ref dw) [])) x = some (.ins (aSc K) dx (putF "widths" (.ref dw) [])) := upd_same
      generalize upd H1 x _ = H2 at m2 e2 x2 ⊢
      rcases rest dw H2 m2 nw e2 x2 with ⟨rfl, rfl⟩ | ⟨d2, rfl, hd2⟩
      · refine ⟨_, rfl, rfl, _, rfl, iteT ?_⟩
        intro dl nl
        have s3 : Same H2 (upd H2 dl (.dK [])) := same_upd nl
        refine ⟨_, rfl, _, _, _, _, rfl, s3 _ _ x2, T.o_Schema.cl, T.n_Schema_limits, (by show 1 < 1000; decide), ?_⟩
        exact two dw H2 m2 nw e2 x2 dl _ nl s3 upd_same
      · refine ⟨_, rfl, rfl, _, rfl, iteF ?_⟩
        refine ⟨_, rfl, _, _, rfl, .of hd2, fun dl nl => ?_⟩
        have s3 : Same H2 (upd H2 dl (.dK ls)) := same_upd nl
        refine ⟨_, rfl, _, _, _, _, rfl, s3 _ _ x2, T.o_Schema.cl, T.n_Schema_limits, (by show 1 < 1000; decide), ?_⟩
        exact two dw H2 m2 nw e2 x2 dl _ nl s3 upd_same
    · refine ⟨_, rfl, rfl, _, rfl, iteF ?_⟩
      refine ⟨_, rfl, _, _, rfl, .of hd1, fun dw nw => ?_⟩
      generalize eH1 : upd H dw _ = H1
      have s1 : Same H H1 := eH1 ▸ same_upd nw
      have e1 : H1 dw = some _ := eH1 ▸ upd_same
      refine ⟨_, rfl, _, _, _, _, rfl, s1 _ _ hx, T.o_Schema.cl, T.n_Schema_widths, (by decide), ?_⟩
      obtain ⟨m2, e2⟩ := fin dw H1 nw s1 e1
      have x2 : upd H1 x (.ins (aSc K) dx (putF "widths" (.ref dw) [])) x = some (.ins (aSc K) dx (putF "widths" (.ref dw) [])) := upd_same
      generalize upd H1 x _ = H2 at m2 e2 x2 ⊢
      rcases rest dw H2 m2 nw e2 x2 with ⟨rfl, rfl⟩ | ⟨d2, rfl, hd2⟩
      · refine ⟨_, rfl, rfl, _, rfl, iteT ?_⟩
        intro dl nl
        have s3 : Same H2 (upd H2 dl (.dK [])) := same_upd nl
        refine ⟨_, rfl, _, _, _, _, rfl, s3 _ _ x2, T.o_Schema.cl, T.n_Schema_limits, (by show 1 < 1000; decide), ?_⟩
        exact two dw H2 m2 nw e2 x2 dl _ nl s3 upd_same
      · refine ⟨_, rfl, rfl, _, rfl, iteF ?_⟩
        refine ⟨_, rfl, _, _, rfl, .of hd2, fun dl nl => ?_⟩
        have s3 : Same H2 (upd H2 dl (.dK ls)) := same_upd nl
        refine ⟨_, rfl, _, _, _, _, rfl, s3 _ _ x2, T.o_Schema.cl, T.n_Schema_limits, (by show 1 < 1000; decide), ?_⟩
        exact two dw H2 m2 nw e2 x2 dl _ nl s3 upd_same
theorem d_sc2 (T : Txt K mg) : FnR P w K mg base CX0 1 (ma K (ga K "Schema") "__init__") (spSc K) := by
  obtain ⟨fd, F, ok⟩ := ok_sc (P := P) (w := w) (base := base) T
  have := fnD F ok 3 2 (by simp) rfl (fun _ _ _ _ _ _ _ us its h1 h2 => match us, its, h1, h2 with | [_, _, _], [_, _], _, _ => ⟨_, rfl, rfl⟩)
  exact this.imp fun vs H Q E h => by
    rw [show ([.non, .non] : List V).drop 2 = [] from rfl, List.append_nil]
    exact h
theorem d_sc0 (T : Txt K mg) : FnR P w K mg base CX0 1 (ma K (ga K "Schema") "__init__") (fun vs H Q E => spSc K (vs ++ [.non, .non]) H Q E) := by
  obtain ⟨fd, F, ok⟩ := ok_sc (P := P) (w := w) (base := base) T
  exact fnD F ok 1 0 (by simp) rfl (fun _ _ _ _ _ _ _ us its h1 h2 => match us, its, h1, h2 with | [_], [_, _], _, _ => ⟨_, rfl, rfl⟩)
theorem mkSc {H : Hp} {v1 v2 : V} {ks ls : List (Key × V)} {Q : Addr → Hp → Prop} {E : XK} (h1 : DctV H v1 ks) (h2 : DctV H v2 ls)
    (hQ : ∀ x dx dw dl H', Same H H' → H x = none → H dw = none → H dl = none → dw ≠ dl → H' x = some (.ins (aSc K) dx (scF dw dl)) → H' dw = some (.dK ks) → H' dl = some (.dK ls) → Q x H') :
    ∀ x dx, H x = none → H dx = none → dx ≠ x → spSc K [.ref x, v1, v2] (upd (upd H dx (.own x)) x (.ins (aSc K) dx [])) (fun v H2 => v = .non ∧ Q x H2) E := by
  intro x dx nx ndx hne
  generalize eH1 : upd (upd H dx _) x _ = H1
  have s1 : Same H H1 := eH1 ▸ (same_upd ndx).trans (same_upd (by rw [upd_ne (Ne.symm hne)]; exact nx))
  have x1 : H1 x = some (.ins (aSc K) dx []) := eH1 ▸ upd_same
  have up : ∀ {v : V} {k : List (Key × V)}, DctV H v k → DctV H1 v k := fun h => h.elim .inl (fun ⟨d, e, k⟩ => .inr ⟨d, e, s1 _ _ k⟩)
  refine ⟨x, dx, v1, v2, ks, ls, rfl, x1, up h1, up h2, fun dw dl H' m nw nl hn hx hw hl => ⟨rfl, ?_⟩⟩
  have sH : Same H H' := fun b o hb => m.out _ _ (s1 _ _ hb) (by simp; exact ne_of_none hb nx)
  exact hQ x dx dw dl H' sH nx (s1.free nw) (s1.free nl) hn hx hw hl
def spScTwin (K : PySem.W.Frag) : Sp := fun vs H Q _ => ∃ x dx dw dl rs, vs = [.ref x] ∧ ScAt K H x dx dw dl rs ∧ ∀ x' dx' dw' dl' H', Same H H' → H x' = none → H dw' = none → H dl' = none → dw' ≠ dl' → ScAt K H' x' dx' dw' dl' rs → Q (.ref x') H'
theorem d_sc_twin (T : Txt K mg) : FnR P w K mg base CX0 3 (ma K (ga K "Schema") "twin") (spScTwin K) := by
  obtain ⟨fd, F⟩ := T.f_Schema_twin
  have D_sc := d_sc2 (P := P) (w := w) (base := base) T
  refine fnN F (fun _ _ _ _ _ _ us hl => match us, hl with | [_], _ => rfl) sc_Schema_twin (fun vs H Q E h => ?_) (fun cdv A outer s H vs Q E hr h => ?_)
  · obtain ⟨x, dx, dw, dl, rs, rfl, _⟩ := h
    rfl
  · obtain ⟨x, dx, dw, dl, rs, rfl, C, hQ⟩ := h
    refine ⟨_, PSs.nox (pss_one (ps_ret (pe_makeE T.m_Schema D_sc hr T.g_Schema px0 (pa_cons (pe_fld (pv 0) rfl) (pa_cons (pe_fld (pv 0) rfl) pa_nil))))), ?_⟩
    refine ⟨_, rfl, _, _, _, _, _, rfl, C.hx, T.o_Schema.cl, T.n_Schema_widths, scF_widths, _, rfl, _, _, _, _, _, rfl, C.hx, T.o_Schema.cl, T.n_Schema_limits, scF_limits, ?_⟩
    refine mkSc (Q := fun z H' => Q (.ref z) H') (.inr ⟨dw, rfl, C.hw⟩) (.inr ⟨dl, rfl, C.hl⟩) fun x' dx' dw' dl' H' s' n1 n2 n3 hn hx hw hl => ?_
    exact hQ x' dx' dw' dl' H' s' n1 n2 n3 hn ⟨hx, hw, hl, fun s hs => (C.hc s hs).same s'⟩

end
end K51
namespace K51
open PySem PySem.Spec PyProof.Rows L2 He TL EL
section
variable {P : Program} {w : World} {K : PySem.W.Frag} {mg : Str → Option Value} {base : Heap}
/-! Schema's methods -/
abbrev xName (v : V) : HO := .xd [("name", v)]
def spScLen (K : PySem.W.Frag) : Sp := fun vs H Q _ => ∃ x dx dw dl rs, vs = [.ref x] ∧ ScAt K H x dx dw dl rs ∧ Q (.int (rs.length : Nat)) H
theorem d_sc_len (T : Txt K mg) : FnR P w K mg base CX0 1 (ma K (ga K "Schema") "__len__") (spScLen K) := by
  obtain ⟨fd, F⟩ := T.f_Schema___len__
  refine fnN F (fun _ _ _ _ _ _ us hl => match us, hl with | [_], _ => rfl) sc_Schema___len__ (fun vs H Q E h => ?_) (fun cdv A outer s H vs Q E hr h => ?_)
  · obtain ⟨x, dx, dw, dl, rs, rfl, _⟩ := h
    rfl
  · obtain ⟨x, dx, dw, dl, rs, rfl, C, q⟩ := h
    refine ⟨_, PSs.nox (pss_one (ps_ret (pe_callB call_lenD (by rfl) T.z_len (by decide +kernel) (pa_cons (pe_fld (pv 0) rfl) pa_nil)))), ?_⟩
    refine ⟨_, rfl, _, _, _, _, _, rfl, C.hx, T.o_Schema.cl, T.n_Schema_widths, scF_widths, _, _, rfl, C.hw, ?_⟩
    rw [show (dI (wI rs)).length = rs.length by rw [List.length_map]; unfold wI; rw [List.length_map]]
    exact q
def spScNames (K : PySem.W.Frag) : Sp := fun vs H Q _ => ∃ x dx dw dl rs, vs = [.ref x] ∧ ScAt K H x dx dw dl rs ∧ ∀ p H', H p = none → Same H H' → H' p = some (.lst (rs.map fun s => V.str s.nm)) → Q (.ref p) H'
theorem keys_w (rs : List Sch) : (dI (wI rs)).map (fun kv => kV kv.1) = rs.map fun s => V.str s.nm := by
  unfold wI dI
  rw [List.map_map, List.map_map]
  rfl
theorem d_sc_names (T : Txt K mg) : FnR P w K mg base CX0 1 (ma K (ga K "Schema") "names") (spScNames K) := by
  obtain ⟨fd, F⟩ := T.f_Schema_names
  refine fnN F (fun _ _ _ _ _ _ us hl => match us, hl with | [_], _ => rfl) sc_Schema_names (fun vs H Q E h => ?_) (fun cdv A outer s H vs Q E hr h => ?_)
  · obtain ⟨x, dx, dw, dl, rs, rfl, _⟩ := h
    rfl
  · obtain ⟨x, dx, dw, dl, rs, rfl, C, hQ⟩ := h
    refine ⟨_, PSs.nox (pss_one (ps_ret (pe_callTy (call_list_dK rfl) (by rfl) T.z_list (by decide +kernel) (pa_cons (pe_fld (pv 0) rfl) pa_nil)))), ?_⟩
    refine ⟨_, rfl, _, _, _, _, _, rfl, C.hx, T.o_Schema.cl, T.n_Schema_widths, scF_widths, _, _, rfl, C.hw, fun p np => ?_⟩
    rw [keys_w]
    generalize eH1 : upd H p _ = H1
    have s1 : Same H H1 := eH1 ▸ same_upd np
    have e1 : H1 p = some _ := eH1 ▸ upd_same
    exact hQ p H1 np s1 e1
def inS (rs : List Sch) : PyData → Bool
  | .str z => (findS rs z).isSome
  | _ => false
def spScIn (K : PySem.W.Frag) : Sp := fun vs H Q _ => ∃ x dx dw dl rs v d, vs = [.ref x, v] ∧ ScAt K H x dx dw dl rs ∧ Dp K H v d ∧ Q (.bl (inS rs d)) H
theorem d_sc_in (T : Txt K mg) : FnR P w K mg base CX0 1 (ma K (ga K "Schema") "__contains__") (spScIn K) := by
  obtain ⟨fd, F⟩ := T.f_Schema___contains__
  refine fnN F (fun _ _ _ _ _ _ us hl => match us, hl with | [_, _], _ => rfl) sc_Schema___contains__ (fun vs H Q E h => ?_) (fun cdv A outer s H vs Q E hr h => ?_)
  · obtain ⟨x, dx, dw, dl, rs, v, d, rfl, _⟩ := h
    rfl
  · obtain ⟨x, dx, dw, dl, rs, v, d, rfl, C, hd, q⟩ := h
    refine ⟨_, PSs.nox (pss_one (ps_ret (pe_and (pe_callB call_isi (by rfl) T.z_isinstance (by decide +kernel) (pa_cons (pv 1) (pa_cons (pe_bltn (v := .ty "str") (by rfl) T.z_str (by decide +kernel) rfl) pa_nil))) (pe_one (pe_cmp (pc_din (hu_of hr) (pv 1) (pe_fld (pv 0) rfl)) rfl))))), ?_⟩
    refine ⟨_, rfl, _, _, _, _, _, rfl, .ty _, Dp.ty hd, kit_d K .str d, _, rfl, ?_⟩
    by_cases w0 : ∃ z, d = .str z
    · obtain ⟨z, rfl⟩ := w0
      cases hd
      refine iteT ?_
      refine ⟨_, rfl, _, rfl, _, _, _, _, _, rfl, C.hx, T.o_Schema.cl, T.n_Schema_widths, scF_widths, _, _, rfl, DGet.k (k := .inr z) C.hw, ?_⟩
      rw [val_w, Option.isSome_map]
      exact q
    · have e2 : isTy .str d = false := by
        cases d <;> first | rfl | exact absurd ⟨_, rfl⟩ w0
      rw [e2]
      have e : inS rs d = false := by
        cases d <;> first | rfl | exact absurd ⟨_, rfl⟩ w0
      rw [e] at q
      exact iteF q
/-! columns, rules -/
def spScCol (K : PySem.W.Frag) : Sp := fun vs H Q E => ∃ x dx dw dl rs v d, vs = [.ref x, v] ∧ ScAt K H x dx dw dl rs ∧ Dp K H v d ∧ (inS rs d = false → ∀ dd H', Same H H' → H' dd = some (xName v) → E (.ref (ga K "NoTable")) (some dd) H') ∧
  ∀ z s, d = .str z → findS rs z = some s → Q (.int (s.n : Nat)) H
theorem d_sc_col (hP : PF P "/claim/cut.py") (T : Txt K mg) : FnR P w K mg base (L2.CX P w) 1 (ma K (ga K "Schema") "columns") (spScCol K) := by
  obtain ⟨fd, F⟩ := T.f_Schema_columns
  refine fnN F (fun _ _ _ _ _ _ us hl => match us, hl with | [_, _], _ => rfl) sc_Schema_columns (fun vs H Q E h => ?_) (fun cdv A outer s H vs Q E hr h => ?_)
  · obtain ⟨x, dx, dw, dl, rs, v, d, rfl, _⟩ := h
    rfl
  · obtain ⟨x, dx, dw, dl, rs, v, d, rfl, C, hd, hE, hQ⟩ := h
    refine ⟨_, (pss_cons (ps_if (PW.pt (pw_or (pt_not (pt_val (pe_callB call_isi (by rfl) T.z_isinstance (by decide +kernel) (pa_cons (pv 1) (pa_cons (pe_bltn (v := .ty "str") (by rfl) T.z_str (by decide +kernel) rfl) pa_nil))))) (pw_or1 (pt_cmp (pc_dnotin (hu_of hr) (pv 1) (pe_fld (pv 0) rfl)))))) (pss_one (rsx (by rfl) (takes_of rfl rfl rfl rfl) hP T.y_NoTable.1 hr (pa_cons (pv 1) pa_nil))) pss_nil)
      (pss_one (ps_ret (pe_dget (hu_of hr) (pe_fld (pv 0) rfl) (pv 1) (fun _ _ => rfl))))), ?_⟩
    refine ⟨_, rfl, _, _, _, _, _, rfl, .ty _, Dp.ty hd, kit_d K .str d, _, rfl, ?_⟩
    by_cases w0 : ∃ z, d = .str z
    · obtain ⟨z, rfl⟩ := w0
      cases hd
      refine iteF ?_
      have hg := DGet.k (k := .inr z) C.hw
      rw [val_w] at hg
      refine ⟨_, rfl, _, rfl, _, _, _, _, _, rfl, C.hx, T.o_Schema.cl, T.n_Schema_widths, scF_widths, _, _, rfl, hg, _, rfl, ?_⟩
      cases hf : findS rs z with
      | none =>
        refine iteT ?_
        exact ⟨_, rfl, _, rfl, fun dd nd => hE (by show (findS rs z).isSome = false; rw [hf]; rfl) dd _ (same_upd nd) upd_same⟩
      | some s =>
        rw [hf] at hg
        refine iteF ?_
        exact ⟨_, rfl, _, _, _, _, _, rfl, C.hx, T.o_Schema.cl, T.n_Schema_widths, scF_widths, _, rfl, _, _, rfl, hg, hQ z s rfl hf⟩
    · have e2 : isTy .str d = false := by
        cases d <;> first | rfl | exact absurd ⟨_, rfl⟩ w0
      rw [e2]
      refine iteT ?_
      exact ⟨_, rfl, _, rfl, fun dd nd => hE (by cases d <;> first | rfl | exact absurd ⟨_, rfl⟩ w0) dd _ (same_upd nd) upd_same⟩
def spScRules (K : PySem.W.Frag) : Sp := fun vs H Q E => ∃ x dx dw dl rs v d, vs = [.ref x, v] ∧ ScAt K H x dx dw dl rs ∧ Dp K H v d ∧ (inS rs d = false → ∀ dd H', Same H H' → H' dd = some (xName v) → E (.ref (ga K "NoTable")) (some dd) H') ∧
  ∀ z s, d = .str z → findS rs z = some s → s.as.length ≤ 1000 ∧ ∀ y dy n H', Same H H' → H y = none → H n = none → y ≠ n → CdAt K H' y dy n (dd s.as) → Q (.ref y) H'
theorem d_sc_rules (hP : PF P "/claim/cut.py") (T : Txt K mg) : FnR P w K mg base (L2.CX P w) 7 (ma K (ga K "Schema") "rules") (spScRules K) := by
  obtain ⟨fd, F⟩ := T.f_Schema_rules
  have D_cd := d_cd1 (P := P) (w := w) (base := base) T
  have D_atoms := d_atoms (P := P) (w := w) (base := base) T
  refine fnN F (fun _ _ _ _ _ _ us hl => match us, hl with | [_, _], _ => rfl) sc_Schema_rules (fun vs H Q E h => ?_) (fun cdv A outer s H vs Q E hr h => ?_)
  · obtain ⟨x, dx, dw, dl, rs, v, d, rfl, _⟩ := h
    rfl
  · obtain ⟨x, dx, dw, dl, rs, v, d, rfl, C, hd, hE, hQ⟩ := h
    refine ⟨_, (pss_cons (ps_if (PW.pt (pw_or (pt_not (pt_val (pe_callB call_isi (by rfl) T.z_isinstance (by decide +kernel) (pa_cons (pv 1) (pa_cons (pe_bltn (v := .ty "str") (by rfl) T.z_str (by decide +kernel) rfl) pa_nil))))) (pw_or1 (pt_cmp (pc_dnotin (hu_of hr) (pv 1) (pe_fld (pv 0) rfl)))))) (pss_one (rsx (by rfl) (takes_of rfl rfl rfl rfl) hP T.y_NoTable.1 hr (pa_cons (pv 1) pa_nil))) pss_nil)
      (pss_one (ps_ret (pe_makeE T.m_Conditions D_cd hr T.g_Conditions pxq (pa_cons (pe_methE0 (pe_dget (hu_of hr) (pe_fld (pv 0) rfl) (pv 1) (fun _ _ => rfl)) T.o_Conditions.cl T.h_Conditions_atoms D_atoms (hr.mono (by decide)) (fun _ _ _ _ _ _ _ h => h.elim : ∀ σ, PassesAt CX0 _ σ ((fun _ => E0) σ))) pa_nil))))), ?_⟩
    refine ⟨_, rfl, _, _, _, _, _, rfl, .ty _, Dp.ty hd, kit_d K .str d, _, rfl, ?_⟩
    by_cases w0 : ∃ z, d = .str z
    · obtain ⟨z, rfl⟩ := w0
      cases hd
      refine iteF ?_
      have hg := DGet.k (k := .inr z) C.hw
      rw [val_w] at hg
      refine ⟨_, rfl, _, rfl, _, _, _, _, _, rfl, C.hx, T.o_Schema.cl, T.n_Schema_widths, scF_widths, _, _, rfl, hg, _, rfl, ?_⟩
      cases hf : findS rs z with
      | none =>
        refine iteT ?_
        exact ⟨_, rfl, _, rfl, fun dd nd => hE (by show (findS rs z).isSome = false; rw [hf]; rfl) dd _ (same_upd nd) upd_same⟩
      | some s =>
        have hg2 := DGet.k (k := .inr z) C.hl
        rw [val_l, hf] at hg2
        obtain ⟨hlen, hQ⟩ := hQ z s rfl hf
        have Cs := C.hc s (findS_mem hf).1
        refine iteF ?_
        refine ⟨_, rfl, _, _, _, _, _, rfl, C.hx, T.o_Schema.cl, T.n_Schema_limits, scF_limits, _, rfl, _, _, rfl, hg2, _, _, _, rfl, Cs.hx, cdF_no (by decide), s.c, s.dc, s.l, s.as, rfl, Cs, fun p us H1 np s1 e1 a1 => ?_⟩
        refine mkCd (Q := fun z H' => Q (.ref z) H') (as := s.as) (.inl (SqL.of e1)) a1 Cs.ok hlen fun y dy n H' s' ny nn hyn CD => ?_
        exact hQ y dy n H' (s1.trans s') (s1.free ny) (s1.free nn) hyn CD
    · have e2 : isTy .str d = false := by
        cases d <;> first | rfl | exact absurd ⟨_, rfl⟩ w0
      rw [e2]
      refine iteT ?_
      exact ⟨_, rfl, _, rfl, fun dd nd => hE (by cases d <;> first | rfl | exact absurd ⟨_, rfl⟩ w0) dd _ (same_upd nd) upd_same⟩

end
end K51
namespace K51
open PySem PySem.Spec PyProof.Rows L2 He TL EL
section
variable {P : Program} {w : World} {K : PySem.W.Frag} {mg : Str → Option Value} {base : Heap}
/-! Schema.add -/
def addOk (rs : List Sch) (d c : PyData) : Bool := isWordD d && (!inS rs d && colOk c)
def RulV (K : PySem.W.Frag) (H : Hp) (v : V) (as : List At) : Prop := (v = .non ∧ as = []) ∨ ∃ y dy m, v = .ref y ∧ CdAt K H y dy m as
def colN : PyData → Nat
  | .int i => i.toNat
  | _ => 0
def spAdd (K : PySem.W.Frag) : Sp := fun vs H Q E => ∃ x dx dw dl rs vn vc vr d c as, vs = [.ref x, vn, vc, vr] ∧ ScAt K H x dx dw dl rs ∧ Dp K H vn d ∧ Dp K H vc c ∧ (∀ z, d = .str z → z.length ≤ 100000) ∧ RulV K H vr as ∧ rs.length ≤ 1000 ∧ as.length ≤ 1000 ∧ dw ≠ dl ∧
  (addOk rs d c = false → ∀ dd H', Same H H' → H' dd = some (xName vn) → E (.ref (ga K "NoTable")) (some dd) H') ∧
  (addOk rs d c = true → as.all (At.fits (pn1 (colN c))) = false → ∀ H', Same H H' → E (.ref (ga K "NoCondition")) none H') ∧
  (∀ z, d = .str z → addOk rs d c = true → as.all (At.fits (pn1 (colN c))) = true → ∀ y dy l H', Md [dw, dl] H H' → H y = none → H l = none → y ≠ l → ScAt K H' x dx dw dl (rs ++ [⟨z, colN c, y, dy, l, dd as⟩]) → Q .non H')
theorem sc_ne {H : Hp} {x dx dw dl : Addr} {rs : List Sch} (C : ScAt K H x dx dw dl rs) : x ≠ dw ∧ x ≠ dl ∧ ∀ s ∈ rs, s.c ∉ [dw, dl] ∧ s.l ∉ [dw, dl] := by
  refine ⟨ne_of C.hx C.hw (by intro z; cases z), ne_of C.hx C.hl (by intro z; cases z), fun s hs => ?_⟩
  obtain ⟨v, e, _⟩ := (C.hc s hs).hl
  have h1 := (C.hc s hs).hx
  have a1 : s.c ≠ dw := ne_of h1 C.hw (by intro z; cases z)
  have a2 : s.c ≠ dl := ne_of h1 C.hl (by intro z; cases z)
  have a3 : s.l ≠ dw := ne_of e C.hw (by intro z; cases z)
  have a4 : s.l ≠ dl := ne_of e C.hl (by intro z; cases z)
  exact ⟨by simp [a1, a2], by simp [a3, a4]⟩
theorem d_sc_add (hP : PF P "/claim/cut.py") (T : Txt K mg) : ∃ fd, FunD K "add" "Schema.add" (defArgs s_Schema_add) (defBody s_Schema_add) (defScope s_Schema_add) ([.non] : List V) [] (ma K (ga K "Schema") "add") fd ∧
    FnOk P w K mg base (L2.CX P w) 7 (ma K (ga K "Schema") "add") fd ["self", "name", "columns", "rules"] (spAdd K) := by
  obtain ⟨fd, F⟩ := T.f_Schema_add
  have D_is_word := d_is_word (P := P) (w := w) (base := base) T
  have D_is_column_count := d_col (P := P) (w := w) (base := base) T
  have D_are_row_rules := d_rowrules (P := P) (w := w) (base := base) T
  have D_cd := d_cd1 (P := P) (w := w) (base := base) T
  have D_cd0 := d_cd0 (P := P) (w := w) (base := base) T
  have D_atoms := d_atoms (P := P) (w := w) (base := base) T
  refine ⟨fd, F, F.ok sc_Schema_add (fun vs H Q E h => ?_) (fun cdv A outer s H vs Q E hr h => ?_)⟩
  · obtain ⟨x, dx, dw, dl, rs, vn, vc, vr, d, c, as, rfl, _⟩ := h
    rfl
  · obtain ⟨x, dx, dw, dl, rs, vn, vc, vr, d, c, as, rfl, C, hd, hc, hlz, hrv, hrl, hal, hne, hE1, hE2, hQ⟩ := h
    refine ⟨_, (pss_cons (ps_if (PW.pt (pw_or (pt_not (pt_val (cl D_is_word (hr.mono (by decide)) (pa_cons (pv 1) pa_nil)))) (pw_or (pt_cmp (pc_din (hu_of hr) (pv 1) (pe_fld (pv 0) rfl))) (pw_or1 (pt_not (pt_val (cl D_is_column_count (hr.mono (by decide)) (pa_cons (pv 2) pa_nil)))))))) (pss_one (rsx (by rfl) (takes_of rfl rfl rfl rfl) hP T.y_NoTable.1 hr (pa_cons (pv 1) pa_nil))) pss_nil)
      (pss_mid (ps_if (pt_cmpR op_isN (pv 3) pe_non (nomark _)) (pss_one (ps_set (i := 3) sc_Schema_add.nd rfl (.inl rfl) (pe_makeE0 T.m_Conditions D_cd0 hr T.g_Conditions pxq))) pss_nil)
      (pss_cons (ps_if (pt_not (pt_val (cl D_are_row_rules (hr.mono (by decide)) (pa_cons (pv 3) (pa_cons (pv 2) pa_nil))))) (pss_one (EL.rs (by rfl) (takes_of rfl rfl rfl rfl) T.x_NoCondition (by rfl))) pss_nil)
      (pss_cons (ps_dput (hu_of hr) (pe_fld (pv 0) rfl) (pv 1) (pv 2) rfl)
      (pss_one (ps_dput (hu_of hr) (pe_fld (pv 0) rfl) (pv 1) (pe_makeE T.m_Conditions D_cd hr T.g_Conditions pxq (pa_cons (pe_methE0 (pv 3) T.o_Conditions.cl T.h_Conditions_atoms D_atoms (hr.mono (by decide)) px0) pa_nil)) rfl)))))), ?_⟩
    have bad : addOk rs d c = false → ∀ dd, H dd = none → E (.ref (ga K "NoTable")) (some dd) (upd H dd (xName vn)) := fun z dd nd => hE1 z dd _ (same_upd nd) upd_same
    refine ⟨_, rfl, vn, d, rfl, hd, hlz, _, rfl, ?_⟩
    cases hw : isWordD d with
    | false =>
      refine iteT ?_
      exact ⟨_, rfl, _, rfl, fun dd nd => bad (by unfold addOk; rw [hw]; rfl) dd nd⟩
    | true =>
      refine iteF ?_
      obtain ⟨z, rfl⟩ : ∃ z, d = .str z := by cases d <;> first | exact ⟨_, rfl⟩ | cases hw
      cases hd
      have hg := DGet.k (k := .inr z) C.hw
      rw [val_w] at hg
      refine ⟨_, rfl, _, rfl, _, _, _, _, _, rfl, C.hx, T.o_Schema.cl, T.n_Schema_widths, scF_widths, _, _, rfl, hg, _, rfl, ?_⟩
      rw [Option.isSome_map]
      cases hi : (findS rs z).isSome with
      | true =>
        refine iteT ?_
        exact ⟨_, rfl, _, rfl, fun dd nd => bad (by unfold addOk; rw [hw, show inS rs (.str z) = true from hi]; rfl) dd nd⟩
      | false =>
        refine iteF ?_
        refine ⟨_, rfl, vc, c, rfl, hc, _, rfl, ?_⟩
        cases hco : colOk c with
        | false =>
          refine iteT ?_
          exact ⟨_, rfl, _, rfl, fun dd nd => bad (by unfold addOk; rw [hw, hco, Bool.and_false]; rfl) dd nd⟩
        | true =>
          refine iteF ?_
          have hA : addOk rs (.str z) c = true := by unfold addOk; rw [hw, show inS rs (.str z) = false from hi, hco]; rfl
          obtain ⟨ci, rfl⟩ : ∃ ci, c = .int ci := by cases c <;> first | exact ⟨_, rfl⟩ | cases hco
          cases hc
          have hci : 1 ≤ ci ∧ ci ≤ 3 := by
            have h : (decide (1 ≤ ci) && decide (ci ≤ 3)) = true := hco
            rw [Bool.and_eq_true, decide_eq_true_eq, decide_eq_true_eq] at h
            exact h
          have ecn : ci = (colN (.int ci) : Nat) := by show ci = ((ci.toNat : Nat) : Int); omega
          refine ⟨fun σ' H' => ∃ y dy m, σ' = [some (.ref x), some (.str z), some (.int ci), some (.ref y)] ∧ Same H H' ∧ CdAt K H' y dy m as, ?_, ?_⟩
          · rcases hrv with ⟨rfl, rfl⟩ | ⟨y, dy, m, rfl, Cy⟩
            · refine ⟨_, rfl, rfl, _, rfl, iteT ?_⟩
              refine mkCd (a := dflAt ("Conditions", some "__init__") 0 K) (vs := []) (as := []) (.inr (T.dc0 _)) .nil (fun t ht => by cases ht) (by decide) fun bz bdz bn HI sI _ _ _ CI => ?_
              exact ⟨bz, bdz, bn, rfl, sI, CI⟩
            · refine ⟨_, rfl, rfl, _, rfl, iteF ?_⟩
              exact ⟨y, dy, m, rfl, .refl _, Cy⟩
          · rintro σ' H1 ⟨y, dy, m, rfl, s1, Cy⟩
            rw [ecn]
            refine ⟨_, rfl, _, rfl, y, dy, m, as, colN (.int ci), rfl, Cy, fun H2 s2 => ?_⟩
            have s12 := s1.trans s2
            refine ⟨_, rfl, ?_⟩
            cases hf : as.all (At.fits (pn1 (colN (.int ci)))) with
            | false =>
              refine iteT ?_
              exact hE2 hA hf H2 s12
            | true =>
              refine iteF ?_
              have C2 := C.same s12
              obtain ⟨nx1, nx2, nss⟩ := sc_ne C2
              have hz : findS rs z = none := by
                cases hh : findS rs z with
                | none => rfl
                | some s => rw [hh] at hi; cases hi
              have lw : (dI (wI rs)).length = rs.length := by rw [List.length_map]; unfold wI; rw [List.length_map]
              have ll : (lK rs).length = rs.length := by unfold lK; rw [List.length_map]
              refine ⟨_, rfl, _, rfl, _, _, _, _, _, rfl, C2.hx, T.o_Schema.cl, T.n_Schema_widths, scF_widths, _, rfl, _, _, rfl, DPut.k (k := .inr z) C2.hw (by rw [lw]; exact Nat.lt_of_le_of_lt hrl (by decide)), ?_⟩
              rw [putK_new _ (by rw [val_w, hz]; rfl)]
              generalize eH3 : upd H2 dw _ = H3
              have m3 : Md [dw, dl] H2 H3 := eH3 ▸ Md.upd C2.hw rfl (by simp)
              have w3 : H3 dw = _ := eH3 ▸ upd_same
              have hx3 := m3.out _ _ C2.hx (by simp [nx1, nx2])
              have l3 : H3 dl = some (.dK (lK rs)) := by rw [← eH3, upd_ne (Ne.symm hne)]; exact C2.hl
              have hcy2 := Cy.same s2
              have nyw : y ≠ dw := ne_of hcy2.hx C2.hw (by intro z; cases z)
              have nmw : m ≠ dw := by obtain ⟨vv, e, _⟩ := hcy2.hl; exact ne_of e C2.hw (by intro z; cases z)
              have m3' : Md [dw] H2 H3 := eH3 ▸ Md.upd C2.hw rfl (by simp)
              have hcy3 : CdAt K H3 y dy m as := hcy2.md m3' (by simp [nyw]) (by simp [nmw])
              refine ⟨_, rfl, _, _, _, rfl, hcy3.hx, cdF_no (by decide), y, dy, m, as, rfl, hcy3, fun p us H4 np s4 e4 a4 => ?_⟩
              refine mkCd (as := as) (.inl (SqL.of e4)) a4 hcy3.ok hal fun q dq n H5 s5 nq nn hqn CD => ?_
              have s35 := s4.trans s5
              have l5 := s35 _ _ l3
              refine ⟨_, rfl, _, _, _, _, _, rfl, s35 _ _ hx3, T.o_Schema.cl, T.n_Schema_limits, scF_limits, _, rfl, _, _, rfl, DPut.k (k := .inr z) l5 (by rw [ll]; exact Nat.lt_of_le_of_lt hrl (by decide)), ?_⟩
              rw [putK_new _ (by rw [val_l, hz]; rfl)]
              generalize eH6 : upd H5 dl _ = H6
              have m6 : Md [dw, dl] H5 H6 := eH6 ▸ Md.upd l5 rfl (by simp)
              have l6 : H6 dl = _ := eH6 ▸ upd_same
              have mm : Md [dw, dl] H H6 := (Md.of s12).trans (m3.trans ((Md.of s35).trans m6))
              have fr : ∀ {b : Addr}, H4 b = none → H b = none := fun {b} hb => by
                cases hh : H b with
                | none => rfl
                | some ob =>
                  by_cases e1 : b = dw
                  · rw [e1, s4 _ _ w3] at hb; cases hb
                  · rw [s4 _ _ (m3'.out _ _ (s12 _ _ hh) (by simp [e1]))] at hb; cases hb
              have nq' : q ∉ [dw, dl] := by
                have h1 : q ≠ dw := fun z => by rw [z, s4 _ _ w3] at nq; cases nq
                have h2 : q ≠ dl := fun z => by rw [z, s4 _ _ l3] at nq; cases nq
                simp [h1, h2]
              have nn' : n ∉ [dw, dl] := by
                have h1 : n ≠ dw := fun z => by rw [z, s4 _ _ w3] at nn; cases nn
                have h2 : n ≠ dl := fun z => by rw [z, s4 _ _ l3] at nn; cases nn
                simp [h1, h2]
              refine hQ z rfl hA hf q dq n H6 mm (fr nq) (fr nn) hqn ⟨m6.out _ _ (s35 _ _ hx3) (by simp [nx1, nx2]), ?_, ?_, fun t ht => ?_⟩
              · rw [← eH6, upd_ne hne, s35 _ _ w3]
                unfold wI dI
                rw [List.map_append, List.map_append]
                rfl
              · rw [l6]
                unfold lK
                rw [List.map_append]
                rfl
              · rcases List.mem_append.mp ht with ht | ht
                · exact (((C2.hc t ht).md m3 (nss t ht).1 (nss t ht).2).same s35).md m6 (nss t ht).1 (nss t ht).2
                · cases List.mem_singleton.mp ht
                  exact CD.md m6 nq' nn'

end
end K51
namespace K51
open PySem PySem.Spec PyProof.Rows L2 He TL EL
section
variable {P : Program} {w : World} {K : PySem.W.Frag} {mg : Str → Option Value} {base : Heap}
/-! Schema.narrow -/
def setS (rs : List Sch) (z : Str) (q dq n : Addr) (as : List At) : List Sch := rs.map fun s => if s.nm = z then ⟨s.nm, s.n, q, dq, n, as⟩ else s
theorem wI_set (rs : List Sch) (z : Str) (q dq n : Addr) (as : List At) : wI (setS rs z q dq n as) = wI rs := by
  unfold wI setS
  rw [List.map_map]
  refine List.map_congr_left fun s _ => ?_
  show (Sum.inr (if s.nm = z then (⟨s.nm, s.n, q, dq, n, as⟩ : Sch) else s).nm, ((if s.nm = z then (⟨s.nm, s.n, q, dq, n, as⟩ : Sch) else s).n : Int)) = _
  split <;> rfl
theorem lK_set (rs : List Sch) (z : Str) (q dq n : Addr) (as : List At) (h : (findS rs z).isSome = true) : putK (lK rs) (.inr z) (.ref q) = lK (setS rs z q dq n as) := by
  unfold putK
  rw [valV_any, val_l, Option.isSome_map, h, if_pos rfl]
  unfold lK setS
  rw [List.map_map, List.map_map]
  refine List.map_congr_left fun s _ => ?_
  show (if (Sum.inr s.nm : Key) = .inr z then ((Sum.inr s.nm : Key), V.ref q) else (Sum.inr s.nm, V.ref s.c)) = (Sum.inr (if s.nm = z then (⟨s.nm, s.n, q, dq, n, as⟩ : Sch) else s).nm, V.ref (if s.nm = z then (⟨s.nm, s.n, q, dq, n, as⟩ : Sch) else s).c)
  by_cases e : s.nm = z
  · rw [if_pos e, if_pos (by rw [e])]
  · rw [if_neg e, if_neg (fun h => e (Sum.inr.inj h))]
def spNarrow (K : PySem.W.Frag) : Sp := fun vs H Q E => ∃ x dx dw dl rs vn d y dy m as, vs = [.ref x, vn, .ref y] ∧ ScAt K H x dx dw dl rs ∧ Dp K H vn d ∧ CdAt K H y dy m as ∧ rs.length ≤ 1000 ∧ as.length ≤ 400 ∧ dw ≠ dl ∧
  (inS rs d = false → ∀ dd H', Same H H' → H' dd = some (xName vn) → E (.ref (ga K "NoTable")) (some dd) H') ∧
  (∀ z s, d = .str z → findS rs z = some s → s.as.length ≤ 400 ∧
    (as.all (At.fits (pn1 s.n)) = false → ∀ H', Same H H' → E (.ref (ga K "NoCondition")) none H') ∧
    (as.all (At.fits (pn1 s.n)) = true → ∀ q dq l H', Md [dl] H H' → H q = none → H l = none → q ≠ l → ScAt K H' x dx dw dl (setS rs z q dq l (dd (s.as ++ as))) → Q .non H'))
theorem d_sc_narrow (hP : PF P "/claim/cut.py") (T : Txt K mg) : FnR P w K mg base (L2.CX P w) 8 (ma K (ga K "Schema") "narrow") (spNarrow K) := by
  obtain ⟨fd, F⟩ := T.f_Schema_narrow
  have D_col := d_sc_col (P := P) (w := w) (base := base) hP T
  have D_are_row_rules := d_rowrules (P := P) (w := w) (base := base) T
  have D_and := d_and (P := P) (w := w) (base := base) T
  refine fnN F (fun _ _ _ _ _ _ us hl => match us, hl with | [_, _, _], _ => rfl) sc_Schema_narrow (fun vs H Q E h => ?_) (fun cdv A outer s H vs Q E hr h => ?_)
  · obtain ⟨x, dx, dw, dl, rs, vn, d, y, dy, m, as, rfl, _⟩ := h
    rfl
  · obtain ⟨x, dx, dw, dl, rs, vn, d, y, dy, m, as, rfl, C, hd, Cy, hrl, hal, hne, hE1, hQ⟩ := h
    refine ⟨_, (pss_cons (ps_set (i := 3) sc_Schema_narrow.nd rfl (.inl rfl) (pe_methE (pv 0) T.o_Schema.cl T.h_Schema_columns D_col (hr.mono (by decide)) (pxx (takes_of rfl rfl rfl rfl)) (pa_cons (pv 1) pa_nil)))
      (pss_cons (ps_if (pt_not (pt_val (cl D_are_row_rules (hr.mono (by decide)) (pa_cons (pv 2) (pa_cons (pv 3) pa_nil))))) (pss_one (EL.rs (by rfl) (takes_of rfl rfl rfl rfl) T.x_NoCondition (by rfl))) pss_nil)
      (pss_one (ps_dput (hu_of hr) (pe_fld (pv 0) rfl) (pv 1) (pe_op (op_binO T.sf_Conditions T.u_Conditions___and__.1 T.u_Conditions___and__.2 D_and hr pass0) (pe_dget (hu_of hr) (pe_fld (pv 0) rfl) (pv 1) (fun _ _ => rfl)) (pv 2)) rfl)))), ?_⟩
    refine ⟨_, rfl, _, _, _, rfl, C.hx, scF_no (by decide) (by decide), _, rfl, x, dx, dw, dl, rs, vn, d, rfl, C, hd, fun hi dd H' s' e' => hE1 hi dd H' s' e', fun z sc ez hf => ?_⟩
    obtain ⟨hl, hE2, hQ2⟩ := hQ z sc ez hf
    cases ez
    cases hd
    refine ⟨_, rfl, _, rfl, y, dy, m, as, sc.n, rfl, Cy, fun H2 s2 => ?_⟩
    refine ⟨_, rfl, ?_⟩
    cases hfit : as.all (At.fits (pn1 sc.n)) with
    | false =>
      refine iteT ?_
      exact hE2 hfit H2 s2
    | true =>
      refine iteF ?_
      have C2 := C.same s2
      have Cy2 := Cy.same s2
      obtain ⟨nx1, nx2, nss⟩ := sc_ne C2
      have hg2 := DGet.k (k := .inr z) C2.hl
      rw [val_l, hf] at hg2
      have Cs := C2.hc sc (findS_mem hf).1
      have ll : (lK rs).length = rs.length := by unfold lK; rw [List.length_map]
      refine ⟨_, rfl, _, _, _, _, _, rfl, C2.hx, T.o_Schema.cl, T.n_Schema_limits, scF_limits, _, rfl, _, _, rfl, hg2, _, rfl, _, _, _, _, _, _, rfl, rfl, Cs.hx, Cy2.hx, _, _, _, _, _, _, _, _, rfl, Cs, Cy2, hl, hal, fun q dq n H3 s3 nq nn hqn CD => ?_⟩
      have C3 := C2.same s3
      refine ⟨_, rfl, _, _, _, _, _, rfl, C3.hx, T.o_Schema.cl, T.n_Schema_limits, scF_limits, _, rfl, _, _, rfl, DPut.k (k := .inr z) C3.hl (by rw [ll]; exact Nat.lt_of_le_of_lt hrl (by decide)), ?_⟩
      have hsm : (findS rs z).isSome = true := by rw [hf]; rfl
      rw [lK_set rs z q dq n (dd (sc.as ++ as)) hsm]
      generalize eH4 : upd H3 dl _ = H4
      have m4 : Md [dl] H3 H4 := eH4 ▸ Md.upd C3.hl rfl (by simp)
      have l4 : H4 dl = _ := eH4 ▸ upd_same
      have s23 := s2.trans s3
      have nql : q ≠ dl := fun z => by rw [z, C2.hl] at nq; cases nq
      have nnl : n ≠ dl := fun z => by rw [z, C2.hl] at nn; cases nn
      refine hQ2 hfit q dq n H4 ((Md.of s23).trans m4) (s2.free nq) (s2.free nn) hqn ⟨m4.out _ _ C3.hx (by simp [nx2]), ?_, l4, fun t ht => ?_⟩
      · rw [wI_set]
        exact m4.out _ _ C3.hw (by simp [hne])
      · unfold setS at ht
        obtain ⟨u, hu, rfl⟩ := List.mem_map.mp ht
        by_cases e : u.nm = z
        · rw [if_pos e]
          exact CD.md m4 (by simp [nql]) (by simp [nnl])
        · rw [if_neg e]
          have k1 : u.c ≠ dl := fun h => (nss u hu).1 (by simp [h])
          have k2 : u.l ≠ dl := fun h => (nss u hu).2 (by simp [h])
          exact (C3.hc u hu).md m4 (by simp [k1]) (by simp [k2])
/-! Schema.__eq__ -/
def keyS (s : Sch) : Str × Nat × List At := (s.nm, s.n, s.as)
def nmS (rs : List Sch) : List Str := rs.map Sch.nm
theorem findS_of {ss : List Sch} (nd : (nmS ss).Nodup) {t : Sch} (h : t ∈ ss) : findS ss t.nm = some t := by
  induction ss with
  | nil => cases h
  | cons s r ih =>
    obtain ⟨n1, n2⟩ := List.nodup_cons.mp nd
    unfold findS
    rw [List.find?_cons]
    rcases List.mem_cons.mp h with rfl | h
    · simp
    · have e : s.nm ≠ t.nm := fun z => n1 (by show s.nm ∈ r.map Sch.nm; rw [z]; exact List.mem_map_of_mem h)
      simp only [e, decide_false]
      exact ih n2 h
theorem nm_get {rs ss : List Sch} (e : nmS rs = nmS ss) {i : Nat} {s : Sch} (h : rs[i]? = some s) : ∃ t, ss[i]? = some t ∧ t.nm = s.nm := by
  have h1 : (nmS rs)[i]? = some s.nm := by unfold nmS; rw [List.getElem?_map, h]; rfl
  rw [e] at h1
  exact getM h1
def bsL (rs ss : List Sch) : List Bool := (rs.zip ss).map fun p => decide (p.1.as = p.2.as)
def nsB (rs ss : List Sch) : Bool := (rs.zip ss).all fun p => decide (p.1.n = p.2.n)
theorem bsL_get {rs ss : List Sch} {i : Nat} {s t : Sch} (h1 : rs[i]? = some s) (h2 : ss[i]? = some t) : (bsL rs ss)[i]? = some (decide (s.as = t.as)) := by
  unfold bsL
  rw [List.getElem?_map, (List.getElem?_zip_eq_some (z := (s, t))).mpr ⟨h1, h2⟩]
  rfl
theorem eqDI_all {ss : List Sch} : ∀ {rs' ss' : List Sch}, nmS rs' = nmS ss' → (∀ t ∈ ss', findS ss t.nm = some t) → eqDI (wI rs') (wI ss) = nsB rs' ss'
  | [], [], _, _ => rfl
  | [], _ :: _, e, _ => by cases e
  | _ :: _, [], e, _ => by cases e
  | s :: r, t :: u, e, h => by
    obtain ⟨e1, e2⟩ := List.cons_eq_cons.mp (show s.nm :: nmS r = t.nm :: nmS u from e)
    have ih := eqDI_all (ss := ss) e2 fun t ht => h t (by simp [ht])
    show (decide (valV (dI (wI ss)) (.inr s.nm) = some (.int (s.n : Nat))) && eqDI (wI r) (wI ss)) = (decide (s.n = t.n) && nsB r u)
    rw [ih, val_w, e1, h t (by simp)]
    congr 1
    exact decide_eq_decide.mpr ⟨fun z => by have := Option.some.inj z; have := V.int.inj this; omega, fun z => by rw [z]; rfl⟩
theorem keyS_eq : ∀ {rs ss : List Sch}, nmS rs = nmS ss → decide (rs.map keyS = ss.map keyS) = (nsB rs ss && (bsL rs ss).all id)
  | [], [], _ => rfl
  | [], _ :: _, e => by cases e
  | _ :: _, [], e => by cases e
  | s :: r, t :: u, e => by
    obtain ⟨e1, e2⟩ := List.cons_eq_cons.mp (show s.nm :: nmS r = t.nm :: nmS u from e)
    have ih := keyS_eq e2
    have h1 : nsB (s :: r) (t :: u) = (decide (s.n = t.n) && nsB r u) := rfl
    have h2 : (bsL (s :: r) (t :: u)).all id = (decide (s.as = t.as) && (bsL r u).all id) := rfl
    have h3 : decide ((s :: r).map keyS = (t :: u).map keyS) = (decide (s.n = t.n) && (decide (s.as = t.as) && decide (r.map keyS = u.map keyS))) := by
      rw [← Bool.decide_and, ← Bool.decide_and]
      refine decide_eq_decide.mpr ⟨fun z => ?_, fun z => ?_⟩
      · obtain ⟨a, b⟩ := List.cons_eq_cons.mp (show keyS s :: r.map keyS = keyS t :: u.map keyS from z)
        unfold keyS at a
        injection a with _ a
        injection a with a1 a2
        exact ⟨a1, a2, b⟩
      · show keyS s :: r.map keyS = keyS t :: u.map keyS
        rw [z.2.2]
        unfold keyS
        rw [e1, z.1, z.2.1]
    rw [h3, h1, h2, ih]
    cases decide (s.n = t.n) <;> cases decide (s.as = t.as) <;> cases nsB r u <;> rfl
theorem keyS_nm {rs ss : List Sch} (e : ¬ nmS rs = nmS ss) : decide (rs.map keyS = ss.map keyS) = false := by
  refine decide_eq_false fun z => e ?_
  have := congrArg (List.map Prod.fst) z
  rw [List.map_map, List.map_map] at this
  exact this
theorem pds_str {ns : List Str} (h : ∀ z ∈ ns, PyData.strOk z = true) : Pds (ns.map PyData.str) := fun d hd => by
  obtain ⟨a, ha, rfl⟩ := List.mem_map.mp hd
  exact ⟨rfl, h a ha, by show 0 ≤ 16; decide⟩
theorem dp_str {H : Hp} : ∀ ns : List Str, DpAll K H (ns.map V.str) (ns.map PyData.str)
  | [] => .nil
  | _ :: r => .cons (.str _) (dp_str r)
theorem eqv_strs : ∀ as bs : List Str, PyData.eqv (.list (as.map PyData.str)) (.list (bs.map PyData.str)) = decide (as = bs)
  | [], [] => rfl
  | [], _ :: _ => rfl
  | _ :: _, [] => rfl
  | t :: ts, u :: us => by
    show ((t == u) && PyData.eqv (.list (ts.map PyData.str)) (.list (us.map PyData.str))) = _
    rw [eqv_strs ts us, show (t == u) = decide (t = u) from rfl, ← Bool.decide_and]
    exact decide_eq_decide.mpr ⟨fun h => by rw [h.1, h.2], fun h => by cases h; exact ⟨rfl, rfl⟩⟩
theorem nmS_map (rs : List Sch) : (rs.map fun s => V.str s.nm) = (nmS rs).map V.str := by
  unfold nmS
  rw [List.map_map]
  rfl

end
end K51
namespace K51
open PySem PySem.Spec PyProof.Rows L2 He TL EL
section
variable {P : Program} {w : World} {K : PySem.W.Frag} {mg : Str → Option Value} {base : Heap}
/-! Maker -/
abbrev aMk (K : PySem.W.Frag) : Addr := ga K "Maker"
def mkF (t : Addr) : List (Str × V) := putF "kept_terms" (.ref t) []
theorem mkF_at {l : Addr} : (mkF l).lookup ("kept_terms" : Str) = some (.ref l) := by
  unfold mkF
  rw [lookup_putF, if_pos rfl]
theorem mkF_no {l : Addr} {m : Str} (h : m ≠ "kept_terms") : (mkF l).lookup m = none := by
  unfold mkF
  rw [lookup_putF, if_neg h]
  rfl
def makeOk : PyData → Bool
  | .list ds => (decide (1 ≤ ds.length) && decide (ds.length ≤ 3)) && ds.all isTermD
  | .tuple ds => (decide (1 ≤ ds.length) && decide (ds.length ≤ 3)) && ds.all isTermD
  | _ => false
def itemsD : PyData → List PyData
  | .list ds => ds
  | .tuple ds => ds
  | _ => []
theorem val_noL {d : PyData} (h : isValD d = true) : noL d = true := by
  unfold isValD at h
  split at h
  · rfl
  · cases h
theorem term_noL {d : PyData} (h : isTermD d = true) : noL d = true := by
  unfold isTermD at h
  split at h
  · rename_i z e
    show (true && (noL e && true)) = true
    have : noL e = true := by
      unfold termD at h
      split at h
      · exact val_noL h
      · cases e <;> first | rfl | (rw [show colD _ = false from rfl, Bool.and_false] at h; cases h)
    rw [this]
    rfl
  · cases h
theorem terms_noL : ∀ {ds : List PyData}, ds.all isTermD = true → noLs ds = true
  | [], _ => rfl
  | d :: r, h => by
    rw [List.all_cons, Bool.and_eq_true] at h
    exact Bool.and_eq_true_iff.mpr ⟨term_noL h.1, terms_noL h.2⟩
def spMk (K : PySem.W.Frag) : Sp := fun args H Q E => ∃ x dx v d, args = [.ref x, v] ∧ H x = some (.ins (aMk K) dx []) ∧ Dp K H v d ∧ (itemsD d).length ≤ 1000 ∧ (makeOk d = false → ∀ H', Same H H' → E (.ref (ga K "NoCell")) none H') ∧
  (makeOk d = true → ∀ t us H', Md [x] H H' → H t = none → H' x = some (.ins (aMk K) dx (mkF t)) → H' t = some (.tup us) → DpAll K H' us (itemsD d) → Q .non H')
theorem d_mk (T : Txt K mg) : FnR P w K mg base (L2.CX P w) 4 (ma K (ga K "Maker") "__init__") (spMk K) := by
  obtain ⟨fd, F⟩ := T.f_Maker___init__
  have D_is_term := d_is_term (P := P) (w := w) (base := base) T
  refine fnN F (fun _ _ _ _ _ _ us hl => match us, hl with | [_, _], _ => rfl) sc_Maker___init__ (fun vs H Q E h => ?_) (fun cdv A outer s H vs Q E hr h => ?_)
  · obtain ⟨x, dx, v, d, rfl, _⟩ := h
    rfl
  · obtain ⟨x, dx, v, d, rfl, hx, hd, hlen, hE, hQ⟩ := h
    refine ⟨_, (pss_cons (ps_if (PW.pt (pw_or (pt_not (pt_val (pe_callB call_isiT (by rfl) T.z_isinstance (by decide +kernel) (pa_cons (pv 1) (pa_cons (pe_tup (pa_cons (pe_bltn (v := .ty "list") (by rfl) T.z_list (by decide +kernel) rfl) (pa_cons (pe_bltn (v := .ty "tuple") (by rfl) T.z_tuple (by decide +kernel) rfl) pa_nil))) pa_nil))))) (pw_or1 (pt_not (pt_chain op_le op_le pe_int (pe_callB call_len_seq (by rfl) T.z_len (by decide +kernel) (pa_cons (pv 1) pa_nil)) (pe_gv T.g_MOST_COLUMNS)))))) (pss_one (EL.rs (by rfl) (takes_of rfl rfl rfl rfl) T.x_NoCell (by rfl))) pss_nil)
      (pss_cons (ps_set (i := 2) sc_Maker___init__.nd rfl (.inl rfl) (pe_lst pa_nil))
      (pss_cons (ps_for (passes_of rfl) rfl (PI.or_ (pi_list (pv 1)) (pi_tup (pv 1))) (pg_name (i := 3) sc_Maker___init__.nd rfl (.inl rfl))
      (pss_cons (ps_if (pt_not (pt_val (cl D_is_term (hr.mono (by decide)) (pa_cons (pv 3) pa_nil)))) (pss_one (EL.rs (by rfl) (takes_of rfl rfl rfl rfl) T.x_NoCell (by rfl))) pss_nil)
      (pss_one (ps_expr (pe_bm PySem.F.plainAttrs_list PySem.F.slot_list_append PySem.F.type_list_append mt_append (pv 2) (pa_cons (pv 3) pa_nil))))))
      (pss_one (ps_fld (pv 0) (pe_callTy call_tuple_of (by rfl) T.z_tuple (by decide +kernel) (pa_cons (pv 2) pa_nil)) rfl))))), ?_⟩
    refine ⟨_, rfl, (by show 2 ≤ sizeLine; decide), fun tp ntp => ?_⟩
    generalize eH1 : upd H tp _ = H1
    have s1 : Same H H1 := eH1 ▸ same_upd ntp
    have e1 : H1 tp = some _ := eH1 ▸ upd_same
    refine ⟨_, tp, _, _, _, _, rfl, e1, .cons (.ty _) (.cons (.ty _) .nil), Dp.ty (Dp.same s1 hd), kit_any2 K .lst .tup d, _, rfl, ?_⟩
    by_cases hk : ∃ a vs, v = .ref a ∧ (isTy .lst d || isTy .tup d) = true ∧ (SqL K H a vs ∨ SqT K H a vs) ∧ DpAll K H vs (itemsD d) ∧ makeOk d = ((decide (1 ≤ (itemsD d).length) && decide ((itemsD d).length ≤ 3)) && (itemsD d).all isTermD)
    · obtain ⟨a, vs, rfl, hty, ha, hA, hmk⟩ := hk
      rw [hty]
      refine iteF ?_
      generalize itemsD d = ds at *
      have lv : vs.length = ds.length := DpAll.length hA
      have ha1 : SqL K H1 a vs ∨ SqT K H1 a vs := ha.elim (fun z => .inl (s1.seq z)) (fun z => .inr (Same.seqT s1 z))
      refine ⟨_, rfl, _, _, rfl, ha1, _, _, rfl, rfl, _, rfl, ?_⟩
      rw [lv]
      cases c1 : decide ((1 : Int) ≤ (ds.length : Nat)) with
      | false =>
        refine iteF ?_
        refine ⟨_, rfl, iteT ?_⟩
        refine hE ?_ H1 s1
        have := of_decide_eq_false c1
        rw [hmk, decide_eq_false (by omega)]
        rfl
      | true =>
        have c1' := of_decide_eq_true c1
        refine iteT ?_
        refine ⟨_, _, rfl, rfl, _, rfl, ?_⟩
        cases c2 : decide (((ds.length : Nat) : Int) ≤ 3) with
        | false =>
          refine iteT ?_
          refine hE ?_ H1 s1
          have := of_decide_eq_false c2
          rw [hmk, decide_eq_false (show ¬ ds.length ≤ 3 by omega), Bool.and_false]
          rfl
        | true =>
          have c2' := of_decide_eq_true c2
          refine iteF ?_
          have hmk2 : makeOk d = ds.all isTermD := by rw [hmk, decide_eq_true (by omega), decide_eq_true (by omega)]; rfl
          refine ⟨(by show 0 ≤ sizeLine; decide), fun kl nkl => ?_⟩
          generalize eH2 : upd H1 kl _ = H2
          have s2 : Same H1 H2 := eH2 ▸ same_upd nkl
          have e2 : H2 kl = some _ := eH2 ▸ upd_same
          have s12 := s1.trans s2
          have nk0 : H kl = none := s1.free nkl
          have hx2 := s12 _ _ hx
          have nkx : kl ≠ x := fun z => by rw [z, hx] at nk0; cases nk0
          have body : ∀ (i : Nat) (xv : V) (H' : Hp), vs[i]? = some xv → (∃ us, H' kl = some (.lst us) ∧ us = vs.take i ∧ Md [kl] H2 H' ∧ (ds.take i).all isTermD = true) →
              ∃ e us, ds[i]? = some e ∧ Dp K H' xv e ∧ H' kl = some (.lst us) ∧ us.length < sizeLine ∧ Same H H' ∧ (isTermD e = true → ∃ us', upd H' kl (.lst (us ++ [xv])) kl = some (.lst us') ∧ us' = vs.take (i + 1) ∧ Md [kl] H2 (upd H' kl (.lst (us ++ [xv]))) ∧ (ds.take (i + 1)).all isTermD = true) := by
            rintro i xv H' hg ⟨us, eu, au, m, al⟩
            obtain ⟨e, he, hdp⟩ := DpAll.get hA hg
            have hlu : us.length < sizeLine := by
              rw [au, List.length_take, lv]
              exact Nat.lt_of_le_of_lt (Nat.le_trans (Nat.min_le_right _ _) hlen) (by decide)
            have sH : Same H H' := (Md.newM (S := []) m (Md.of s12) nk0).same
            refine ⟨e, us, he, Dp.same sH hdp, eu, hlu, sH, fun ht => ?_⟩
            have mu : Md [kl] H' (upd H' kl (.lst (us ++ [xv]))) := Md.upd eu rfl (by simp)
            refine ⟨_, upd_same, ?_, m.trans mu, ?_⟩
            · rw [tk1 hg, au]
            · rw [tk1 he, List.all_append, al]
              simp [ht]
          have bad : ∀ (i : Nat) e, ds[i]? = some e → isTermD e = false → makeOk d = false := fun i e he ht => by
            rw [hmk2, Bool.eq_false_iff]
            intro z
            have := List.all_eq_true.mp z e (List.mem_of_getElem? he)
            rw [ht] at this
            cases this
          have fin : ∀ H', (∃ us, H' kl = some (.lst us) ∧ us = vs.take vs.length ∧ Md [kl] H2 H' ∧ (ds.take vs.length).all isTermD = true) → ∃ us, H' kl = some (.lst us) ∧ ∀ t, H' t = none → H' x = some (.ins (aMk K) dx []) ∧ Q .non (upd (upd H' t (.tup us)) x (.ins (aMk K) dx (putF "kept_terms" (.ref t) []))) := by
            rintro H' ⟨us, eu, au, m, al⟩
            rw [List.take_length] at au
            rw [lv, List.take_length] at al
            subst au
            have sH : Same H H' := (Md.newM (S := []) m (Md.of s12) nk0).same
            have hx' := m.out _ _ hx2 (by simp; exact Ne.symm nkx)
            refine ⟨us, eu, fun t nt => ⟨hx', ?_⟩⟩
            have s3 : Same H' (upd H' t (.tup us)) := same_upd nt
            have ntx : t ≠ x := fun z => by rw [z, hx'] at nt; cases nt
            have mx : Md [x] (upd H' t (.tup us)) (upd (upd H' t (.tup us)) x (.ins (aMk K) dx (putF "kept_terms" (.ref t) []))) := Md.upd (s3 _ _ hx') rfl (by simp)
            refine hQ (by rw [hmk2]; exact al) t us _ ((Md.of (sH.trans s3)).trans mx) (sH.free nt) upd_same (by rw [upd_ne ntx]; exact upd_same) (mx.dpAll (terms_noL al) (DpAll.same (sH.trans s3) hA))
          have start : ∃ us, H2 kl = some (.lst us) ∧ us = vs.take 0 ∧ Md [kl] H2 H2 ∧ (ds.take 0).all isTermD = true := ⟨[], e2, rfl, .refl _ _, rfl⟩
          rcases ha with ha | ha
          · refine .inl ⟨_, rfl, a, rfl, ⟨_, s12.seq ha⟩, for_list (K := K) (a := a) (xs := vs) (fun i σ H' => (∃ o, σ = [some (.ref x), some (.ref a), some (.ref kl), o]) ∧ ∃ us, H' kl = some (.lst us) ∧ us = vs.take i ∧ Md [kl] H2 H' ∧ (ds.take i).all isTermD = true) ⟨⟨none, rfl⟩, start⟩ (fun i σ H' _ h => ?_) ?_ ?_⟩
            · obtain ⟨_, us, _, _, m, _⟩ := h
              exact SqL.new ha (Md.newM (S := []) m (Md.of s12) nk0) (by simp)
            · rintro i xv σ H' hg ⟨⟨o, rfl⟩, h⟩
              obtain ⟨e, us, he, hdp, eu, hlu, sH, hN⟩ := body i xv H' hg h
              refine ⟨_, rfl, xv, .d e, rfl, hdp, _, rfl, ?_⟩
              cases ht : isTermT (.d e) with
              | false => exact iteT (hE (bad i e he ht) H' sH)
              | true => exact iteF ⟨_, rfl, .inl ⟨rfl, _, SqL.of eu⟩, _, rfl, kl, _, _, rfl, rfl, eu, hlu, ⟨_, rfl⟩, hN ht⟩
            · rintro σ H' ⟨⟨o, rfl⟩, h⟩
              obtain ⟨us, eu, hf⟩ := fin H' h
              refine ⟨_, rfl, _, _, rfl, .inl ⟨SqL.of eu, fun t nt => ?_⟩⟩
              obtain ⟨hx', q⟩ := hf t nt
              exact ⟨_, rfl, _, _, _, _, rfl, same_upd nt _ _ hx', T.o_Maker.cl, T.n_Maker_kept_terms, (by show 0 < 1000; decide), q⟩
          · refine .inr ⟨_, rfl, a, rfl, ⟨_, Same.seqT s12 ha⟩, for_tup (K := K) (a := a) (xs := vs) (fun i σ H' => (∃ o, σ = [some (.ref x), some (.ref a), some (.ref kl), o]) ∧ ∃ us, H' kl = some (.lst us) ∧ us = vs.take i ∧ Md [kl] H2 H' ∧ (ds.take i).all isTermD = true) ⟨⟨none, rfl⟩, start⟩ (fun i σ H' _ h => ?_) ?_ ?_⟩
            · obtain ⟨_, us, _, _, m, _⟩ := h
              exact m.sqT (Same.seqT s12 ha)
            · rintro i xv σ H' hg ⟨⟨o, rfl⟩, h⟩
              obtain ⟨e, us, he, hdp, eu, hlu, sH, hN⟩ := body i xv H' hg h
              refine ⟨_, rfl, xv, .d e, rfl, hdp, _, rfl, ?_⟩
              cases ht : isTermT (.d e) with
              | false => exact iteT (hE (bad i e he ht) H' sH)
              | true => exact iteF ⟨_, rfl, .inl ⟨rfl, _, SqL.of eu⟩, _, rfl, kl, _, _, rfl, rfl, eu, hlu, ⟨_, rfl⟩, hN ht⟩
            · rintro σ H' ⟨⟨o, rfl⟩, h⟩
              obtain ⟨us, eu, hf⟩ := fin H' h
              refine ⟨_, rfl, _, _, rfl, .inl ⟨SqL.of eu, fun t nt => ?_⟩⟩
              obtain ⟨hx', q⟩ := hf t nt
              exact ⟨_, rfl, _, _, _, _, rfl, same_upd nt _ _ hx', T.o_Maker.cl, T.n_Maker_kept_terms, (by show 0 < 1000; decide), q⟩
    · have e2 : (isTy .lst d || isTy .tup d) = false := by
        cases hd with
        | lst h a => exact absurd ⟨_, _, rfl, rfl, .inl h, a, rfl⟩ hk
        | tup h a => exact absurd ⟨_, _, rfl, rfl, .inr h, a, rfl⟩ hk
        | _ => rfl
      rw [e2]
      refine iteT ?_
      refine hE ?_ H1 s1
      cases d <;> first | rfl | cases e2

end
end K51
namespace K51
open PySem PySem.Spec PyProof.Rows L2 He TL EL
section
variable {P : Program} {w : World} {K : PySem.W.Frag} {mg : Str → Option Value} {base : Heap}
/-! Cell -/
def cellF (v1 v2 : V) : List (Str × V) := putF "at" v2 (putF "place" v1 [])
theorem cellF_place (v1 v2 : V) : (cellF v1 v2).lookup ("place" : Str) = some v1 := by
  unfold cellF
  rw [lookup_putF, if_neg (by decide +kernel), lookup_putF, if_pos rfl]
theorem cellF_at (v1 v2 : V) : (cellF v1 v2).lookup ("at" : Str) = some v2 := by
  unfold cellF
  rw [lookup_putF, if_pos rfl]
abbrev aCell (K : PySem.W.Frag) : Addr := ga K "Cell"
abbrev plF (p : Pl) (c : Nat) : List (Str × V) := cellF (.str p.s) (.int c)
def spCell (K : PySem.W.Frag) : Sp := fun vs H Q _ => ∃ x dx p c, vs = [.ref x, .str (Pl.s p), .int ((c : Nat) : Int)] ∧ c < 3 ∧ H x = some (.ins (aCell K) dx []) ∧ ∀ H', Md [x] H H' → H' x = some (.ins (aCell K) dx (plF p c)) → Q .non H'
theorem cell_term {p : Pl} {c : Nat} (h : c < 3) : isTermD (Tm.cell p c).d = true := Tm.isTerm (t := .cell p c) h
theorem d_cell (T : Txt K mg) : FnR P w K mg base CX0 4 (ma K (ga K "Cell") "__init__") (spCell K) := by
  obtain ⟨fd, F⟩ := T.f_Cell___init__
  have D_is_term := d_is_term (P := P) (w := w) (base := base) T
  refine fnN F (fun _ _ _ _ _ _ us hl => match us, hl with | [_, _, _], _ => rfl) sc_Cell___init__ (fun vs H Q E h => ?_) (fun cdv A outer s H vs Q E hr h => ?_)
  · obtain ⟨x, dx, p, c, rfl, _⟩ := h
    rfl
  · obtain ⟨x, dx, p, c, rfl, hc, hx, hQ⟩ := h
    refine ⟨_, PSs.nox (pss_cons (ps_if (PW.pt (pw_or (pt_not (pt_val (pe_callB call_isi (by rfl) T.z_isinstance (by decide +kernel) (pa_cons (pv 1) (pa_cons (pe_bltn (v := .ty "str") (by rfl) T.z_str (by decide +kernel) rfl) pa_nil))))) (pw_or (pt_cmpR op_notIn_seq (pv 1) (pe_glob (v := .ref (ga K "PLACES")) (by rfl) T.g_PLACES rfl) (by rfl)) (pw_or1 (pt_not (pt_val (cl D_is_term (hr.mono (by decide)) (pa_cons (pe_tup (pa_cons (pv 1) (pa_cons (pv 2) pa_nil))) pa_nil)))))))) (pss_one (ps_never)) pss_nil)
      (pss_cons (ps_fld (pv 0) (pv 1) rfl)
      (pss_one (ps_fld (pv 0) (pv 2) rfl)))), ?_⟩
    refine ⟨_, rfl, _, _, _, _, _, rfl, .ty _, Dp.ty (.str _), kit_d K .str (.str p.s), _, rfl, iteF ?_⟩
    have hv : inV (.str p.s) plV = true := by cases p <;> rfl
    refine ⟨_, rfl, _, _, rfl, .inr (T.t_PLACES _), rfl, rfl, _, rfl, if_neg_of (by show (!inV (.str p.s) plV) = false; rw [hv]; rfl) ?_⟩
    refine ⟨_, rfl, _, rfl, (by show 2 ≤ sizeLine; decide), fun q nq => ?_⟩
    generalize eH1 : upd H q _ = H1
    have s1 : Same H H1 := eH1 ▸ same_upd nq
    have h1 : H1 q = some _ := eH1 ▸ upd_same
    refine ⟨_, .d (Tm.cell p c).d, rfl, .tup (SqT.of h1) (.cons (.str _) (.cons (.int _) .nil)), _, rfl, if_neg_of (by show (!isTermD (Tm.cell p c).d) = false; rw [cell_term hc]; rfl) ?_⟩
    refine ⟨_, rfl, _, rfl, _, _, _, _, rfl, s1 _ _ hx, T.o_Cell.cl, T.n_Cell_place, (by decide), ?_⟩
    refine ⟨_, rfl, _, rfl, _, _, _, _, rfl, upd_same, T.o_Cell.cl, T.n_Cell_at, (by show 1 < 1000; decide), ?_⟩
    refine hQ _ ?_ upd_same
    rw [upd_upd]
    exact (Md.of s1).trans (Md.upd (s1 _ _ hx) rfl (by simp))
theorem mkCell {H : Hp} {p : Pl} {c : Nat} {Q : Addr → Hp → Prop} {E : XK} (hc : c < 3) (hQ : ∀ x dx H', Same H H' → H x = none → H' x = some (.ins (aCell K) dx (plF p c)) → Q x H') :
    ∀ x dx, H x = none → H dx = none → dx ≠ x → spCell K [.ref x, .str p.s, .int ((c : Nat) : Int)] (upd (upd H dx (.own x)) x (.ins (aCell K) dx [])) (fun v H2 => v = .non ∧ Q x H2) E := by
  intro x dx nx ndx hne
  generalize eH1 : upd (upd H dx _) x _ = H1
  have s1 : Same H H1 := eH1 ▸ (same_upd ndx).trans (same_upd (by rw [upd_ne (Ne.symm hne)]; exact nx))
  have x1 : H1 x = some (.ins (aCell K) dx []) := eH1 ▸ upd_same
  refine ⟨x, dx, p, c, rfl, hc, x1, fun H' m hx => ⟨rfl, hQ x dx H' (fun b o hb => m.out _ _ (s1 _ _ hb) (by simp; exact ne_of_none hb nx)) nx hx⟩⟩
/-! Cell.of -/
def ofD : PyData → Option PyData
  | .int i => some (.tuple [.str "value", .tuple [.int i, .int 1]])
  | d => if isValD d = true then some (.tuple [.str "value", d]) else none
/-- what Cell.of is asked for: a term as a cell, an int, a value; or none of these -/
def ItAt (K : PySem.W.Frag) (H : Hp) (v : V) : Option Tm → Prop
  | some (.cell p c) => ∃ x dx, v = .ref x ∧ H x = some (.ins (aCell K) dx (plF p c)) ∧ c < 3
  | some (.val a b) => (v = .int a ∧ b = 1) ∨ (Dp K H v (valD (a, b)) ∧ Low a b)
  | none => ∃ d, Dp K H v d ∧ ofD d = none
def spOf (K : PySem.W.Frag) : Sp := fun vs H Q E => ∃ v o, vs = [v] ∧ ItAt K H v o ∧ (o = none → E (.ref (ga K "NoCell")) none H) ∧ ∀ t, o = some t → ∀ p H', Same H H' → Dp K H' (.ref p) t.d → Q (.ref p) H'
theorem d_of (T : Txt K mg) : FnR P w K mg base (L2.CX P w) 3 (He5.wf K (ga K "Cell") "staticmethod" "of") (spOf K) := by
  obtain ⟨fd, F⟩ := T.f_Cell_of
  have D_is_whole := d_is_whole (P := P) (w := w) (base := base) T
  have D_is_value := d_is_value (P := P) (w := w) (base := base) T
  refine fnN F (fun _ _ _ _ _ _ us hl => match us, hl with | [_], _ => rfl) sc_Cell_of (fun vs H Q E h => ?_) (fun cdv A outer s H vs Q E hr h => ?_)
  · obtain ⟨v, o, rfl, _⟩ := h
    rfl
  · obtain ⟨v, o, rfl, hI, hE, hQ⟩ := h
    have main : (∃ d r, Dp K H v d ∧ ofD d = r ∧ (r = none → E (.ref (ga K "NoCell")) none H) ∧ ∀ e, r = some e → ∀ p H', Same H H' → Dp K H' (.ref p) e → Q (.ref p) H') ∨ ∃ x dx p c, v = .ref x ∧ H x = some (.ins (aCell K) dx (plF p c)) ∧ o = some (.cell p c) := by
      match o, hI with
      | some (.cell p c), ⟨x, dx, e1, e2, _⟩ => exact .inr ⟨x, dx, p, c, e1, e2, rfl⟩
      | some (.val a b), .inl ⟨e1, e2⟩ =>
        subst e1 e2
        exact .inl ⟨.int a, _, .int a, rfl, (fun z => by cases z), fun e he p H' s d => hQ _ rfl p H' s (by cases he; exact d)⟩
      | some (.val a b), .inr ⟨e1, lw⟩ =>
        have e3 : ofD (valD (a, b)) = some (.tuple [.str "value", valD (a, b)]) := by
          show (if isValD (valD (a, b)) = true then some (PyData.tuple [.str "value", valD (a, b)]) else none) = _
          rw [isVal_of lw, if_pos rfl]
        exact .inl ⟨_, _, e1, e3, (fun z => by cases z), fun e he p H' s d => hQ _ rfl p H' s (by cases he; exact d)⟩
      | none, ⟨d, e1, e2⟩ => exact .inl ⟨d, none, e1, e2, fun _ => hE rfl, fun e he => by cases he⟩
    refine ⟨_, (pss_cons (ps_if (pt_val (pe_callB call_isi (by rfl) T.z_isinstance (by decide +kernel) (pa_cons (pv 0) (pa_cons (pe_glob (v := .ref (ga K "Cell")) (by rfl) T.g_Cell rfl) pa_nil)))) (pss_one (ps_ret (pe_tup (pa_cons (pe_fld (pv 0) rfl) (pa_cons (pe_fld (pv 0) rfl) pa_nil))))) pss_nil)
      (pss_cons (ps_if (pt_val (cl D_is_whole (hr.mono (by decide)) (pa_cons (pv 0) pa_nil))) (pss_one (ps_ret (pe_tup (pa_cons pe_str (pa_cons (pe_tup (pa_cons (pv 0) (pa_cons pe_int pa_nil))) pa_nil))))) pss_nil)
      (pss_cons (ps_if (pt_val (cl D_is_value (hr.mono (by decide)) (pa_cons (pv 0) pa_nil))) (pss_one (ps_ret (pe_tup (pa_cons pe_str (pa_cons (pv 0) pa_nil))))) pss_nil)
      (pss_one (EL.rs (by rfl) (takes_of rfl rfl rfl rfl) T.x_NoCell (by rfl)))))), ?_⟩
    rcases main with ⟨d, r, hd, hr', hE, hQ⟩ | ⟨x, dx, p, c, rfl, hx, rfl⟩
    · refine ⟨_, rfl, _, _, _, _, _, rfl, .own _, Dp.ty hd, T.o_Cell.isD d, _, rfl, iteF ?_⟩
      refine ⟨_, rfl, v, .d d, rfl, hd, _, rfl, ?_⟩
      rw [isWholeT_d]
      by_cases w1 : ∃ i, d = .int i
      · obtain ⟨i, rfl⟩ := w1
        cases hd
        refine iteT ?_
        refine ⟨_, rfl, (by show 2 ≤ sizeLine; decide), fun p np => ?_⟩
        generalize eH1 : upd H p _ = H1
        have s1 : Same H H1 := eH1 ▸ same_upd np
        have h1 : H1 p = some _ := eH1 ▸ upd_same
        refine ⟨(by show 2 ≤ sizeLine; decide), fun p2 np2 => ?_⟩
        generalize eH2 : upd H1 p2 _ = H2
        have s2 : Same H1 H2 := eH2 ▸ same_upd np2
        have h2 : H2 p2 = some _ := eH2 ▸ upd_same
        exact hQ _ hr'.symm p2 H2 (s1.trans s2) (.tup (SqT.of h2) (.cons (.str _) (.cons (.tup (SqT.of (s2 _ _ h1)) (.cons (.int _) (.cons (.int _) .nil))) .nil)))
      · have e2 : isWholeD d = false := by
          cases d <;> first | rfl | exact absurd ⟨_, rfl⟩ w1
        rw [e2]
        refine iteF ?_
        have eo : ofD d = if isValD d = true then some (.tuple [.str "value", d]) else none := by
          cases d <;> first | rfl | exact absurd ⟨_, rfl⟩ w1
        refine ⟨_, rfl, v, .d d, rfl, hd, _, rfl, ie (fun c => ?_) (fun c => ?_)⟩
        · have c' : isValD d = true := c
          refine ⟨_, rfl, (by show 2 ≤ sizeLine; decide), fun p np => ?_⟩
          generalize eH1 : upd H p _ = H1
          have s1 : Same H H1 := eH1 ▸ same_upd np
          have h1 : H1 p = some _ := eH1 ▸ upd_same
          exact hQ _ (by rw [← hr', eo, if_pos c']) p H1 s1 (.tup (SqT.of h1) (.cons (.str _) (.cons (Dp.same s1 hd) .nil)))
        · have c' : isValD d = false := c
          exact hE (by rw [← hr', eo, c', if_neg Bool.false_ne_true])
    · refine ⟨_, rfl, _, _, _, _, _, rfl, .own _, T.o_Cell.ty hx, T.o_Cell.self, _, rfl, iteT ?_⟩
      refine ⟨_, rfl, _, _, _, _, _, rfl, hx, T.o_Cell.cl, T.n_Cell_place, cellF_place _ _, _, rfl, _, _, _, _, _, rfl, hx, T.o_Cell.cl, T.n_Cell_at, cellF_at _ _, (by show 2 ≤ sizeLine; decide), fun p np => ?_⟩
      generalize eH1 : upd H p _ = H1
      have s1 : Same H H1 := eH1 ▸ same_upd np
      have h1' : H1 p = some _ := eH1 ▸ upd_same
      exact hQ _ rfl p H1 s1 (.tup (SqT.of h1') (.cons (.str _) (.cons (.int _) .nil)))

end
end K51
namespace K51
open PySem PySem.Spec PyProof.Rows L2 He TL EL
section
variable {P : Program} {w : World} {K : PySem.W.Frag} {mg : Str → Option Value} {base : Heap}
/-! are_words -/
def areW (n : Nat) : PyData → Bool
  | .list ds => (decide (n ≤ ds.length) && decide (ds.length ≤ 2)) && ds.all isWordD
  | _ => false
def shortD : PyData → Prop
  | .str z => z.length ≤ 100000
  | _ => True
def shortL : PyData → Prop
  | .list ds => ∀ d ∈ ds, shortD d
  | _ => True
def spWords (K : PySem.W.Frag) : Sp := fun vs H Q _ => ∃ v d n, vs = [v, .int ((n : Nat) : Int)] ∧ Dp K H v d ∧ shortL d ∧ Q (.bl (areW n d)) H
theorem d_are_words (T : Txt K mg) : Dn P w K mg base CX0 2 "are_words" (spWords K) := by
  obtain ⟨fd, F⟩ := T.f_are_words
  have D_is_word := d_is_word (P := P) (w := w) (base := base) T
  refine dnN T.g_are_words F (fun _ _ _ _ _ _ us hl => match us, hl with | [_, _], _ => rfl) sc_are_words (fun vs H Q E h => ?_) (fun cdv A outer s H vs Q E hr h => ?_)
  · obtain ⟨v, d, n, rfl, _⟩ := h
    rfl
  · obtain ⟨v, d, n, rfl, hd, hs, q⟩ := h
    refine ⟨_, PSs.nox (pss_cons (ps_if (PW.pt (pw_or (pt_not (pt_val (pe_callB call_isi (by rfl) T.z_isinstance (by decide +kernel) (pa_cons (pv 0) (pa_cons (pe_bltn (v := .ty "list") (by rfl) T.z_list (by decide +kernel) rfl) pa_nil))))) (pw_or1 (pt_not (pt_chain op_le op_le (pv 1) (pe_callB call_len_seq (by rfl) T.z_len (by decide +kernel) (pa_cons (pv 0) pa_nil)) pe_int))))) (pss_one (ps_ret pe_bl)) pss_nil)
      (pss_cons (ps_for PassesOwn.never rfl (pi_list (pv 0)) (pg_name (i := 2) sc_are_words.nd rfl (.inl rfl))
      (pss_one (ps_if (pt_not (pt_val (cl D_is_word (hr.mono (by decide)) (pa_cons (pv 2) pa_nil)))) (pss_one (ps_ret pe_bl)) pss_nil)))
      (pss_one (ps_ret pe_bl)))), ?_⟩
    refine ⟨_, rfl, _, _, _, _, _, rfl, .ty _, Dp.ty hd, kit_d K .lst d, _, rfl, ?_⟩
    by_cases hk : ∃ ds, d = .list ds
    · obtain ⟨ds, rfl⟩ := hk
      cases hd with
      | lst ha hA =>
        rename_i a vs
        have lv : vs.length = ds.length := DpAll.length hA
        have e0 : areW n (.list ds) = ((decide (n ≤ ds.length) && decide (ds.length ≤ 2)) && ds.all isWordD) := rfl
        rw [e0] at q
        refine iteF ?_
        refine ⟨_, rfl, _, rfl, _, _, rfl, .inl ha, _, _, rfl, rfl, _, rfl, ?_⟩
        rw [lv]
        cases c1 : decide (((n : Nat) : Int) ≤ (ds.length : Nat)) with
        | false =>
          refine iteF ⟨_, rfl, iteT ?_⟩
          have := of_decide_eq_false c1
          rw [decide_eq_false (by omega)] at q
          exact q
        | true =>
          have c1' := of_decide_eq_true c1
          refine iteT ?_
          refine ⟨_, _, rfl, rfl, _, rfl, ?_⟩
          cases c2 : decide (((ds.length : Nat) : Int) ≤ 2) with
          | false =>
            refine iteT ?_
            have := of_decide_eq_false c2
            rw [decide_eq_false (show ¬ ds.length ≤ 2 by omega), Bool.and_false] at q
            exact q
          | true =>
            have c2' := of_decide_eq_true c2
            refine iteF ?_
            rw [decide_eq_true (show n ≤ ds.length by omega), decide_eq_true (show ds.length ≤ 2 by omega)] at q
            refine ⟨_, rfl, a, rfl, ⟨_, ha⟩, for_list (K := K) (a := a) (xs := vs) (fun i σ H' => H' = H ∧ (∃ o, σ = [some (.ref a), some (.int ((n : Nat) : Int)), o]) ∧ (ds.take i).all isWordD = true) ⟨rfl, ⟨none, rfl⟩, rfl⟩ (fun i σ H' _ h => ?_) ?_ ?_⟩
            · rw [h.1]
              exact ha
            · rintro i xv σ H' hg ⟨rfl, ⟨o, rfl⟩, al⟩
              obtain ⟨e, he, hdp⟩ := DpAll.get hA hg
              have mem := List.mem_of_getElem? he
              refine ⟨_, rfl, xv, e, rfl, hdp, (fun z ez => by have := hs e mem; rw [ez] at this; exact this), _, rfl, ?_⟩
              cases ht : isWordD e with
              | false =>
                refine iteT ?_
                have : ds.all isWordD = false := by
                  rw [Bool.eq_false_iff]
                  intro z
                  rw [List.all_eq_true.mp z e mem] at ht
                  cases ht
                rw [this] at q
                exact q
              | true =>
                refine iteF ⟨rfl, ⟨_, rfl⟩, ?_⟩
                rw [tk1 he, List.all_append, al]
                simp [ht]
            · rintro σ H' ⟨rfl, _, al⟩
              rw [lv, List.take_length] at al
              rw [al] at q
              exact q
    · have e2 : isTy .lst d = false := by
        cases d <;> first | rfl | exact absurd ⟨_, rfl⟩ hk
      rw [e2]
      refine iteT ?_
      have e3 : areW n d = false := by
        cases d <;> first | rfl | exact absurd ⟨_, rfl⟩ hk
      rw [e3] at q
      exact q

end
end K51
namespace K51
open PySem PySem.Spec PyProof.Rows L2 He TL EL
section
variable {P : Program} {w : World} {K : PySem.W.Frag} {mg : Str → Option Value} {base : Heap}
/-! Maker's methods -/
structure MkAt (K : PySem.W.Frag) (H : Hp) (x dx t : Addr) (ts : List Tm) : Prop where
  hx : H x = some (.ins (aMk K) dx (mkF t))
  ht : ∃ us, H t = some (.tup us) ∧ DpAll K H us (ts.map Tm.d)
  ok : ∀ a ∈ ts, Tm.ok a
theorem pds_tm (ts : List Tm) : Pds (ts.map Tm.d) ∧ PyData.depthAll (ts.map Tm.d) ≤ 2 := by
  refine ⟨fun d hd => ?_, ?_⟩
  · obtain ⟨a, _, rfl⟩ := List.mem_map.mp hd
    exact (Tm.pd a).1
  · induction ts with
    | nil => exact Nat.zero_le _
    | cons a r ih => exact Nat.max_le.mpr ⟨(Tm.pd a).2, ih⟩
theorem pd_tms (ts : List Tm) : Pd (.tuple (ts.map Tm.d)) := by
  obtain ⟨h1, h2⟩ := pds_tm ts
  exact ⟨h1.nl, h1.cl, by show PyData.depthAll (ts.map Tm.d) + 1 ≤ 16; omega⟩
theorem MkAt.dp {H : Hp} {x dx t : Addr} {ts : List Tm} (M : MkAt K H x dx t ts) : Dp K H (.ref t) (.tuple (ts.map Tm.d)) := by
  obtain ⟨us, h1, h2⟩ := M.ht
  exact .tup (SqT.of h1) h2
theorem MkAt.md {H H' : Hp} {x dx t : Addr} {ts : List Tm} {S : List Addr} (M : MkAt K H x dx t ts) (m : Md S H H') (h : x ∉ S) : MkAt K H' x dx t ts := by
  obtain ⟨hx, ⟨us, h1, h2⟩, ok⟩ := M
  exact ⟨m.out _ _ hx h, ⟨us, m.rig _ _ h1 rfl, m.dpAll (pds_tm ts).1.nl h2⟩, ok⟩
theorem MkAt.same {H H' : Hp} {x dx t : Addr} {ts : List Tm} (M : MkAt K H x dx t ts) (s : Same H H') : MkAt K H' x dx t ts := M.md (S := []) (.of s) (by simp)
theorem eqv_tms : ∀ ts us : List Tm, PyData.eqv (.tuple (ts.map Tm.d)) (.tuple (us.map Tm.d)) = decide (ts = us)
  | [], [] => rfl
  | [], _ :: _ => rfl
  | _ :: _, [] => rfl
  | t :: ts, u :: us => by
    show (PyData.eqv t.d u.d && PyData.eqv (.tuple (ts.map Tm.d)) (.tuple (us.map Tm.d))) = _
    rw [eqv_tm, eqv_tms ts us, ← Bool.decide_and]
    exact decide_eq_decide.mpr ⟨fun h => by rw [h.1, h.2], fun h => by cases h; exact ⟨rfl, rfl⟩⟩
def spMkTerms (K : PySem.W.Frag) : Sp := fun vs H Q _ => ∃ x dx t ts, vs = [.ref x] ∧ MkAt K H x dx t ts ∧ Q (.ref t) H
theorem d_mk_terms (T : Txt K mg) : FnR P w K mg base CX0 1 (ma K (ga K "Maker") "terms") (spMkTerms K) := by
  obtain ⟨fd, F⟩ := T.f_Maker_terms
  refine fnN F (fun _ _ _ _ _ _ us hl => match us, hl with | [_], _ => rfl) sc_Maker_terms (fun vs H Q E h => ?_) (fun cdv A outer s H vs Q E hr h => ?_)
  · obtain ⟨x, dx, t, ts, rfl, _⟩ := h
    rfl
  · obtain ⟨x, dx, t, ts, rfl, M, q⟩ := h
    exact ⟨_, PSs.nox (pss_one (ps_ret (pe_fld (pv 0) rfl))), _, rfl, _, _, _, _, _, rfl, M.hx, T.o_Maker.cl, T.n_Maker_kept_terms, mkF_at, q⟩
def spMkEq (K : PySem.W.Frag) : Sp := fun vs H Q _ => ∃ x dx t ts y dy u us, vs = [.ref x, .ref y] ∧ MkAt K H x dx t ts ∧ MkAt K H y dy u us ∧ Q (.bl (decide (ts = us))) H
theorem d_mk_eq (T : Txt K mg) : FnR P w K mg base CX0 1 (ma K (ga K "Maker") "__eq__") (spMkEq K) := by
  obtain ⟨fd, F⟩ := T.f_Maker___eq__
  refine fnN F (fun _ _ _ _ _ _ us hl => match us, hl with | [_, _], _ => rfl) sc_Maker___eq__ (fun vs H Q E h => ?_) (fun cdv A outer s H vs Q E hr h => ?_)
  · obtain ⟨x, dx, t, ts, y, dy, u, us, rfl, _⟩ := h
    rfl
  · obtain ⟨x, dx, t, ts, y, dy, u, us, rfl, M, N, q⟩ := h
    refine ⟨_, PSs.nox (pss_one (ps_ret (pe_and (pe_callB call_isi (by rfl) T.z_isinstance (by decide +kernel) (pa_cons (pv 1) (pa_cons (pe_glob (v := .ref (ga K "Maker")) (by rfl) T.g_Maker rfl) pa_nil))) (pe_one (pe_cmpR (op_eqD hr.units) (pe_fld (pv 0) rfl) (pe_fld (pv 1) rfl) (nomark _)))))), ?_⟩
    refine ⟨_, rfl, _, _, _, _, _, rfl, .own _, T.o_Maker.ty N.hx, T.o_Maker.self, _, rfl, iteT ?_⟩
    refine ⟨_, rfl, _, _, _, _, _, rfl, M.hx, T.o_Maker.cl, T.n_Maker_kept_terms, mkF_at, _, rfl, _, _, _, _, _, rfl, N.hx, T.o_Maker.cl, T.n_Maker_kept_terms, mkF_at, _, _, M.dp, N.dp, (pd_tms ts).shaped, (pd_tms us).shaped, ?_⟩
    rw [eqv_tms]
    exact q
/-! making a Maker -/
theorem mkMk {H : Hp} {v : V} {d : PyData} {Q : Addr → Hp → Prop} {E : XK} (hd : Dp K H v d) (hl : (itemsD d).length ≤ 1000) (hE : makeOk d = false → ∀ H', Same H H' → E (.ref (ga K "NoCell")) none H')
    (hQ : makeOk d = true → ∀ x dx t us H', Same H H' → H x = none → H' x = some (.ins (aMk K) dx (mkF t)) → H' t = some (.tup us) → DpAll K H' us (itemsD d) → Q x H') :
    ∀ x dx, H x = none → H dx = none → dx ≠ x → spMk K [.ref x, v] (upd (upd H dx (.own x)) x (.ins (aMk K) dx [])) (fun v H2 => v = .non ∧ Q x H2) E := by
  intro x dx nx ndx hne
  generalize eH1 : upd (upd H dx _) x _ = H1
  have s1 : Same H H1 := eH1 ▸ (same_upd ndx).trans (same_upd (by rw [upd_ne (Ne.symm hne)]; exact nx))
  have x1 : H1 x = some (.ins (aMk K) dx []) := eH1 ▸ upd_same
  refine ⟨x, dx, v, d, rfl, x1, Dp.same s1 hd, hl, fun z H' s' => hE z H' (s1.trans s'), fun z t us H' m nt hx ht hu => ⟨rfl, ?_⟩⟩
  have sH : Same H H' := fun b o hb => m.out _ _ (s1 _ _ hb) (by simp; exact ne_of_none hb nx)
  exact hQ z x dx t us H' sH nx hx ht hu
theorem make_ok {ts : List Tm} (h : ∀ t ∈ ts, Tm.ok t) (h1 : 1 ≤ ts.length) (h3 : ts.length ≤ 3) : makeOk (.list (ts.map Tm.d)) = true ∧ makeOk (.tuple (ts.map Tm.d)) = true := by
  have e : ((decide (1 ≤ (ts.map Tm.d).length) && decide ((ts.map Tm.d).length ≤ 3)) && (ts.map Tm.d).all isTermD) = true := by
    rw [List.length_map, decide_eq_true h1, decide_eq_true h3, List.all_map]
    exact List.all_eq_true.mpr fun t ht => Tm.isTerm (h t ht)
  exact ⟨e, e⟩
/-! maker_of -/
def ItsAt (K : PySem.W.Frag) (H : Hp) : List V → List (Option Tm) → Prop
  | [], [] => True
  | v :: vs, o :: os => ItAt K H v o ∧ ItsAt K H vs os
  | _, _ => False
theorem ItAt.same {H H' : Hp} {v : V} {o : Option Tm} (s : Same H H') (h : ItAt K H v o) : ItAt K H' v o := by
  match o, h with
  | some (.cell p c), ⟨x, dx, e1, e2, e3⟩ => exact ⟨x, dx, e1, s _ _ e2, e3⟩
  | some (.val a b), .inl h => exact .inl h
  | some (.val a b), .inr ⟨h, l⟩ => exact .inr ⟨Dp.same s h, l⟩
  | none, ⟨d, h, e⟩ => exact ⟨d, Dp.same s h, e⟩
theorem ItsAt.same {H H' : Hp} (s : Same H H') : ∀ {vs : List V} {os : List (Option Tm)}, ItsAt K H vs os → ItsAt K H' vs os
  | [], [], _ => trivial
  | _ :: _, _ :: _, h => ⟨h.1.same s, ItsAt.same s h.2⟩
  | [], _ :: _, h => h.elim
  | _ :: _, [], h => h.elim
theorem ItsAt.length {H : Hp} : ∀ {vs : List V} {os : List (Option Tm)}, ItsAt K H vs os → vs.length = os.length
  | [], [], _ => rfl
  | _ :: _, _ :: _, h => congrArg Nat.succ (ItsAt.length h.2)
  | [], _ :: _, h => h.elim
  | _ :: _, [], h => h.elim
theorem ItsAt.get {H : Hp} : ∀ {vs : List V} {os : List (Option Tm)} {i : Nat} {v : V}, ItsAt K H vs os → vs[i]? = some v → ∃ o, os[i]? = some o ∧ ItAt K H v o
  | _ :: _, _ :: _, 0, _, h, e => by cases e; exact ⟨_, rfl, h.1⟩
  | _ :: _, _ :: _, i + 1, _, h, e => ItsAt.get (i := i) h.2 e
  | [], [], _, _, _, e => by simp at e
  | [], _ :: _, _, _, h, _ => h.elim
  | _ :: _, [], _, _, h, _ => h.elim
/-- what maker_of is asked for: a list of such items, or data that is no list -/
def MkArg (K : PySem.W.Frag) (H : Hp) (v : V) (o : Option (List (Option Tm))) : Prop := match o with
  | some os => ∃ a vs, v = .ref a ∧ SqL K H a vs ∧ ItsAt K H vs os ∧ os.length ≤ 1000 ∧ ∀ t, some t ∈ os → Tm.ok t
  | none => ∃ d, Dp K H v d ∧ isTy .lst d = false
theorem MkArg.same {H H' : Hp} {v : V} {o : Option (List (Option Tm))} (s : Same H H') (h : MkArg K H v o) : MkArg K H' v o := by
  match o, h with
  | some os, ⟨a, vs, e, h1, h2, h3⟩ => exact ⟨a, vs, e, s.seq h1, h2.same s, h3⟩
  | none, ⟨d, h, e⟩ => exact ⟨d, Dp.same s h, e⟩
/-- the terms, if it is let -/
def mkTs : Option (List (Option Tm)) → Option (List Tm)
  | some os => if (os.all Option.isSome && (decide (1 ≤ os.length) && decide (os.length ≤ 3))) = true then some (os.filterMap id) else none
  | none => none
theorem mkTs_map {ts : List Tm} (h1 : 1 ≤ ts.length) (h3 : ts.length ≤ 3) : mkTs (some (ts.map some)) = some ts := by
  show (if ((ts.map some).all Option.isSome && (decide (1 ≤ (ts.map some).length) && decide ((ts.map some).length ≤ 3))) = true then some ((ts.map some).filterMap id) else none) = _
  rw [List.length_map, decide_eq_true h1, decide_eq_true h3, List.all_map]
  rw [if_pos]
  · congr 1
    rw [List.filterMap_map]
    exact List.filterMap_some
  · rw [Bool.and_true, Bool.and_true]
    exact List.all_eq_true.mpr fun _ _ => rfl
def spMkOf (K : PySem.W.Frag) : Sp := fun vs H Q _ => ∃ v o, vs = [v] ∧ MkArg K H v o ∧ (mkTs o = none → ∀ H', Same H H' → Q .non H') ∧ ∀ ts, mkTs o = some ts → ∀ x dx t H', Same H H' → H x = none → MkAt K H' x dx t ts → Q (.ref x) H'
theorem fm_some : ∀ {os : List (Option Tm)}, os.all Option.isSome = true → os.map (fun o => o.getD (.val 0 1)) = os.filterMap id ∧ os = (os.filterMap id).map some
  | [], _ => ⟨rfl, rfl⟩
  | none :: r, h => by cases h
  | some t :: r, h => by
    have h' : r.all Option.isSome = true := by rw [List.all_cons] at h; exact (Bool.and_eq_true_iff.mp h).2
    obtain ⟨h1, h2⟩ := fm_some h'
    refine ⟨?_, ?_⟩
    · show t :: _ = t :: _
      rw [h1]
    · show some t :: r = some t :: _
      rw [← h2]
theorem d_maker_of (T : Txt K mg) : Dn P w K mg base CX0 6 "maker_of" (spMkOf K) := by
  obtain ⟨fd, F⟩ := T.f_maker_of
  have D_of := d_of (P := P) (w := w) (base := base) T
  have D_mk := d_mk (P := P) (w := w) (base := base) T
  refine dnN T.g_maker_of F (fun _ _ _ _ _ _ us hl => match us, hl with | [_], _ => rfl) sc_maker_of (fun vs H Q E h => ?_) (fun cdv A outer s H vs Q E hr h => ?_)
  · obtain ⟨v, o, rfl, _⟩ := h
    rfl
  · obtain ⟨v, o, rfl, hM, hN, hQ⟩ := h
    refine ⟨_, PSs.nox (pss_cons (ps_if (pt_not (pt_val (pe_callB call_isi (by rfl) T.z_isinstance (by decide +kernel) (pa_cons (pv 0) (pa_cons (pe_bltn (v := .ty "list") (by rfl) T.z_list (by decide +kernel) rfl) pa_nil))))) (pss_one (ps_ret pe_non)) pss_nil)
      (pss_one (ps_try_only (by rfl) (by rfl) ⟨rfl, by decide, .inl T.x_NoCell.g⟩ takes0 (fun W pn xe tk po => (pss_one (ps_ret (pe_makeE T.m_Maker D_mk (hr.mono (by decide)) T.g_Maker (pxx tk) (pa_cons (pe_lcX (own := [("item", 1)]) (tt := tYes) tk (by rfl) (by rfl) (by rfl) sc_maker_of.nd (show PI _ _ _ (iList K (tVar 0)) from pi_list (pv 0)) (blkOk_by (own := [("item", 1)]) (N := ["thing", "item"]) (sc := defScope s_maker_of) (by decide +kernel)) (fun _ _ _ _ _ => (pg_name (i := 1) sc_maker_of.nd rfl (.inl rfl))) (fun _ _ _ _ _ => pts_nil) (fun _ _ _ _ _ _ _ hx => (pe_smE (pe_glob (v := .ref (ga K "Cell")) (by rfl) T.g_Cell rfl) T.s_Cell_of D_of (hr.mono (by decide)) hx (pa_cons (pv 1) pa_nil)))) pa_nil)))))
      (fun a oe cls d pn hz hf => (pss_one (ps_ret pe_non)))))), ?_⟩
    cases o with
    | none =>
      obtain ⟨d, hd, e⟩ := hM
      refine ⟨_, rfl, _, _, _, _, _, rfl, .ty _, Dp.ty hd, kit_d K .lst d, _, rfl, ?_⟩
      rw [e]
      exact iteT (hN rfl H (.refl _))
    | some os =>
      obtain ⟨a, vs, rfl, ha, hI, hl, hok⟩ := hM
      have lv := hI.length
      refine ⟨_, rfl, _, _, _, _, _, rfl, .ty _, SqL.ty ha, kit_ty (kit_k .lst .lst), _, rfl, iteF ?_⟩
      have fail : mkTs (some os) = none → ∀ H', Same H H' → ∃ b, PySem.W.exmOne K (.ref (ga K "NoCell")) (.ref (ga K "NoCell")) = some b ∧ (b = true → ∀ a : Addr, H' a = none → Q .non H') ∧ (b = false → False) := fun e H' s => ⟨true, T.e_NoCell_NoCell, fun _ _ _ => hN e H' s, fun z => by cases z⟩
      refine ⟨_, rfl, a, rfl, ⟨_, ha⟩, fun D nD => ?_⟩
      have sD : Same H (upd H D (.lst [])) := same_upd nD
      refine lcX_it (walk_list (xs := vs)) (fun i H' => (os.take i).all Option.isSome = true ∧ ∃ us, H' D = some (.lst us) ∧ DpAll K H' us (((os.take i).filterMap id).map Tm.d) ∧ Md [D] (upd H D (.lst [])) H') ⟨rfl, [], upd_same, .nil, .refl _ _⟩ (fun i H' _ h => ?_) ?_ ?_
      · obtain ⟨_, us, _, _, m⟩ := h
        exact SqL.new ha (Md.newM (S := []) m (Md.of sD) nD) (by simp)
      · rintro i xv H' H'' hi ⟨hg, us, eu, au, m⟩ ⟨rfl, hx⟩
        obtain ⟨o, ho, hIt⟩ := hI.get hx
        have sH : Same H H'' := (Md.newM (S := []) m (Md.of sD) nD).same
        have mem := List.mem_of_getElem? ho
        refine ⟨rfl, tYes_of ?_⟩
        refine ⟨rfl, _, rfl, xv, o, rfl, hIt.same sH, fun eo => ?_, fun t eo p H3 s3 d3 => ?_⟩
        · subst eo
          refine fail ?_ H'' sH
          refine if_neg fun z => ?_
          have := List.all_eq_true.mp (Bool.and_eq_true_iff.mp z).1 none mem
          cases this
        · subst eo
          have eu3 := s3 _ _ eu
          have hlu : us.length < sizeLine := by
            rw [DpAll.length au, List.length_map]
            have h1 := List.length_filterMap_le id (os.take i)
            rw [List.length_take] at h1
            exact Nat.lt_of_le_of_lt (Nat.le_trans h1 (Nat.le_trans (Nat.min_le_right _ _) hl)) (by decide)
          refine ⟨us, eu3, hlu, ?_⟩
          have mu : Md [D] H3 (upd H3 D (.lst (us ++ [.ref p]))) := Md.upd eu3 rfl (by simp)
          refine ⟨?_, _, upd_same, ?_, (m.trans (Md.of s3)).trans mu⟩
          · rw [tk1 ho, List.all_append, hg]
            rfl
          · rw [tk1 ho, List.filterMap_append, List.map_append]
            refine DpAll.snoc (mu.dp (Tm.pd t).1.nl d3) (mu.dpAll (pds_tm _).1.nl (DpAll.same s3 au))
      · rintro H' ⟨hg, us, eu, au, m⟩
        rw [lv, List.take_length] at hg
        rw [lv, List.take_length] at au
        have sH : Same H H' := (Md.newM (S := []) m (Md.of sD) nD).same
        obtain ⟨_, hos⟩ := fm_some hg
        generalize os.filterMap id = ts at *
        subst hos
        have hok' : ∀ t ∈ ts, Tm.ok t := fun t ht => hok t (List.mem_map.mpr ⟨t, ht, rfl⟩)
        have eM : makeOk (.list (ts.map Tm.d)) = (decide (1 ≤ ts.length) && decide (ts.length ≤ 3)) := by
          show ((decide (1 ≤ (ts.map Tm.d).length) && decide ((ts.map Tm.d).length ≤ 3)) && (ts.map Tm.d).all isTermD) = _
          rw [List.length_map, List.all_map, show ts.all (isTermD ∘ Tm.d) = true from List.all_eq_true.mpr fun t ht => Tm.isTerm (hok' t ht), Bool.and_true]
        have hl' : ts.length ≤ 1000 := by rw [List.length_map] at hl; exact hl
        refine mkMk (d := .list (ts.map Tm.d)) (.lst (SqL.of eu) au) (by show (ts.map Tm.d).length ≤ 1000; rw [List.length_map]; exact hl') (fun z H2 s2 => fail ?_ H2 (sH.trans s2)) fun z x dx t us2 H2 s2 nx hx ht hu => ?_
        · rw [eM] at z
          refine if_neg fun zz => ?_
          rw [List.length_map, z, Bool.and_false] at zz
          cases zz
        · rw [eM] at z
          obtain ⟨z1, z2⟩ := Bool.and_eq_true_iff.mp z
          refine hQ ts (mkTs_map (of_decide_eq_true z1) (of_decide_eq_true z2)) x dx t H2 (sH.trans s2) (sH.free nx) ⟨hx, ⟨us2, ht, hu⟩, hok'⟩

end
end K51
namespace K51
open PySem PySem.Spec PyProof.Rows L2 He TL EL
section
variable {P : Program} {w : World} {K : PySem.W.Frag} {mg : Str → Option Value} {base : Heap}
/-! Rule -/
abbrev aRu (K : PySem.W.Frag) : Addr := ga K "Rule"
def ruF (a o t m c d : V) : List (Str × V) := putF "span" d (putF "demanded" c (putF "making" m (putF "joined" t (putF "source" o (putF "made" a [])))))
section
variable {a o t m c d : V}
theorem ruF_made : (ruF a o t m c d).lookup ("made" : Str) = some a := by
  unfold ruF
  rw [lookup_putF, if_neg (by decide +kernel), lookup_putF, if_neg (by decide +kernel), lookup_putF, if_neg (by decide +kernel), lookup_putF, if_neg (by decide +kernel), lookup_putF, if_neg (by decide +kernel), lookup_putF, if_pos rfl]
theorem ruF_source : (ruF a o t m c d).lookup ("source" : Str) = some o := by
  unfold ruF
  rw [lookup_putF, if_neg (by decide +kernel), lookup_putF, if_neg (by decide +kernel), lookup_putF, if_neg (by decide +kernel), lookup_putF, if_neg (by decide +kernel), lookup_putF, if_pos rfl]
theorem ruF_joined : (ruF a o t m c d).lookup ("joined" : Str) = some t := by
  unfold ruF
  rw [lookup_putF, if_neg (by decide +kernel), lookup_putF, if_neg (by decide +kernel), lookup_putF, if_neg (by decide +kernel), lookup_putF, if_pos rfl]
theorem ruF_making : (ruF a o t m c d).lookup ("making" : Str) = some m := by
  unfold ruF
  rw [lookup_putF, if_neg (by decide +kernel), lookup_putF, if_neg (by decide +kernel), lookup_putF, if_pos rfl]
theorem ruF_demanded : (ruF a o t m c d).lookup ("demanded" : Str) = some c := by
  unfold ruF
  rw [lookup_putF, if_neg (by decide +kernel), lookup_putF, if_pos rfl]
theorem ruF_span : (ruF a o t m c d).lookup ("span" : Str) = some d := by
  unfold ruF
  rw [lookup_putF, if_pos rfl]
theorem ruF_no {z : Str} (h : decide (z ∉ (["made", "source", "joined", "making", "demanded", "span"] : List Str)) = true) : (ruF a o t m c d).lookup z = none := by
  have h := of_decide_eq_true h
  simp only [List.mem_cons, List.not_mem_nil, or_false, not_or] at h
  obtain ⟨h1, h2, h3, h4, h5, h6⟩ := h
  unfold ruF
  rw [lookup_putF, if_neg h6, lookup_putF, if_neg h5, lookup_putF, if_neg h4, lookup_putF, if_neg h3, lookup_putF, if_neg h2, lookup_putF, if_neg h1]
  rfl
end
def spRu (K : PySem.W.Frag) : Sp := fun args H Q _ => ∃ x dx a o t m la vs as d, args = [.ref x, a, o, t, m, .ref la, d] ∧ H x = some (.ins (aRu K) dx []) ∧ SqL K H la vs ∧ DpAll K H vs (as.map At.d) ∧ (∀ a ∈ as, At.ok a) ∧ as.length ≤ 1000 ∧
  ∀ c dc lc H', Md [x] H H' → H c = none → H lc = none → c ≠ lc → H' x = some (.ins (aRu K) dx (ruF a o t m (.ref c) d)) → CdAt K H' c dc lc (dd as) → Q .non H'
theorem d_ru (T : Txt K mg) : FnR P w K mg base CX0 7 (ma K (ga K "Rule") "__init__") (spRu K) := by
  obtain ⟨fd, F⟩ := T.f_Rule___init__
  have D_cd := d_cd1 (P := P) (w := w) (base := base) T
  refine fnN F (fun _ _ _ _ _ _ us hl => match us, hl with | [_, _, _, _, _, _, _], _ => rfl) sc_Rule___init__ (fun vs H Q E h => ?_) (fun cdv A outer s H vs Q E hr h => ?_)
  · obtain ⟨x, dx, a, o, t, m, la, vs, as, d, rfl, _⟩ := h
    rfl
  · obtain ⟨x, dx, a, o, t, m, la, vs, as, d, rfl, hx, hS, hA, hok, hl, hQ⟩ := h
    refine ⟨_, PSs.nox (pss_cons (ps_fld (pv 0) (pv 1) rfl)
      (pss_cons (ps_fld (pv 0) (pv 2) rfl)
      (pss_cons (ps_fld (pv 0) (pv 3) rfl)
      (pss_cons (ps_fld (pv 0) (pv 4) rfl)
      (pss_cons (ps_fld (pv 0) (pe_makeE T.m_Conditions D_cd hr T.g_Conditions pxq (pa_cons (pv 5) pa_nil)) rfl)
      (pss_one (ps_fld (pv 0) (pv 6) rfl))))))), ?_⟩
    refine ⟨_, rfl, _, rfl, _, _, _, _, rfl, hx, T.o_Rule.cl, T.n_Rule_made, (by decide), ?_⟩
    refine ⟨_, rfl, _, rfl, _, _, _, _, rfl, upd_same, T.o_Rule.cl, T.n_Rule_source, (by show 1 < 1000; decide), ?_⟩
    rw [upd_upd]
    refine ⟨_, rfl, _, rfl, _, _, _, _, rfl, upd_same, T.o_Rule.cl, T.n_Rule_joined, (by show 2 < 1000; decide), ?_⟩
    rw [upd_upd]
    refine ⟨_, rfl, _, rfl, _, _, _, _, rfl, upd_same, T.o_Rule.cl, T.n_Rule_making, (by show 3 < 1000; decide), ?_⟩
    rw [upd_upd]
    generalize eH1 : upd H x _ = H1
    have m1 : Md [x] H H1 := eH1 ▸ Md.upd hx rfl (by simp)
    have x1 : H1 x = some (.ins (aRu K) dx (putF "making" m (putF "joined" t (putF "source" o (putF "made" a []))))) := eH1 ▸ upd_same
    have S1 : SqL K H1 la vs := by
      rcases hS with (h | ⟨o, h⟩) | h
      · exact .inl (.inl (m1.out _ _ h (not1 (ne_of h hx (by intro z; cases z)))))
      · exact .inl (.inr ⟨o, m1.rig _ _ h rfl⟩)
      · exact .inr h
    have A1 : DpAll K H1 vs (as.map At.d) := m1.dpAll (pds_at as).nl hA
    refine ⟨_, rfl, ?_⟩
    refine mkCd (as := as) (.inl S1) A1 hok hl fun c dc lc H2 s2 nc nlc hcl CD => ?_
    have x2 := s2 _ _ x1
    refine ⟨_, rfl, _, _, _, _, rfl, x2, T.o_Rule.cl, T.n_Rule_demanded, (by show 4 < 1000; decide), ?_⟩
    refine ⟨_, rfl, _, rfl, _, _, _, _, rfl, upd_same, T.o_Rule.cl, T.n_Rule_span, (by show 5 < 1000; decide), ?_⟩
    rw [upd_upd]
    have m3 : Md [x] H2 (upd H2 x (.ins (aRu K) dx (ruF a o t m (.ref c) d))) := Md.upd x2 rfl (by simp)
    have cx : c ≠ x := fun z => by rw [z, x1] at nc; cases nc
    have lx : lc ≠ x := fun z => by rw [z, x1] at nlc; cases nlc
    exact hQ c dc lc _ ((m1.trans (Md.of s2)).trans m3) (free_md m1 (al1 x1) nc) (free_md m1 (al1 x1) nlc) hcl upd_same (CD.md m3 (not1 cx) (not1 lx))
theorem mkRu {H : Hp} {a o t m d : V} {la : Addr} {vs : List V} {as : List At} {Q : Addr → Hp → Prop} {E : XK} (hS : SqL K H la vs) (hA : DpAll K H vs (as.map At.d)) (hok : ∀ a ∈ as, At.ok a) (hl : as.length ≤ 1000)
    (hQ : ∀ x dx c dc lc H', Same H H' → H x = none → H c = none → H lc = none → H' x = some (.ins (aRu K) dx (ruF a o t m (.ref c) d)) → CdAt K H' c dc lc (dd as) → Q x H') :
    ∀ x dx, H x = none → H dx = none → dx ≠ x → spRu K [.ref x, a, o, t, m, .ref la, d] (upd (upd H dx (.own x)) x (.ins (aRu K) dx [])) (fun v H2 => v = .non ∧ Q x H2) E := by
  intro x dx nx ndx hne
  generalize eH1 : upd (upd H dx _) x _ = H1
  have s1 : Same H H1 := eH1 ▸ (same_upd ndx).trans (same_upd (by rw [upd_ne (Ne.symm hne)]; exact nx))
  have x1 : H1 x = some (.ins (aRu K) dx []) := eH1 ▸ upd_same
  refine ⟨x, dx, a, o, t, m, la, vs, as, d, rfl, x1, s1.seq hS, DpAll.same s1 hA, hok, hl, fun c dc lc H' mm nc nlc hcl hx CD => ⟨rfl, ?_⟩⟩
  exact hQ x dx c dc lc H' (fun b o hb => mm.out _ _ (s1 _ _ hb) (by simp; exact ne_of_none hb nx)) nx (s1.free nc) (s1.free nlc) hx CD
/-! a rule's parts -/
structure Ru where
  a : Str
  o : Option Str
  ws : List Str
  ts : List Tm
  as : List At
  n : Int
  m : Option Int
  deriving DecidableEq
def optS : Option Str → V
  | none => .non
  | some z => .str z
def optI : Option Int → V
  | none => .non
  | some z => .int z
def optSD : Option Str → PyData
  | none => .none
  | some z => .str z
def optID : Option Int → PyData
  | none => .none
  | some z => .int z
def spanD (n : Int) (m : Option Int) : PyData := .tuple [.int n, optID m]
abbrev wsD (ws : List Str) : List PyData := ws.map PyData.str
structure RuAt (K : PySem.W.Frag) (M : List Addr) (H : Hp) (x : Addr) (r : Ru) : Prop where
  ex : ∃ dx t mk dmk tm c dc lc d, H x = some (.ins (aRu K) dx (ruF (.str r.a) (optS r.o) t (.ref mk) (.ref c) d)) ∧ Dp K H t (.tuple (wsD r.ws)) ∧ MkAt K H mk dmk tm r.ts ∧ CdAt K H c dc lc r.as ∧ Dp K H d (spanD r.n r.m) ∧
    x ∉ M ∧ mk ∉ M ∧ c ∉ M ∧ lc ∉ M
theorem noL_ws : ∀ ws : List Str, noLs (wsD ws) = true
  | [] => rfl
  | _ :: r => noL_ws r
theorem noL_span (n : Int) (m : Option Int) : noL (spanD n m) = true := by cases m <;> rfl
theorem RuAt.md {M : List Addr} {H H' : Hp} {x : Addr} {r : Ru} (R : RuAt K M H x r) (m : Md M H H') : RuAt K M H' x r := by
  obtain ⟨dx, t, mk, dmk, tm, c, dc, lc, d, h1, h2, h3, h4, h5, n1, n2, n3, n4⟩ := R.ex
  exact ⟨⟨dx, t, mk, dmk, tm, c, dc, lc, d, m.out _ _ h1 n1, m.dp (noL_ws _) h2, h3.md m n2, h4.md m n3 n4, m.dp (noL_span _ _) h5, n1, n2, n3, n4⟩⟩
theorem RuAt.same {M : List Addr} {H H' : Hp} {x : Addr} {r : Ru} (R : RuAt K M H x r) (s : Same H H') : RuAt K M H' x r := R.md (.of s)
theorem RuAt.re {M M' : List Addr} {H : Hp} {x : Addr} {r : Ru} (R : RuAt K M H x r) (hm : ∀ b, b ∉ M → (∃ o, H b = some o) → b ∉ M') : RuAt K M' H x r := by
  obtain ⟨dx, t, mk, dmk, tm, c, dc, lc, d, h1, h2, h3, h4, h5, n1, n2, n3, n4⟩ := R.ex
  obtain ⟨vs, e, _⟩ := h4.hl
  exact ⟨⟨dx, t, mk, dmk, tm, c, dc, lc, d, h1, h2, h3, h4, h5, hm _ n1 ⟨_, h1⟩, hm _ n2 ⟨_, h3.hx⟩, hm _ n3 ⟨_, h4.hx⟩, hm _ n4 ⟨_, e⟩⟩⟩
theorem RuAt.nil {M : List Addr} {H : Hp} {x : Addr} {r : Ru} (R : RuAt K M H x r) : RuAt K [] H x r := R.re fun b _ _ => by simp
/-! its methods -/
def spGet (K : PySem.W.Frag) (f : Ru → PyData) : Sp := fun vs H Q _ => ∃ x r, vs = [.ref x] ∧ RuAt K [] H x r ∧ ∀ v, Dp K H v (f r) → Q v H
theorem dp_optS {H : Hp} (o : Option Str) : Dp K H (optS o) (optSD o) := by cases o <;> constructor
theorem dp_optI {H : Hp} (o : Option Int) : Dp K H (optI o) (optID o) := by cases o <;> constructor
theorem d_ru_answer (T : Txt K mg) : FnR P w K mg base CX0 1 (ma K (ga K "Rule") "answer") (spGet K fun r => .str r.a) := by
  obtain ⟨fd, F⟩ := T.f_Rule_answer
  refine fnN F (fun _ _ _ _ _ _ us hl => match us, hl with | [_], _ => rfl) sc_Rule_answer (fun vs H Q E h => ?_) (fun cdv A outer s H vs Q E hr h => ?_)
  · obtain ⟨x, r, rfl, _⟩ := h
    rfl
  · obtain ⟨x, r, rfl, R, q⟩ := h
    obtain ⟨dx, t, mk, dmk, tm, c, dc, lc, d, h1, h2, h3, h4, h5, _⟩ := R.ex
    exact ⟨_, PSs.nox (pss_one (ps_ret (pe_fld (pv 0) rfl))), _, rfl, _, _, _, _, _, rfl, h1, T.o_Rule.cl, T.n_Rule_made, ruF_made, q _ (.str _)⟩
theorem d_ru_old (T : Txt K mg) : FnR P w K mg base CX0 1 (ma K (ga K "Rule") "old") (spGet K fun r => optSD r.o) := by
  obtain ⟨fd, F⟩ := T.f_Rule_old
  refine fnN F (fun _ _ _ _ _ _ us hl => match us, hl with | [_], _ => rfl) sc_Rule_old (fun vs H Q E h => ?_) (fun cdv A outer s H vs Q E hr h => ?_)
  · obtain ⟨x, r, rfl, _⟩ := h
    rfl
  · obtain ⟨x, r, rfl, R, q⟩ := h
    obtain ⟨dx, t, mk, dmk, tm, c, dc, lc, d, h1, h2, h3, h4, h5, _⟩ := R.ex
    exact ⟨_, PSs.nox (pss_one (ps_ret (pe_fld (pv 0) rfl))), _, rfl, _, _, _, _, _, rfl, h1, T.o_Rule.cl, T.n_Rule_source, ruF_source, q _ (dp_optS _)⟩
theorem d_ru_tables (T : Txt K mg) : FnR P w K mg base CX0 1 (ma K (ga K "Rule") "tables") (spGet K fun r => .tuple (wsD r.ws)) := by
  obtain ⟨fd, F⟩ := T.f_Rule_tables
  refine fnN F (fun _ _ _ _ _ _ us hl => match us, hl with | [_], _ => rfl) sc_Rule_tables (fun vs H Q E h => ?_) (fun cdv A outer s H vs Q E hr h => ?_)
  · obtain ⟨x, r, rfl, _⟩ := h
    rfl
  · obtain ⟨x, r, rfl, R, q⟩ := h
    obtain ⟨dx, t, mk, dmk, tm, c, dc, lc, d, h1, h2, h3, h4, h5, _⟩ := R.ex
    exact ⟨_, PSs.nox (pss_one (ps_ret (pe_fld (pv 0) rfl))), _, rfl, _, _, _, _, _, rfl, h1, T.o_Rule.cl, T.n_Rule_joined, ruF_joined, q _ h2⟩
theorem d_ru_depths (T : Txt K mg) : FnR P w K mg base CX0 1 (ma K (ga K "Rule") "depths") (spGet K fun r => spanD r.n r.m) := by
  obtain ⟨fd, F⟩ := T.f_Rule_depths
  refine fnN F (fun _ _ _ _ _ _ us hl => match us, hl with | [_], _ => rfl) sc_Rule_depths (fun vs H Q E h => ?_) (fun cdv A outer s H vs Q E hr h => ?_)
  · obtain ⟨x, r, rfl, _⟩ := h
    rfl
  · obtain ⟨x, r, rfl, R, q⟩ := h
    obtain ⟨dx, t, mk, dmk, tm, c, dc, lc, d, h1, h2, h3, h4, h5, _⟩ := R.ex
    exact ⟨_, PSs.nox (pss_one (ps_ret (pe_fld (pv 0) rfl))), _, rfl, _, _, _, _, _, rfl, h1, T.o_Rule.cl, T.n_Rule_span, ruF_span, q _ h5⟩
theorem d_ru_step (T : Txt K mg) : FnR P w K mg base CX0 1 (ma K (ga K "Rule") "is_step") (spGet K fun r => .bool r.o.isSome) := by
  obtain ⟨fd, F⟩ := T.f_Rule_is_step
  refine fnN F (fun _ _ _ _ _ _ us hl => match us, hl with | [_], _ => rfl) sc_Rule_is_step (fun vs H Q E h => ?_) (fun cdv A outer s H vs Q E hr h => ?_)
  · obtain ⟨x, r, rfl, _⟩ := h
    rfl
  · obtain ⟨x, r, rfl, R, q⟩ := h
    obtain ⟨dx, t, mk, dmk, tm, c, dc, lc, d, h1, h2, h3, h4, h5, _⟩ := R.ex
    refine ⟨_, PSs.nox (pss_one (ps_ret (pe_cmpR op_notN (pe_fld (pv 0) rfl) pe_non (nomark _)))), _, rfl, _, _, _, _, _, rfl, h1, T.o_Rule.cl, T.n_Rule_source, ruF_source, ?_⟩
    have q' := q (.bl r.o.isSome) (.bl _)
    generalize r.o = o at *
    cases o with
    | none => exact ⟨rfl, q'⟩
    | some z => exact ⟨rfl, q'⟩
def spMaker (K : PySem.W.Frag) : Sp := fun vs H Q _ => ∃ x r, vs = [.ref x] ∧ RuAt K [] H x r ∧ ∀ y dy t, MkAt K H y dy t r.ts → Q (.ref y) H
theorem d_ru_maker (T : Txt K mg) : FnR P w K mg base CX0 1 (ma K (ga K "Rule") "maker") (spMaker K) := by
  obtain ⟨fd, F⟩ := T.f_Rule_maker
  refine fnN F (fun _ _ _ _ _ _ us hl => match us, hl with | [_], _ => rfl) sc_Rule_maker (fun vs H Q E h => ?_) (fun cdv A outer s H vs Q E hr h => ?_)
  · obtain ⟨x, r, rfl, _⟩ := h
    rfl
  · obtain ⟨x, r, rfl, R, q⟩ := h
    obtain ⟨dx, t, mk, dmk, tm, c, dc, lc, d, h1, h2, h3, h4, h5, _⟩ := R.ex
    exact ⟨_, PSs.nox (pss_one (ps_ret (pe_fld (pv 0) rfl))), _, rfl, _, _, _, _, _, rfl, h1, T.o_Rule.cl, T.n_Rule_making, ruF_making, q _ _ _ h3⟩
def spConds (K : PySem.W.Frag) : Sp := fun vs H Q _ => ∃ x r, vs = [.ref x] ∧ RuAt K [] H x r ∧ r.as.length ≤ 400 ∧ ∀ z dz n H', Same H H' → H z = none → H n = none → z ≠ n → CdAt K H' z dz n (dd r.as) → Q (.ref z) H'
theorem d_ru_conds (T : Txt K mg) : FnR P w K mg base CX0 7 (ma K (ga K "Rule") "conditions") (spConds K) := by
  obtain ⟨fd, F⟩ := T.f_Rule_conditions
  have D_cd := d_cd1 (P := P) (w := w) (base := base) T
  have D_atoms := d_atoms (P := P) (w := w) (base := base) T
  refine fnN F (fun _ _ _ _ _ _ us hl => match us, hl with | [_], _ => rfl) sc_Rule_conditions (fun vs H Q E h => ?_) (fun cdv A outer s H vs Q E hr h => ?_)
  · obtain ⟨x, r, rfl, _⟩ := h
    rfl
  · obtain ⟨x, r, rfl, R, hl, q⟩ := h
    obtain ⟨dx, t, mk, dmk, tm, c, dc, lc, d, h1, h2, h3, h4, h5, _⟩ := R.ex
    refine ⟨_, PSs.nox (pss_one (ps_ret (pe_makeE T.m_Conditions D_cd hr T.g_Conditions pxq (pa_cons (pe_methE0 (pe_fld (pv 0) rfl) T.o_Conditions.cl T.h_Conditions_atoms D_atoms (hr.mono (by decide)) px0) pa_nil)))), ?_⟩
    refine ⟨_, rfl, _, _, _, _, _, rfl, h1, T.o_Rule.cl, T.n_Rule_demanded, ruF_demanded, _, _, _, rfl, h4.hx, cdF_no (by decide), ?_⟩
    refine ⟨c, dc, lc, r.as, rfl, h4, fun p us H1 np s1 e1 a1 => ?_⟩
    refine mkCd (Q := fun z H' => Q (.ref z) H') (as := r.as) (.inl (SqL.of e1)) a1 h4.ok (by omega) fun z dz n H2 s2 nz nn hzn CD => ?_
    exact q z dz n H2 (s1.trans s2) (s1.free nz) (s1.free nn) hzn CD
def spRuEq (K : PySem.W.Frag) : Sp := fun vs H Q _ => ∃ x y r r', vs = [.ref x, .ref y] ∧ RuAt K [] H x r ∧ RuAt K [] H y r' ∧ (∀ z, (z = r.a ∨ z = r'.a ∨ r.o = some z ∨ r'.o = some z ∨ z ∈ r.ws ∨ z ∈ r'.ws) → PyData.strOk z = true) ∧ Q (.bl (decide (r = r'))) H
theorem eqv_optS (a b : Option Str) : PyData.eqv (optSD a) (optSD b) = decide (a = b) := by
  cases a <;> cases b <;> first | rfl | skip
  rename_i x y
  show (x == y) = _
  rw [show (x == y) = decide (x = y) from rfl]
  exact decide_eq_decide.mpr ⟨fun h => by rw [h], fun h => Option.some.inj h⟩
theorem eqv_optI (a b : Option Int) : PyData.eqv (optID a) (optID b) = decide (a = b) := by
  cases a <;> cases b <;> first | rfl | skip
  rename_i x y
  show (x == y) = _
  rw [show (x == y) = decide (x = y) from rfl]
  exact decide_eq_decide.mpr ⟨fun h => by rw [h], fun h => Option.some.inj h⟩
theorem eqv_wsT : ∀ a b : List Str, PyData.eqv (.tuple (wsD a)) (.tuple (wsD b)) = decide (a = b)
  | [], [] => rfl
  | [], _ :: _ => rfl
  | _ :: _, [] => rfl
  | t :: ts, u :: us => by
    show ((t == u) && PyData.eqv (.tuple (wsD ts)) (.tuple (wsD us))) = _
    rw [eqv_wsT ts us, show (t == u) = decide (t = u) from rfl, ← Bool.decide_and]
    exact decide_eq_decide.mpr ⟨fun h => by rw [h.1, h.2], fun h => by cases h; exact ⟨rfl, rfl⟩⟩
theorem eqv_span (n n' : Int) (m m' : Option Int) : PyData.eqv (spanD n m) (spanD n' m') = decide (n = n' ∧ m = m') := by
  show ((n == n') && (PyData.eqv (optID m) (optID m') && true)) = _
  rw [eqv_optI, Bool.and_true, show (n == n') = decide (n = n') from rfl, ← Bool.decide_and]
theorem sh_optS {o : Option Str} (h : ∀ z, o = some z → PyData.strOk z = true) : SeqAt.shaped (optSD o) = true := by
  cases o with
  | none => rfl
  | some z =>
    show (PyData.strOk z && decide _) = true
    rw [h z rfl]
    rfl
theorem sh_wsT {ws : List Str} (h : ∀ z ∈ ws, PyData.strOk z = true) : SeqAt.shaped (.tuple (wsD ws)) = true := by
  have h1 : PyData.canLayAll0 (wsD ws) = true ∧ PyData.depthAll (wsD ws) ≤ 0 := by
    induction ws with
    | nil => exact ⟨rfl, Nat.le_refl _⟩
    | cons e r ih =>
      obtain ⟨i1, i2⟩ := ih fun x hx => h x (by simp [hx])
      refine ⟨Bool.and_eq_true_iff.mpr ⟨h e (by simp), i1⟩, Nat.max_le.mpr ⟨Nat.le_refl _, i2⟩⟩
  exact Bool.and_eq_true_iff.mpr ⟨h1.1, decide_eq_true (by show PyData.depthAll (wsD ws) + 1 ≤ 64; have := h1.2; omega)⟩
theorem sh_span (n : Int) (m : Option Int) : SeqAt.shaped (spanD n m) = true := by cases m <;> rfl
theorem d_ru_eq (T : Txt K mg) : FnR P w K mg base CX0 2 (ma K (ga K "Rule") "__eq__") (spRuEq K) := by
  obtain ⟨fd, F⟩ := T.f_Rule___eq__
  have D_mkeq := d_mk_eq (P := P) (w := w) (base := base) T
  have D_cdeq := d_cd_eq (P := P) (w := w) (base := base) T
  refine fnN F (fun _ _ _ _ _ _ us hl => match us, hl with | [_, _], _ => rfl) sc_Rule___eq__ (fun vs H Q E h => ?_) (fun cdv A outer s H vs Q E hr h => ?_)
  · obtain ⟨x, y, r, r', rfl, _⟩ := h
    rfl
  · obtain ⟨x, y, r, r', rfl, R, R', hok, q⟩ := h
    obtain ⟨dx, t, mk, dmk, tm, c, dc, lc, d, h1, h2, h3, h4, h5, _⟩ := R.ex
    obtain ⟨dx', t', mk', dmk', tm', c', dc', lc', d', g1, g2, g3, g4, g5, _⟩ := R'.ex
    refine ⟨_, PSs.nox (pss_cons (ps_if (PW.pt (pw_or (pt_not (pt_val (pe_callB call_isi (by rfl) T.z_isinstance (by decide +kernel) (pa_cons (pv 1) (pa_cons (pe_glob (v := .ref (ga K "Rule")) (by rfl) T.g_Rule rfl) pa_nil))))) (pw_or (pt_cmpR (op_neD hr.units) (pe_fld (pv 0) rfl) (pe_fld (pv 1) rfl) (nomark _)) (pw_or1 (pt_cmpR (op_neD hr.units) (pe_fld (pv 0) rfl) (pe_fld (pv 1) rfl) (nomark _)))))) (pss_one (ps_ret pe_bl)) pss_nil)
      (pss_cons (ps_if (PW.pt (pw_or (pt_cmpR (op_neD hr.units) (pe_fld (pv 0) rfl) (pe_fld (pv 1) rfl) (nomark _)) (pw_or1 (pt_cmpR (op_neD hr.units) (pe_fld (pv 0) rfl) (pe_fld (pv 1) rfl) (nomark _))))) (pss_one (ps_ret pe_bl)) pss_nil)
      (pss_one (ps_ret (pe_and (pe_cmpR (op_cmpO (E := E0) (fun _ _ => rfl) T.u_Maker___eq__.1 T.u_Maker___eq__.2 D_mkeq hr (fun _ _ _ _ _ _ _ z => z.elim)) (pe_fld (pv 0) rfl) (pe_fld (pv 1) rfl) (nomark _)) (pe_one (pe_cmpR (op_cmpO (E := E0) (fun _ _ => rfl) T.u_Conditions___eq__.1 T.u_Conditions___eq__.2 D_cdeq hr (fun _ _ _ _ _ _ _ z => z.elim)) (pe_fld (pv 0) rfl) (pe_fld (pv 1) rfl) (nomark _)))))))), ?_⟩
    refine ⟨_, rfl, _, _, _, _, _, rfl, .own _, T.o_Rule.ty g1, T.o_Rule.self, _, rfl, iteF ?_⟩
    have no : ¬ r = r' → Q (.bl false) H := fun z => by rw [decide_eq_false z] at q; exact q
    have shA : SeqAt.shaped (.str r.a) = true := sh_optS (o := some r.a) fun z e => hok z (.inl (Option.some.inj e).symm)
    have shA' : SeqAt.shaped (.str r'.a) = true := sh_optS (o := some r'.a) fun z e => hok z (.inr (.inl (Option.some.inj e).symm))
    have shO := sh_optS (o := r.o) fun z e => hok z (.inr (.inr (.inl e)))
    have shO' := sh_optS (o := r'.o) fun z e => hok z (.inr (.inr (.inr (.inl e))))
    have shW := sh_wsT (ws := r.ws) fun z e => hok z (.inr (.inr (.inr (.inr (.inl e)))))
    have shW' := sh_wsT (ws := r'.ws) fun z e => hok z (.inr (.inr (.inr (.inr (.inr e)))))
    have eA : PyData.eqv (.str r.a) (.str r'.a) = decide (r.a = r'.a) := rfl
    have eO := eqv_optS r.o r'.o
    have eW := eqv_wsT r.ws r'.ws
    have eS := eqv_span r.n r'.n r.m r'.m
    refine ⟨_, rfl, _, _, _, _, _, rfl, h1, T.o_Rule.cl, T.n_Rule_made, ruF_made, _, rfl, _, _, _, _, _, rfl, g1, T.o_Rule.cl, T.n_Rule_made, ruF_made, _, _, .str _, .str _, shA, shA', _, rfl, ?_⟩
    rw [eA]
    by_cases k1 : r.a = r'.a
    case neg => exact if_pos_of (by rw [decide_eq_false k1]; rfl) (no fun z => k1 (by rw [z]))
    refine if_neg_of (by rw [decide_eq_true k1]; rfl) ?_
    refine ⟨_, rfl, _, _, _, _, _, rfl, h1, T.o_Rule.cl, T.n_Rule_source, ruF_source, _, rfl, _, _, _, _, _, rfl, g1, T.o_Rule.cl, T.n_Rule_source, ruF_source, _, _, dp_optS _, dp_optS _, shO, shO', _, rfl, ?_⟩
    rw [eO]
    by_cases k2 : r.o = r'.o
    case neg => exact if_pos_of (by rw [decide_eq_false k2]; rfl) (no fun z => k2 (by rw [z]))
    refine if_neg_of (by rw [decide_eq_true k2]; rfl) ?_
    refine ⟨_, rfl, _, _, _, _, _, rfl, h1, T.o_Rule.cl, T.n_Rule_joined, ruF_joined, _, rfl, _, _, _, _, _, rfl, g1, T.o_Rule.cl, T.n_Rule_joined, ruF_joined, _, _, h2, g2, shW, shW', _, rfl, ?_⟩
    rw [eW]
    by_cases k3 : r.ws = r'.ws
    case neg => exact if_pos_of (by rw [decide_eq_false k3]; rfl) (no fun z => k3 (by rw [z]))
    refine if_neg_of (by rw [decide_eq_true k3]; rfl) ?_
    refine ⟨_, rfl, _, _, _, _, _, rfl, h1, T.o_Rule.cl, T.n_Rule_span, ruF_span, _, rfl, _, _, _, _, _, rfl, g1, T.o_Rule.cl, T.n_Rule_span, ruF_span, _, _, h5, g5, sh_span _ _, sh_span _ _, _, rfl, ?_⟩
    rw [eS]
    by_cases k4 : r.n = r'.n ∧ r.m = r'.m
    case neg => exact if_pos_of (by rw [decide_eq_false k4]; rfl) (no fun z => k4 (by rw [z]; exact ⟨rfl, rfl⟩))
    refine if_neg_of (by rw [decide_eq_true k4]; rfl) ?_
    refine ⟨_, rfl, _, _, _, _, _, rfl, h1, T.o_Rule.cl, T.n_Rule_making, ruF_making, _, rfl, _, _, _, _, _, rfl, g1, T.o_Rule.cl, T.n_Rule_making, ruF_making, ?_⟩
    refine ⟨_, _, _, _, rfl, h3.hx, T.o_Maker.ty g3.hx, T.nf_Maker, _, _, _, _, _, _, _, _, rfl, h3, g3, _, rfl, ?_⟩
    by_cases k5 : r.ts = r'.ts
    case neg =>
      rw [decide_eq_false k5]
      exact iteF (no fun z => k5 (by rw [z]))
    rw [decide_eq_true k5]
    refine iteT ?_
    refine ⟨_, rfl, _, _, _, _, _, rfl, h1, T.o_Rule.cl, T.n_Rule_demanded, ruF_demanded, _, rfl, _, _, _, _, _, rfl, g1, T.o_Rule.cl, T.n_Rule_demanded, ruF_demanded, ?_⟩
    refine ⟨_, _, _, _, rfl, h4.hx, T.o_Conditions.ty g4.hx, T.nf_Conditions, _, _, _, _, _, _, _, _, rfl, h4, g4, ?_⟩
    have : decide (r = r') = decide (r.as = r'.as) := by
      obtain ⟨k4, k6⟩ := k4
      obtain ⟨ra, ro, rw', rt, ras, rn, rm⟩ := r
      obtain ⟨sa, so, sw, st, sas, sn, sm⟩ := r'
      dsimp only at k1 k2 k3 k4 k5 k6 ⊢
      subst k1 k2 k3 k4 k5 k6
      exact decide_eq_decide.mpr ⟨fun z => by injection z, fun z => by rw [z]⟩
    rw [this] at q
    exact q

end
end K51
namespace K51
open PySem PySem.Spec PyProof.Rows L2 He TL EL
section
variable {P : Program} {w : World} {K : PySem.W.Frag} {mg : Str → Option Value} {base : Heap}
/-! base -/
/-- the conditions handed: none, an object, or something else -/
def CArg (K : PySem.W.Frag) (H : Hp) (v : V) : Option (List At) → Prop
  | some as => (v = .non ∧ as = []) ∨ ∃ c dc lc, v = .ref c ∧ CdAt K H c dc lc as
  | none => ∃ d, Dp K H v d ∧ d ≠ .none
theorem CArg.same {H H' : Hp} {v : V} {o : Option (List At)} (s : Same H H') (h : CArg K H v o) : CArg K H' v o := by
  match o, h with
  | some as, .inl h => exact .inl h
  | some as, .inr ⟨c, dc, lc, e, C⟩ => exact .inr ⟨c, dc, lc, e, C.same s⟩
  | none, ⟨d, h, e⟩ => exact ⟨d, Dp.same s h, e⟩
def isNonD : PyData → Bool
  | .none => true
  | _ => false
def whyB (d0 d2 : PyData) (o : Option (List (Option Tm))) (oc : Option (List At)) : Option Str :=
  if isWordD d0 = false then some "answer" else if areW 1 d2 = false then some "tables" else if mkTs o = none then some "makes" else if oc = none then some "conditions" else none
theorem word_inv {d : PyData} (h : isWordD d = true) : ∃ z, d = .str z := by
  cases d <;> first | exact ⟨_, rfl⟩ | cases h
theorem words_inv : ∀ {ds : List PyData}, ds.all isWordD = true → ∃ ws, ds = wsD ws
  | [], _ => ⟨[], rfl⟩
  | d :: r, h => by
    rw [List.all_cons] at h
    obtain ⟨h1, h2⟩ := Bool.and_eq_true_iff.mp h
    obtain ⟨z, rfl⟩ := word_inv h1
    obtain ⟨ws, rfl⟩ := words_inv h2
    exact ⟨z :: ws, rfl⟩
theorem areW_inv {n : Nat} {d : PyData} (h : areW n d = true) : ∃ ws, d = .list (wsD ws) := by
  cases d <;> first | (cases h; done) | skip
  rename_i ds
  obtain ⟨ws, rfl⟩ := words_inv (Bool.and_eq_true_iff.mp (show ((decide (n ≤ ds.length) && decide (ds.length ≤ 2)) && ds.all isWordD) = true from h)).2
  exact ⟨ws, rfl⟩
theorem dp_lst {H : Hp} {v : V} {ds : List PyData} (h : Dp K H v (.list ds)) : ∃ a vs, v = .ref a ∧ SqL K H a vs ∧ DpAll K H vs ds := by
  cases h with
  | lst h a => exact ⟨_, _, rfl, h, a⟩
theorem dp_strs {H : Hp} : ∀ {ws : List Str} {vs : List V}, DpAll K H vs (wsD ws) → vs = ws.map V.str
  | [], _, .nil => rfl
  | z :: r, _, .cons a b => by
    cases a
    rw [dp_strs b]
    rfl
theorem dp_strs' {H : Hp} : ∀ ws : List Str, DpAll K H (ws.map V.str) (wsD ws)
  | [] => .nil
  | z :: r => .cons (.str z) (dp_strs' r)
def spBase (K : PySem.W.Frag) : Sp := fun vs H Q E => ∃ v0 v2 v3 v4 d0 d2 o oc, vs = [v0, v2, v3, v4] ∧ Dp K H v0 d0 ∧ shortD d0 ∧ Dp K H v2 d2 ∧ shortL d2 ∧ MkArg K H v3 o ∧ CArg K H v4 oc ∧ (∀ as, oc = some as → as.length ≤ 400) ∧
  (∀ z, whyB d0 d2 o oc = some z → ∀ d H', Same H H' → H' d = some (.xd [("reason", .str z)]) → E (.ref (ga K "NoRule")) (some d) H') ∧
  (whyB d0 d2 o oc = none → ∀ r x H', Same H H' → d0 = .str r.a → r.o = none → d2 = .list (wsD r.ws) → mkTs o = some r.ts → (∃ as, oc = some as ∧ r.as = dd as) → r.n = 0 → r.m = none → (∀ M, Al M H → RuAt K M H' x r) → Q (.ref x) H')
theorem ok_base (hP : PF P "/claim/cut.py") (T : Txt K mg) : ∃ fd, FunD K "base" "base" (defArgs s_base) (defBody s_base) (defScope s_base) ([.non] : List V) [] (ga K "base") fd ∧ FnOk P w K mg base (L2.CX P w) 9 (ga K "base") fd ["answer", "tables", "makes", "conditions"] (spBase K) := by
  obtain ⟨fd, F⟩ := T.f_base
  have D_is_word := d_is_word (P := P) (w := w) (base := base) T
  have D_are_words := d_are_words (P := P) (w := w) (base := base) T
  have D_maker_of := d_maker_of (P := P) (w := w) (base := base) T
  have D_atoms := d_atoms (P := P) (w := w) (base := base) T
  have D_ru := d_ru (P := P) (w := w) (base := base) T
  refine ⟨fd, F, F.ok sc_base (fun vs H Q E h => ?_) (fun cdv A outer s H vs Q E hr h => ?_)⟩
  · obtain ⟨v0, v2, v3, v4, d0, d2, o, oc, rfl, _⟩ := h
    rfl
  · obtain ⟨v0, v2, v3, v4, d0, d2, o, oc, rfl, a0, s0, a2, s2, a3, a4, al, hE, hQ⟩ := h
    refine ⟨_, (pss_cons (ps_if (pt_not (pt_val (cl D_is_word (hr.mono (by decide)) (pa_cons (pv 0) pa_nil)))) (pss_one (rsxf (by rfl) (takes_of rfl rfl rfl rfl) hP T.y_NoRule.1 hr (pa_cons pe_str pa_nil))) pss_nil)
      (pss_cons (ps_if (pt_not (pt_val (cl D_are_words (hr.mono (by decide)) (pa_cons (pv 1) (pa_cons pe_int pa_nil))))) (pss_one (rsxf (by rfl) (takes_of rfl rfl rfl rfl) hP T.y_NoRule.1 hr (pa_cons pe_str pa_nil))) pss_nil)
      (pss_cons (ps_set (i := 4) sc_base.nd rfl (.inl rfl) (cl D_maker_of (hr.mono (by decide)) (pa_cons (pv 2) pa_nil)))
      (pss_cons (ps_if (pt_cmpR op_isN (pv 4) pe_non (nomark _)) (pss_one (rsxf (by rfl) (takes_of rfl rfl rfl rfl) hP T.y_NoRule.1 hr (pa_cons pe_str pa_nil))) pss_nil)
      (pss_cons (ps_if (PW.pt (pw_and (pt_cmpR op_notN (pv 3) pe_non (nomark _)) (pw_and1 (pt_not (pt_val (pe_callB call_isi (by rfl) T.z_isinstance (by decide +kernel) (pa_cons (pv 3) (pa_cons (pe_glob (v := .ref (ga K "Conditions")) (by rfl) T.g_Conditions rfl) pa_nil)))))))) (pss_one (rsxf (by rfl) (takes_of rfl rfl rfl rfl) hP T.y_NoRule.1 hr (pa_cons pe_str pa_nil))) pss_nil)
      (pss_cons (ps_set (i := 5) sc_base.nd rfl (.inl rfl) (pe_ifExp (pt_cmpR op_isN (pv 3) pe_non (nomark _)) (pe_lst pa_nil) (pe_methE0 (pv 3) T.o_Conditions.cl T.h_Conditions_atoms D_atoms (hr.mono (by decide)) px0)))
      (pss_one (ps_ret (pe_makeE T.m_Rule D_ru hr T.g_Rule px0 (pa_cons (pv 0) (pa_cons pe_non (pa_cons (pe_callTy call_tuple_of (by rfl) T.z_tuple (by decide +kernel) (pa_cons (pv 1) pa_nil)) (pa_cons (pv 4) (pa_cons (pv 5) (pa_cons (pe_tup (pa_cons pe_int (pa_cons pe_non pa_nil))) pa_nil))))))))))))))), ?_⟩
    have bad : ∀ (z : Str) (H' : Hp), whyB d0 d2 o oc = some z → Same H H' → ∀ d, H' d = none → E (.ref (ga K "NoRule")) (some d) (upd H' d (.xd [("reason", .str z)])) := fun z H' e s d nd => hE z e d _ (s.trans (same_upd nd)) upd_same
    refine ⟨_, rfl, v0, d0, rfl, a0, (fun z e => by rw [e] at s0; exact s0), _, rfl, ?_⟩
    cases c0 : isWordD d0 with
    | false => exact iteT ⟨_, rfl, by decide, bad _ H (by unfold whyB; rw [c0]; rfl) (.refl _)⟩
    | true =>
    refine iteF ?_
    refine ⟨_, rfl, v2, d2, 1, rfl, a2, s2, _, rfl, ?_⟩
    cases c2 : areW 1 d2 with
    | false => exact iteT ⟨_, rfl, by decide, bad _ H (by unfold whyB; rw [c0, c2]; rfl) (.refl _)⟩
    | true =>
    refine iteF ?_
    refine ⟨_, rfl, v3, o, rfl, a3, fun c3 H1 s1 => ?_, fun ts c3 mk dmk tm H1 s1 nmk MK => ?_⟩
    · refine ⟨_, rfl, rfl, _, rfl, iteT ?_⟩
      exact ⟨_, rfl, by decide, bad _ H1 (by unfold whyB; rw [c0, c2, c3]; rfl) s1⟩
    · refine ⟨_, rfl, rfl, _, rfl, iteF ?_⟩
      obtain ⟨z0, rfl⟩ := word_inv c0
      have ev0 : v0 = .str z0 := by cases a0; rfl
      subst ev0
      obtain ⟨ws, rfl⟩ := areW_inv c2
      obtain ⟨la, lvs, rfl, hla, hlv⟩ := dp_lst a2
      have a4' := a4.same s1
      have aNon : oc ≠ none → v4 = .non → oc = some [] := fun h1 h2 => by
        cases oc with
        | none => exact absurd rfl h1
        | some as =>
          rcases a4 with ⟨_, rfl⟩ | ⟨c, _, _, e, _⟩
          · rfl
          · rw [e] at h2; cases h2
      cases oc with
      | none =>
        obtain ⟨d, hd, hne⟩ := a4'
        have hnon : v4 ≠ .non := fun z => by rw [z] at hd; cases hd; exact hne rfl
        refine ⟨_, rfl, rfl, _, rfl, if_pos_of (by show (!decide (v4 = .non)) = true; rw [decide_eq_false hnon]; rfl) ?_⟩
        refine ⟨_, rfl, _, _, _, _, _, rfl, .own _, Dp.ty hd, T.o_Conditions.isD d, _, rfl, iteT ?_⟩
        exact ⟨_, rfl, by decide, bad _ H1 (by unfold whyB; rw [c0, c2, c3]; rfl) s1⟩
      | some as =>
        have hw : whyB (.str z0) (.list (wsD ws)) o (some as) = none := by unfold whyB; rw [c0, c2, c3]; rfl
        have las := al as rfl
        have fin : ∀ (x dx c dc lc t d : Addr) (H3 H4 : Hp), Same H H3 → Same H3 H4 → H3 x = none → H3 c = none → H3 lc = none → MkAt K H4 mk dmk tm ts → Dp K H4 (.ref t) (.tuple (wsD ws)) → Dp K H4 (.ref d) (spanD 0 none) → H4 x = some (.ins (aRu K) dx (ruF (.str z0) .non (.ref t) (.ref mk) (.ref c) (.ref d))) → CdAt K H4 c dc lc (dd as) → Q (.ref x) H4 := by
          intro x dx c dc lc t d H3 H4 sA sB nx nc nl M4 t4 d4 x4 C4
          refine hQ hw ⟨z0, none, ws, ts, dd as, 0, none⟩ x H4 (sA.trans sB) rfl rfl rfl c3 ⟨as, rfl, rfl⟩ rfl rfl fun M al => ⟨⟨dx, _, mk, dmk, tm, c, dc, lc, _, x4, t4, M4, C4, d4, al.out (sA.free nx), al.out nmk, al.out (sA.free nc), al.out (sA.free nl)⟩⟩
        rcases a4' with ⟨rfl, rfl⟩ | ⟨c4, dc4, lc4, rfl, C4⟩
        · refine ⟨_, rfl, rfl, _, rfl, iteF ?_⟩
          refine ⟨_, rfl, rfl, _, rfl, iteT ?_⟩
          refine ⟨(by show 0 ≤ sizeLine; decide), fun p np => ?_⟩
          generalize eH2 : upd H1 p _ = H2
          have s2' : Same H1 H2 := eH2 ▸ same_upd np
          have e2 : H2 p = some _ := eH2 ▸ upd_same
          have s02 := s1.trans s2'
          refine ⟨_, rfl, _, rfl, _, _, rfl, .inl ⟨s02.seq hla, fun t nt => ?_⟩⟩
          generalize eH3 : upd H2 t _ = H3
          have s3 : Same H2 H3 := eH3 ▸ same_upd nt
          have e3 : H3 t = some _ := eH3 ▸ upd_same
          refine ⟨_, rfl, _, rfl, (by show 2 ≤ sizeLine; decide), fun d nd => ?_⟩
          generalize eH4 : upd H3 d _ = H4
          have s4 : Same H3 H4 := eH4 ▸ same_upd nd
          have e4 : H4 d = some _ := eH4 ▸ upd_same
          have s04 := (s02.trans s3).trans s4
          have tdp : Dp K H4 (.ref t) (.tuple (wsD ws)) := .tup (SqT.of (s4 _ _ e3)) (DpAll.same s04 hlv)
          refine mkRu (as := []) (vs := []) (Q := fun z H' => Q (.ref z) H') (SqL.of (s4 _ _ (s3 _ _ e2))) .nil (fun _ h => by cases h) (by decide) fun x dx c dc lc H5 s5 nx nc nl x5 C5 => ?_
          exact fin x dx c dc lc t d H4 H5 s04 s5 nx nc nl (MK.same (s2'.trans (s3.trans (s4.trans s5)))) (Dp.same s5 tdp) (.tup (SqT.of (s5 _ _ e4)) (.cons (.int _) (.cons .non .nil))) x5 C5
        · refine ⟨_, rfl, rfl, _, rfl, iteT ?_⟩
          refine ⟨_, rfl, _, _, _, _, _, rfl, .own _, T.o_Conditions.ty C4.hx, T.o_Conditions.self, _, rfl, iteF ?_⟩
          refine ⟨_, rfl, rfl, _, rfl, iteF ?_⟩
          refine ⟨_, rfl, _, _, _, rfl, C4.hx, cdF_no (by decide), ?_⟩
          refine ⟨c4, dc4, lc4, as, rfl, C4, fun p us H2 np s2' e2 a2' => ?_⟩
          have s02 := s1.trans s2'
          refine ⟨_, rfl, _, rfl, _, _, rfl, .inl ⟨s02.seq hla, fun t nt => ?_⟩⟩
          generalize eH3 : upd H2 t _ = H3
          have s3 : Same H2 H3 := eH3 ▸ same_upd nt
          have e3 : H3 t = some _ := eH3 ▸ upd_same
          refine ⟨_, rfl, _, rfl, (by show 2 ≤ sizeLine; decide), fun d nd => ?_⟩
          generalize eH4 : upd H3 d _ = H4
          have s4 : Same H3 H4 := eH4 ▸ same_upd nd
          have e4 : H4 d = some _ := eH4 ▸ upd_same
          have s04 := (s02.trans s3).trans s4
          have tdp : Dp K H4 (.ref t) (.tuple (wsD ws)) := .tup (SqT.of (s4 _ _ e3)) (DpAll.same s04 hlv)
          refine mkRu (as := as) (Q := fun z H' => Q (.ref z) H') (SqL.of (s4 _ _ (s3 _ _ e2))) (DpAll.same (s3.trans s4) a2') C4.ok (by omega) fun x dx c dc lc H5 s5 nx nc nl x5 C5 => ?_
          exact fin x dx c dc lc t d H4 H5 s04 s5 nx nc nl (MK.same (s2'.trans (s3.trans (s4.trans s5)))) (Dp.same s5 tdp) (.tup (SqT.of (s5 _ _ e4)) (.cons (.int _) (.cons .non .nil))) x5 C5

end
end K51
namespace K51
open PySem PySem.Spec PyProof.Rows L2 He TL EL
section
variable {P : Program} {w : World} {K : PySem.W.Frag} {mg : Str → Option Value} {base : Heap}
/-! Question -/
abbrev aQu (K : PySem.W.Frag) : Addr := ga K "Question"
def quF (f u s e : V) : List (Str × V) := putF "extra" e (putF "steps" s (putF "widths" u (putF "form" f [])))
section
variable {f u s e : V}
theorem quF_form : (quF f u s e).lookup ("form" : Str) = some f := by
  unfold quF
  rw [lookup_putF, if_neg (by decide +kernel), lookup_putF, if_neg (by decide +kernel), lookup_putF, if_neg (by decide +kernel), lookup_putF, if_pos rfl]
theorem quF_widths : (quF f u s e).lookup ("widths" : Str) = some u := by
  unfold quF
  rw [lookup_putF, if_neg (by decide +kernel), lookup_putF, if_neg (by decide +kernel), lookup_putF, if_pos rfl]
theorem quF_steps : (quF f u s e).lookup ("steps" : Str) = some s := by
  unfold quF
  rw [lookup_putF, if_neg (by decide +kernel), lookup_putF, if_pos rfl]
theorem quF_extra : (quF f u s e).lookup ("extra" : Str) = some e := by
  unfold quF
  rw [lookup_putF, if_pos rfl]
theorem quF_no {z : Str} (h : decide (z ∉ (["form", "widths", "steps", "extra"] : List Str)) = true) : (quF f u s e).lookup z = none := by
  have h := of_decide_eq_true h
  simp only [List.mem_cons, List.not_mem_nil, or_false, not_or] at h
  obtain ⟨h1, h2, h3, h4⟩ := h
  unfold quF
  rw [lookup_putF, if_neg h4, lookup_putF, if_neg h3, lookup_putF, if_neg h2, lookup_putF, if_neg h1]
  rfl
end
def awI (aw : List (Str × Nat)) : List (Key × Int) := aw.map fun p => (.inr p.1, (p.2 : Int))
/-- the answers of a question are as its __init__ wants them -/
structure AwOk (rs : List Sch) (aw : List (Str × Nat)) : Prop where
  l1 : 1 ≤ aw.length
  l3 : aw.length ≤ 3
  wd : ∀ p ∈ aw, isWordD (.str p.1) = true ∧ p.1.length ≤ 100000 ∧ 1 ≤ p.2 ∧ p.2 ≤ 3 ∧ inS rs (.str p.1) = false
  nd : (aw.map Prod.fst).Nodup
  so : ∀ p ∈ aw, PyData.strOk p.1 = true
theorem sc_out {H : Hp} {f df dw dl x : Addr} {rs : List Sch} {o : HO} (C : ScAt K H f df dw dl rs) (hx : H x = some o) (h1 : ∀ c d l, o ≠ .ins c d (cdF l)) (h2 : ∀ l, o ≠ .lst l) : ∀ s ∈ rs, s.c ∉ [x] ∧ s.l ∉ [x] := fun s hs => by
  obtain ⟨vs, e, _⟩ := (C.hc s hs).hl
  exact ⟨not1 (ne_of (C.hc s hs).hx hx (fun z => h1 _ _ _ z.symm)), not1 (ne_of e hx (fun z => h2 _ z.symm))⟩
theorem cdF_ne (l : Addr) : cdF l ≠ [] := fun z => by
  have := cdF_at (l := l)
  rw [z] at this
  cases this
def spQi (K : PySem.W.Frag) : Sp := fun args H Q _ => ∃ q dq f df dw dl rs wa aw sv ss ev es, args = [.ref q, .ref f, .ref wa, sv, .ref ev] ∧ H q = some (.ins (aQu K) dq []) ∧ ScAt K H f df dw dl rs ∧ H wa = some (.dK (dI (awI aw))) ∧ wa ≠ dw ∧ wa ≠ dl ∧ AwOk rs aw ∧
  ((sv = .non ∧ ss = []) ∨ ∃ s, sv = .ref s ∧ H s = some (.lst ss)) ∧ (SqL K H ev es ∨ SqT K H ev es) ∧
  ∀ f' df' dw' dl' wd st ex H', Md [q] H H' → H f' = none → H dw' = none → H dl' = none → dw' ≠ dl' → wd ≠ dw' → wd ≠ dl' → H wd = none → H st = none → H ex = none → st ≠ ex → H' q = some (.ins (aQu K) dq (quF (.ref f') (.ref wd) (.ref st) (.ref ex))) →
    ScAt K H' f' df' dw' dl' rs → H' wd = some (.dK (dI (awI aw))) → H' st = some (.lst ss) → H' ex = some (.lst es) → Q .non H'
theorem ok_qi (T : Txt K mg) : ∃ fd, FunD K "__init__" "Question.__init__" (defArgs s_Question___init__) (defBody s_Question___init__) (defScope s_Question___init__) ([.non, .ref (dflAt ("Question", some "__init__") 1 K)] : List V) [] (ma K (ga K "Question") "__init__") fd ∧
    FnOk P w K mg base CX0 4 (ma K (ga K "Question") "__init__") fd ["self", "schema", "answers", "steps", "extra"] (spQi K) := by
  obtain ⟨fd, F⟩ := T.f_Question___init__
  have D_is_word := d_is_word (P := P) (w := w) (base := base) T
  have D_is_column_count := d_col (P := P) (w := w) (base := base) T
  have D_in := d_sc_in (P := P) (w := w) (base := base) T
  have D_twin := d_sc_twin (P := P) (w := w) (base := base) T
  refine ⟨fd, F, F.ok sc_Question___init__ (fun vs H Q E h => ?_) (fun cdv A outer s H vs Q E hr h => ?_)⟩
  · obtain ⟨q, dq, f, df, dw, dl, rs, wa, aw, sv, ss, ev, es, rfl, _⟩ := h
    rfl
  · obtain ⟨q, dq, f, df, dw, dl, rs, wa, aw, sv, ss, ev, es, rfl, hq, C, hw, nwa, nwb, ok, hs, he, hQ⟩ := h
    refine ⟨_, PSs.nox (pss_cons (ps_if (PW.pt (pw_or (pt_not (pt_val (pe_callB call_isi (by rfl) T.z_isinstance (by decide +kernel) (pa_cons (pv 2) (pa_cons (pe_bltn (v := .ty "dict") (by rfl) T.z_dict (by decide +kernel) rfl) pa_nil))))) (pw_or1 (pt_not (pt_chain op_le op_le pe_int (pe_callB call_lenD (by rfl) T.z_len (by decide +kernel) (pa_cons (pv 2) pa_nil)) (pe_gv T.g_MOST_ANSWERS)))))) (pss_one (ps_never)) pss_nil)
      (pss_mid (ps_lock (ps_for PassesOwn.never rfl (pi_items (pv 2)) (pg_tup rfl (pgs_cons (pg_name (i := 5) sc_Question___init__.nd rfl (.inl rfl)) (pgs_cons (pg_name (i := 6) sc_Question___init__.nd rfl (.inl rfl)) pgs_nil)))
      (pss_one (ps_if (PW.pt (pw_or (pt_not (pt_val (cl D_is_word (hr.mono (by decide)) (pa_cons (pv 5) pa_nil)))) (pw_or (pt_not (pt_val (cl D_is_column_count (hr.mono (by decide)) (pa_cons (pv 6) pa_nil)))) (pw_or1 (pt_cmpR (op_inO T.h_Schema___contains__ D_in (hr.mono (by decide)) pass0) (pv 5) (pv 1) (by rfl)))))) (pss_one (ps_never)) pss_nil))))
      (pss_cons (ps_fld (pv 0) (pe_methE0 (pv 1) T.o_Schema.cl T.h_Schema_twin D_twin (hr.mono (by decide)) px0) rfl)
      (pss_cons (ps_fld (pv 0) (pe_callTy call_dictD (by rfl) T.z_dict (by decide +kernel) (pa_cons (pv 2) pa_nil)) rfl)
      (pss_cons (ps_fld (pv 0) (pe_ifExp (pt_cmpR op_isN (pv 3) pe_non (nomark _)) (pe_lst pa_nil) (pe_callTy call_list_of (by rfl) T.z_list (by decide +kernel) (pa_cons (pv 3) pa_nil))) rfl)
      (pss_one (ps_fld (pv 0) (pe_callTy call_list_of (by rfl) T.z_list (by decide +kernel) (pa_cons (pv 4) pa_nil)) rfl))))))), ?_⟩
    have la : (dI (awI aw)).length = aw.length := by rw [List.length_map]; unfold awI; rw [List.length_map]
    refine ⟨_, rfl, _, _, _, _, _, rfl, .ty _, .base (.dK hw), kit_d K .dct (.dict []), _, rfl, iteF ?_⟩
    refine ⟨_, rfl, _, _, rfl, hw, _, _, rfl, rfl, _, rfl, if_pos_of (by show decide ((1 : Int) ≤ ((dI (awI aw)).length : Nat)) = true; rw [la]; exact decide_eq_true (by have := ok.l1; omega)) ?_⟩
    refine ⟨_, _, rfl, rfl, _, rfl, if_neg_of (by show (!decide ((((dI (awI aw)).length : Nat) : Int) ≤ 3)) = false; rw [la, decide_eq_true (by have := ok.l3; omega)]; rfl) ?_⟩
    refine ⟨fun σ H' => (∃ o5 o6, σ = [some (.ref q), some (.ref f), some (.ref wa), some sv, some (.ref ev), o5, o6]) ∧ Same H H', ?_, ?_⟩
    · refine ⟨wa, _, hw, trivial, fun od => ?_⟩
      generalize eH3 : upd H wa _ = H3
      have k3 : H3 wa = some (.frz od (.dK (dI (awI aw)))) := eH3 ▸ upd_same
      have m3 : Md [wa] H H3 := eH3 ▸ Md.upd hw rfl (by simp)
      have nf : f ≠ wa := ne_of C.hx hw (by intro z; cases z)
      have hi : ∀ {H' : Hp}, Same H3 H' → Same H (upd H' wa (.dK (dI (awI aw)))) := fun {H'} s b o hb => by
        by_cases z : b = wa
        · rw [z, hw] at hb
          rw [z, upd_same, hb]
        · rw [upd_ne z]
          exact s _ _ (m3.out _ _ hb (not1 z))
      refine ⟨_, rfl, wa, od, _, rfl, k3, for_it walk_items (fun i σ H' => (∃ o5 o6, σ = [some (.ref q), some (.ref f), some (.ref wa), some sv, some (.ref ev), o5, o6]) ∧ Same H3 H') ⟨⟨none, none, rfl⟩, .refl _⟩ (fun i σ H' _ h => h.2 _ _ k3) ?_ ?_⟩
      · rintro i xv σ H' H'' hi' ⟨⟨o5, o6, rfl⟩, s'⟩ ⟨tp, x, y, rfl, ntp, rfl, hx, hy⟩
        generalize eH2 : upd H' tp _ = H2
        have s2 : Same H' H2 := eH2 ▸ same_upd ntp
        have e2 : H2 tp = some _ := eH2 ▸ upd_same
        obtain ⟨kv, hk, rfl⟩ := Option.map_eq_some_iff.mp hx
        obtain ⟨kv', hk', rfl⟩ := Option.map_eq_some_iff.mp hy
        rw [hk] at hk'
        cases hk'
        obtain ⟨kn, hkn, rfl⟩ := getM hk
        obtain ⟨pr, hpr, rfl⟩ := getM hkn
        obtain ⟨g1, g2, g3, g4, g5⟩ := ok.wd pr (List.mem_of_getElem? hpr)
        have sf := s'.trans s2
        have C2 := (C.md m3 (not1 nf) (not1 (Ne.symm nwa)) (not1 (Ne.symm nwb)) (sc_out C hw (by intro _ _ _ z; cases z) (by intro _ z; cases z))).same sf
        refine ⟨tp, _, rfl, SqT.of e2, rfl, _, _, rfl, _, _, rfl, rfl, ?_⟩
        refine ⟨_, rfl, _, .str pr.1, rfl, .str _, fun z e => by cases e; exact g2, _, rfl, if_neg_of (by show (!isWordD (.str pr.1)) = false; rw [g1]; rfl) ?_⟩
        have gc : colOk (.int (pr.2 : Nat)) = true := by
          show (decide ((1 : Int) ≤ (pr.2 : Nat)) && decide (((pr.2 : Nat) : Int) ≤ 3)) = true
          rw [decide_eq_true (by omega), decide_eq_true (by omega)]
          rfl
        refine ⟨_, rfl, _, .int (pr.2 : Nat), rfl, .int _, _, rfl, if_neg_of (by show (!colOk (.int (pr.2 : Nat))) = false; rw [gc]; rfl) ?_⟩
        refine ⟨_, rfl, _, rfl, _, _, _, rfl, C2.hx, _, _, _, _, rs, _, .str pr.1, rfl, C2, .str _, _, rfl, _, rfl, if_neg_of (by show inS rs (.str pr.1) = false; exact g5) ?_⟩
        exact ⟨⟨_, _, rfl⟩, sf⟩
      · rintro σ H' ⟨⟨o5, o6, rfl⟩, s'⟩
        exact ⟨s' _ _ k3, ⟨_, _, rfl⟩, hi s'⟩
    · rintro σ H1 ⟨⟨o5, o6, rfl⟩, s1⟩
      have C1 := C.same s1
      refine ⟨_, rfl, _, _, _, rfl, C1.hx, scF_no (by decide) (by decide), f, df, dw, dl, rs, rfl, C1, fun f' df' dw' dl' H2 s2 nf' ndw ndl hn C2 => ?_⟩
      have q2 : H2 q = some (.ins (aQu K) dq []) := s2 _ _ (s1 _ _ hq)
      refine ⟨_, rfl, _, _, _, _, rfl, q2, T.o_Question.cl, T.n_Question_form, (by decide), ?_⟩
      generalize eH3 : upd H2 q _ = H3
      have m3 : Md [q] H2 H3 := eH3 ▸ Md.upd q2 rfl (by simp)
      have q3 : H3 q = some (.ins (aQu K) dq (putF "form" (.ref f') [])) := eH3 ▸ upd_same
      have s02 := s1.trans s2
      have nwq : wa ≠ q := ne_of hw hq (by intro z; cases z)
      refine ⟨_, rfl, _, _, rfl, .of (m3.out _ _ (s02 _ _ hw) (not1 nwq)), fun wd nwd => ?_⟩
      generalize eH4 : upd H3 wd _ = H4
      have s4 : Same H3 H4 := eH4 ▸ same_upd nwd
      have e4 : H4 wd = some _ := eH4 ▸ upd_same
      refine ⟨_, rfl, _, _, _, _, rfl, s4 _ _ q3, T.o_Question.cl, T.n_Question_widths, (by show 1 < 1000; decide), ?_⟩
      generalize eH5 : upd H4 q _ = H5
      have m5 : Md [q] H4 H5 := eH5 ▸ Md.upd (s4 _ _ q3) rfl (by simp)
      have q5 : H5 q = some (.ins (aQu K) dq (putF "widths" (.ref wd) (putF "form" (.ref f') []))) := eH5 ▸ upd_same
      have m05 : Md [q] H H5 := (Md.of s02).trans (m3.trans ((Md.of s4).trans m5))
      have nwd0 : H wd = none := free_md ((Md.of s02).trans m3) (al1 q3) nwd
      have nwdq : wd ≠ q := fun z => by rw [z, q3] at nwd; cases nwd
      have e5 : H5 wd = some (.dK (dI (awI aw))) := m5.out _ _ e4 (not1 nwdq)
      have C5 : ScAt K H5 f' df' dw' dl' rs := by
        have q1 : H1 q = some (.ins (aQu K) dq []) := s1 _ _ hq
        have a1 : f' ∉ [q] := not1 fun z => by rw [z, q1] at nf'; cases nf'
        have a2 : dw' ∉ [q] := not1 fun z => by rw [z, q1] at ndw; cases ndw
        have a3 : dl' ∉ [q] := not1 fun z => by rw [z, q1] at ndl; cases ndl
        have a4 : ∀ s ∈ rs, s.c ∉ [q] ∧ s.l ∉ [q] := sc_out C2 q2 (fun c d l z => by injection z with _ _ z; exact cdF_ne l z.symm) (fun _ z => by cases z)
        exact ((C2.md m3 a1 a2 a3 a4).same s4).md m5 a1 a2 a3 a4
      have nwdw : wd ≠ dw' := fun z => by rw [z, m3.out _ _ C2.hw (not1 (ne_of C2.hw q2 (by intro z; cases z)))] at nwd; cases nwd
      have nwdl : wd ≠ dl' := fun z => by rw [z, m3.out _ _ C2.hl (not1 (ne_of C2.hl q2 (by intro z; cases z)))] at nwd; cases nwd
      have fin : ∀ (st : Addr) (H6 : Hp), H5 st = none → Same H5 H6 → H6 st = some (.lst ss) → ∃ m7 : Md [q] H5 (upd H6 q (.ins (aQu K) dq (putF "steps" (.ref st) (putF "widths" (.ref wd) (putF "form" (.ref f') []))))), st ≠ q ∧ (∀ ex, upd H6 q (.ins (aQu K) dq (putF "steps" (.ref st) (putF "widths" (.ref wd) (putF "form" (.ref f') [])))) ex = none → ∀ H8, Same (upd H6 q (.ins (aQu K) dq (putF "steps" (.ref st) (putF "widths" (.ref wd) (putF "form" (.ref f') []))))) H8 → H8 ex = some (.lst es) → Q .non (upd H8 q (.ins (aQu K) dq (quF (.ref f') (.ref wd) (.ref st) (.ref ex))))) := fun st H6 nst s6 e6 => by
        have nsq : st ≠ q := fun z => by rw [z, q5] at nst; cases nst
        have m7 : Md [q] H6 (upd H6 q (.ins (aQu K) dq (putF "steps" (.ref st) (putF "widths" (.ref wd) (putF "form" (.ref f') []))))) := Md.upd (s6 _ _ q5) rfl (by simp)
        have q7 : upd H6 q (.ins (aQu K) dq (putF "steps" (.ref st) (putF "widths" (.ref wd) (putF "form" (.ref f') [])))) q = some (.ins (aQu K) dq (putF "steps" (.ref st) (putF "widths" (.ref wd) (putF "form" (.ref f') [])))) := upd_same
        have e7 : upd H6 q (.ins (aQu K) dq (putF "steps" (.ref st) (putF "widths" (.ref wd) (putF "form" (.ref f') [])))) st = some (.lst ss) := by rw [upd_ne nsq]; exact e6
        generalize upd H6 q _ = H7 at m7 q7 e7 ⊢
        refine ⟨(Md.of s6).trans m7, nsq, fun ex nex H8 s8 e8 => ?_⟩
        have nxq : ex ≠ q := fun z => by rw [z, q7] at nex; cases nex
        have nsx : st ≠ ex := fun z => by rw [← z, e7] at nex; cases nex
        have m9 : Md [q] H8 (upd H8 q (.ins (aQu K) dq (quF (.ref f') (.ref wd) (.ref st) (.ref ex)))) := Md.upd (s8 _ _ q7) rfl (by simp)
        have m79 : Md [q] H5 (upd H8 q (.ins (aQu K) dq (quF (.ref f') (.ref wd) (.ref st) (.ref ex)))) := ((Md.of s6).trans m7).trans ((Md.of s8).trans m9)
        have a4 : ∀ s ∈ rs, s.c ∉ [q] ∧ s.l ∉ [q] := sc_out C hq (fun c d l z => by injection z with _ _ z; exact cdF_ne l z.symm) (fun _ z => by cases z)
        have q1 : H1 q = some (.ins (aQu K) dq []) := s1 _ _ hq
        have C9 := C5.md m79 (not1 fun z => by rw [z, q1] at nf'; cases nf') (not1 fun z => by rw [z, q1] at ndw; cases ndw) (not1 fun z => by rw [z, q1] at ndl; cases ndl) a4
        exact hQ f' df' dw' dl' wd st ex _ (m05.trans m79) (s1.free nf') (s1.free ndw) (s1.free ndl) hn nwdw nwdl nwd0 (free_md m05 (al1 q5) nst) (free_md (m05.trans ((Md.of s6).trans m7)) (al1 q7) nex) nsx upd_same C9 (m79.out _ _ e5 (not1 nwdq)) (by rw [upd_ne nsq]; exact s8 _ _ e7) (by rw [upd_ne nxq]; exact e8)
      have xtra : ∀ {H' : Hp}, Md [q] H H' → (SqL K H' ev es ∨ SqT K H' ev es) := fun {H'} m => by
        rcases he with ((h | ⟨o, h⟩) | h) | h
        · exact .inl (.inl (.inl (m.out _ _ h (not1 (ne_of h hq (by intro z; cases z))))))
        · exact .inl (.inl (.inr ⟨o, m.rig _ _ h rfl⟩))
        · exact .inl (.inr h)
        · exact .inr (m.sqT h)
      rcases hs with ⟨rfl, rfl⟩ | ⟨sa, rfl, hsa⟩
      · refine ⟨_, rfl, rfl, _, rfl, iteT ⟨(by show 0 ≤ sizeLine; decide), fun st nst => ?_⟩⟩
        obtain ⟨m7, nsq, h7⟩ := fin st _ nst (same_upd nst) upd_same
        refine ⟨_, rfl, _, _, _, _, rfl, same_upd nst _ _ q5, T.o_Question.cl, T.n_Question_steps, (by show 2 < 1000; decide), ?_⟩
        refine ⟨_, rfl, _, _, rfl, xtra (m05.trans m7), fun ex nex => ?_⟩
        refine ⟨_, rfl, _, _, _, _, rfl, same_upd nex _ _ upd_same, T.o_Question.cl, T.n_Question_extra, (by show 3 < 1000; decide), ?_⟩
        exact h7 ex nex _ (same_upd nex) upd_same
      · refine ⟨_, rfl, rfl, _, rfl, iteF ?_⟩
        refine ⟨_, rfl, _, _, rfl, .inl (SqL.of (m05.out _ _ hsa (not1 (ne_of hsa hq (by intro z; cases z))))), fun st nst => ?_⟩
        obtain ⟨m7, nsq, h7⟩ := fin st _ nst (same_upd nst) upd_same
        refine ⟨_, rfl, _, _, _, _, rfl, same_upd nst _ _ q5, T.o_Question.cl, T.n_Question_steps, (by show 2 < 1000; decide), ?_⟩
        refine ⟨_, rfl, _, _, rfl, xtra (m05.trans m7), fun ex nex => ?_⟩
        refine ⟨_, rfl, _, _, _, _, rfl, same_upd nex _ _ upd_same, T.o_Question.cl, T.n_Question_extra, (by show 3 < 1000; decide), ?_⟩
        exact h7 ex nex _ (same_upd nex) upd_same

end
end K51
namespace K51
open PySem PySem.Spec PyProof.Rows L2 He TL EL
section
variable {P : Program} {w : World} {K : PySem.W.Frag} {mg : Str → Option Value} {base : Heap}
theorem pds_val (xs : List (Int × Int)) : Pds (xs.map valD) := fun d hd => by
  obtain ⟨x, _, rfl⟩ := List.mem_map.mp hd
  exact Pd.valD x
/-! a question and what it holds -/
structure Qa where
  q : Addr
  dq : Addr
  f : Addr
  df : Addr
  dw : Addr
  dl : Addr
  wd : Addr
  st : Addr
  ex : Addr
  rs : List Sch
  aw : List (Str × Nat)
  ss : List Addr
  es : List (Int × Int)
/-- a rule's data as a question wants them -/
structure RuOk (r : Ru) : Prop where
  st : ∀ z, (z = r.a ∨ r.o = some z ∨ z ∈ r.ws) → PyData.strOk z = true
  la : r.as.length ≤ 100
  nd : r.as.Nodup
  ok : ∀ a ∈ r.as, At.ok a
  ts : ∀ t ∈ r.ts, Tm.ok t
  lt : r.ts.length ≤ 3
  lw : r.ws.length ≤ 2
structure QuOk (A : Qa) : Prop where
  ne : A.dw ≠ A.dl
  n1 : A.wd ≠ A.dw
  n2 : A.wd ≠ A.dl
  n3 : A.st ≠ A.ex
  aw : AwOk A.rs A.aw
  nd : (nmS A.rs).Nodup
  so : ∀ z ∈ nmS A.rs, PyData.strOk z = true
  lr : A.rs.length ≤ 100
  la : ∀ s ∈ A.rs, s.as.length ≤ 300
  ls : A.ss.length ≤ 1000
  le : A.es.length ≤ 1000
  ve : ∀ x ∈ A.es, Vl x
structure QuAt (K : PySem.W.Frag) (ρ : Addr → Ru) (M : List Addr) (H : Hp) (A : Qa) : Prop where
  hq : H A.q = some (.ins (aQu K) A.dq (quF (.ref A.f) (.ref A.wd) (.ref A.st) (.ref A.ex)))
  sc : ScAt K H A.f A.df A.dw A.dl A.rs
  hw : H A.wd = some (.dK (dI (awI A.aw)))
  hs : H A.st = some (.lst (A.ss.map V.ref))
  he : ∃ vs, H A.ex = some (.lst vs) ∧ DpAll K H vs (A.es.map valD)
  hr : ∀ x ∈ A.ss, RuAt K M H x (ρ x) ∧ RuOk (ρ x)
  nm : A.f ∉ M ∧ A.dw ∉ M ∧ A.dl ∉ M ∧ A.wd ∉ M ∧ A.ex ∉ M
  nc : ∀ s ∈ A.rs, s.c ∉ M ∧ s.l ∉ M
  ok : QuOk A
section
variable {ρ : Addr → Ru} {M S : List Addr} {H H' : Hp} {A : Qa}
theorem QuAt.md (h : QuAt K ρ M H A) (m : Md S H H') (hs : ∀ b ∈ S, b ∈ M) (h1 : A.q ∉ S) (h2 : A.st ∉ S) : QuAt K ρ M H' A := by
  obtain ⟨n1, n2, n3, n4, n5⟩ := h.nm
  have o : ∀ {b : Addr}, b ∉ M → b ∉ S := fun n z => n (hs _ z)
  obtain ⟨vs, e, a⟩ := h.he
  have mm : Md M H H' := m.mono hs
  exact ⟨m.out _ _ h.hq h1, h.sc.md m (o n1) (o n2) (o n3) (fun s hs => ⟨o (h.nc s hs).1, o (h.nc s hs).2⟩), m.out _ _ h.hw (o n4), m.out _ _ h.hs h2, ⟨vs, m.out _ _ e (o n5), m.dpAll (pds_val _).nl a⟩, fun x hx => ⟨(h.hr x hx).1.md mm, (h.hr x hx).2⟩, h.nm, h.nc, h.ok⟩
theorem QuAt.same (h : QuAt K ρ M H A) (s : Same H H') : QuAt K ρ M H' A := h.md (S := []) (.of s) (by simp) (by simp) (by simp)
theorem QuAt.re {M' : List Addr} (h : QuAt K ρ M H A) (hm : ∀ b, b ∉ M → (∃ o, H b = some o) → b ∉ M') : QuAt K ρ M' H A := by
  obtain ⟨n1, n2, n3, n4, n5⟩ := h.nm
  obtain ⟨vs, e, a⟩ := h.he
  refine ⟨h.hq, h.sc, h.hw, h.hs, h.he, fun x hx => ⟨(h.hr x hx).1.re hm, (h.hr x hx).2⟩, ⟨hm _ n1 ⟨_, h.sc.hx⟩, hm _ n2 ⟨_, h.sc.hw⟩, hm _ n3 ⟨_, h.sc.hl⟩, hm _ n4 ⟨_, h.hw⟩, hm _ n5 ⟨_, e⟩⟩, fun s hs => ?_, h.ok⟩
  obtain ⟨vs, e, _⟩ := (h.sc.hc s hs).hl
  exact ⟨hm _ (h.nc s hs).1 ⟨_, (h.sc.hc s hs).hx⟩, hm _ (h.nc s hs).2 ⟨_, e⟩⟩
theorem QuAt.nil (h : QuAt K ρ M H A) : QuAt K ρ [] H A := h.re fun b _ _ => by simp
theorem QuAt.rho {ρ' : Addr → Ru} (h : QuAt K ρ M H A) (e : ∀ x ∈ A.ss, ρ' x = ρ x) : QuAt K ρ' M H A := ⟨h.hq, h.sc, h.hw, h.hs, h.he, fun x hx => (e x hx).symm ▸ h.hr x hx, h.nm, h.nc, h.ok⟩
end
theorem d_qi4 (T : Txt K mg) : FnR P w K mg base CX0 4 (ma K (ga K "Question") "__init__") (spQi K) := by
  obtain ⟨fd, F, ok⟩ := ok_qi (P := P) (w := w) (base := base) T
  have := fnD F ok 5 2 (by simp) rfl (fun _ _ _ _ _ _ _ us its h1 h2 => match us, its, h1, h2 with | [_, _, _, _, _], [_, _], _, _ => ⟨_, rfl, rfl⟩)
  exact this.imp fun vs H Q E h => by
    rw [show ([V.non, V.ref (dflAt ("Question", some "__init__") 1 K)] : List V).drop 2 = [] from rfl, List.append_nil]
    exact h
theorem d_qi3 (T : Txt K mg) : FnR P w K mg base CX0 4 (ma K (ga K "Question") "__init__") (fun vs H Q E => spQi K (vs ++ [.ref (dflAt ("Question", some "__init__") 1 K)]) H Q E) := by
  obtain ⟨fd, F, ok⟩ := ok_qi (P := P) (w := w) (base := base) T
  exact fnD F ok 4 1 (by simp) rfl (fun _ _ _ _ _ _ _ us its h1 h2 => match us, its, h1, h2 with | [_, _, _, _], [_, _], _, _ => ⟨_, rfl, rfl⟩)
theorem d_qi2 (T : Txt K mg) : FnR P w K mg base CX0 4 (ma K (ga K "Question") "__init__") (fun vs H Q E => spQi K (vs ++ [.non, .ref (dflAt ("Question", some "__init__") 1 K)]) H Q E) := by
  obtain ⟨fd, F, ok⟩ := ok_qi (P := P) (w := w) (base := base) T
  exact fnD F ok 3 0 (by simp) rfl (fun _ _ _ _ _ _ _ us its h1 h2 => match us, its, h1, h2 with | [_, _, _], [_, _], _, _ => ⟨_, rfl, rfl⟩)
/-- making a question -/
theorem mkQu {H : Hp} {f df dw dl wa ev : Addr} {rs : List Sch} {aw : List (Str × Nat)} {sv : V} {ss es : List V} {Q : Addr → Hp → Prop} {E : XK} (C : ScAt K H f df dw dl rs) (hw : H wa = some (.dK (dI (awI aw)))) (n1 : wa ≠ dw) (n2 : wa ≠ dl) (ok : AwOk rs aw)
    (hs : (sv = .non ∧ ss = []) ∨ ∃ s, sv = .ref s ∧ H s = some (.lst ss)) (he : SqL K H ev es ∨ SqT K H ev es)
    (hQ : ∀ q dq f' df' dw' dl' wd st ex H', Same H H' → H q = none → H f' = none → H dw' = none → H dl' = none → dw' ≠ dl' → wd ≠ dw' → wd ≠ dl' → H wd = none → H st = none → H ex = none → st ≠ ex → H' q = some (.ins (aQu K) dq (quF (.ref f') (.ref wd) (.ref st) (.ref ex))) →
      ScAt K H' f' df' dw' dl' rs → H' wd = some (.dK (dI (awI aw))) → H' st = some (.lst ss) → H' ex = some (.lst es) → Q q H') :
    ∀ x dx, H x = none → H dx = none → dx ≠ x → spQi K [.ref x, .ref f, .ref wa, sv, .ref ev] (upd (upd H dx (.own x)) x (.ins (aQu K) dx [])) (fun v H2 => v = .non ∧ Q x H2) E := by
  intro x dx nx ndx hne
  generalize eH1 : upd (upd H dx _) x _ = H1
  have s1 : Same H H1 := eH1 ▸ (same_upd ndx).trans (same_upd (by rw [upd_ne (Ne.symm hne)]; exact nx))
  have x1 : H1 x = some (.ins (aQu K) dx []) := eH1 ▸ upd_same
  refine ⟨x, dx, f, df, dw, dl, rs, wa, aw, sv, ss, ev, es, rfl, x1, C.same s1, s1 _ _ hw, n1, n2, ok, hs.imp id (fun ⟨s, e, h⟩ => ⟨s, e, s1 _ _ h⟩), he.imp (fun h => s1.seq h) (fun h => Same.seqT s1 h), ?_⟩
  intro f' df' dw' dl' wd st ex H' m a1 a2 a3 a4 a5 a6 a7 a8 a9 b1 b2 b3 b4 b5 b6
  exact ⟨rfl, hQ x dx f' df' dw' dl' wd st ex H' (fun b o hb => m.out _ _ (s1 _ _ hb) (not1 (ne_of_none hb nx))) nx (s1.free a1) (s1.free a2) (s1.free a3) a4 a5 a6 (s1.free a7) (s1.free a8) (s1.free a9) b1 b2 b3 b4 b5 b6⟩
/-! twin, schema, answers, len -/
abbrev QuNew (H : Hp) (A : Qa) : Prop := H A.q = none ∧ H A.st = none
def Qa.data (A : Qa) : List Sch × List (Str × Nat) × List Addr × List (Int × Int) := (A.rs, A.aw, A.ss, A.es)
def spQtwin (K : PySem.W.Frag) : Sp := fun vs H Q _ => ∃ ρ M A, vs = [.ref A.q] ∧ QuAt K ρ M H A ∧ Al M H ∧ ∀ B H', Same H H' → QuNew H B → B.data = A.data → QuAt K ρ M H' B → Q (.ref B.q) H'
theorem d_q_twin (T : Txt K mg) : FnR P w K mg base CX0 6 (ma K (ga K "Question") "twin") (spQtwin K) := by
  obtain ⟨fd, F⟩ := T.f_Question_twin
  have D_qi := d_qi4 (P := P) (w := w) (base := base) T
  refine fnN F (fun _ _ _ _ _ _ us hl => match us, hl with | [_], _ => rfl) sc_Question_twin (fun vs H Q E h => ?_) (fun cdv A outer s H vs Q E hr h => ?_)
  · obtain ⟨ρ, M, A, rfl, _⟩ := h
    rfl
  · obtain ⟨ρ, M, B, rfl, C, al, hQ⟩ := h
    refine ⟨_, PSs.nox (pss_one (ps_ret (pe_makeE T.m_Question D_qi hr T.g_Question px0 (pa_cons (pe_fld (pv 0) rfl) (pa_cons (pe_fld (pv 0) rfl) (pa_cons (pe_fld (pv 0) rfl) (pa_cons (pe_fld (pv 0) rfl) pa_nil))))))), ?_⟩
    obtain ⟨evs, ee, ae⟩ := C.he
    refine ⟨_, rfl, _, _, _, _, _, rfl, C.hq, T.o_Question.cl, T.n_Question_form, quF_form, _, rfl, _, _, _, _, _, rfl, C.hq, T.o_Question.cl, T.n_Question_widths, quF_widths, _, rfl, _, _, _, _, _, rfl, C.hq, T.o_Question.cl, T.n_Question_steps, quF_steps, _, rfl, _, _, _, _, _, rfl, C.hq, T.o_Question.cl, T.n_Question_extra, quF_extra, ?_⟩
    refine mkQu (Q := fun z H' => Q (.ref z) H') C.sc C.hw C.ok.n1 C.ok.n2 C.ok.aw (.inr ⟨_, rfl, C.hs⟩) (.inl (SqL.of ee)) fun q dq f' df' dw' dl' wd st ex H' s' a0 a1 a2 a3 a4 a5 a6 a7 a8 a9 b1 b2 b3 b4 b5 b6 => ?_
    refine hQ ⟨q, dq, f', df', dw', dl', wd, st, ex, B.rs, B.aw, B.ss, B.es⟩ H' s' ⟨a0, a8⟩ rfl ⟨b2, b3, b4, b5, ⟨evs, b6, DpAll.same s' ae⟩, fun x hx => ⟨(C.hr x hx).1.same s', (C.hr x hx).2⟩, ⟨al.out a1, al.out a2, al.out a3, al.out a7, al.out a9⟩, C.nc, ⟨a4, a5, a6, b1, C.ok.aw, C.ok.nd, C.ok.so, C.ok.lr, C.ok.la, C.ok.ls, C.ok.le, C.ok.ve⟩⟩
def spQlen (K : PySem.W.Frag) : Sp := fun vs H Q _ => ∃ ρ M A, vs = [.ref A.q] ∧ QuAt K ρ M H A ∧ Q (.int (A.ss.length : Nat)) H
theorem d_q_len (T : Txt K mg) : FnR P w K mg base CX0 1 (ma K (ga K "Question") "__len__") (spQlen K) := by
  obtain ⟨fd, F⟩ := T.f_Question___len__
  refine fnN F (fun _ _ _ _ _ _ us hl => match us, hl with | [_], _ => rfl) sc_Question___len__ (fun vs H Q E h => ?_) (fun cdv A outer s H vs Q E hr h => ?_)
  · obtain ⟨ρ, M, A, rfl, _⟩ := h
    rfl
  · obtain ⟨ρ, M, A, rfl, C, q⟩ := h
    refine ⟨_, PSs.nox (pss_one (ps_ret (pe_callB call_len_seq (by rfl) T.z_len (by decide +kernel) (pa_cons (pe_fld (pv 0) rfl) pa_nil)))), ?_⟩
    refine ⟨_, rfl, _, _, _, _, _, rfl, C.hq, T.o_Question.cl, T.n_Question_steps, quF_steps, _, _, rfl, .inl (SqL.of C.hs), ?_⟩
    rw [List.length_map]
    exact q
def spQschema (K : PySem.W.Frag) : Sp := fun vs H Q _ => ∃ ρ M A, vs = [.ref A.q] ∧ QuAt K ρ M H A ∧ ∀ x' dx' dw' dl' H', Same H H' → H x' = none → H dw' = none → H dl' = none → dw' ≠ dl' → ScAt K H' x' dx' dw' dl' A.rs → Q (.ref x') H'
theorem d_q_schema (T : Txt K mg) : FnR P w K mg base CX0 4 (ma K (ga K "Question") "schema") (spQschema K) := by
  obtain ⟨fd, F⟩ := T.f_Question_schema
  have D_twin := d_sc_twin (P := P) (w := w) (base := base) T
  refine fnN F (fun _ _ _ _ _ _ us hl => match us, hl with | [_], _ => rfl) sc_Question_schema (fun vs H Q E h => ?_) (fun cdv A outer s H vs Q E hr h => ?_)
  · obtain ⟨ρ, M, A, rfl, _⟩ := h
    rfl
  · obtain ⟨ρ, M, A, rfl, C, q⟩ := h
    refine ⟨_, PSs.nox (pss_one (ps_ret (pe_methE0 (pe_fld (pv 0) rfl) T.o_Schema.cl T.h_Schema_twin D_twin (hr.mono (by decide)) px0))), ?_⟩
    exact ⟨_, rfl, _, _, _, _, _, rfl, C.hq, T.o_Question.cl, T.n_Question_form, quF_form, _, _, _, rfl, C.sc.hx, scF_no (by decide) (by decide), _, _, _, _, _, rfl, C.sc, q⟩
def spQanswers (K : PySem.W.Frag) : Sp := fun vs H Q _ => ∃ ρ M A, vs = [.ref A.q] ∧ QuAt K ρ M H A ∧ ∀ p H', H p = none → Same H H' → H' p = some (.dK (dI (awI A.aw))) → Q (.ref p) H'
theorem d_q_answers (T : Txt K mg) : FnR P w K mg base CX0 1 (ma K (ga K "Question") "answers") (spQanswers K) := by
  obtain ⟨fd, F⟩ := T.f_Question_answers
  refine fnN F (fun _ _ _ _ _ _ us hl => match us, hl with | [_], _ => rfl) sc_Question_answers (fun vs H Q E h => ?_) (fun cdv A outer s H vs Q E hr h => ?_)
  · obtain ⟨ρ, M, A, rfl, _⟩ := h
    rfl
  · obtain ⟨ρ, M, A, rfl, C, q⟩ := h
    refine ⟨_, PSs.nox (pss_one (ps_ret (pe_callTy call_dictD (by rfl) T.z_dict (by decide +kernel) (pa_cons (pe_fld (pv 0) rfl) pa_nil)))), ?_⟩
    exact ⟨_, rfl, _, _, _, _, _, rfl, C.hq, T.o_Question.cl, T.n_Question_widths, quF_widths, _, _, rfl, .of C.hw, fun p np => q p _ np (same_upd np) upd_same⟩

end
end K51
namespace K51
open PySem PySem.Spec PyProof.Rows L2 He TL EL
section
variable {P : Program} {w : World} {K : PySem.W.Frag} {mg : Str → Option Value} {base : Heap}
/-! places_of -/
def awN (aw : List (Str × Nat)) (z : Str) : Option Nat := (aw.find? fun p => decide (p.1 = z)).map Prod.snd
theorem val_aw (aw : List (Str × Nat)) (z : Str) : valV (dI (awI aw)) (.inr z) = (awN aw z).map fun n => V.int (n : Nat) := by
  induction aw with
  | nil => rfl
  | cons p r ih =>
    by_cases e : p.1 = z
    · have h1 : valV (dI (awI (p :: r))) (.inr z) = some (.int (p.2 : Nat)) := valV_pos (by show (Sum.inr p.1 : Key) = .inr z; rw [e])
      have h2 : awN (p :: r) z = some p.2 := by unfold awN; rw [List.find?_cons]; simp [e]
      rw [h1, h2]
      rfl
    · have h1 : valV (dI (awI (p :: r))) (.inr z) = valV (dI (awI r)) (.inr z) := valV_neg (fun h => e (Sum.inr.inj h))
      have h2 : awN (p :: r) z = awN r z := by unfold awN; rw [List.find?_cons]; simp [e]
      rw [h1, h2, ih]
def rsN (rs : List Sch) (z : Str) : Option Nat := (findS rs z).map Sch.n
/-- the columns of each place of a rule -/
def plN (rs : List Sch) (aw : List (Str × Nat)) (r : Ru) : Pl → Nat
  | .old => (r.o.bind (awN aw)).getD 0
  | .first => (r.ws[0]?.bind (rsN rs)).getD 0
  | .second => (r.ws[1]?.bind (rsN rs)).getD 0
theorem getD_inj {o : Option V} {n : Nat} (h : o.getD (.int 0) = .int (n : Nat)) : o.getD (.int 0) = .int (n : Nat) := h
theorem Pl.key {p q : Pl} : ((Sum.inr p.s : Key) = Sum.inr q.s) ↔ p = q := ⟨fun h => by
  have h := Sum.inr.inj h
  have e : (p.s == q.s) = true := by rw [h]; exact beq_self_eq_true _
  rw [Pl.inj] at e
  exact of_decide_eq_true e, fun h => by rw [h]⟩
def plI (i : Nat) (f : Pl → Nat) : Pl → Nat
  | .old => f .old
  | .first => if 1 ≤ i then f .first else 0
  | .second => if 2 ≤ i then f .second else 0
theorem plI_0 (f : Pl → Nat) (p : Pl) : plI 0 f p = if p = .old then f p else 0 := by cases p <;> rfl
theorem plI_all (rs : List Sch) (aw : List (Str × Nat)) (r : Ru) (p : Pl) : plI r.ws.length (plN rs aw r) p = plN rs aw r p := by
  cases p
  · rfl
  · show (if 1 ≤ r.ws.length then plN rs aw r .first else 0) = (r.ws[0]?.bind (rsN rs)).getD 0
    split
    · rfl
    · rw [List.getElem?_eq_none (by omega)]
      rfl
  · show (if 2 ≤ r.ws.length then plN rs aw r .second else 0) = (r.ws[1]?.bind (rsN rs)).getD 0
    split
    · rfl
    · rw [List.getElem?_eq_none (by omega)]
      rfl
def spQplaces (K : PySem.W.Frag) : Sp := fun vs H Q _ => ∃ ρ M A x r, vs = [.ref A.q, .ref x] ∧ QuAt K ρ M H A ∧ RuAt K [] H x r ∧ (∀ z, r.o = some z → (awN A.aw z).isSome = true) ∧ (∀ z ∈ r.ws, (rsN A.rs z).isSome = true) ∧ r.ws.length ≤ 2 ∧
  ∀ pd H', H pd = none → Same H H' → PlcAt H' pd (plN A.rs A.aw r) → Q (.ref pd) H'
theorem d_q_places (hP : PF P "/claim/cut.py") (T : Txt K mg) : FnR P w K mg base CX0 2 (ma K (ga K "Question") "places_of") (spQplaces K) := by
  obtain ⟨fd, F⟩ := T.f_Question_places_of
  have D_step := d_ru_step (P := P) (w := w) (base := base) T
  have D_old := d_ru_old (P := P) (w := w) (base := base) T
  have D_tabs := d_ru_tables (P := P) (w := w) (base := base) T
  have D_col := d_sc_col (P := P) (w := w) (base := base) hP T
  refine fnN F (fun _ _ _ _ _ _ us hl => match us, hl with | [_, _], _ => rfl) sc_Question_places_of (fun vs H Q E h => ?_) (fun cdv A outer s H vs Q E hr h => ?_)
  · obtain ⟨ρ, M, A, x, r, rfl, _⟩ := h
    rfl
  · obtain ⟨ρ, M, B, x, r, rfl, C, R, ho, hws, hl2, hQ⟩ := h
    refine ⟨_, PSs.nox (pss_cons (ps_set (i := 2) sc_Question_places_of.nd rfl (.inl rfl) pe_dnewK)
      (pss_mid (ps_if (pt_val (pe_methE0 (pv 1) T.o_Rule.cl T.h_Rule_is_step D_step hr px0)) (pss_one (ps_dput (hu_of hr) (pv 2) pe_str (pe_dget (hu_of hr) (pe_fld (pv 0) rfl) (pe_methE0 (pv 1) T.o_Rule.cl T.h_Rule_old D_old hr px0) (fun _ _ => rfl)) rfl)) pss_nil)
      (pss_cons (ps_for PassesOwn.never rfl (RZ.pi_zipA (by rfl) T.z_zip (pa_cons (pe_glob (v := .ref (ga K "TABLE_PLACES")) (by rfl) T.g_TABLE_PLACES rfl) (pa_cons (pe_methE0 (pv 1) T.o_Rule.cl T.h_Rule_tables D_tabs hr px0) pa_nil))) (pg_tup rfl (pgs_cons (pg_name (i := 3) sc_Question_places_of.nd rfl (.inl rfl)) (pgs_cons (pg_name (i := 4) sc_Question_places_of.nd rfl (.inl rfl)) pgs_nil)))
      (pss_one (ps_dput (hu_of hr) (pv 2) (pv 3) (pe_methE (pe_fld (pv 0) rfl) T.o_Schema.cl T.h_Schema_columns D_col hr pxq (pa_cons (pv 4) pa_nil)) rfl)))
      (pss_one (ps_ret (pv 2)))))), ?_⟩
    obtain ⟨dx, t, mk, dmk, tm, c, dc, lc, d, h1, h2, h3, h4, h5, _⟩ := R.ex
    intro pd npd
    generalize eH1 : upd H pd _ = H1
    have s1 : Same H H1 := eH1 ▸ same_upd npd
    have e1 : H1 pd = some _ := eH1 ▸ upd_same
    have C1 := C.same s1
    have R1 := R.same s1
    refine ⟨fun σ H2 => (∃ o3 o4, σ = [some (.ref B.q), some (.ref x), some (.ref pd), o3, o4]) ∧ Md [pd] H1 H2 ∧ ∃ kvs, H2 pd = some (.dK kvs) ∧ kvs.length ≤ 1 ∧ ∀ p : Pl, (valV kvs (.inr p.s)).getD (.int 0) = .int ((if p = .old then plN B.rs B.aw r p else 0 : Nat) : Nat), ?_, ?_⟩
    · refine ⟨_, rfl, _, _, _, rfl, s1 _ _ h1, ruF_no (by decide +kernel), x, r, rfl, R1, fun v hv => ?_⟩
      cases hv
      cases hro : r.o with
      | none =>
        refine ⟨_, rfl, iteF ⟨⟨_, _, rfl⟩, .refl _ _, [], e1, by decide, fun p => ?_⟩⟩
        show V.int 0 = _
        cases p
        · show _ = V.int (((r.o.bind (awN B.aw)).getD 0 : Nat) : Nat)
          rw [hro]
          rfl
        · rfl
        · rfl
      | some z =>
        obtain ⟨n, hn⟩ := Option.isSome_iff_exists.mp (ho z hro)
        refine ⟨_, rfl, iteT ?_⟩
        refine ⟨_, rfl, _, _, _, _, _, rfl, C1.hq, T.o_Question.cl, T.n_Question_widths, quF_widths, _, rfl, _, _, _, rfl, s1 _ _ h1, ruF_no (by decide +kernel), x, r, rfl, R1, fun v hv => ?_⟩
        have hv' : Dp K H1 v (optSD r.o) := hv
        rw [hro] at hv'
        cases hv'
        have hg := DGet.k (k := .inr z) C1.hw
        rw [val_aw, hn] at hg
        refine ⟨_, _, rfl, hg, _, rfl, _, _, rfl, DPut.k (k := .inr "old") e1 (by decide), ?_⟩
        have mu : Md [pd] H1 (upd H1 pd (.dK (putK [] (.inr "old") (V.int (n : Nat))))) := Md.upd e1 rfl (by simp)
        refine ⟨⟨_, _, rfl⟩, mu, _, upd_same, length_putK _ _ _, fun p => ?_⟩
        cases p
        · have e : valV (putK ([] : List (Key × V)) (.inr "old") (V.int (n : Nat))) (.inr Pl.old.s) = some (V.int (n : Nat)) := by rw [valV_put]; exact if_pos rfl
          rw [e, if_pos rfl]
          show V.int (n : Nat) = V.int (((r.o.bind (awN B.aw)).getD 0 : Nat) : Nat)
          rw [hro]
          show V.int (n : Nat) = V.int (((awN B.aw z).getD 0 : Nat) : Nat)
          rw [hn]
          rfl
        · rw [valV_put, if_neg (by intro z; exact absurd (Sum.inr.inj z) (by decide +kernel))]
          rfl
        · rw [valV_put, if_neg (by intro z; exact absurd (Sum.inr.inj z) (by decide +kernel))]
          rfl
    · rintro σ H2 ⟨⟨o3, o4, rfl⟩, m2, kvs, ek, lk, hk⟩
      have sm : ∀ {H' : Hp}, Md [pd] H1 H' → Same H H' := fun {H'} m => (Md.newM (S := []) m (Md.of s1) npd).same
      have R2 := R.same (sm m2)
      refine ⟨_, rfl, _, _, _, rfl, sm m2 _ _ h1, ruF_no (by decide +kernel), x, r, rfl, R2, fun v hv => ?_⟩
      obtain ⟨b, us, rfl, hS, hA⟩ : ∃ b us, v = .ref b ∧ SqT K H2 b us ∧ DpAll K H2 us (wsD r.ws) := by
        cases hv with
        | tup hS hA => exact ⟨_, _, rfl, hS, hA⟩
      cases dp_strs hA
      have C2 := C.same (sm m2)
      have hmin : min ([V.str "first", V.str "second"] : List V).length (r.ws.map V.str).length = r.ws.length := by rw [List.length_map]; show min 2 r.ws.length = _; omega
      refine ⟨_, b, _, _, rfl, .inr ⟨T.t_TABLE_PLACES _, hS, for_it (walk_zipT hmin.symm) (fun i σ H' => (∃ o3 o4, σ = [some (.ref B.q), some (.ref x), some (.ref pd), o3, o4]) ∧ Md [pd] H2 H' ∧ ∃ kvs, H' pd = some (.dK kvs) ∧ kvs.length ≤ 1 + i ∧ ∀ p : Pl, (valV kvs (.inr p.s)).getD (.int 0) = .int ((plI i (plN B.rs B.aw r) p : Nat) : Nat)) ⟨⟨_, _, rfl⟩, .refl _ _, kvs, ek, lk, fun p => by rw [hk p, plI_0]⟩ (fun i σ H' _ h => ⟨T.t_TABLE_PLACES _, h.2.1.sqT hS⟩) ?_ ?_⟩⟩
      · rintro i xv σ H' H'' hi ⟨⟨o3, o4, rfl⟩, m3, kvs3, ek3, lk3, hk3⟩ ⟨tp, xx, yy, rfl, ntp, rfl, hx, hy⟩
        generalize eH4 : upd H' tp _ = H4
        have s4 : Same H' H4 := eH4 ▸ same_upd ntp
        have e4 : H4 tp = some _ := eH4 ▸ upd_same
        obtain ⟨z, hz, rfl⟩ := getM hy
        obtain ⟨sc, hsc⟩ : ∃ sc, findS B.rs z = some sc := by
          have := hws z (List.mem_of_getElem? hz)
          unfold rsN at this
          rw [Option.isSome_map] at this
          exact Option.isSome_iff_exists.mp this
        have C4 := C.same ((sm (m2.trans m3)).trans s4)
        have i2 : i = 0 ∨ i = 1 := by omega
        obtain ⟨pl, rfl, hpl, hval⟩ : ∃ pl : Pl, xx = V.str pl.s ∧ (∀ p, plI (i + 1) (plN B.rs B.aw r) p = if p = pl then plN B.rs B.aw r pl else plI i (plN B.rs B.aw r) p) ∧ plN B.rs B.aw r pl = sc.n := by
          rcases i2 with rfl | rfl
          · cases hx
            refine ⟨.first, rfl, fun p => by cases p <;> rfl, ?_⟩
            show (r.ws[0]?.bind (rsN B.rs)).getD 0 = sc.n
            rw [hz]
            show ((findS B.rs z).map Sch.n).getD 0 = sc.n
            rw [hsc]
            rfl
          · cases hx
            refine ⟨.second, rfl, fun p => by cases p <;> rfl, ?_⟩
            show (r.ws[1]?.bind (rsN B.rs)).getD 0 = sc.n
            rw [hz]
            show ((findS B.rs z).map Sch.n).getD 0 = sc.n
            rw [hsc]
            rfl
        refine ⟨tp, _, rfl, SqT.of e4, rfl, _, _, rfl, _, _, rfl, rfl, ?_⟩
        refine ⟨_, rfl, _, _, _, _, _, rfl, C4.hq, T.o_Question.cl, T.n_Question_form, quF_form, _, _, _, rfl, C4.sc.hx, scF_no (by decide) (by decide), _, rfl, _, _, _, _, _, _, .str z, rfl, C4.sc, .str _, fun hi => ?_, fun z' s' ez hf => ?_⟩
        · exfalso
          have hi' : (findS B.rs z).isSome = false := hi
          rw [hsc] at hi'
          cases hi'
        · cases ez
          rw [hsc] at hf
          cases hf
          have ek4 := s4 _ _ ek3
          refine ⟨_, rfl, _, rfl, _, _, rfl, DPut.k (k := .inr pl.s) ek4 (Nat.lt_of_le_of_lt lk3 (by show 1 + i < 16777216; omega)), ?_⟩
          have mu : Md [pd] H4 (upd H4 pd (.dK (putK kvs3 (.inr pl.s) (V.int (sc.n : Nat))))) := Md.upd ek4 rfl (by simp)
          refine ⟨⟨_, _, rfl⟩, m3.trans ((Md.of s4).trans mu), _, upd_same, Nat.le_trans (length_putK _ _ _) (by omega), fun p => ?_⟩
          rw [valV_put, hpl p]
          by_cases e : p = pl
          · rw [if_pos (Pl.key.mpr e), if_pos e, hval]
            rfl
          · rw [if_neg (fun z => e (Pl.key.mp z)), if_neg e]
            exact hk3 p
      · rintro σ H' ⟨⟨o3, o4, rfl⟩, m3, kvs3, ek3, lk3, hk3⟩
        refine ⟨_, rfl, hQ pd H' npd (sm (m2.trans m3)) ⟨kvs3, ek3, fun p => ?_⟩⟩
        rw [hk3 p, plI_all]

end
end K51
namespace K51
open PySem PySem.Spec PyProof.Rows L2 He TL EL
section
variable {P : Program} {w : World} {K : PySem.W.Frag} {mg : Str → Option Value} {base : Heap}
/-! each atom once: mathematics -/
theorem ddS_in {acc : List At} {a : At} (h : a ∈ acc) : ddS acc a = acc := by
  unfold ddS
  rw [if_pos (List.any_eq_true.mpr ⟨a, h, decide_eq_true rfl⟩)]
theorem ddS_out {acc : List At} {a : At} (h : a ∉ acc) : ddS acc a = acc ++ [a] := by
  unfold ddS
  rw [if_neg (fun z => by obtain ⟨b, hb, e⟩ := List.any_eq_true.mp z; exact h (of_decide_eq_true e ▸ hb))]
theorem ddS_nodup {acc : List At} {a : At} (h : acc.Nodup) : (ddS acc a).Nodup := by
  by_cases hm : a ∈ acc
  · rw [ddS_in hm]; exact h
  · rw [ddS_out hm]
    exact List.nodup_append.mpr ⟨h, by simp, fun x hx y hy z => hm (by rw [List.mem_singleton.mp hy] at z; exact z ▸ hx)⟩
theorem fold_nodup : ∀ (l acc : List At), acc.Nodup → (l.foldl ddS acc).Nodup
  | [], _, h => h
  | a :: r, acc, h => fold_nodup r (ddS acc a) (ddS_nodup h)
theorem fold_nd : ∀ (l acc : List At), (acc ++ l).Nodup → l.foldl ddS acc = acc ++ l
  | [], acc, _ => by rw [List.append_nil]; rfl
  | a :: r, acc, h => by
    have hm : a ∉ acc := fun z => (List.nodup_append.mp h).2.2 a z a (by simp) rfl
    show r.foldl ddS (ddS acc a) = _
    rw [ddS_out hm, fold_nd r (acc ++ [a]) (by rw [List.append_assoc]; exact h), List.append_assoc]
    rfl
theorem dd_nodup (l : List At) : (dd l).Nodup := fold_nodup l [] (by simp)
theorem dd_of {l : List At} (h : l.Nodup) : dd l = l := fold_nd l [] h
theorem dd_dd (l : List At) : dd (dd l) = dd l := dd_of (dd_nodup l)
def spMkLen (K : PySem.W.Frag) : Sp := fun vs H Q _ => ∃ x dx t ts, vs = [.ref x] ∧ MkAt K H x dx t ts ∧ Q (.int (ts.length : Nat)) H
theorem d_mk_len (T : Txt K mg) : FnR P w K mg base CX0 1 (ma K (ga K "Maker") "__len__") (spMkLen K) := by
  obtain ⟨fd, F⟩ := T.f_Maker___len__
  refine fnN F (fun _ _ _ _ _ _ us hl => match us, hl with | [_], _ => rfl) sc_Maker___len__ (fun vs H Q E h => ?_) (fun cdv A outer s H vs Q E hr h => ?_)
  · obtain ⟨x, dx, t, ts, rfl, _⟩ := h
    rfl
  · obtain ⟨x, dx, t, ts, rfl, M, q⟩ := h
    obtain ⟨us, h1, h2⟩ := M.ht
    refine ⟨_, PSs.nox (pss_one (ps_ret (pe_callB call_len_seq (by rfl) T.z_len (by decide +kernel) (pa_cons (pe_fld (pv 0) rfl) pa_nil)))), _, rfl, _, _, _, _, _, rfl, M.hx, T.o_Maker.cl, T.n_Maker_kept_terms, mkF_at, _, _, rfl, .inr (SqT.of h1), ?_⟩
    rw [DpAll.length h2, List.length_map]
    exact q
/-! look -/
inductive LkE where
  | two (z : Str)
  | why (z : Str)
def lookE (rs : List Sch) (aw : List (Str × Nat)) (r : Ru) : Option LkE :=
  match r.ws.find? fun z => (awN aw z).isSome with
  | some z => some (.two z)
  | none => if (awN aw r.a).getD 0 ≠ r.ts.length then some (.why "answer") else
    if (match r.o with | none => false | some z => (awN aw z).isNone) = true then some (.why "old") else
    if (r.ws.any fun z => (rsN rs z).isNone) = true then some (.why "tables") else
    if r.ts.all (Tm.fits (plN rs aw r)) = false then some (.why "makes") else
    if r.as.all (At.fits (plN rs aw r)) = false then some (.why "conditions") else none
def spQlook (K : PySem.W.Frag) : Sp := fun vs H Q E => ∃ ρ M A x r, vs = [.ref A.q, .ref x] ∧ QuAt K ρ M H A ∧ RuAt K [] H x r ∧ RuOk r ∧
  (∀ z, lookE A.rs A.aw r = some (.two z) → ∀ d H', Same H H' → H' d = some (.xd [("name", .str z)]) → E (.ref (ga K "TwoAnswers")) (some d) H') ∧
  (∀ z, lookE A.rs A.aw r = some (.why z) → ∀ d H', Same H H' → H' d = some (.xd [("reason", .str z)]) → E (.ref (ga K "NoRule")) (some d) H') ∧
  (lookE A.rs A.aw r = none → ∀ H', Same H H' → Q .non H')
theorem d_q_look (hP : PF P "/claim/cut.py") (T : Txt K mg) : FnR P w K mg base (L2.CX P w) 8 (ma K (ga K "Question") "look") (spQlook K) := by
  obtain ⟨fd, F⟩ := T.f_Question_look
  have D_step := d_ru_step (P := P) (w := w) (base := base) T
  have D_ans := d_ru_answer (P := P) (w := w) (base := base) T
  have D_old := d_ru_old (P := P) (w := w) (base := base) T
  have D_tabs := d_ru_tables (P := P) (w := w) (base := base) T
  have D_mkr := d_ru_maker (P := P) (w := w) (base := base) T
  have D_cond := d_ru_conds (P := P) (w := w) (base := base) T
  have D_mklen := d_mk_len (P := P) (w := w) (base := base) T
  have D_terms := d_mk_terms (P := P) (w := w) (base := base) T
  have D_in := d_sc_in (P := P) (w := w) (base := base) T
  have D_plc := d_q_places (P := P) (w := w) (base := base) hP T
  have D_names_cells := d_names (P := P) (w := w) (base := base) T
  refine fnN F (fun _ _ _ _ _ _ us hl => match us, hl with | [_, _], _ => rfl) sc_Question_look (fun vs H Q E h => ?_) (fun cdv A outer s H vs Q E hr h => ?_)
  · obtain ⟨ρ, M, A, x, r, rfl, _⟩ := h
    rfl
  · obtain ⟨ρ, M, B, x, r, rfl, C, R, RO, hE1, hE2, hQ⟩ := h
    refine ⟨_, (pss_mid (ps_for (passes_of rfl) rfl (pi_tup (pe_methE0 (pv 1) T.o_Rule.cl T.h_Rule_tables D_tabs (hr.mono (by decide)) px0)) (pg_name (i := 2) sc_Question_look.nd rfl (.inl rfl))
      (pss_one (ps_if (pt_cmp (pc_din (hu_of hr) (pv 2) (pe_fld (pv 0) rfl))) (pss_one (rsx (by rfl) (takes_of rfl rfl rfl rfl) hP T.y_TwoAnswers.1 hr (pa_cons (pv 2) pa_nil))) pss_nil)))
      (pss_cons (ps_if (pt_cmpR op_ne (pe_dget2 (hu_of hr) (pe_fld (pv 0) rfl) (pe_methE0 (pv 1) T.o_Rule.cl T.h_Rule_answer D_ans (hr.mono (by decide)) px0) pe_int ⟨by rfl, by rfl, by rfl, by rfl⟩) (pe_callB (call_lenO T.h_Maker___len__ D_mklen (hr.mono (by decide)) pass0) (by rfl) T.z_len (by decide +kernel) (pa_cons (pe_methE0 (pv 1) T.o_Rule.cl T.h_Rule_maker D_mkr (hr.mono (by decide)) px0) pa_nil)) (nomark _)) (pss_one (rsxf (by rfl) (takes_of rfl rfl rfl rfl) hP T.y_NoRule.1 hr (pa_cons pe_str pa_nil))) pss_nil)
      (pss_mid (ps_if (PW.pt (pw_and (pt_val (pe_methE0 (pv 1) T.o_Rule.cl T.h_Rule_is_step D_step (hr.mono (by decide)) px0)) (pw_and1 (pt_cmp (pc_dnotin (hu_of hr) (pe_methE0 (pv 1) T.o_Rule.cl T.h_Rule_old D_old (hr.mono (by decide)) px0) (pe_fld (pv 0) rfl)))))) (pss_one (rsxf (by rfl) (takes_of rfl rfl rfl rfl) hP T.y_NoRule.1 hr (pa_cons pe_str pa_nil))) pss_nil)
      (pss_mid (ps_for (passes_of rfl) rfl (pi_tup (pe_methE0 (pv 1) T.o_Rule.cl T.h_Rule_tables D_tabs (hr.mono (by decide)) px0)) (pg_name (i := 2) sc_Question_look.nd rfl (.inl rfl))
      (pss_one (ps_if (pt_cmpR (op_notInO T.h_Schema___contains__ D_in (hr.mono (by decide)) pass0) (pv 2) (pe_fld (pv 0) rfl) (by rfl)) (pss_one (rsxf (by rfl) (takes_of rfl rfl rfl rfl) hP T.y_NoRule.1 hr (pa_cons pe_str pa_nil))) pss_nil)))
      (pss_cons (ps_set (i := 3) sc_Question_look.nd rfl (.inl rfl) (pe_methE (pv 0) T.o_Question.cl T.h_Question_places_of D_plc (hr.mono (by decide)) px0 (pa_cons (pv 1) pa_nil)))
      (pss_mid (ps_for (passes_of rfl) rfl (pi_tup (pe_methE0 (pe_methE0 (pv 1) T.o_Rule.cl T.h_Rule_maker D_mkr (hr.mono (by decide)) px0) T.o_Maker.cl T.h_Maker_terms D_terms (hr.mono (by decide)) px0)) (pg_name (i := 4) sc_Question_look.nd rfl (.inl rfl))
      (pss_one (ps_if (PW.pt (pw_and (pt_cmpR op_ne (pe_ix ix_tup (pv 4) pe_int (fun _ _ => rfl)) pe_str (nomark _)) (pw_and1 (pt_cmpR op_ge (pe_ix ix_tup (pv 4) pe_int (fun _ _ => rfl)) (pe_dget2 (hu_of hr) (pv 3) (pe_ix ix_tup (pv 4) pe_int (fun _ _ => rfl)) pe_int ⟨by rfl, by rfl, by rfl, by rfl⟩) (nomark _))))) (pss_one (rsxf (by rfl) (takes_of rfl rfl rfl rfl) hP T.y_NoRule.1 hr (pa_cons pe_str pa_nil))) pss_nil)))
      (pss_one (ps_if (pt_not (pt_val (cl D_names_cells (hr.mono (by decide)) (pa_cons (pe_methE0 (pv 1) T.o_Rule.cl T.h_Rule_conditions D_cond (hr.mono (by decide)) px0) (pa_cons (pv 3) pa_nil))))) (pss_one (rsxf (by rfl) (takes_of rfl rfl rfl rfl) hP T.y_NoRule.1 hr (pa_cons pe_str pa_nil))) pss_nil)))))))), ?_⟩
    obtain ⟨dx, t, mk, dmk, tm, c, dc, lc, d, h1, h2, h3, h4, h5, _⟩ := R.ex
    have bad1 : ∀ (z : Str) (H' : Hp), lookE B.rs B.aw r = some (.two z) → Same H H' → ∀ d, H' d = none → E (.ref (ga K "TwoAnswers")) (some d) (upd H' d (.xd [("name", .str z)])) := fun z H' e s d nd => hE1 z e d _ (s.trans (same_upd nd)) upd_same
    have bad : ∀ (z : Str) (H' : Hp), lookE B.rs B.aw r = some (.why z) → Same H H' → ∀ d, H' d = none → E (.ref (ga K "NoRule")) (some d) (upd H' d (.xd [("reason", .str z)])) := fun z H' e s d nd => hE2 z e d _ (s.trans (same_upd nd)) upd_same
    -- the tuple of the tables
    have tup : ∀ {H' : Hp} {v : V}, Dp K H' v (.tuple (wsD r.ws)) → ∃ b, v = .ref b ∧ SqT K H' b (r.ws.map V.str) := fun {H' v} hv => by
      cases hv with
      | tup hS hA => rw [dp_strs hA] at hS; exact ⟨_, rfl, hS⟩
    refine ⟨fun σ H' => H = H' ∧ (∃ o2 o3 o4, σ = [some (.ref B.q), some (.ref x), o2, o3, o4]) ∧ (r.ws.find? fun z => (awN B.aw z).isSome) = none, ?_, ?_⟩
    · refine ⟨_, rfl, _, _, _, rfl, h1, ruF_no (by decide +kernel), x, r, rfl, R, fun v hv => ?_⟩
      obtain ⟨b, rfl, hS⟩ := tup hv
      refine ⟨b, rfl, ⟨_, hS⟩, for_tup (K := K) (a := b) (xs := r.ws.map V.str) (fun i σ H' => H = H' ∧ (∃ o2 o3 o4, σ = [some (.ref B.q), some (.ref x), o2, o3, o4]) ∧ ((r.ws.take i).find? fun z => (awN B.aw z).isSome) = none) ⟨rfl, ⟨none, none, none, rfl⟩, rfl⟩ (fun i σ H' _ h => by rw [← h.1]; exact hS) ?_ ?_⟩
      · rintro i xv σ H' hg ⟨rfl, ⟨o2, o3, o4, rfl⟩, hn⟩
        obtain ⟨z, hz, rfl⟩ := getM hg
        have hgt := DGet.k (k := .inr z) C.hw
        rw [val_aw] at hgt
        refine ⟨_, rfl, _, rfl, _, _, _, _, _, rfl, C.hq, T.o_Question.cl, T.n_Question_widths, quF_widths, _, _, rfl, hgt, _, rfl, ?_⟩
        cases ha : awN B.aw z with
        | some n =>
          refine iteT ?_
          refine ⟨_, rfl, _, rfl, fun dd nd => bad1 z H ?_ (.refl _) dd nd⟩
          have : (r.ws.find? fun z => (awN B.aw z).isSome) = some z := by
            rw [← List.take_append_drop (i + 1) r.ws, List.find?_append, tk1 hz, List.find?_append, hn]
            simp [ha]
          unfold lookE
          rw [this]
        | none =>
          refine iteF ?_
          refine ⟨rfl, ⟨_, _, _, rfl⟩, ?_⟩
          rw [tk1 hz, List.find?_append, hn]
          simp [ha]
      · rintro σ H' ⟨rfl, ⟨o2, o3, o4, rfl⟩, hn⟩
        rw [List.length_map, List.take_length] at hn
        exact ⟨rfl, ⟨_, _, _, rfl⟩, hn⟩
    · rintro σ H' ⟨rfl, ⟨o2, o3, o4, rfl⟩, hn1⟩
      have e1 : lookE B.rs B.aw r = if (awN B.aw r.a).getD 0 ≠ r.ts.length then some (.why "answer") else
          if (match r.o with | none => false | some z => (awN B.aw z).isNone) = true then some (.why "old") else
          if (r.ws.any fun z => (rsN B.rs z).isNone) = true then some (.why "tables") else
          if r.ts.all (Tm.fits (plN B.rs B.aw r)) = false then some (.why "makes") else
          if r.as.all (At.fits (plN B.rs B.aw r)) = false then some (.why "conditions") else none := by
        unfold lookE
        rw [hn1]
      refine ⟨_, rfl, _, _, _, _, _, rfl, C.hq, T.o_Question.cl, T.n_Question_widths, quF_widths, _, rfl, .inl ⟨_, .of C.hw⟩, _, rfl, _, _, _, rfl, h1, ruF_no (by decide +kernel), x, r, rfl, R, fun v hv => ?_⟩
      cases hv
      have hgt := DGet.k (k := .inr r.a) C.hw
      rw [val_aw] at hgt
      refine ⟨_, hgt, _, rfl, _, _, _, rfl, h1, ruF_no (by decide +kernel), x, r, rfl, R, fun y dy t' MK => ?_⟩
      refine ⟨_, _, _, rfl, MK.hx, _, _, _, _, rfl, MK, _, rfl, ⟨by omega, by have := RO.lt; omega⟩, ?_⟩
      have gd : ((awN B.aw r.a).map fun n => V.int (n : Nat)).getD (V.int 0) = V.int (((awN B.aw r.a).getD 0 : Nat) : Nat) := by cases awN B.aw r.a <;> rfl
      have ea : decide (((awN B.aw r.a).map fun n => V.int (n : Nat)).getD (V.int 0) = V.int (r.ts.length : Nat)) = decide ((awN B.aw r.a).getD 0 = r.ts.length) := by
        rw [gd]
        exact decide_eq_decide.mpr ⟨fun z => by have := V.int.inj z; omega, fun z => by rw [z]⟩
      refine ⟨(by show scal (((awN B.aw r.a).map fun n => V.int (n : Nat)).getD (V.int 0)) _ = true; rw [gd]; rfl), _, rfl, ?_⟩
      by_cases ha : (awN B.aw r.a).getD 0 = r.ts.length
      · refine if_neg_of (by show (!decide (_ = V.int (r.ts.length : Nat))) = false; rw [ea, decide_eq_true ha]; rfl) ?_
        rw [if_neg (fun z => z ha)] at e1
        refine ⟨fun σ H' => H = H' ∧ (∃ o2 o3 o4, σ = [some (.ref B.q), some (.ref x), o2, o3, o4]) ∧ (∀ z, r.o = some z → (awN B.aw z).isSome = true), ?_, ?_⟩
        · refine ⟨_, rfl, _, _, _, rfl, h1, ruF_no (by decide +kernel), x, r, rfl, R, fun v hv => ?_⟩
          cases hv
          cases hro : r.o with
          | none => exact ⟨_, rfl, iteF ⟨rfl, ⟨_, _, _, rfl⟩, fun z h => by cases h⟩⟩
          | some z =>
            rw [hro] at e1
            refine ⟨_, rfl, iteT ?_⟩
            refine ⟨_, rfl, _, _, _, rfl, h1, ruF_no (by decide +kernel), x, r, rfl, R, fun v hv => ?_⟩
            have hv' : Dp K H v (optSD r.o) := hv
            rw [hro] at hv'
            cases hv'
            have hgt := DGet.k (k := .inr z) C.hw
            rw [val_aw] at hgt
            refine ⟨_, rfl, _, _, _, _, _, rfl, C.hq, T.o_Question.cl, T.n_Question_widths, quF_widths, _, _, rfl, hgt, _, rfl, ?_⟩
            cases hz : awN B.aw z with
            | none =>
              refine iteT ?_
              refine ⟨_, rfl, by decide, bad "old" H ?_ (.refl _)⟩
              rw [e1]
              simp [hz]
            | some n =>
              refine iteF ⟨rfl, ⟨_, _, _, rfl⟩, fun z' h => ?_⟩
              cases h
              rw [hz]
              rfl
        · rintro σ H' ⟨rfl, ⟨o2, o3, o4, rfl⟩, ho⟩
          have e2 : (match r.o with | none => false | some z => (awN B.aw z).isNone) = false := by
            cases hro : r.o with
            | none => rfl
            | some z =>
              have := ho z hro
              show (awN B.aw z).isNone = false
              cases hz : awN B.aw z with
              | none => rw [hz] at this; cases this
              | some n => rfl
          rw [if_neg (by rw [e2]; exact Bool.false_ne_true)] at e1
          refine ⟨fun σ H' => H = H' ∧ (∃ o2 o3 o4, σ = [some (.ref B.q), some (.ref x), o2, o3, o4]) ∧ (r.ws.any fun z => (rsN B.rs z).isNone) = false, ?_, ?_⟩
          · refine ⟨_, rfl, _, _, _, rfl, h1, ruF_no (by decide +kernel), x, r, rfl, R, fun v hv => ?_⟩
            obtain ⟨b, rfl, hS⟩ := tup hv
            refine ⟨b, rfl, ⟨_, hS⟩, for_tup (K := K) (a := b) (xs := r.ws.map V.str) (fun i σ H' => H = H' ∧ (∃ o2 o3 o4, σ = [some (.ref B.q), some (.ref x), o2, o3, o4]) ∧ ((r.ws.take i).any fun z => (rsN B.rs z).isNone) = false) ⟨rfl, ⟨_, _, _, rfl⟩, rfl⟩ (fun i σ H' _ h => by rw [← h.1]; exact hS) ?_ ?_⟩
            · rintro i xv σ H' hg ⟨rfl, ⟨o2, o3, o4, rfl⟩, hn⟩
              obtain ⟨z, hz, rfl⟩ := getM hg
              have es : (rsN B.rs z).isNone = !inS B.rs (.str z) := by
                show (rsN B.rs z).isNone = !(findS B.rs z).isSome
                unfold rsN
                cases findS B.rs z <;> rfl
              refine ⟨_, rfl, _, rfl, _, _, _, _, _, rfl, C.hq, T.o_Question.cl, T.n_Question_form, quF_form, _, _, _, rfl, C.sc.hx, _, _, _, _, _, _, .str z, rfl, C.sc, .str _, _, rfl, _, rfl, ?_⟩
              cases hi : inS B.rs (.str z) with
              | false =>
                refine iteT ?_
                refine ⟨_, rfl, by decide, bad "tables" H ?_ (.refl _)⟩
                rw [e1, if_pos]
                exact List.any_eq_true.mpr ⟨z, List.mem_of_getElem? hz, by rw [es, hi]; rfl⟩
              | true =>
                refine iteF ⟨rfl, ⟨_, _, _, rfl⟩, ?_⟩
                rw [tk1 hz, List.any_append, hn]
                simp [es, hi]
            · rintro σ H' ⟨rfl, ⟨o2, o3, o4, rfl⟩, hn⟩
              rw [List.length_map, List.take_length] at hn
              exact ⟨rfl, ⟨_, _, _, rfl⟩, hn⟩
          · rintro σ H' ⟨rfl, ⟨o2, o3, o4, rfl⟩, hn3⟩
            rw [if_neg (by rw [hn3]; exact Bool.false_ne_true)] at e1
            have hws : ∀ z ∈ r.ws, (rsN B.rs z).isSome = true := fun z hz => by
              have : (rsN B.rs z).isNone = false := by
                rw [Bool.eq_false_iff]
                exact fun h => by
                  have : (r.ws.any fun z => (rsN B.rs z).isNone) = true := List.any_eq_true.mpr ⟨z, hz, h⟩
                  rw [hn3] at this
                  cases this
              cases hh : rsN B.rs z with
              | none => rw [hh] at this; cases this
              | some n => rfl
            refine ⟨_, rfl, _, _, _, rfl, C.hq, quF_no (by decide +kernel), _, rfl, ρ, M, B, x, r, rfl, C, R, ho, hws, RO.lw, fun pd H2 npd s2 PL => ?_⟩
            have R2 := R.same s2
            have h1' := s2 _ _ h1
            obtain ⟨kvs, ek, hk⟩ := PL
            refine ⟨fun σ H' => H2 = H' ∧ (∃ o2 o4, σ = [some (.ref B.q), some (.ref x), o2, some (.ref pd), o4]) ∧ r.ts.all (Tm.fits (plN B.rs B.aw r)) = true, ?_, ?_⟩
            · refine ⟨_, rfl, _, _, _, rfl, h1', ruF_no (by decide +kernel), x, r, rfl, R2, fun y dy t' MK => ?_⟩
              refine ⟨_, _, _, rfl, MK.hx, mkF_no (by decide +kernel), _, _, _, _, rfl, MK, ?_⟩
              obtain ⟨us, et, at_⟩ := MK.ht
              refine ⟨t', rfl, ⟨_, SqT.of et⟩, for_tup (K := K) (a := t') (xs := us) (fun i σ H' => H2 = H' ∧ (∃ o2 o4, σ = [some (.ref B.q), some (.ref x), o2, some (.ref pd), o4]) ∧ (r.ts.take i).all (Tm.fits (plN B.rs B.aw r)) = true) ⟨rfl, ⟨_, _, rfl⟩, rfl⟩ (fun i σ H' _ h => by rw [← h.1]; exact SqT.of et) ?_ ?_⟩
              · rintro i xv σ H' hg ⟨rfl, ⟨o2, o4, rfl⟩, hall⟩
                obtain ⟨d, hd, hdp⟩ := DpAll.get at_ hg
                obtain ⟨tm', htm, rfl⟩ := getM hd
                have step : tm'.fits (plN B.rs B.aw r) = true → (r.ts.take (i + 1)).all (Tm.fits (plN B.rs B.aw r)) = true := fun h => by
                  rw [tk1 htm, List.all_append, hall]
                  simp [h]
                cases tm' with
                | val x1 x2 =>
                  obtain ⟨q1, y1, rfl, hq1, _⟩ := tm_val hdp
                  refine ⟨_, rfl, _, _, 0, _, rfl, rfl, hq1, atI_nat (j := 0) rfl, rfl, _, rfl, iteF ?_⟩
                  exact ⟨rfl, ⟨_, _, rfl⟩, step rfl⟩
                | cell pl c =>
                  obtain ⟨q1, rfl, hq1⟩ := tm_cell hdp
                  refine ⟨_, rfl, _, _, 0, _, rfl, rfl, hq1, atI_nat (j := 0) rfl, rfl, _, rfl, if_pos_of (by show (!decide (V.str pl.s = V.str "value")) = true; rw [Pl.ne_value]; rfl) ?_⟩
                  refine ⟨_, rfl, _, _, 1, _, rfl, rfl, hq1, atI_nat (j := 1) rfl, _, rfl, pd, rfl, .inl ⟨kvs, .of ek⟩, _, rfl, _, _, 0, _, rfl, rfl, hq1, atI_nat (j := 0) rfl, _, DGet.k (k := .inr pl.s) ek, ?_⟩
                  rw [hk pl]
                  refine ⟨_, _, rfl, rfl, _, rfl, ?_⟩
                  cases cc : decide (((c : Nat) : Int) ≥ ((plN B.rs B.aw r pl : Nat) : Int)) with
                  | true =>
                    have := of_decide_eq_true cc
                    refine iteT ?_
                    refine ⟨_, rfl, by decide, bad "makes" H2 ?_ s2⟩
                    rw [e1, if_pos]
                    rw [Bool.eq_false_iff]
                    intro z
                    have := List.all_eq_true.mp z _ (List.mem_of_getElem? htm)
                    have := of_decide_eq_true (show decide (c < plN B.rs B.aw r pl) = true from this)
                    omega
                  | false =>
                    have := of_decide_eq_false cc
                    refine iteF ⟨rfl, ⟨_, _, rfl⟩, step (decide_eq_true (by omega))⟩
              · rintro σ H' ⟨rfl, ⟨o2, o4, rfl⟩, hall⟩
                rw [show us.length = r.ts.length by rw [DpAll.length at_, List.length_map], List.take_length] at hall
                exact ⟨rfl, ⟨_, _, rfl⟩, hall⟩
            · rintro σ H' ⟨rfl, ⟨o2, o4, rfl⟩, hall⟩
              rw [if_neg (by rw [hall]; exact Bool.noConfusion)] at e1
              refine ⟨_, rfl, _, _, _, rfl, h1', ruF_no (by decide +kernel), x, r, rfl, R2, (by have := RO.la; omega), fun z dz n H3 s3 nz nn hzn CD => ?_⟩
              have dr : dd r.as = r.as := dd_of RO.nd
              rw [dr] at CD
              refine ⟨_, rfl, _, _, _, _, pd, plN B.rs B.aw r, rfl, CD, ⟨kvs, s3 _ _ ek, hk⟩, fun H4 s4 => ?_⟩
              refine ⟨_, rfl, ?_⟩
              cases hf : r.as.all (At.fits (plN B.rs B.aw r)) with
              | false =>
                refine iteT ?_
                refine ⟨_, rfl, by decide, bad "conditions" H4 ?_ (s2.trans (s3.trans s4))⟩
                rw [e1, if_pos hf]
              | true =>
                refine iteF ?_
                exact hQ (by rw [e1, if_neg (by rw [hf]; exact Bool.noConfusion)]) H4 (s2.trans (s3.trans s4))
      · refine if_pos_of (by show (!decide (_ = V.int (r.ts.length : Nat))) = true; rw [ea, decide_eq_false ha]; rfl) ?_
        refine ⟨_, rfl, by decide, bad "answer" H ?_ (.refl _)⟩
        rw [e1, if_pos ha]

end
end K51
namespace K51
open PySem PySem.Spec PyProof.Rows L2 He TL EL
section
variable {P : Program} {w : World} {K : PySem.W.Frag} {mg : Str → Option Value} {base : Heap}
/-! rule, add, narrow, without -/
def ruleIx (ss : List Addr) : PyData → Option Addr
  | .int i => if 0 ≤ i ∧ i < (ss.length : Nat) then ss[i.toNat]? else none
  | _ => none
def spQrule (K : PySem.W.Frag) : Sp := fun vs H Q E => ∃ ρ M A v d, vs = [.ref A.q, v] ∧ QuAt K ρ M H A ∧ Dp K H v d ∧
  (ruleIx A.ss d = none → ∀ e H', Same H H' → H' e = some (.xd [("reason", .str "number")]) → E (.ref (ga K "NoRule")) (some e) H') ∧ (∀ x, ruleIx A.ss d = some x → Q (.ref x) H)
theorem d_q_rule (hP : PF P "/claim/cut.py") (T : Txt K mg) : FnR P w K mg base (L2.CX P w) 2 (ma K (ga K "Question") "rule") (spQrule K) := by
  obtain ⟨fd, F⟩ := T.f_Question_rule
  have D_is_whole := d_is_whole (P := P) (w := w) (base := base) T
  refine fnN F (fun _ _ _ _ _ _ us hl => match us, hl with | [_, _], _ => rfl) sc_Question_rule (fun vs H Q E h => ?_) (fun cdv A outer s H vs Q E hr h => ?_)
  · obtain ⟨ρ, M, A, v, d, rfl, _⟩ := h
    rfl
  · obtain ⟨ρ, M, B, v, d, rfl, C, hd, hE, hQ⟩ := h
    refine ⟨_, (pss_cons (ps_if (PW.pt (pw_or (pt_not (pt_val (cl D_is_whole (hr.mono (by decide)) (pa_cons (pv 1) pa_nil)))) (pw_or1 (pt_not (pt_chain op_le op_lt pe_int (pv 1) (pe_callB call_len_seq (by rfl) T.z_len (by decide +kernel) (pa_cons (pe_fld (pv 0) rfl) pa_nil))))))) (pss_one (rsxf (by rfl) (takes_of rfl rfl rfl rfl) hP T.y_NoRule.1 hr (pa_cons pe_str pa_nil))) pss_nil)
      (pss_one (ps_ret (pe_ix ix_list (pe_fld (pv 0) rfl) (pv 1) (fun _ _ => rfl))))), ?_⟩
    have bad : ruleIx B.ss d = none → ∀ e, H e = none → E (.ref (ga K "NoRule")) (some e) (upd H e (.xd [("reason", .str "number")])) := fun h e ne => hE h e _ (same_upd ne) upd_same
    refine ⟨_, rfl, v, .d d, rfl, hd, _, rfl, ?_⟩
    rw [isWholeT_d]
    by_cases w0 : ∃ i, d = .int i
    · obtain ⟨i, rfl⟩ := w0
      cases hd
      refine iteF ?_
      have ls : (B.ss.map V.ref).length = B.ss.length := List.length_map _
      refine ⟨_, rfl, _, _, rfl, rfl, _, rfl, ?_⟩
      cases c1 : decide ((0 : Int) ≤ i) with
      | false =>
        refine iteF ⟨_, rfl, iteT ⟨_, rfl, by decide, bad ?_⟩⟩
        exact if_neg fun h => of_decide_eq_false c1 h.1
      | true =>
        refine iteT ?_
        refine ⟨_, rfl, _, _, _, _, _, rfl, C.hq, T.o_Question.cl, T.n_Question_steps, quF_steps, _, _, rfl, .inl (SqL.of C.hs), _, _, rfl, rfl, _, rfl, ?_⟩
        by_cases c2 : i < (B.ss.length : Nat)
        · refine if_neg_of (by show (!decide (i < ((B.ss.map V.ref).length : Nat))) = false; rw [ls, decide_eq_true c2]; rfl) ?_
          have h0 := of_decide_eq_true c1
          obtain ⟨k, rfl⟩ := Int.eq_ofNat_of_zero_le h0
          have hk : k < B.ss.length := by omega
          have hx : ruleIx B.ss (.int (k : Nat)) = some B.ss[k] := by
            show (if 0 ≤ ((k : Nat) : Int) ∧ ((k : Nat) : Int) < (B.ss.length : Nat) then B.ss[((k : Nat) : Int).toNat]? else none) = _
            rw [if_pos ⟨h0, c2⟩]
            show B.ss[k]? = _
            exact List.getElem?_eq_getElem hk
          refine ⟨_, rfl, _, _, _, _, _, rfl, C.hq, T.o_Question.cl, T.n_Question_steps, quF_steps, _, rfl, _, _, _, _, rfl, rfl, SqL.of C.hs, atI_nat (by rw [List.getElem?_map, List.getElem?_eq_getElem hk]; rfl), hQ _ hx⟩
        · refine if_pos_of (by show (!decide (i < ((B.ss.map V.ref).length : Nat))) = true; rw [ls, decide_eq_false c2]; rfl) ?_
          exact ⟨_, rfl, by decide, bad (if_neg fun h => c2 h.2)⟩
    · have e2 : isWholeD d = false := by
        cases d <;> first | rfl | exact absurd ⟨_, rfl⟩ w0
      rw [e2]
      have e3 : ruleIx B.ss d = none := by
        cases d <;> first | rfl | exact absurd ⟨_, rfl⟩ w0
      exact iteT ⟨_, rfl, by decide, bad e3⟩
def spQadd (K : PySem.W.Frag) : Sp := fun vs H Q E => ∃ ρ M A x, vs = [.ref A.q, .ref x] ∧ QuAt K ρ M H A ∧ RuAt K M H x (ρ x) ∧ RuOk (ρ x) ∧ A.ss.length ≤ 900 ∧ A.st ∈ M ∧ A.q ≠ A.st ∧
  (∀ z, lookE A.rs A.aw (ρ x) = some (.two z) → ∀ d H', Same H H' → H' d = some (.xd [("name", .str z)]) → E (.ref (ga K "TwoAnswers")) (some d) H') ∧
  (∀ z, lookE A.rs A.aw (ρ x) = some (.why z) → ∀ d H', Same H H' → H' d = some (.xd [("reason", .str z)]) → E (.ref (ga K "NoRule")) (some d) H') ∧
  (lookE A.rs A.aw (ρ x) = none → ∀ H', Md [A.st] H H' → H' A.st = some (.lst ((A.ss ++ [x]).map V.ref)) → QuAt K ρ M H' { A with ss := A.ss ++ [x] } → Q (.int (A.ss.length : Nat)) H')
theorem d_q_add (hP : PF P "/claim/cut.py") (T : Txt K mg) : FnR P w K mg base (L2.CX P w) 9 (ma K (ga K "Question") "add") (spQadd K) := by
  obtain ⟨fd, F⟩ := T.f_Question_add
  have D_look := d_q_look (P := P) (w := w) (base := base) hP T
  refine fnN F (fun _ _ _ _ _ _ us hl => match us, hl with | [_, _], _ => rfl) sc_Question_add (fun vs H Q E h => ?_) (fun cdv A outer s H vs Q E hr h => ?_)
  · obtain ⟨ρ, M, A, x, rfl, _⟩ := h
    rfl
  · obtain ⟨ρ, M, B, x, rfl, C, R, RO, hl, hM, hqs, hE1, hE2, hQ⟩ := h
    refine ⟨_, (pss_cons (ps_if (pt_not (pt_val (pe_callB call_isi (by rfl) T.z_isinstance (by decide +kernel) (pa_cons (pv 1) (pa_cons (pe_glob (v := .ref (ga K "Rule")) (by rfl) T.g_Rule rfl) pa_nil))))) (pss_one (ps_never)) pss_nil)
      (pss_cons (ps_expr (pe_methE (pv 0) T.o_Question.cl T.h_Question_look D_look hr (pxx (takes_of rfl rfl rfl rfl)) (pa_cons (pv 1) pa_nil)))
      (pss_cons (ps_expr (pe_bm PySem.F.plainAttrs_list PySem.F.slot_list_append PySem.F.type_list_append mt_append (pe_fld (pv 0) rfl) (pa_cons (pv 1) pa_nil)))
      (pss_one (ps_ret (pe_op op_sub (pe_callB call_len_seq (by rfl) T.z_len (by decide +kernel) (pa_cons (pe_fld (pv 0) rfl) pa_nil)) pe_int)))))), ?_⟩
    obtain ⟨dx, t, mk, dmk, tm, c, dc, lc, d, h1, _⟩ := R.ex
    refine ⟨_, rfl, _, _, _, _, _, rfl, .own _, T.o_Rule.ty h1, T.o_Rule.self, _, rfl, iteF ?_⟩
    refine ⟨_, rfl, _, _, _, rfl, C.hq, quF_no (by decide +kernel), _, rfl, ρ, M, B, x, _, rfl, C, R.nil, RO, hE1, hE2, fun hn H1 s1 => ?_⟩
    have C1 := C.same s1
    have lu : (B.ss.map V.ref).length < sizeLine := by rw [List.length_map]; exact Nat.lt_of_le_of_lt hl (by decide)
    refine ⟨_, rfl, _, _, _, _, _, rfl, C1.hq, T.o_Question.cl, T.n_Question_steps, quF_steps, .inl ⟨rfl, _, SqL.of C1.hs⟩, _, rfl, _, _, _, rfl, rfl, C1.hs, lu, ?_⟩
    generalize eH2 : upd H1 B.st _ = H2
    have m2 : Md [B.st] H1 H2 := eH2 ▸ Md.upd C1.hs rfl (by simp)
    have e2 : H2 B.st = some (.lst (B.ss.map V.ref ++ [.ref x])) := eH2 ▸ upd_same
    have q2 := m2.out _ _ C1.hq (not1 hqs)
    refine ⟨_, rfl, _, _, _, _, _, rfl, q2, T.o_Question.cl, T.n_Question_steps, quF_steps, _, _, rfl, .inl (SqL.of e2), _, _, rfl, rfl, ?_⟩
    have em : B.ss.map V.ref ++ [V.ref x] = (B.ss ++ [x]).map V.ref := by rw [List.map_append]; rfl
    have key := hQ hn H2 ((Md.of s1).trans m2) (by rw [e2, em]) ?_
    · have ev : (((B.ss.map V.ref ++ [V.ref x]).length : Nat) : Int) - 1 = (B.ss.length : Nat) := by
        rw [List.length_append, List.length_map, List.length_singleton]
        omega
      show Q (.int ((((B.ss.map V.ref ++ [V.ref x]).length : Nat) : Int) - 1)) H2
      rw [ev]
      exact key
    · obtain ⟨n1, n2, n3, n4, n5⟩ := C1.nm
      have o : ∀ {b : Addr}, b ∉ M → b ∉ [B.st] := fun n => not1 fun z => n (z ▸ hM)
      obtain ⟨vs, e, a⟩ := C1.he
      have mm : Md M H1 H2 := m2.mono (fun b hb => by cases List.mem_singleton.mp hb; exact hM)
      refine ⟨q2, C1.sc.md m2 (o n1) (o n2) (o n3) (fun s hs => ⟨o (C1.nc s hs).1, o (C1.nc s hs).2⟩), m2.out _ _ C1.hw (o n4), by rw [e2, em], ⟨vs, m2.out _ _ e (o n5), m2.dpAll (pds_val _).nl a⟩, fun y hy => ?_, C1.nm, C1.nc, ?_⟩
      · rcases List.mem_append.mp hy with hy | hy
        · exact ⟨(C1.hr y hy).1.md mm, (C1.hr y hy).2⟩
        · cases List.mem_singleton.mp hy
          exact ⟨(R.same s1).md mm, RO⟩
      · exact ⟨C.ok.ne, C.ok.n1, C.ok.n2, C.ok.n3, C.ok.aw, C.ok.nd, C.ok.so, C.ok.lr, C.ok.la, by show (B.ss ++ [x]).length ≤ 1000; rw [List.length_append, List.length_singleton]; omega, C.ok.le, C.ok.ve⟩

end
end K51
namespace K51
open PySem PySem.Spec PyProof.Rows L2 He TL EL
section
variable {P : Program} {w : World} {K : PySem.W.Frag} {mg : Str → Option Value} {base : Heap}
/-! narrow -/
theorem nmS_set (rs : List Sch) (z : Str) (q dq n : Addr) (as : List At) : nmS (setS rs z q dq n as) = nmS rs := by
  unfold nmS setS
  rw [List.map_map]
  refine List.map_congr_left fun s _ => ?_
  show (if s.nm = z then (⟨s.nm, s.n, q, dq, n, as⟩ : Sch) else s).nm = _
  split <;> rfl
theorem findS_nm (rs : List Sch) (z : Str) : (findS rs z).isSome = decide (z ∈ nmS rs) := by
  unfold findS nmS
  rw [Bool.eq_iff_iff, List.find?_isSome, decide_eq_true_eq, List.mem_map]
  constructor
  · rintro ⟨s, hs, e⟩
    exact ⟨s, hs, of_decide_eq_true e⟩
  · rintro ⟨s, hs, e⟩
    exact ⟨s, hs, decide_eq_true e⟩
theorem inS_set (rs : List Sch) (z : Str) (q dq n : Addr) (as : List At) (d : PyData) : inS (setS rs z q dq n as) d = inS rs d := by
  cases d with
  | str y =>
    show (findS (setS rs z q dq n as) y).isSome = (findS rs y).isSome
    rw [findS_nm, findS_nm, nmS_set]
  | _ => rfl
theorem AwOk.set {rs : List Sch} {aw : List (Str × Nat)} (h : AwOk rs aw) (z : Str) (q dq n : Addr) (as : List At) : AwOk (setS rs z q dq n as) aw :=
  ⟨h.l1, h.l3, fun p hp => by obtain ⟨a, b, c, d, e⟩ := h.wd p hp; exact ⟨a, b, c, d, by rw [inS_set]; exact e⟩, h.nd, h.so⟩
theorem set_mem {rs : List Sch} {z : Str} {q dq n : Addr} {as : List At} {s : Sch} (h : s ∈ setS rs z q dq n as) : s ∈ rs ∨ (s.c = q ∧ s.l = n ∧ s.as = as) := by
  unfold setS at h
  obtain ⟨u, hu, rfl⟩ := List.mem_map.mp h
  by_cases e : u.nm = z
  · rw [if_pos e]
    exact .inr ⟨rfl, rfl, rfl⟩
  · rw [if_neg e]
    exact .inl hu
def spQnarrow (K : PySem.W.Frag) : Sp := fun vs H Q _ => ∃ ρ M A z sc y dy m as, vs = [.ref A.q, .str z, .ref y] ∧ QuAt K ρ M H A ∧ CdAt K H y dy m as ∧ findS A.rs z = some sc ∧ as.all (At.fits (pn1 sc.n)) = true ∧ as.length ≤ 100 ∧ sc.as.length ≤ 200 ∧ Al M H ∧ A.q ∈ M ∧ A.q ≠ A.st ∧
  ∀ f df dw dl q dq l H', Md [A.q] H H' → QuAt K ρ M H' { A with f := f, df := df, dw := dw, dl := dl, rs := setS A.rs z q dq l (dd (sc.as ++ as)) } → Q .non H'
theorem d_q_narrow (hP : PF P "/claim/cut.py") (T : Txt K mg) : FnR P w K mg base (L2.CX P w) 9 (ma K (ga K "Question") "narrow") (spQnarrow K) := by
  obtain ⟨fd, F⟩ := T.f_Question_narrow
  have D_twin := d_sc_twin (P := P) (w := w) (base := base) T
  have D_nar := d_sc_narrow (P := P) (w := w) (base := base) hP T
  refine fnN F (fun _ _ _ _ _ _ us hl => match us, hl with | [_, _, _], _ => rfl) sc_Question_narrow (fun vs H Q E h => ?_) (fun cdv A outer s H vs Q E hr h => ?_)
  · obtain ⟨ρ, M, A, z, sc, y, dy, m, as, rfl, _⟩ := h
    rfl
  · obtain ⟨ρ, M, B, z, sc, y, dy, m, as, rfl, C, Cy, hf, hfit, hl1, hl2, al, hM, hqs, hQ⟩ := h
    refine ⟨_, (pss_cons (ps_set (i := 3) sc_Question_narrow.nd rfl (.inl rfl) (pe_methE0 (pe_fld (pv 0) rfl) T.o_Schema.cl T.h_Schema_twin D_twin (hr.mono (by decide)) px0))
      (pss_cons (ps_expr (pe_methE (pv 3) T.o_Schema.cl T.h_Schema_narrow D_nar hr pxq (pa_cons (pv 1) (pa_cons (pv 2) pa_nil))))
      (pss_one (ps_fld (pv 0) (pv 3) rfl)))), ?_⟩
    refine ⟨_, rfl, _, _, _, _, _, rfl, C.hq, T.o_Question.cl, T.n_Question_form, quF_form, _, _, _, rfl, C.sc.hx, scF_no (by decide) (by decide), _, _, _, _, _, rfl, C.sc, fun f' df' dw' dl' H1 s1 nf' nw' nl' hn C1 => ?_⟩
    refine ⟨_, rfl, _, _, _, rfl, C1.hx, scF_no (by decide) (by decide), _, rfl, _, rfl, f', df', dw', dl', B.rs, .str z, .str z, y, dy, m, as, rfl, C1, .str _, Cy.same s1, (by have := C.ok.lr; omega), by omega, hn, fun hi => ?_, fun z' s' ez hf' => ?_⟩
    · exfalso
      have hi' : (findS B.rs z).isSome = false := hi
      rw [hf] at hi'
      cases hi'
    · cases ez
      rw [hf] at hf'
      cases hf'
      refine ⟨by omega, fun hx => (by rw [hfit] at hx; cases hx), fun _ q dq l H2 m2 nq nl hql C2 => ?_⟩
      have al1' : Al M H1 := al.same s1
      have nqM : q ∉ M := al1'.out nq
      have nlM : l ∉ M := al1'.out nl
      have B1 := C.same s1
      have dlM : dl' ∉ M := al.out nl'
      have q2 : H2 B.q = some _ := m2.out _ _ B1.hq (not1 fun e => dlM (e ▸ hM))
      refine ⟨_, rfl, _, rfl, _, _, _, _, rfl, q2, T.o_Question.cl, T.n_Question_form, (by show 4 < 1000; decide), ?_⟩
      have eF : putF "form" (V.ref f') (quF (.ref B.f) (.ref B.wd) (.ref B.st) (.ref B.ex)) = quF (.ref f') (.ref B.wd) (.ref B.st) (.ref B.ex) := by kernel_rfl
      rw [eF]
      generalize eH3 : upd H2 B.q _ = H3
      have m3 : Md [B.q] H2 H3 := eH3 ▸ Md.upd q2 rfl (by simp)
      have q3 : H3 B.q = some (.ins (aQu K) B.dq (quF (.ref f') (.ref B.wd) (.ref B.st) (.ref B.ex))) := eH3 ▸ upd_same
      have sm : Same H H2 := (Md.newM (S := []) m2 (Md.of s1) nl').same
      have o : ∀ {b : Addr}, b ∉ M → b ∉ [B.q] := fun n => not1 fun e => n (e ▸ hM)
      have mM : Md M H2 H3 := m3.mono (fun b hb => by cases List.mem_singleton.mp hb; exact hM)
      obtain ⟨n1, n2, n3, n4, n5⟩ := C.nm
      obtain ⟨vs, e, a⟩ := C.he
      have nf0 := al.out nf'
      have nw0 := al.out nw'
      have nc : ∀ s ∈ setS B.rs z q dq l (dd (sc.as ++ as)), s.c ∉ M ∧ s.l ∉ M := fun s hs => by
        rcases set_mem hs with hs | ⟨e1, e2, _⟩
        · exact C.nc s hs
        · rw [e1, e2]
          exact ⟨nqM, nlM⟩
      refine hQ f' df' dw' dl' q dq l H3 ((Md.of sm).trans m3) ⟨q3, C2.md m3 (o nf0) (o nw0) (o dlM) (fun s hs => ⟨o (nc s hs).1, o (nc s hs).2⟩), m3.out _ _ (sm _ _ C.hw) (o n4), m3.out _ _ (sm _ _ C.hs) (not1 (Ne.symm hqs)), ⟨vs, m3.out _ _ (sm _ _ e) (o n5), m3.dpAll (pds_val _).nl (DpAll.same sm a)⟩, fun x hx => ⟨((C.hr x hx).1.same sm).md mM, (C.hr x hx).2⟩, ⟨nf0, nw0, dlM, n4, n5⟩, nc, ?_⟩
      refine ⟨hn, fun e => ?_, fun e => ?_, C.ok.n3, C.ok.aw.set _ _ _ _ _, ?_, ?_, ?_, ?_, C.ok.ls, C.ok.le, C.ok.ve⟩
      · have e : B.wd = dw' := e
        rw [← e, C.hw] at nw'
        cases nw'
      · have e : B.wd = dl' := e
        rw [← e, C.hw] at nl'
        cases nl'
      · show (nmS (setS B.rs z q dq l (dd (sc.as ++ as)))).Nodup
        rw [nmS_set]
        exact C.ok.nd
      · show ∀ y ∈ nmS (setS B.rs z q dq l (dd (sc.as ++ as))), _
        rw [nmS_set]
        exact C.ok.so
      · show (setS B.rs z q dq l (dd (sc.as ++ as))).length ≤ 100
        unfold setS
        rw [List.length_map]
        exact C.ok.lr
      · intro s hs
        rcases set_mem hs with hs | ⟨_, _, e3⟩
        · exact C.ok.la s hs
        · rw [e3]
          have := dd_len (sc.as ++ as)
          rw [List.length_append] at this
          omega
/-! without -/
theorem erase_map {α β : Type} (f : α → β) : ∀ (l : List α) (i : Nat), (l.map f).eraseIdx i = (l.eraseIdx i).map f
  | [], _ => rfl
  | _ :: _, 0 => rfl
  | x :: r, i + 1 => congrArg (f x :: ·) (erase_map f r i)
def spQwithout (K : PySem.W.Frag) : Sp := fun vs H Q _ => ∃ ρ M A i, vs = [.ref A.q, .int (i : Nat)] ∧ QuAt K ρ M H A ∧ i < A.ss.length ∧ Al M H ∧ ∀ B H', Same H H' → QuNew H B → B.data = (A.rs, A.aw, A.ss.eraseIdx i, A.es) → QuAt K ρ M H' B → Q (.ref B.q) H'
theorem d_q_without (hP : PF P "/claim/cut.py") (T : Txt K mg) : FnR P w K mg base (L2.CX P w) 7 (ma K (ga K "Question") "without") (spQwithout K) := by
  obtain ⟨fd, F⟩ := T.f_Question_without
  have D_rule := d_q_rule (P := P) (w := w) (base := base) hP T
  have D_twin := d_q_twin (P := P) (w := w) (base := base) T
  refine fnN F (fun _ _ _ _ _ _ us hl => match us, hl with | [_, _], _ => rfl) sc_Question_without (fun vs H Q E h => ?_) (fun cdv A outer s H vs Q E hr h => ?_)
  · obtain ⟨ρ, M, A, i, rfl, _⟩ := h
    rfl
  · obtain ⟨ρ, M, B, i, rfl, C, hi, al, hQ⟩ := h
    refine ⟨_, (pss_cons (ps_expr (pe_methE (pv 0) T.o_Question.cl T.h_Question_rule D_rule (hr.mono (by decide)) pxq (pa_cons (pv 1) pa_nil)))
      (pss_cons (ps_set (i := 2) sc_Question_without.nd rfl (.inl rfl) (pe_methE0 (pv 0) T.o_Question.cl T.h_Question_twin D_twin hr px0))
      (pss_cons (ps_delL (pe_fld (pv 2) rfl) (pv 1))
      (pss_one (ps_ret (pv 2)))))), ?_⟩
    have hx : ruleIx B.ss (.int (i : Nat)) = some B.ss[i] := by
      show (if 0 ≤ ((i : Nat) : Int) ∧ ((i : Nat) : Int) < (B.ss.length : Nat) then B.ss[((i : Nat) : Int).toNat]? else none) = _
      rw [if_pos ⟨by omega, by omega⟩]
      exact List.getElem?_eq_getElem hi
    refine ⟨_, rfl, _, _, _, rfl, C.hq, quF_no (by decide +kernel), _, rfl, ρ, M, B, _, .int (i : Nat), rfl, C, .int _, fun h => (by rw [hx] at h; cases h), fun x _ => ?_⟩
    refine ⟨_, rfl, _, _, _, rfl, C.hq, quF_no (by decide +kernel), ρ, M, B, rfl, C, al, fun D H1 s1 nw dt C1 => ?_⟩
    have dss : D.ss = B.ss := congrArg (fun z => z.2.2.1) dt
    have ls := C.ok.ls
    refine ⟨_, rfl, _, _, _, _, _, rfl, C1.hq, T.o_Question.cl, T.n_Question_steps, quF_steps, _, rfl, _, _, _, i, rfl, rfl, C1.hs, by omega, by omega, ?_, ?_⟩
    · rw [List.length_map, dss]
      show (if (decide ((0 : Int) ≤ (if ((i : Nat) : Int) < 0 then ((i : Nat) : Int) + (B.ss.length : Nat) else ((i : Nat) : Int))) && decide ((if ((i : Nat) : Int) < 0 then ((i : Nat) : Int) + (B.ss.length : Nat) else ((i : Nat) : Int)) < (B.ss.length : Nat))) = true then some (if ((i : Nat) : Int) < 0 then ((i : Nat) : Int) + (B.ss.length : Nat) else ((i : Nat) : Int)).toNat else none) = some i
      rw [if_neg (show ¬ ((i : Nat) : Int) < 0 by omega), decide_eq_true (show (0 : Int) ≤ ((i : Nat) : Int) by omega), decide_eq_true (show ((i : Nat) : Int) < (B.ss.length : Nat) by omega)]
      rfl
    · generalize eH2 : upd H1 D.st _ = H2
      have m2 : Md [D.st] H1 H2 := eH2 ▸ Md.upd C1.hs rfl (by simp)
      have e2 : H2 D.st = some (.lst ((D.ss.map V.ref).eraseIdx i)) := eH2 ▸ upd_same
      have em : (D.ss.map V.ref).eraseIdx i = (D.ss.eraseIdx i).map V.ref := erase_map _ _ _
      have sm : Same H H2 := (Md.newM (S := []) m2 (Md.of s1) nw.2).same
      have nq : D.q ≠ D.st := ne_of C1.hq C1.hs (by intro z; cases z)
      have q2 := m2.out _ _ C1.hq (not1 nq)
      obtain ⟨vs, e, a⟩ := C1.he
      have mem : ∀ {x : Addr}, x ∈ D.ss.eraseIdx i → x ∈ B.ss := fun {x} hx => dss ▸ List.mem_of_mem_eraseIdx hx
      have drs : D.rs = B.rs := congrArg (fun z => z.1) dt
      refine ⟨_, rfl, hQ { D with ss := D.ss.eraseIdx i } H2 sm nw ?_ ⟨q2, C1.sc.md m2 (not1 (ne_of C1.sc.hx C1.hs (by intro z; cases z))) (not1 (ne_of C1.sc.hw C1.hs (by intro z; cases z))) (not1 (ne_of C1.sc.hl C1.hs (by intro z; cases z))) (fun s hs => ?_), m2.out _ _ C1.hw (not1 (ne_of C1.hw C1.hs (by intro z; cases z))), by rw [e2, em], ⟨vs, m2.out _ _ e (not1 (Ne.symm C1.ok.n3)), m2.dpAll (pds_val _).nl a⟩, fun x hx => ⟨(C.hr x (mem hx)).1.same sm, (C.hr x (mem hx)).2⟩, C1.nm, C1.nc, ?_⟩⟩
      · show (D.rs, D.aw, D.ss.eraseIdx i, D.es) = (B.rs, B.aw, B.ss.eraseIdx i, B.es)
        have daw : D.aw = B.aw := congrArg (fun z => z.2.1) dt
        have des : D.es = B.es := congrArg (fun z => z.2.2.2) dt
        rw [drs, daw, dss, des]
      · obtain ⟨vs', e', _⟩ := (C.sc.hc s (drs ▸ hs)).hl
        exact ⟨not1 (ne_of_none (C.sc.hc s (drs ▸ hs)).hx nw.2), not1 (ne_of_none e' nw.2)⟩
      · refine ⟨C1.ok.ne, C1.ok.n1, C1.ok.n2, C1.ok.n3, C1.ok.aw, C1.ok.nd, C1.ok.so, C1.ok.lr, C1.ok.la, ?_, C1.ok.le, C1.ok.ve⟩
        show (D.ss.eraseIdx i).length ≤ 1000
        exact Nat.le_trans (List.length_eraseIdx_le _ _) C1.ok.ls

end
end K51
namespace K51
open PySem PySem.Spec PyProof.Rows L2 He TL EL
section
variable {P : Program} {w : World} {K : PySem.W.Frag} {mg : Str → Option Value} {base : Heap}
/-! Conditions.__len__ -/
def spCdLen (K : PySem.W.Frag) : Sp := fun vs H Q _ => ∃ x dx l as, vs = [.ref x] ∧ CdAt K H x dx l as ∧ Q (.int (as.length : Nat)) H
theorem d_cd_len (T : Txt K mg) : FnR P w K mg base CX0 1 (ma K (ga K "Conditions") "__len__") (spCdLen K) := by
  obtain ⟨fd, F⟩ := T.f_Conditions___len__
  refine fnN F (fun _ _ _ _ _ _ us hl => match us, hl with | [_], _ => rfl) sc_Conditions___len__ (fun vs H Q E h => ?_) (fun cdv A outer s H vs Q E hr h => ?_)
  · obtain ⟨x, dx, l, as, rfl, _⟩ := h
    rfl
  · obtain ⟨x, dx, l, as, rfl, C, q⟩ := h
    obtain ⟨vs, e, a⟩ := C.hl
    refine ⟨_, PSs.nox (pss_one (ps_ret (pe_callB call_len_seq (by rfl) T.z_len (by decide +kernel) (pa_cons (pe_fld (pv 0) rfl) pa_nil)))), ?_⟩
    refine ⟨_, rfl, _, _, _, _, _, rfl, C.hx, T.o_Conditions.cl, T.n_Conditions_kept_atoms, cdF_at, _, _, rfl, .inl (SqL.of e), ?_⟩
    rw [show vs.length = as.length by rw [DpAll.length a, List.length_map]]
    exact q
/-! an item of a stock -/
inductive Itm where
  | odd
  | long
  | pair (d : PyData) (o : Option (List At))
def SnAt (K : PySem.W.Frag) (H : Hp) (v : V) : Option (List At) → Prop
  | some as => ∃ y dy m, v = .ref y ∧ CdAt K H y dy m as ∧ as.length ≤ 1000
  | none => ∃ d, Dp K H v d
def ItmAt (K : PySem.W.Frag) (H : Hp) (v : V) : Itm → Prop
  | .odd => v = .non ∨ ∃ a vs, v = .ref a ∧ SqL K H a vs
  | .long => ∃ a vs, v = .ref a ∧ SqT K H a vs ∧ vs.length ≠ 2
  | .pair d o => ∃ a v0 v1, v = .ref a ∧ SqT K H a [v0, v1] ∧ Dp K H v0 d ∧ SnAt K H v1 o
theorem SnAt.same {H H' : Hp} {v : V} {o : Option (List At)} (s : Same H H') (h : SnAt K H v o) : SnAt K H' v o := by
  cases o with
  | some as =>
    obtain ⟨y, dy, m, e, C, hl⟩ := h
    exact ⟨y, dy, m, e, C.same s, hl⟩
  | none =>
    obtain ⟨d, h⟩ := h
    exact ⟨d, Dp.same s h⟩
theorem ItmAt.same {H H' : Hp} {v : V} {i : Itm} (s : Same H H') (h : ItmAt K H v i) : ItmAt K H' v i := by
  cases i with
  | odd =>
    rcases h with h | ⟨a, vs, e, h⟩
    · exact .inl h
    · exact .inr ⟨a, vs, e, Same.seq s h⟩
  | long =>
    obtain ⟨a, vs, e, h, hl⟩ := h
    exact ⟨a, vs, e, Same.seqT s h, hl⟩
  | pair d o =>
    obtain ⟨a, v0, v1, e, h, h0, h1⟩ := h
    exact ⟨a, v0, v1, e, Same.seqT s h, Dp.same s h0, h1.same s⟩
def colsOf (rs : List Sch) : PyData → Nat
  | .str z => match findS rs z with
    | some s => s.n
    | none => 0
  | _ => 0
def Itm.good (rs : List Sch) : Itm → Bool
  | .pair d (some as) => inS rs d && (decide (as.length = 1) && as.all (At.fits (pn1 (colsOf rs d))))
  | _ => false
def spItem (K : PySem.W.Frag) : Sp := fun vs H Q _ => ∃ x dx dw dl rs v i, vs = [.ref x, v] ∧ ScAt K H x dx dw dl rs ∧ ItmAt K H v i ∧ ∀ H', Same H H' → Q (.bl (i.good rs)) H'
theorem d_item (hP : PF P "/claim/cut.py") (T : Txt K mg) : Dn P w K mg base CX0 4 "is_stock_item" (spItem K) := by
  obtain ⟨fd, F⟩ := T.f_is_stock_item
  have D_in := d_sc_in (P := P) (w := w) (base := base) T
  have D_len := d_cd_len (P := P) (w := w) (base := base) T
  have D_col := d_sc_col (w := w) (base := base) hP T
  have D_are_row_rules := d_rowrules (P := P) (w := w) (base := base) T
  refine dnN T.g_is_stock_item F (fun _ _ _ _ _ _ us hl => match us, hl with | [_, _], _ => rfl) sc_is_stock_item (fun vs H Q E h => ?_) (fun cdv A outer s H vs Q E hr h => ?_)
  · obtain ⟨x, dx, dw, dl, rs, v, i, rfl, _⟩ := h
    rfl
  · obtain ⟨x, dx, dw, dl, rs, v, i, rfl, C, hi, hQ⟩ := h
    refine ⟨_, PSs.nox (pss_cons (ps_if (PW.pt (pw_or (pt_not (pt_val (pe_callB call_isi (by rfl) T.z_isinstance (by decide +kernel) (pa_cons (pv 1) (pa_cons (pe_bltn (v := .ty "tuple") (by rfl) T.z_tuple (by decide +kernel) rfl) pa_nil))))) (pw_or (pt_cmpR op_ne (pe_callB call_len_seq (by rfl) T.z_len (by decide +kernel) (pa_cons (pv 1) pa_nil)) pe_int (nomark _)) (pw_or1 (pt_cmpR (op_notInO T.h_Schema___contains__ D_in (hr.mono (by decide)) pass0) (pe_ix ix_tup (pv 1) pe_int (fun _ _ => rfl)) (pv 0) (by rfl)))))) (pss_one (ps_ret pe_bl)) pss_nil)
      (pss_cons (ps_if (PW.pt (pw_or (pt_not (pt_val (pe_callB call_isi (by rfl) T.z_isinstance (by decide +kernel) (pa_cons (pe_ix ix_tup (pv 1) pe_int (fun _ _ => rfl)) (pa_cons (pe_glob (v := .ref (ga K "Conditions")) (by rfl) T.g_Conditions rfl) pa_nil))))) (pw_or1 (pt_cmpR op_ne (pe_callB (call_lenO T.h_Conditions___len__ D_len (hr.mono (by decide)) pass0) (by rfl) T.z_len (by decide +kernel) (pa_cons (pe_ix ix_tup (pv 1) pe_int (fun _ _ => rfl)) pa_nil)) pe_int (nomark _))))) (pss_one (ps_ret pe_bl)) pss_nil)
      (pss_one (ps_ret (cl D_are_row_rules (hr.mono (by decide)) (pa_cons (pe_ix ix_tup (pv 1) pe_int (fun _ _ => rfl)) (pa_cons (pe_methE (pv 0) T.o_Schema.cl T.h_Schema_columns D_col (hr.mono (by decide)) pxq (pa_cons (pe_ix ix_tup (pv 1) pe_int (fun _ _ => rfl)) pa_nil)) pa_nil))))))), ?_⟩
    cases i with
    | odd =>
      rcases hi with rfl | ⟨a, vs, rfl, hS⟩
      · refine ⟨_, rfl, _, _, _, _, _, rfl, .ty _, Dp.ty .non, kit_d K .tup .none, _, rfl, iteT ?_⟩
        exact hQ H (.refl _)
      · refine ⟨_, rfl, _, _, _, _, _, rfl, .ty _, SqL.ty hS, kit_ty (kit_k .tup .lst), _, rfl, iteT ?_⟩
        exact hQ H (.refl _)
    | long =>
      obtain ⟨a, vs, rfl, hS, hl⟩ := hi
      refine ⟨_, rfl, _, _, _, _, _, rfl, .ty _, SqT.ty hS, kit_ty (kit_k .tup .tup), _, rfl, iteF ?_⟩
      refine ⟨_, rfl, _, _, rfl, .inr hS, rfl, _, rfl, if_pos_of (by rw [decide_eq_false (fun z => hl (by have := V.int.inj z; omega))]; rfl) ?_⟩
      exact hQ H (.refl _)
    | pair d o =>
      obtain ⟨a, v0, v1, rfl, hS, h0, h1⟩ := hi
      refine ⟨_, rfl, _, _, _, _, _, rfl, .ty _, SqT.ty hS, kit_ty (kit_k .tup .tup), _, rfl, iteF ?_⟩
      refine ⟨_, rfl, _, _, rfl, .inr hS, rfl, _, rfl, iteF ?_⟩
      refine ⟨_, rfl, _, _, 0, _, rfl, rfl, hS, atI_nat (j := 0) rfl, _, rfl, _, _, _, rfl, C.hx, ?_⟩
      refine ⟨_, _, _, _, _, _, _, rfl, C, h0, _, rfl, _, rfl, ?_⟩
      cases hin : inS rs d with
      | false =>
        refine iteT ?_
        have e : Itm.good rs (.pair d o) = false := by
          cases o with
          | none => rfl
          | some as => show (inS rs d && _) = false; rw [hin]; rfl
        rw [e] at hQ
        exact hQ H (.refl _)
      | true =>
        refine iteF ?_
        cases o with
        | none =>
          obtain ⟨d1, h1⟩ := h1
          refine ⟨_, rfl, _, _, 1, _, rfl, rfl, hS, atI_nat (j := 1) rfl, _, _, _, _, _, rfl, .own _, Dp.ty h1, T.o_Conditions.isD d1, _, rfl, iteT ?_⟩
          exact hQ H (.refl _)
        | some as =>
          obtain ⟨y, dy, m, rfl, Cy, hal⟩ := h1
          refine ⟨_, rfl, _, _, 1, _, rfl, rfl, hS, atI_nat (j := 1) rfl, _, _, _, _, _, rfl, .own _, T.o_Conditions.ty Cy.hx, T.o_Conditions.self, _, rfl, iteF ?_⟩
          refine ⟨_, rfl, _, _, 1, _, rfl, rfl, hS, atI_nat (j := 1) rfl, _, _, _, rfl, Cy.hx, _, _, _, _, rfl, Cy, _, rfl, ⟨by omega, by omega⟩, rfl, _, rfl, ?_⟩
          obtain ⟨z, sc, rfl, hf⟩ : ∃ z sc, d = .str z ∧ findS rs z = some sc := by
            cases d <;> first | (cases hin; done) | skip
            rename_i z
            have hin : (findS rs z).isSome = true := hin
            obtain ⟨sc, hf⟩ := Option.isSome_iff_exists.mp hin
            exact ⟨z, sc, rfl, hf⟩
          have e : Itm.good rs (.pair (.str z) (some as)) = (decide (as.length = 1) && as.all (At.fits (pn1 sc.n))) := by
            show (inS rs (.str z) && (decide (as.length = 1) && as.all (At.fits (pn1 (colsOf rs (.str z)))))) = _
            rw [hin, show colsOf rs (.str z) = sc.n by show (match findS rs z with | some s => s.n | none => 0) = sc.n; rw [hf]]
            rfl
          rw [e] at hQ
          by_cases h1 : as.length = 1
          · refine if_neg_of (by rw [h1]; rfl) ?_
            refine ⟨_, rfl, _, _, 1, _, rfl, rfl, hS, atI_nat (j := 1) rfl, _, rfl, _, _, _, rfl, C.hx, scF_no (by decide) (by decide), _, rfl, _, _, 0, _, rfl, rfl, hS, atI_nat (j := 0) rfl, x, dx, dw, dl, rs, v0, .str z, rfl, C, h0, fun z' => (by rw [hin] at z'; cases z'), fun z' s' ez hf' => ?_⟩
            cases ez
            rw [hf] at hf'
            cases hf'
            refine ⟨y, dy, m, as, sc.n, rfl, Cy, fun H' s => ?_⟩
            rw [decide_eq_true h1, Bool.true_and] at hQ
            exact hQ H' s
          · refine if_pos_of (by rw [decide_eq_false (fun z => h1 (by have := V.int.inj z; omega))]; rfl) ?_
            rw [decide_eq_false h1, Bool.false_and] at hQ
            exact hQ H (.refl _)
end
end K51
namespace K51
open PySem PySem.Spec PyProof.Rows L2 He TL EL
section
variable {P : Program} {w : World} {K : PySem.W.Frag} {mg : Str → Option Value} {base : Heap}
/-! a stock -/
def StkAt (K : PySem.W.Frag) (H : Hp) (v : V) : Option (List Itm) → Prop
  | none => (∃ t, TyX K H v t ∧ PySem.W.kitOne K t (.type (kdN .lst)) = some false) ∨ ∃ a vs, v = .ref a ∧ SqL K H a vs ∧ 5 < vs.length ∧ vs.length ≤ 1000
  | some l => ∃ a vs, v = .ref a ∧ SqL K H a vs ∧ vs.length = l.length ∧ l.length ≤ 5 ∧ ∀ (i : Nat) (u : V) (it : Itm), vs[i]? = some u → l[i]? = some it → ItmAt K H u it
def lookI (rs : List Sch) : Option (List Itm) → Option Int
  | none => some (-1)
  | some l => (l.findIdx? fun it => !it.good rs).map Int.ofNat
def spLookS (K : PySem.W.Frag) : Sp := fun vs H Q E => ∃ ρ M A v o, vs = [.ref A.q, v] ∧ QuAt K ρ M H A ∧ StkAt K H v o ∧
  (∀ i, lookI A.rs o = some i → ∀ d H', Same H H' → H' d = some (.xd [("index", .int i)]) → E (.ref (ga K "NoStock")) (some d) H') ∧ (lookI A.rs o = none → ∀ H', Same H H' → Q .non H')
theorem d_look_stock (hP : PF P "/claim/cut.py") (T : Txt K mg) : Dn P w K mg base (L2.CX P w) 6 "look_at_stock" (spLookS K) := by
  obtain ⟨fd, F⟩ := T.f_look_at_stock
  have D_schema := d_q_schema (P := P) (w := w) (base := base) T
  have D_is_stock_item := d_item (P := P) (w := w) (base := base) hP T
  refine dnN T.g_look_at_stock F (fun _ _ _ _ _ _ us hl => match us, hl with | [_, _], _ => rfl) sc_look_at_stock (fun vs H Q E h => ?_) (fun cdv A outer s H vs Q E hr h => ?_)
  · obtain ⟨ρ, M, A, v, o, rfl, _⟩ := h
    rfl
  · obtain ⟨ρ, M, B, v, o, rfl, C, hv, hE, hQ⟩ := h
    refine ⟨_, (pss_cons (ps_if (PW.pt (pw_or (pt_not (pt_val (pe_callB call_isi (by rfl) T.z_isinstance (by decide +kernel) (pa_cons (pv 1) (pa_cons (pe_bltn (v := .ty "list") (by rfl) T.z_list (by decide +kernel) rfl) pa_nil))))) (pw_or1 (pt_cmpR op_gt (pe_callB call_len_seq (by rfl) T.z_len (by decide +kernel) (pa_cons (pv 1) pa_nil)) (pe_gv T.g_MOST_STOCK) (nomark _))))) (pss_one (rsx (by rfl) (takes_of rfl rfl rfl rfl) hP T.y_NoStock.1 hr (pa_cons (pe_un un_neg pe_int) pa_nil))) pss_nil)
      (pss_cons (ps_set (i := 2) sc_look_at_stock.nd rfl (.inl rfl) (pe_methE0 (pv 0) T.o_Question.cl T.h_Question_schema D_schema (hr.mono (by decide)) px0))
      (pss_one (ps_for (passes_of rfl) rfl (pi_enum (by rfl) T.z_enumerate (pa_cons (pv 1) pa_nil)) (pg_tup rfl (pgs_cons (pg_name (i := 3) sc_look_at_stock.nd rfl (.inl rfl)) (pgs_cons (pg_name (i := 4) sc_look_at_stock.nd rfl (.inl rfl)) pgs_nil)))
      (pss_one (ps_if (pt_not (pt_val (cl D_is_stock_item (hr.mono (by decide)) (pa_cons (pv 2) (pa_cons (pv 4) pa_nil))))) (pss_one (rsx (by rfl) (takes_of rfl rfl rfl rfl) hP T.y_NoStock.1 hr (pa_cons (pv 3) pa_nil))) pss_nil)))))), ?_⟩
    cases o with
    | none =>
      have bad := hE (-1) rfl
      rcases hv with ⟨t, ty, ki⟩ | ⟨a, vs, rfl, hS, hl, hl2⟩
      · refine ⟨_, rfl, _, _, _, _, _, rfl, .ty _, ty, ki, _, rfl, iteT ?_⟩
        exact ⟨_, rfl, _, rfl, fun dd nd => bad dd _ (same_upd nd) upd_same⟩
      · refine ⟨_, rfl, _, _, _, _, _, rfl, .ty _, SqL.ty hS, kit_ty (kit_k .lst .lst), _, rfl, iteF ?_⟩
        refine ⟨_, rfl, _, _, rfl, .inl hS, _, _, rfl, rfl, _, rfl, if_pos_of (by show decide ((5 : Int) < (vs.length : Nat)) = true; exact decide_eq_true (by omega)) ?_⟩
        exact ⟨_, rfl, _, rfl, fun dd nd => bad dd _ (same_upd nd) upd_same⟩
    | some l =>
      obtain ⟨a, vs, rfl, hS, lv, l5, hI⟩ := hv
      refine ⟨_, rfl, _, _, _, _, _, rfl, .ty _, SqL.ty hS, kit_ty (kit_k .lst .lst), _, rfl, iteF ?_⟩
      refine ⟨_, rfl, _, _, rfl, .inl hS, _, _, rfl, rfl, _, rfl, if_neg_of (by show decide ((5 : Int) < (vs.length : Nat)) = false; exact decide_eq_false (by omega)) ?_⟩
      refine ⟨_, rfl, _, _, _, rfl, C.hq, quF_no (by decide +kernel), ρ, M, B, rfl, C, fun x dx dw dl H1 s1 nx ndw ndl hne S1 => ?_⟩
      refine ⟨_, rfl, a, vs, rfl, s1.seq hS, for_it walk_enum (fun i σ H' => (∃ o3 o4, σ = [some (.ref B.q), some (.ref a), some (.ref x), o3, o4]) ∧ Same H1 H' ∧ ((l.take i).all fun it => it.good B.rs) = true)
        ⟨⟨none, none, rfl⟩, .refl _, rfl⟩ (fun i σ H' _ ⟨_, m, _⟩ => (s1.trans m).seq hS) ?_ ?_⟩
      · rintro i xv σ H2 H3 hi ⟨⟨o3, o4, rfl⟩, m2, hg⟩ ⟨T', y1, y2, rfl, nT, rfl, ey1, ey2⟩
        cases ey1
        refine ⟨T', _, rfl, SqT.of upd_same, rfl, _, _, rfl, _, _, rfl, rfl, ?_⟩
        have sT : Same H2 (upd H2 T' (.tup [.int (i : Nat), y2])) := same_upd nT
        generalize upd H2 T' (.tup [.int (i : Nat), y2]) = H3 at sT ⊢
        have hil : i < l.length := by omega
        have hit : l[i]? = some l[i] := List.getElem?_eq_getElem hil
        generalize l[i] = it at hit
        have m3 := m2.trans sT
        refine ⟨_, rfl, _, rfl, x, dx, dw, dl, B.rs, y2, it, rfl, S1.same m3, (hI i y2 it ey2 hit).same (s1.trans m3), fun H4 s4 => ?_⟩
        cases hgo : it.good B.rs with
        | false =>
          refine ⟨_, rfl, iteT ⟨_, rfl, _, rfl, fun dd nd => ?_⟩⟩
          refine hE (i : Nat) ?_ dd _ (((s1.trans m3).trans s4).trans (same_upd nd)) upd_same
          show Option.map Int.ofNat (l.findIdx? fun it => !it.good B.rs) = _
          rw [show (l.findIdx? fun it => !it.good B.rs) = some i from ?_]
          · rfl
          · rw [List.findIdx?_eq_some_iff_getElem]
            refine ⟨hil, ?_, fun j hj => ?_⟩
            · have := (List.getElem?_eq_some_iff.mp hit).2
              show (!(l[i]).good B.rs) = true
              rw [this, hgo]
              rfl
            · have h1 := List.all_eq_true.mp hg (l[j]'(by omega)) (List.mem_take_iff_getElem.mpr ⟨j, by omega, rfl⟩)
              show ¬ (!(l[j]'(by omega)).good B.rs) = true
              rw [h1]
              decide
        | true =>
          refine ⟨_, rfl, iteF ⟨⟨_, _, rfl⟩, m3.trans s4, ?_⟩⟩
          rw [tk1 hit, List.all_append, hg]
          show (it.good B.rs && true) = true
          rw [hgo]
          rfl
      · rintro σ H2 ⟨⟨o3, o4, rfl⟩, m2, hg⟩
        refine hQ ?_ H2 (s1.trans m2)
        rw [lv, List.take_length] at hg
        show Option.map Int.ofNat (l.findIdx? fun it => !it.good B.rs) = none
        rw [show (l.findIdx? fun it => !it.good B.rs) = none from ?_]
        · rfl
        · rw [List.findIdx?_eq_none_iff]
          intro x hx
          rw [List.all_eq_true.mp hg x hx]
          rfl
end
end K51
namespace K51
open PySem PySem.Spec PyProof.Rows L2 He TL EL
section
variable {P : Program} {w : World} {K : PySem.W.Frag} {mg : Str → Option Value} {base : Heap}
/-! is_chosen -/
def chF (many : Int) : Int → List PyData → Bool
  | _, [] => true
  | least, .int i :: r => (decide (least ≤ i) && decide (i < many)) && chF many (i + 1) r
  | _, _ => false
def chosB (many : Int) : PyData → Bool
  | .tuple ds => chF many 0 ds
  | _ => false
def spChosen (K : PySem.W.Frag) : Sp := fun vs H Q _ => ∃ v d many, vs = [v, .int many] ∧ Dp K H v d ∧ 0 ≤ many ∧ many ≤ 1000 ∧ (∀ ds, d = .tuple ds → ds.length ≤ 100) ∧ ∀ H', Same H H' → Q (.bl (chosB many d)) H'
theorem d_is_chosen (T : Txt K mg) : Dn P w K mg base CX0 3 "is_chosen" (spChosen K) := by
  obtain ⟨fd, F⟩ := T.f_is_chosen
  have D_is_whole := d_is_whole (P := P) (w := w) (base := base) T
  refine dnN T.g_is_chosen F (fun _ _ _ _ _ _ us hl => match us, hl with | [_, _], _ => rfl) sc_is_chosen (fun vs H Q E h => ?_) (fun cdv A outer s H vs Q E hr h => ?_)
  · obtain ⟨v, d, many, rfl, _⟩ := h
    rfl
  · obtain ⟨v, d, many, rfl, hv, m0, m1, hln, hQ⟩ := h
    refine ⟨_, PSs.nox (pss_cons (ps_if (pt_not (pt_val (pe_callB call_isi (by rfl) T.z_isinstance (by decide +kernel) (pa_cons (pv 0) (pa_cons (pe_bltn (v := .ty "tuple") (by rfl) T.z_tuple (by decide +kernel) rfl) pa_nil))))) (pss_one (ps_ret pe_bl)) pss_nil)
      (pss_cons (ps_set (i := 2) sc_is_chosen.nd rfl (.inl rfl) pe_int)
      (pss_cons (ps_for PassesOwn.never rfl (pi_tup (pv 0)) (pg_name (i := 3) sc_is_chosen.nd rfl (.inl rfl))
      (pss_cons (ps_if (PW.pt (pw_or (pt_not (pt_val (cl D_is_whole (hr.mono (by decide)) (pa_cons (pv 3) pa_nil)))) (pw_or1 (pt_not (pt_chain op_le op_lt (pv 2) (pv 3) (pv 1)))))) (pss_one (ps_ret pe_bl)) pss_nil)
      (pss_one (ps_set (i := 2) sc_is_chosen.nd rfl (.inl rfl) (pe_op op_add (pv 3) pe_int)))))
      (pss_one (ps_ret pe_bl))))), ?_⟩
    refine ⟨_, rfl, _, _, _, _, _, rfl, .ty _, Dp.ty hv, kit_d K .tup d, _, rfl, ?_⟩
    by_cases hd : ∃ ds, d = .tuple ds
    · obtain ⟨ds, rfl⟩ := hd
      obtain ⟨a, vs, rfl, hS, hA⟩ : ∃ a vs, v = .ref a ∧ SqT K H a vs ∧ DpAll K H vs ds := by
        cases hv with
        | tup hS hA => exact ⟨_, _, rfl, hS, hA⟩
      have lv : vs.length = ds.length := DpAll.length hA
      refine iteF ?_
      have hln := hln ds rfl
      refine ⟨_, rfl, a, rfl, ⟨_, hS⟩, for_tup (K := K) (a := a) (xs := vs) (fun i σ H' => H' = H ∧ ∃ (ls : Int) (o : Option V), σ = [some (.ref a), some (.int many), some (.int ls), o] ∧ 0 ≤ ls ∧ ls ≤ 1000 ∧ chF many ls (ds.drop i) = chosB many (.tuple ds)) ⟨rfl, 0, none, rfl, by decide, by decide, rfl⟩ (fun i σ H' _ h => by rw [h.1]; exact hS) ?_ ?_⟩
      · rintro i xv σ H' ey ⟨rfl, ls, o, rfl, l0, l1, hch⟩
        obtain ⟨d, hd, hdp⟩ := DpAll.get hA ey
        have hdr : ds.drop i = d :: ds.drop (i + 1) := by
          obtain ⟨hi, e⟩ := List.getElem?_eq_some_iff.mp hd
          rw [List.drop_eq_getElem_cons hi, e]
        rw [hdr] at hch
        refine ⟨_, rfl, xv, .d d, rfl, hdp, _, rfl, ?_⟩
        rw [isWholeT_d]
        by_cases w0 : ∃ k, d = .int k
        · obtain ⟨k, rfl⟩ := w0
          cases hdp
          have hch : ((decide (ls ≤ k) && decide (k < many)) && chF many (k + 1) (ds.drop (i + 1))) = chosB many (.tuple ds) := hch
          refine iteF ?_
          refine ⟨_, rfl, _, rfl, _, _, rfl, rfl, _, rfl, ?_⟩
          cases c1 : decide (ls ≤ k) with
          | false =>
            rw [c1] at hch
            rw [← show false = chosB many (.tuple ds) from hch] at hQ
            exact iteF ⟨_, rfl, iteT (hQ _ (.refl _))⟩
          | true =>
            refine iteT ?_
            refine ⟨_, rfl, _, _, rfl, rfl, _, rfl, ?_⟩
            have h1 := of_decide_eq_true c1
            by_cases c2 : k < many
            · refine if_neg_of (by show (!decide (k < many)) = false; rw [decide_eq_true c2]; rfl) ?_
              refine ⟨_, rfl, _, _, rfl, rfl, rfl, k + 1, _, rfl, by omega, by omega, ?_⟩
              rw [c1, decide_eq_true c2] at hch
              exact hch
            · refine if_pos_of (by show (!decide (k < many)) = true; rw [decide_eq_false c2]; rfl) ?_
              rw [c1, decide_eq_false c2] at hch
              rw [← show false = chosB many (.tuple ds) from hch] at hQ
              exact hQ _ (.refl _)
        · have e2 : isWholeD d = false := by
            cases d <;> first | rfl | exact absurd ⟨_, rfl⟩ w0
          rw [e2]
          have e3 : chF many ls (d :: ds.drop (i + 1)) = false := by
            cases d <;> first | rfl | exact absurd ⟨_, rfl⟩ w0
          rw [e3] at hch
          rw [← hch] at hQ
          exact iteT (hQ _ (.refl _))
      · rintro σ H' ⟨rfl, ls, o, rfl, l0, l1, hch⟩
        rw [lv, List.drop_length] at hch
        rw [← show true = chosB many (.tuple ds) from hch] at hQ
        exact hQ _ (.refl _)
    · have e2 : isTy .tup d = false := by
        cases d <;> first | rfl | exact absurd ⟨_, rfl⟩ hd
      rw [e2]
      refine iteT ?_
      have e3 : chosB many d = false := by
        cases d <;> first | rfl | exact absurd ⟨_, rfl⟩ hd
      rw [e3] at hQ
      exact hQ H (.refl _)
end
end K51
namespace K51
open PySem PySem.Spec PyProof.Rows L2 He TL EL
section
variable {P : Program} {w : World} {K : PySem.W.Frag} {mg : Str → Option Value} {base : Heap}
/-! a new question beside the old ones -/
theorem QuAt.qs {ρ : Addr → Ru} {M : List Addr} {H : Hp} {A : Qa} (h : QuAt K ρ M H A) : A.q ≠ A.st := ne_of h.hq h.hs (by intro z; cases z)
theorem quF_ne_scF {f u s e : V} {a b : Addr} (h : quF f u s e = scF a b) : False := by
  have h1 := congrArg (fun l => l.lookup ("form" : Str)) h
  rw [show (quF f u s e).lookup ("form" : Str) = some f from quF_form, show (scF a b).lookup ("form" : Str) = none from scF_no (by decide) (by decide)] at h1
  cases h1
theorem quF_ne_cdF {f u s e : V} {a : Addr} (h : quF f u s e = cdF a) : False := by
  have h1 := congrArg (fun l => l.lookup ("form" : Str)) h
  rw [show (quF f u s e).lookup ("form" : Str) = some f from quF_form, show (cdF a).lookup ("form" : Str) = none from cdF_no (by decide)] at h1
  cases h1
theorem QuAt.grow {ρ : Addr → Ru} {M : List Addr} {H H' : Hp} {A B : Qa} (h : QuAt K ρ M H' B) (a : QuAt K ρ M H A) (s : Same H H') (nw : QuNew H B) (ers : B.rs = A.rs) (ess : ∀ x ∈ B.ss, x ∈ A.ss) : QuAt K ρ (B.q :: B.st :: M) H' B := by
  obtain ⟨n1, n2, n3, n4, n5⟩ := h.nm
  have o : ∀ {b : Addr}, b ∉ M → b ≠ B.q → b ≠ B.st → b ∉ B.q :: B.st :: M := fun h1 h2 h3 z => (List.mem_cons.mp z).elim h2 fun z => (List.mem_cons.mp z).elim h3 h1
  obtain ⟨vs, e, ae⟩ := h.he
  refine ⟨h.hq, h.sc, h.hw, h.hs, h.he, fun x hx => ⟨((a.hr x (ess x hx)).1.re fun b nb ⟨ob, eb⟩ => o nb (ne_of_none eb nw.1) (ne_of_none eb nw.2)).same s, (h.hr x hx).2⟩, ⟨o n1 (ne_of h.sc.hx h.hq (fun z => quF_ne_scF (HO.ins.inj z).2.2.symm)) (ne_of h.sc.hx h.hs (by intro z; cases z)), o n2 (ne_of h.sc.hw h.hq (by intro z; cases z)) (ne_of h.sc.hw h.hs (by intro z; cases z)), o n3 (ne_of h.sc.hl h.hq (by intro z; cases z)) (ne_of h.sc.hl h.hs (by intro z; cases z)), o n4 (ne_of h.hw h.hq (by intro z; cases z)) (ne_of h.hw h.hs (by intro z; cases z)), o n5 (ne_of e h.hq (by intro z; cases z)) (Ne.symm h.ok.n3)⟩, fun sc hs => ?_, h.ok⟩
  have hs' : sc ∈ A.rs := ers ▸ hs
  have CD := a.sc.hc sc hs'
  obtain ⟨us, eu, _⟩ := CD.hl
  exact ⟨o (h.nc sc hs).1 (ne_of_none CD.hx nw.1) (ne_of_none CD.hx nw.2), o (h.nc sc hs).2 (ne_of_none eu nw.1) (ne_of_none eu nw.2)⟩
theorem fresh2 {H : Hp} {M : List Addr} {a b : Addr} (na : H a = none) (nb : H b = none) : ∀ c, c ∉ M → (∃ o, H c = some o) → c ∉ a :: b :: M := fun c nc ⟨o, e⟩ z => (List.mem_cons.mp z).elim (ne_of_none e na) fun z => (List.mem_cons.mp z).elim (ne_of_none e nb) nc
theorem fresh1 {H : Hp} {M : List Addr} {a : Addr} (na : H a = none) : ∀ c, c ∉ M → (∃ o, H c = some o) → c ∉ a :: M := fun c nc ⟨o, e⟩ z => (List.mem_cons.mp z).elim (ne_of_none e na) nc
theorem Al.cons' {M : List Addr} {H : Hp} {a : Addr} {o : HO} (h : Al M H) (e : H a = some o) : Al (a :: M) H := fun b hb => (List.mem_cons.mp hb).elim (fun z => ⟨o, z ▸ e⟩) (h b)
theorem Md.new1 {H H1 H2 : Hp} {a : Addr} {S : List Addr} (m : Md (a :: S) H1 H2) (s : Same H H1) (n : H a = none) : Md S H H2 := m.newM (Md.of s) n
/-! with_stock -/
abbrev Key3 := Str × Nat × List At
def itI (x : Str × At) : Itm := .pair (.str x.1) (some [x.2])
def narK (ks : List Key3) (x : Str × At) : List Key3 := ks.map fun k => if k.1 = x.1 then (k.1, k.2.1, dd (k.2.2 ++ [x.2])) else k
def nar1 (its : List (Str × At)) (ks : List Key3) (i : Nat) : List Key3 := match its[i]? with
  | some x => narK ks x
  | none => ks
theorem narK_nn (ks : List Key3) (x : Str × At) : (narK ks x).map (fun k => (k.1, k.2.1)) = ks.map fun k => (k.1, k.2.1) := by
  unfold narK
  rw [List.map_map]
  refine List.map_congr_left fun k _ => ?_
  show (fun k : Key3 => (k.1, k.2.1)) (if k.1 = x.1 then _ else _) = _
  by_cases h : k.1 = x.1
  · rw [if_pos h]
  · rw [if_neg h]
theorem nar1_nn (its : List (Str × At)) (ks : List Key3) (i : Nat) : (nar1 its ks i).map (fun k => (k.1, k.2.1)) = ks.map fun k => (k.1, k.2.1) := by
  unfold nar1
  split
  · exact narK_nn _ _
  · rfl
theorem fold_nn (its : List (Str × At)) : ∀ (cs : List Nat) (ks : List Key3), (cs.foldl (nar1 its) ks).map (fun k => (k.1, k.2.1)) = ks.map fun k => (k.1, k.2.1)
  | [], _ => rfl
  | c :: cs, ks => by rw [List.foldl_cons, fold_nn its cs, nar1_nn]
theorem find_nn : ∀ {rs ss : List Sch} {z : Str} {sc : Sch}, (rs.map keyS).map (fun k => (k.1, k.2.1)) = (ss.map keyS).map (fun k => (k.1, k.2.1)) → findS ss z = some sc → ∃ sc', findS rs z = some sc' ∧ sc'.n = sc.n
  | [], [], _, _, _, h => by cases h
  | [], _ :: _, _, _, e, _ => by cases e
  | _ :: _, [], _, _, e, _ => by cases e
  | r :: rs, s :: ss, z, sc, e, h => by
    obtain ⟨e1, e2⟩ := List.cons.inj e
    have e1 : (r.nm, r.n) = (s.nm, s.n) := e1
    obtain ⟨h1, h2⟩ := Prod.mk.inj e1
    have h : List.find? (fun s => decide (s.nm = z)) (s :: ss) = some sc := h
    show ∃ sc', List.find? (fun s => decide (s.nm = z)) (r :: rs) = some sc' ∧ _
    rw [List.find?_cons] at h ⊢
    rw [h1]
    cases q : decide (s.nm = z) with
    | true => rw [q] at h; cases h; exact ⟨r, rfl, h2⟩
    | false => rw [q] at h; exact find_nn e2 h
theorem set_nar {rs : List Sch} {z : Str} {sc : Sch} {q dq l : Addr} {a : At} (nd : (nmS rs).Nodup) (hf : findS rs z = some sc) : (setS rs z q dq l (dd (sc.as ++ [a]))).map keyS = narK (rs.map keyS) (z, a) := by
  unfold setS narK
  rw [List.map_map, List.map_map]
  refine List.map_congr_left fun s hs => ?_
  show keyS (if s.nm = z then _ else s) = if (keyS s).1 = z then _ else keyS s
  by_cases h : s.nm = z
  · have : findS rs s.nm = some s := findS_of nd hs
    rw [h, hf] at this
    cases this
    rw [if_pos h, if_pos (show (keyS sc).1 = z from h)]
    rfl
  · rw [if_neg h, if_neg (show ¬ (keyS s).1 = z from h)]
theorem chF_lt {many : Nat} : ∀ {cs : List Nat} {l : Int}, chF (many : Nat) l (cs.map fun i => PyData.int (i : Nat)) = true → ∀ i ∈ cs, i < many
  | [], _, _, i, hi => by cases hi
  | c :: cs, l, h, i, hi => by
    have h : ((decide (l ≤ ((c : Nat) : Int)) && decide (((c : Nat) : Int) < (many : Nat))) && chF (many : Nat) ((c : Int) + 1) (cs.map fun i => PyData.int (i : Nat))) = true := h
    rw [Bool.and_eq_true, Bool.and_eq_true] at h
    rcases List.mem_cons.mp hi with e | e
    · have := of_decide_eq_true h.1.2
      omega
    · exact chF_lt h.2 i e
theorem dp_ints {H : Hp} : ∀ {cs : List Nat} {vs : List V}, DpAll K H vs (cs.map fun i => PyData.int (i : Nat)) → vs = cs.map fun i => V.int (i : Nat)
  | [], _, h => by cases h; rfl
  | c :: cs, _, h => by
    cases h with
    | cons a b => cases a; rw [dp_ints b]; rfl
theorem dd_le (as : List At) : (dd as).length ≤ as.length := dd_len as
theorem good_it {rs : List Sch} {it : Itm} (h : it.good rs = true) : ∃ x, it = itI x := by
  cases it with
  | odd => cases h
  | long => cases h
  | pair d o =>
    cases o with
    | none => cases h
    | some as =>
      have h : (inS rs d && (decide (as.length = 1) && as.all (At.fits (pn1 (colsOf rs d))))) = true := h
      rw [Bool.and_eq_true, Bool.and_eq_true] at h
      have h1 := of_decide_eq_true h.2.1
      cases d <;> first | (cases h.1; done) | skip
      match as, h1 with
      | [a], _ => exact ⟨(_, a), rfl⟩
theorem good_its {rs : List Sch} : ∀ {l : List Itm}, lookI rs (some l) = none → ∃ its : List (Str × At), l = its.map itI
  | [], _ => ⟨[], rfl⟩
  | it :: l, h => by
    have h : Option.map Int.ofNat ((it :: l).findIdx? fun it => !it.good rs) = none := h
    rw [Option.map_eq_none_iff, List.findIdx?_eq_none_iff] at h
    have h1 := h it (List.mem_cons_self ..)
    obtain ⟨x, rfl⟩ := good_it (rs := rs) (it := it) (by cases q : it.good rs with | true => rfl | false => rw [q] at h1; cases h1)
    obtain ⟨its, rfl⟩ := good_its (rs := rs) (l := l) (by
      show Option.map Int.ofNat (l.findIdx? fun it => !it.good rs) = none
      rw [Option.map_eq_none_iff, List.findIdx?_eq_none_iff]
      exact fun y hy => h y (List.mem_cons_of_mem _ hy))
    exact ⟨x :: its, rfl⟩
theorem good_at {rs : List Sch} {its : List (Str × At)} (h : lookI rs (some (its.map itI)) = none) {x : Str × At} (hx : x ∈ its) : ∃ sc, findS rs x.1 = some sc ∧ [x.2].all (At.fits (pn1 sc.n)) = true := by
  have h : Option.map Int.ofNat ((its.map itI).findIdx? fun it => !it.good rs) = none := h
  rw [Option.map_eq_none_iff, List.findIdx?_eq_none_iff] at h
  have h1 := h _ (List.mem_map_of_mem hx)
  have h2 : (inS rs (.str x.1) && (decide ([x.2].length = 1) && [x.2].all (At.fits (pn1 (colsOf rs (.str x.1)))))) = true := by
    cases q : (inS rs (.str x.1) && (decide ([x.2].length = 1) && [x.2].all (At.fits (pn1 (colsOf rs (.str x.1)))))) with
    | true => rfl
    | false =>
      have h1 : (!(inS rs (.str x.1) && (decide ([x.2].length = 1) && [x.2].all (At.fits (pn1 (colsOf rs (.str x.1))))))) = false := h1
      rw [q] at h1
      cases h1
  rw [Bool.and_eq_true, Bool.and_eq_true] at h2
  have h3 : (findS rs x.1).isSome = true := h2.1
  obtain ⟨sc, hf⟩ := Option.isSome_iff_exists.mp h3
  refine ⟨sc, hf, ?_⟩
  have h4 := h2.2.2
  rw [show colsOf rs (.str x.1) = sc.n by show (match findS rs x.1 with | some s => s.n | none => 0) = sc.n; rw [hf]] at h4
  exact h4
theorem chF_nat {many : Int} : ∀ {ds : List PyData} {l : Int}, 0 ≤ l → chF many l ds = true → ∃ cs : List Nat, ds = cs.map fun i => PyData.int (i : Nat)
  | [], _, _, _ => ⟨[], rfl⟩
  | d :: ds, l, h0, h => by
    cases d <;> first | (cases h; done) | skip
    rename_i k
    have h : ((decide (l ≤ k) && decide (k < many)) && chF many (k + 1) ds) = true := h
    rw [Bool.and_eq_true, Bool.and_eq_true] at h
    have h1 := of_decide_eq_true h.1.1
    obtain ⟨n, rfl⟩ := Int.eq_ofNat_of_zero_le (show 0 ≤ k by omega)
    obtain ⟨cs, rfl⟩ := chF_nat (by omega) h.2
    exact ⟨n :: cs, rfl⟩
theorem nar1_len {its : List (Str × At)} {rs ss : List Sch} {i n : Nat} (h : ∀ s ∈ rs, s.as.length ≤ n) (e : ss.map keyS = nar1 its (rs.map keyS) i) : ∀ s ∈ ss, s.as.length ≤ n + 1 := by
  intro s hs
  have hk : keyS s ∈ nar1 its (rs.map keyS) i := e ▸ List.mem_map_of_mem hs
  have hr : ∀ k ∈ rs.map keyS, k.2.2.length ≤ n := fun k hk => by
    obtain ⟨r, hr, rfl⟩ := List.mem_map.mp hk
    exact h r hr
  unfold nar1 at hk
  show (keyS s).2.2.length ≤ n + 1
  generalize keyS s = k at hk
  split at hk
  · obtain ⟨k0, hk0, rfl⟩ := List.mem_map.mp hk
    have h0 := hr k0 hk0
    split
    · show (dd _).length ≤ _
      refine Nat.le_trans (dd_le _) ?_
      rw [List.length_append]
      exact Nat.succ_le_succ h0
    · omega
  · have := hr k hk
    omega
def spWith (K : PySem.W.Frag) : Sp := fun vs H Q E => ∃ ρ M A v o c d, vs = [.ref A.q, v, c] ∧ QuAt K ρ M H A ∧ Al M H ∧ StkAt K H v o ∧ Dp K H c d ∧ (∀ ds, d = .tuple ds → ds.length ≤ 40) ∧ (∀ s ∈ A.rs, s.as.length ≤ 150) ∧
  (∀ i, lookI A.rs o = some i → ∀ d H', Same H H' → H' d = some (.xd [("index", .int i)]) → E (.ref (ga K "NoStock")) (some d) H') ∧
  (∀ l, lookI A.rs o = none → o = some l → chosB (l.length : Nat) d = false → ∀ d H', Same H H' → H' d = some (.xd [("index", .int (-1))]) → E (.ref (ga K "NoStock")) (some d) H') ∧
  (∀ (its : List (Str × At)) (cs : List Nat), lookI A.rs o = none → o = some (its.map itI) → d = .tuple (cs.map fun i => .int (i : Nat)) → chosB (its.length : Nat) d = true → ∀ B H', Same H H' → QuNew H B → QuAt K ρ (B.q :: B.st :: M) H' B → B.aw = A.aw → B.ss = A.ss → B.es = A.es → B.rs.map keyS = cs.foldl (nar1 its) (A.rs.map keyS) → Q (.ref B.q) H')
theorem d_with (hP : PF P "/claim/cut.py") (T : Txt K mg) : Dn P w K mg base (L2.CX P w) 10 "with_stock" (spWith K) := by
  obtain ⟨fd, F⟩ := T.f_with_stock
  have D_look_at_stock := d_look_stock (P := P) (w := w) (base := base) hP T
  have D_is_chosen := d_is_chosen (P := P) (w := w) (base := base) T
  have D_twin := d_q_twin (P := P) (w := w) (base := base) T
  have D_nar := d_q_narrow (P := P) (w := w) (base := base) hP T
  refine dnN T.g_with_stock F (fun _ _ _ _ _ _ us hl => match us, hl with | [_, _, _], _ => rfl) sc_with_stock (fun vs H Q E h => ?_) (fun cdv A outer s H vs Q E hr h => ?_)
  · obtain ⟨ρ, M, A, v, o, c, d, rfl, _⟩ := h
    rfl
  · obtain ⟨ρ, M, B, v, o, c, d, rfl, C, hM, hv, hc, hln, h150, hE, hE1, hQ⟩ := h
    refine ⟨_, (pss_cons (ps_expr (clx (takes_of rfl rfl rfl rfl) D_look_at_stock (hr.mono (by decide)) (pa_cons (pv 0) (pa_cons (pv 1) pa_nil))))
      (pss_cons (ps_if (pt_not (pt_val (cl D_is_chosen (hr.mono (by decide)) (pa_cons (pv 2) (pa_cons (pe_callB call_len_seq (by rfl) T.z_len (by decide +kernel) (pa_cons (pv 1) pa_nil)) pa_nil))))) (pss_one (rsx (by rfl) (takes_of rfl rfl rfl rfl) hP T.y_NoStock.1 hr (pa_cons (pe_un un_neg pe_int) pa_nil))) pss_nil)
      (pss_cons (ps_set (i := 3) sc_with_stock.nd rfl (.inl rfl) (pe_methE0 (pv 0) T.o_Question.cl T.h_Question_twin D_twin (hr.mono (by decide)) px0))
      (pss_cons (ps_for (passes_of rfl) rfl (pi_tup (pv 2)) (pg_name (i := 4) sc_with_stock.nd rfl (.inl rfl))
      (pss_cons (ps_asg (pe_ix ix_list (pv 1) (pv 4) (fun _ _ => rfl)) (pg_tup rfl (pgs_cons (pg_name (i := 5) sc_with_stock.nd rfl (.inl rfl)) (pgs_cons (pg_name (i := 6) sc_with_stock.nd rfl (.inl rfl)) pgs_nil))))
      (pss_one (ps_expr (pe_methE (pv 3) T.o_Question.cl T.h_Question_narrow D_nar (hr.mono (by decide)) (pxx (takes_of rfl rfl rfl rfl)) (pa_cons (pv 5) (pa_cons (pv 6) pa_nil)))))))
      (pss_one (ps_ret (pv 3))))))), ?_⟩
    refine ⟨_, rfl, _, rfl, ρ, M, B, v, o, rfl, C, hv, fun i hi dd H' s' e => hE i hi dd H' s' e, fun hno H1 s1 => ?_⟩
    cases o with
    | none => cases hno
    | some l =>
      obtain ⟨a, vs, rfl, hS, lv, l5, hI⟩ := hv
      refine ⟨_, rfl, _, rfl, _, _, rfl, .inl (s1.seq hS), c, d, (vs.length : Nat), rfl, Dp.same s1 hc, by omega, by omega, fun ds h => Nat.le_trans (hln ds h) (by decide), fun H2 s2 => ?_⟩
      rw [lv]
      refine ⟨_, rfl, ?_⟩
      cases hch : chosB (l.length : Nat) d with
      | false =>
        refine iteT ⟨_, rfl, _, rfl, fun dd nd => ?_⟩
        exact hE1 l hno rfl hch dd _ ((s1.trans s2).trans (same_upd nd)) upd_same
      | true =>
        refine iteF ?_
        have s12 := s1.trans s2
        refine ⟨_, rfl, _, _, _, rfl, (C.same s12).hq, quF_no (by decide +kernel), ρ, M, B, rfl, C.same s12, fun b hb => (hM b hb).imp fun o e => s12 _ _ e, fun B1 H3 s3 nw ed C3 => ?_⟩
        obtain ⟨its, rfl⟩ := good_its hno
        obtain ⟨ds, rfl⟩ : ∃ ds, d = .tuple ds := by
          cases d <;> first | exact ⟨_, rfl⟩ | cases hch
        obtain ⟨cs, rfl⟩ := chF_nat (by decide) (show chF _ 0 ds = true from hch)
        obtain ⟨ca, us, rfl, hcS, hcA⟩ : ∃ ca us, c = .ref ca ∧ SqT K H ca us ∧ DpAll K H us (cs.map fun i => PyData.int (i : Nat)) := by
          cases hc with
          | tup hS hA => exact ⟨_, _, rfl, hS, hA⟩
        cases dp_ints hcA
        rw [List.length_map] at hch lv l5
        have hlt : ∀ i ∈ cs, i < its.length := chF_lt (show chF (its.length : Nat) 0 _ = true from hch)
        have l40 : cs.length ≤ 40 := by
          have := hln _ rfl
          rwa [List.length_map] at this
        have lcs : (cs.map fun i => V.int (i : Nat)).length = cs.length := List.length_map _
        obtain ⟨er, ea, es, ee⟩ : B1.rs = B.rs ∧ B1.aw = B.aw ∧ B1.ss = B.ss ∧ B1.es = B.es := by
          have := ed
          unfold Qa.data at this
          obtain ⟨h1, h2⟩ := Prod.mk.inj this
          obtain ⟨h2, h3⟩ := Prod.mk.inj h2
          obtain ⟨h3, h4⟩ := Prod.mk.inj h3
          exact ⟨h1, h2, h3, h4⟩
        have G3 := C3.grow (C.same s12) s3 nw er (fun x hx => es ▸ hx)
        have nwH : QuNew H B1 := ⟨s12.free nw.1, s12.free nw.2⟩
        have sAll : ∀ {H'}, Md [B1.q] H3 H' → Same H H' := fun m => s12.trans (Md.newM (S := []) m (Md.of s3) nw.1).same
        refine ⟨_, rfl, ca, rfl, ⟨_, Same.seqT (s12.trans s3) hcS⟩, for_tup (K := K) (a := ca) (xs := cs.map fun i => V.int (i : Nat)) (fun i σ H' => ∃ (o4 o5 o6 : Option V) (D : Qa), σ = [some (.ref B.q), some (.ref a), some (.ref ca), some (.ref D.q), o4, o5, o6] ∧ D.q = B1.q ∧ D.st = B1.st ∧ D.aw = B.aw ∧ D.ss = B.ss ∧ D.es = B.es ∧ QuAt K ρ (B1.q :: B1.st :: M) H' D ∧ Md [B1.q] H3 H' ∧ D.rs.map keyS = (cs.take i).foldl (nar1 its) (B.rs.map keyS) ∧ (∀ s ∈ D.rs, s.as.length ≤ 150 + i))
          ⟨none, none, none, B1, rfl, rfl, rfl, ea, es, ee, G3, .refl _ _, (by rw [er]; rfl), fun s hs => h150 s (er ▸ hs)⟩ (fun i σ H' _ ⟨_, _, _, _, _, _, _, _, _, _, _, m, _⟩ => Same.seqT (sAll m) hcS) ?_ ?_⟩
        · rintro i xv σ H' ey ⟨o4, o5, o6, D, rfl, eq, est, eaw, ess, ees, GD, m, hk, hl⟩
          obtain ⟨k, hk0, rfl⟩ := getM ey
          have hkm := hlt k (List.mem_of_getElem? hk0)
          have sH := sAll m
          have hx : its[k]? = some its[k] := List.getElem?_eq_getElem hkm
          generalize its[k] = x at hx
          have hu : vs[k]? = some (vs[k]'(by omega)) := List.getElem?_eq_getElem (by omega)
          generalize vs[k]'(by omega) = u at hu
          obtain ⟨tp, v0, v1, rfl, hT, hd0, y, dy, mm, rfl, Cy, _⟩ := hI k u (itI x) hu (by rw [List.getElem?_map, hx]; rfl)
          cases hd0
          refine ⟨_, rfl, _, rfl, _, _, (k : Nat), _, rfl, rfl, sH.seq hS, atI_nat hu, ?_⟩
          refine ⟨tp, _, rfl, Same.seqT sH hT, rfl, _, _, rfl, _, _, rfl, rfl, ?_⟩
          obtain ⟨sc, hf, hfit⟩ := good_at hno (List.mem_of_getElem? hx)
          obtain ⟨sc', hf', en⟩ := find_nn (show (D.rs.map keyS).map (fun k => (k.1, k.2.1)) = (B.rs.map keyS).map (fun k => (k.1, k.2.1)) by rw [hk, fold_nn]) hf
          have hs' := (findS_mem hf').1
          have hi40 : i < cs.length := (List.getElem?_eq_some_iff.mp hk0).1
          have al : EL.Al (B1.q :: B1.st :: M) H' := fun b hb => by
            rcases List.mem_cons.mp hb with e | hb
            · exact ⟨_, e ▸ eq ▸ GD.hq⟩
            · rcases List.mem_cons.mp hb with e | hb
              · exact ⟨_, e ▸ est ▸ GD.hs⟩
              · exact (hM b hb).imp fun o e => sH _ _ e
          have hset : ∀ {q dq l : Addr}, (setS D.rs x.1 q dq l (dd (sc'.as ++ [x.2]))).map keyS = nar1 its (D.rs.map keyS) k := fun {q dq l} => by
            rw [set_nar GD.ok.nd hf']
            unfold nar1
            rw [hx]
          refine ⟨_, rfl, _, _, _, rfl, GD.hq, quF_no (by decide +kernel), _, rfl, _, rfl, ρ, _, D, x.1, sc', y, dy, mm, [x.2], rfl, GD, Cy.same sH, hf', en ▸ hfit, (by show 1 ≤ 100; decide), Nat.le_trans (hl _ hs') (by omega), al, by rw [eq]; exact List.mem_cons_self .., GD.qs, fun f df dw dl q dq l H5 m5 C5 => ?_⟩
          refine ⟨_, _, _, { D with f := f, df := df, dw := dw, dl := dl, rs := setS D.rs x.1 q dq l (dd (sc'.as ++ [x.2])) }, rfl, eq, est, eaw, ess, ees, C5, m.trans (eq ▸ m5), ?_, nar1_len hl hset⟩
          show (setS D.rs x.1 q dq l (dd (sc'.as ++ [x.2]))).map keyS = _
          rw [hset, hk, tk1 hk0, List.foldl_append]
          rfl
        · rintro σ H' ⟨o4, o5, o6, D, rfl, eq, est, eaw, ess, ees, GD, m, hk, hl⟩
          rw [lcs, List.take_length] at hk
          refine ⟨_, rfl, hQ its cs hno rfl rfl hch D H' (sAll m) ⟨eq ▸ nwH.1, est ▸ nwH.2⟩ (by rw [eq, est]; exact GD) eaw ess ees hk⟩
end
end K51
namespace K51
open PySem PySem.Spec PyProof.Rows L2 He TL EL
section
variable {P : Program} {w : World} {K : PySem.W.Frag} {mg : Str → Option Value} {base : Heap}
theorem src_md {H H' : Hp} {p l : Addr} (S : Src H p l) (b : But p H H') : Md [p] H H' := by
  obtain ⟨xs, e⟩ := S.lst
  exact b.md e rfl
theorem src_ne {H : Hp} {p l b : Addr} (S : Src H p l) (n : H b = none) : b ≠ p := fun z => by
  obtain ⟨xs, e⟩ := S.lst
  rw [z, e] at n
  cases n
theorem nl_tm (t : Tm) : noL t.d = true := by cases t <;> rfl
theorem nl_at (a : At) : noL a.d = true := by
  show (true && (noL a.l.d && (noL a.r.d && true))) = true
  rw [nl_tm, nl_tm]
  rfl
theorem nl_ats : ∀ as : List At, noLs (as.map At.d) = true
  | [] => rfl
  | a :: as => by show (noL a.d && noLs (as.map At.d)) = true; rw [nl_at, nl_ats as]; rfl
theorem sg_at {k : Int} (h0 : 0 ≤ k) (h1 : k < 4) : ∃ s : Sg, atI [V.str "<", V.str "<=", V.str "=", V.str "!="] k = some (.str s.s) := by
  have : k = 0 ∨ k = 1 ∨ k = 2 ∨ k = 3 := by omega
  rcases this with rfl | rfl | rfl | rfl
  · exact ⟨.lt, rfl⟩
  · exact ⟨.le, rfl⟩
  · exact ⟨.eq, rfl⟩
  · exact ⟨.ne, rfl⟩
/-! _law_atom -/
theorem vl_s {a : Int} (h0 : 0 ≤ a) (h1 : a < 3) : Vl (a, 1) := by
  have : a = 0 ∨ a = 1 ∨ a = 2 := by omega
  rcases this with rfl | rfl | rfl <;> exact ⟨⟨by decide, by decide⟩, by decide, by decide⟩
def spAtom (K : PySem.W.Frag) : Sp := fun vs H Q _ => ∃ (p l : Addr) (n : Nat), vs = [.ref p, .int (n : Nat)] ∧ 1 ≤ n ∧ n ≤ 3 ∧ Src H p l ∧ ∀ v a H', Md [p] H H' → Src H' p l → Dp K H' v (At.d a) → At.ok a → At.fits (pn1 n) a = true → Q v H'
theorem d_atom (T : Txt K mg) : Dn P w K mg base CX0 3 "_law_atom" (spAtom K) := by
  obtain ⟨fd, F⟩ := T.f__law_atom
  have D__law_draw := d_draw (P := P) (w := w) (base := base) T
  refine dnN T.g__law_atom F (fun _ _ _ _ _ _ us hl => match us, hl with | [_, _], _ => rfl) sc__law_atom (fun vs H Q E h => ?_) (fun cdv A outer s H vs Q E hr h => ?_)
  · obtain ⟨p, l, c, rfl, _⟩ := h
    rfl
  · obtain ⟨p, l, n, rfl, n1, n3, S, hQ⟩ := h
    refine ⟨_, PSs.nox (pss_cons (ps_set (i := 2) sc__law_atom.nd rfl (.inl rfl) (pe_ix ix_list (pe_lst (pa_cons pe_str (pa_cons pe_str (pa_cons pe_str (pa_cons pe_str pa_nil))))) (cl D__law_draw (hr.mono (by decide)) (pa_cons (pv 0) (pa_cons pe_int pa_nil))) (fun _ _ => rfl)))
      (pss_cons (ps_set (i := 3) sc__law_atom.nd rfl (.inl rfl) (pe_tup (pa_cons pe_str (pa_cons (cl D__law_draw (hr.mono (by decide)) (pa_cons (pv 0) (pa_cons (pv 1) pa_nil))) pa_nil))))
      (pss_cons (ps_if (pt_cmpR op_eq (cl D__law_draw (hr.mono (by decide)) (pa_cons (pv 0) (pa_cons pe_int pa_nil))) pe_int (nomark _)) (pss_one (ps_ret (pe_tup (pa_cons (pv 2) (pa_cons (pv 3) (pa_cons (pe_tup (pa_cons pe_str (pa_cons (cl D__law_draw (hr.mono (by decide)) (pa_cons (pv 0) (pa_cons (pv 1) pa_nil))) pa_nil))) pa_nil)))))) pss_nil)
      (pss_one (ps_ret (pe_tup (pa_cons (pv 2) (pa_cons (pv 3) (pa_cons (pe_tup (pa_cons pe_str (pa_cons (pe_tup (pa_cons (cl D__law_draw (hr.mono (by decide)) (pa_cons (pv 0) (pa_cons pe_int pa_nil))) (pa_cons pe_int pa_nil))) pa_nil))) pa_nil))))))))), ?_⟩
    refine ⟨(by show 4 ≤ sizeLine; decide), fun q nq => ?_⟩
    have nqp := src_ne S nq
    generalize eH1 : upd H q _ = H1
    have s1 : Same H H1 := eH1 ▸ same_upd nq
    have u1 : H1 q = some _ := eH1 ▸ upd_same
    refine ⟨_, rfl, p, l, 4, rfl, by decide, by decide, S.same s1, fun k H2 k0 k1 S2 b2 => ?_⟩
    obtain ⟨sg, hsg⟩ := sg_at k0 k1
    refine ⟨q, _, k, _, rfl, rfl, SqL.of ((src_md (S.same s1) b2).out _ _ u1 (not1 nqp)), hsg, ?_⟩
    have m02 : Md [p] H H2 := (Md.of s1).trans (src_md (S.same s1) b2)
    refine ⟨_, rfl, _, rfl, p, l, n, rfl, by omega, by omega, S2, fun c1 H3 c10 c11 S3 b3 => ?_⟩
    refine ⟨(by show 2 ≤ sizeLine; decide), fun t1 nt1 => ?_⟩
    generalize eH4 : upd H3 t1 _ = H4
    have s4 : Same H3 H4 := eH4 ▸ same_upd nt1
    have u4 : H4 t1 = some _ := eH4 ▸ upd_same
    have m04 : Md [p] H H4 := m02.trans ((src_md S2 b3).trans (Md.of s4))
    refine ⟨_, rfl, p, l, 2, rfl, by decide, by decide, S3.same s4, fun z H5 z0 z1 S5 b5 => ?_⟩
    have m05 : Md [p] H H5 := m04.trans (src_md (S3.same s4) b5)
    have nt1p := src_ne S3 nt1
    have u5 := (src_md (S3.same s4) b5).out _ _ u4 (not1 nt1p)
    obtain ⟨j, rfl⟩ := Int.eq_ofNat_of_zero_le c10
    have hj : decide (j < n) = true := decide_eq_true (by omega)
    refine ⟨rfl, _, rfl, ie (fun h => ?_) (fun h => ?_)⟩
    · refine ⟨_, rfl, _, rfl, _, rfl, _, rfl, p, l, n, rfl, by omega, by omega, S5, fun c2 H6 c20 c21 S6 b6 => ?_⟩
      refine ⟨(by show 2 ≤ sizeLine; decide), fun t2 nt2 => ?_⟩
      generalize eH7 : upd H6 t2 _ = H7
      have s7 : Same H6 H7 := eH7 ▸ same_upd nt2
      have u7 : H7 t2 = some _ := eH7 ▸ upd_same
      refine ⟨(by show 3 ≤ sizeLine; decide), fun t3 nt3 => ?_⟩
      generalize eH8 : upd H7 t3 _ = H8
      have s8 : Same H7 H8 := eH8 ▸ same_upd nt3
      have u8 : H8 t3 = some _ := eH8 ▸ upd_same
      obtain ⟨j2, rfl⟩ := Int.eq_ofNat_of_zero_le c20
      have hj2 : decide (j2 < n) = true := decide_eq_true (by omega)
      have m58 : Md [p] H5 H8 := (src_md S5 b6).trans ((Md.of s7).trans (Md.of s8))
      refine hQ (.ref t3) ⟨sg, .cell .first j, .cell .first j2⟩ H8 (m05.trans m58) ((S6.same s7).same s8) (.tup (SqT.of u8) (.cons (.str _) (.cons (.tup (SqT.of (m58.out _ _ u5 (not1 nt1p))) (.cons (.str _) (.cons (.int _) .nil))) (.cons (.tup (SqT.of (s8 _ _ u7)) (.cons (.str _) (.cons (.int _) .nil))) .nil)))) ⟨by show j < 3; omega, by show j2 < 3; omega⟩ ?_
      show (decide (j < n) && decide (j2 < n)) = true
      rw [hj, hj2]
      rfl
    · refine ⟨_, rfl, _, rfl, _, rfl, p, l, 3, rfl, by decide, by decide, S5, fun c2 H6 c20 c21 S6 b6 => ?_⟩
      refine ⟨(by show 2 ≤ sizeLine; decide), fun t2 nt2 => ?_⟩
      generalize eH7 : upd H6 t2 _ = H7
      have s7 : Same H6 H7 := eH7 ▸ same_upd nt2
      have u7 : H7 t2 = some _ := eH7 ▸ upd_same
      refine ⟨(by show 2 ≤ sizeLine; decide), fun t3 nt3 => ?_⟩
      generalize eH8 : upd H7 t3 _ = H8
      have s8 : Same H7 H8 := eH8 ▸ same_upd nt3
      have u8 : H8 t3 = some _ := eH8 ▸ upd_same
      refine ⟨(by show 3 ≤ sizeLine; decide), fun t4 nt4 => ?_⟩
      generalize eH9 : upd H8 t4 _ = H9
      have s9 : Same H8 H9 := eH9 ▸ same_upd nt4
      have u9 : H9 t4 = some _ := eH9 ▸ upd_same
      have m59 : Md [p] H5 H9 := (src_md S5 b6).trans ((Md.of s7).trans ((Md.of s8).trans (Md.of s9)))
      refine hQ (.ref t4) ⟨sg, .cell .first j, .val c2 1⟩ H9 (m05.trans m59) (((S6.same s7).same s8).same s9) (.tup (SqT.of u9) (.cons (.str _) (.cons (.tup (SqT.of (m59.out _ _ u5 (not1 nt1p))) (.cons (.str _) (.cons (.int _) .nil))) (.cons (.tup (SqT.of (s9 _ _ u8)) (.cons (.str _) (.cons (.tup (SqT.of (s9 _ _ (s8 _ _ u7))) (.cons (.int _) (.cons (.int _) .nil))) .nil))) .nil)))) ⟨by show j < 3; omega, vl_s c20 c21⟩ ?_
      show (decide (j < n) && true) = true
      rw [hj]
      rfl
end
end K51
namespace K51
open PySem PySem.Spec PyProof.Rows L2 He TL EL
section
variable {P : Program} {w : World} {K : PySem.W.Frag} {mg : Str → Option Value} {base : Heap}
/-! _law_rules -/
def spRulesL (K : PySem.W.Frag) : Sp := fun vs H Q _ => ∃ (p l : Addr) (n : Nat), vs = [.ref p, .int (n : Nat)] ∧ 1 ≤ n ∧ n ≤ 3 ∧ Src H p l ∧
  ∀ (L : Addr) (ws : List V) (as : List At) H', Md [p] H H' → Src H' p l → H L = none → H' L = some (.lst ws) → DpAll K H' ws (as.map At.d) → as.Nodup → (∀ a ∈ as, At.ok a) → as.all (At.fits (pn1 n)) = true → as.length ≤ 2 → Q (.ref L) H'
theorem d_rulesL (T : Txt K mg) : Dn P w K mg base CX0 4 "_law_rules" (spRulesL K) := by
  obtain ⟨fd, F⟩ := T.f__law_rules
  have D__law_draw := d_draw (P := P) (w := w) (base := base) T
  have D__law_atom := d_atom (P := P) (w := w) (base := base) T
  refine dnN T.g__law_rules F (fun _ _ _ _ _ _ us hl => match us, hl with | [_, _], _ => rfl) sc__law_rules (fun vs H Q E h => ?_) (fun cdv A outer s H vs Q E hr h => ?_)
  · obtain ⟨p, l, n, rfl, _⟩ := h
    rfl
  · obtain ⟨p, l, n, rfl, n1, n3, S, hQ⟩ := h
    refine ⟨_, PSs.nox (pss_cons (ps_set (i := 2) sc__law_rules.nd rfl (.inl rfl) (pe_lst pa_nil))
      (pss_cons (ps_for PassesOwn.never rfl (pi_range1 (by rfl) T.z_range (pa_cons (cl D__law_draw (hr.mono (by decide)) (pa_cons (pv 0) (pa_cons pe_int pa_nil))) pa_nil)) (pg_name (i := 3) sc__law_rules.nd rfl (.inl rfl))
      (pss_cons (ps_set (i := 4) sc__law_rules.nd rfl (.inl rfl) (cl D__law_atom (hr.mono (by decide)) (pa_cons (pv 0) (pa_cons (pv 1) pa_nil))))
      (pss_one (ps_if (pt_cmpR (op_notInD (u65 hr)) (pv 4) (pv 2) (by rfl)) (pss_one (ps_expr (pe_bm PySem.F.plainAttrs_list PySem.F.slot_list_append PySem.F.type_list_append mt_append (pv 2) (pa_cons (pv 4) pa_nil)))) pss_nil))))
      (pss_one (ps_ret (pv 2))))), ?_⟩
    refine ⟨(by show 0 ≤ sizeLine; decide), fun L nL => ?_⟩
    have nLp := src_ne S nL
    have nLl : l ≠ L := fun z => by obtain ⟨xs, e⟩ := S.lst2; rw [z, nL] at e; cases e
    generalize eH1 : upd H L _ = H1
    have s1 : Same H H1 := eH1 ▸ same_upd nL
    have u1 : H1 L = some _ := eH1 ▸ upd_same
    refine ⟨_, rfl, p, l, 3, rfl, by decide, by decide, S.same s1, fun m H2 m0 m1 S2 b2 => ?_⟩
    have m12 : Md [p] H1 H2 := src_md (S.same s1) b2
    refine ⟨m, rfl, by omega, by omega, for_range (n := m.toNat) (fun i σ H' => ∃ (ws : List V) (as : List At) (p3 p4 : Option V), σ = [some (.ref p), some (.int (n : Nat)), some (.ref L), p3, p4] ∧ Md [L, p] H1 H' ∧ Src H' p l ∧ H' L = some (.lst ws) ∧ DpAll K H' ws (as.map At.d) ∧ as.Nodup ∧ (∀ a ∈ as, At.ok a) ∧ as.all (At.fits (pn1 n)) = true ∧ as.length ≤ i)
      ⟨[], [], none, none, rfl, m12.mono (by simp), S2, m12.out _ _ u1 (not1 nLp), .nil, List.nodup_nil, fun a h => (by cases h), rfl, Nat.le_refl _⟩ ?_ ?_⟩
    · rintro i σ H3 hi ⟨ws, as, p3, p4, rfl, m3, S3, eL, dL, nd, hok, hfi, lA⟩
      refine ⟨_, rfl, _, rfl, p, l, n, rfl, n1, n3, S3, fun v a H4 m4 S4 d4 ok4 fi4 => ?_⟩
      have eL4 := m4.out _ _ eL (not1 nLp)
      have dL4 := m4.dpAll (nl_ats as) dL
      have m34 : Md [L, p] H1 H4 := m3.trans (m4.mono (by simp))
      refine ⟨_, rfl, _, rfl, a.d, _, d4, .lst (SqL.of eL4) dL4, (At.pd a).shaped, (pds_at _).shaped, _, rfl, ie (fun c => ?_) (fun c => ?_)⟩
      · have c' : ((as.map At.d).any fun z => PyData.eqv z a.d) = false := by
          cases hb : ((as.map At.d).any fun z => PyData.eqv z a.d) with
          | false => rfl
          | true => rw [hb] at c; cases c
        rw [any_eqv] at c'
        have hna : a ∉ as := fun h => by
          rw [List.any_eq_true.mpr ⟨a, h, decide_eq_true rfl⟩] at c'
          cases c'
        refine ⟨_, rfl, .inl ⟨rfl, _, SqL.of eL4⟩, _, rfl, L, _, _, rfl, rfl, eL4, ?_, ?_⟩
        · rw [DpAll.length dL, List.length_map]
          exact Nat.lt_of_le_of_lt (show as.length ≤ 10 by omega) (by decide)
        · have mu : ∀ {S : List Addr}, L ∈ S → Md S H4 (upd H4 L (.lst (ws ++ [v]))) := fun h => Md.upd eL4 rfl h
          refine ⟨ws ++ [v], as ++ [a], _, _, rfl, m34.trans (mu (by simp)), Src.md S4 (mu (S := [L]) (by simp)) (not1 nLp.symm) (not1 nLl), upd_same, ?_, ?_, fun b hb => ?_, ?_, by rw [List.length_append]; exact Nat.succ_le_succ lA⟩
          · rw [List.map_append]
            exact DpAll.snoc ((mu (S := [L]) (by simp)).dp (nl_at _) d4) ((mu (S := [L]) (by simp)).dpAll (nl_ats as) dL4)
          · exact List.nodup_append.mpr ⟨nd, by simp, fun x hx y hy e => by cases List.mem_singleton.mp hy; exact hna (e ▸ hx)⟩
          · rcases List.mem_append.mp hb with h | h
            · exact hok b h
            · cases List.mem_singleton.mp h
              exact ok4
          · rw [List.all_append, hfi]
            show (At.fits (pn1 n) a && true) = true
            rw [fi4]
            rfl
      · exact ⟨ws, as, _, _, rfl, m34, S4, eL4, dL4, nd, hok, hfi, by omega⟩
    · rintro σ H3 ⟨ws, as, p3, p4, rfl, m3, S3, eL, dL, nd, hok, hfi, lA⟩
      exact ⟨_, rfl, hQ L ws as H3 (Md.newM m3 (Md.of s1) nL) S3 nL eL dL nd hok hfi (by omega)⟩
end
end K51
namespace K51
open PySem PySem.Spec PyProof.Rows L2 He TL EL
section
variable {P : Program} {w : World} {K : PySem.W.Frag} {mg : Str → Option Value} {base : Heap}
/-! the forms -/
structure FoE (K : PySem.W.Frag) (S : List Addr) (H : Hp) (v : V) (f : Key3) : Prop where
  ex : ∃ t L ws, v = .ref t ∧ SqT K H t [.str f.1, .int (f.2.1 : Nat), .ref L] ∧ H L = some (.lst ws) ∧ L ∉ S ∧ DpAll K H ws (f.2.2.map At.d)
theorem FoE.md {S S' : List Addr} {H H' : Hp} {v : V} {f : Key3} (h : FoE K S H v f) (m : Md S' H H') (hs : ∀ b ∈ S', b ∈ S) : FoE K S H' v f := by
  obtain ⟨t, L, ws, e, hT, hL, nL, dL⟩ := h.ex
  exact ⟨t, L, ws, e, m.sqT hT, m.out _ _ hL (fun z => nL (hs _ z)), nL, m.dpAll (nl_ats _) dL⟩
theorem FoE.re {S S' : List Addr} {H : Hp} {v : V} {f : Key3} (h : FoE K S H v f) (hm : ∀ b, b ∉ S → (∃ o, H b = some o) → b ∉ S') : FoE K S' H v f := by
  obtain ⟨t, L, ws, e, hT, hL, nL, dL⟩ := h.ex
  exact ⟨t, L, ws, e, hT, hL, hm _ nL ⟨_, hL⟩, dL⟩
structure FoAt (K : PySem.W.Frag) (S : List Addr) (H : Hp) (fo : Addr) (fs : List Key3) : Prop where
  nS : fo ∉ S
  ex : ∃ vs, H fo = some (.lst vs) ∧ vs.length = fs.length ∧ ∀ (i : Nat) v f, vs[i]? = some v → fs[i]? = some f → FoE K S H v f
theorem FoAt.md {S S' : List Addr} {H H' : Hp} {fo : Addr} {fs : List Key3} (h : FoAt K S H fo fs) (m : Md S' H H') (hs : ∀ b ∈ S', b ∈ S) : FoAt K S H' fo fs := by
  obtain ⟨vs, e, hl, hf⟩ := h.ex
  exact ⟨h.nS, vs, m.out _ _ e (fun z => h.nS (hs _ z)), hl, fun i v f h1 h2 => (hf i v f h1 h2).md m hs⟩
theorem FoAt.same {S : List Addr} {H H' : Hp} {fo : Addr} {fs : List Key3} (h : FoAt K S H fo fs) (s : Same H H') : FoAt K S H' fo fs := h.md (.of (S := []) s) (by simp)
theorem FoAt.re {S S' : List Addr} {H : Hp} {fo : Addr} {fs : List Key3} (h : FoAt K S H fo fs) (hm : ∀ b, b ∉ S → (∃ o, H b = some o) → b ∉ S') : FoAt K S' H fo fs := by
  obtain ⟨vs, e, hl, hf⟩ := h.ex
  exact ⟨hm _ h.nS ⟨_, e⟩, vs, e, hl, fun i v f h1 h2 => (hf i v f h1 h2).re hm⟩
theorem FoAt.get {S : List Addr} {H : Hp} {fo : Addr} {fs : List Key3} (h : FoAt K S H fo fs) {i : Nat} {f : Key3} (hf : fs[i]? = some f) : ∃ vs t L ws, H fo = some (.lst vs) ∧ vs[i]? = some (.ref t) ∧ SqT K H t [.str f.1, .int (f.2.1 : Nat), .ref L] ∧ H L = some (.lst ws) ∧ L ∉ S ∧ DpAll K H ws (f.2.2.map At.d) := by
  obtain ⟨vs, e, hl, hx⟩ := h.ex
  have hi : i < vs.length := by rw [hl]; exact (List.getElem?_eq_some_iff.mp hf).1
  have hv : vs[i]? = some vs[i] := List.getElem?_eq_getElem hi
  generalize vs[i] = v at hv
  obtain ⟨t, L, ws, rfl, hT, hL, nL, dL⟩ := (hx i v f hv hf).ex
  exact ⟨vs, t, L, ws, e, hv, hT, hL, nL, dL⟩
structure FsOk (fs : List Key3) : Prop where
  nm : fs.map Prod.fst = [("t" : Str), ("u" : Str)]
  n1 : ∀ f ∈ fs, 1 ≤ f.2.1
  n3 : ∀ f ∈ fs, f.2.1 ≤ 3
  nd : ∀ f ∈ fs, f.2.2.Nodup
  ok : ∀ f ∈ fs, ∀ a ∈ f.2.2, At.ok a
  fi : ∀ f ∈ fs, f.2.2.all (At.fits (pn1 f.2.1)) = true
  le : ∀ f ∈ fs, f.2.2.length ≤ 2
theorem FsOk.len {fs : List Key3} (h : FsOk fs) : fs.length = 2 := by
  have := congrArg List.length h.nm
  rwa [List.length_map] at this
/-! _law_item -/
def itD (x : Str × At) : PyData := .tuple [.str x.1, x.2.d]
def ItOk (fs : List Key3) (x : Str × At) : Prop := At.ok x.2 ∧ ∃ f ∈ fs, f.1 = x.1 ∧ At.fits (pn1 f.2.1) x.2 = true
def spItemL (K : PySem.W.Frag) : Sp := fun vs H Q _ => ∃ (p l fo : Addr) (S : List Addr) (fs : List Key3), vs = [.ref p, .ref fo] ∧ Src H p l ∧ p ∈ S ∧ FoAt K S H fo fs ∧ FsOk fs ∧
  ∀ q x H', Md [p] H H' → Src H' p l → Dp K H' (.ref q) (itD x) → ItOk fs x → Q (.ref q) H'
theorem d_itemL (T : Txt K mg) : Dn P w K mg base CX0 4 "_law_item" (spItemL K) := by
  obtain ⟨fd, F⟩ := T.f__law_item
  have D__law_draw := d_draw (P := P) (w := w) (base := base) T
  have D__law_atom := d_atom (P := P) (w := w) (base := base) T
  refine dnN T.g__law_item F (fun _ _ _ _ _ _ us hl => match us, hl with | [_, _], _ => rfl) sc__law_item (fun vs H Q E h => ?_) (fun cdv A outer s H vs Q E hr h => ?_)
  · obtain ⟨p, l, fo, S, fs, rfl, _⟩ := h
    rfl
  · obtain ⟨p, l, fo, S, fs, rfl, Sr, hpS, FO, ok, hQ⟩ := h
    refine ⟨_, PSs.nox (pss_cons (ps_set (i := 2) sc__law_item.nd rfl (.inl rfl) (cl D__law_draw (hr.mono (by decide)) (pa_cons (pv 0) (pa_cons pe_int pa_nil))))
      (pss_cons (ps_set (i := 3) sc__law_item.nd rfl (.inl rfl) (cl D__law_atom (hr.mono (by decide)) (pa_cons (pv 0) (pa_cons (pe_ix ix_tup (pe_ix ix_list (pv 1) (pv 2) (fun _ _ => rfl)) pe_int (fun _ _ => rfl)) pa_nil))))
      (pss_mid (ps_if (PW.pt (pw_and (pt_cmpR (op_neD hr.units) (pe_ix ix_tup (pe_ix ix_list (pv 1) (pv 2) (fun _ _ => rfl)) pe_int (fun _ _ => rfl)) (pe_lst pa_nil) (nomark _)) (pw_and1 (pt_cmpR op_eq (cl D__law_draw (hr.mono (by decide)) (pa_cons (pv 0) (pa_cons pe_int pa_nil))) pe_int (nomark _))))) (pss_one (ps_set (i := 3) sc__law_item.nd rfl (.inl rfl) (pe_ix ix_list (pe_ix ix_tup (pe_ix ix_list (pv 1) (pv 2) (fun _ _ => rfl)) pe_int (fun _ _ => rfl)) pe_int (fun _ _ => rfl)))) pss_nil)
      (pss_one (ps_ret (pe_tup (pa_cons (pe_ix ix_tup (pe_ix ix_list (pv 1) (pv 2) (fun _ _ => rfl)) pe_int (fun _ _ => rfl)) (pa_cons (pv 3) pa_nil)))))))), ?_⟩
    have sub : ∀ b ∈ [p], b ∈ S := fun b hb => by rw [List.mem_singleton.mp hb]; exact hpS
    refine ⟨_, rfl, p, l, 2, rfl, by decide, by decide, Sr, fun k H1 k0 k1 S1 b1 => ?_⟩
    obtain ⟨k, rfl⟩ := Int.eq_ofNat_of_zero_le k0
    have m01 : Md [p] H H1 := src_md Sr b1
    have FO1 := FO.md m01 sub
    have hkl : k < fs.length := by rw [ok.len]; omega
    have hf : fs[k]? = some fs[k] := List.getElem?_eq_getElem hkl
    generalize fs[k] = f at hf
    have hfm := List.mem_of_getElem? hf
    obtain ⟨us, t, L, ws, e1, ht1, hT1, hL1, nLS, dL1⟩ := FO1.get hf
    refine ⟨_, rfl, _, rfl, _, rfl, _, _, (k : Nat), _, rfl, rfl, SqL.of e1, atI_nat ht1, ?_⟩
    refine ⟨_, _, 1, _, rfl, rfl, hT1, atI_nat (j := 1) rfl, p, l, f.2.1, rfl, ok.n1 f hfm, ok.n3 f hfm, S1, fun v a H2 m2 S2 d2 ok2 fi2 => ?_⟩
    have FO2 := FO1.md m2 sub
    have mem : ∀ {H'}, Md [p] H1 H' → Src H' p l → FoAt K S H' fo fs := fun m _ => FO1.md m sub
    refine ⟨fun σ H' => ∃ v a, σ = [some (.ref p), some (.ref fo), some (.int (k : Nat)), some v] ∧ Md [p] H1 H' ∧ Src H' p l ∧ Dp K H' v (At.d a) ∧ At.ok a ∧ At.fits (pn1 f.2.1) a = true, ?_, ?_⟩
    · obtain ⟨us, t, L, ws, e1, ht1, hT1, hL1, nLS, dL1⟩ := FO2.get hf
      refine ⟨_, rfl, _, rfl, _, _, (k : Nat), _, rfl, rfl, SqL.of e1, atI_nat ht1, _, _, 2, _, rfl, rfl, hT1, atI_nat (j := 2) rfl, (by show 0 ≤ sizeLine; decide), fun z nz => ?_⟩
      generalize eH3 : upd H2 z _ = H3
      have s3 : Same H2 H3 := eH3 ▸ same_upd nz
      have u3 : H3 z = some _ := eH3 ▸ upd_same
      refine ⟨.list (f.2.2.map At.d), .list [], .lst (SqL.of (s3 _ _ hL1)) (DpAll.same s3 dL1), .lst (SqL.of u3) .nil, (pds_at _).shaped, (by decide +kernel), _, rfl, ?_⟩
      have m13 : Md [p] H1 H3 := m2.trans (Md.of s3)
      cases hfe : f.2.2 with
      | nil => exact iteF ⟨v, a, rfl, m13, S2.same s3, Dp.same s3 d2, ok2, fi2⟩
      | cons a0 r =>
        refine iteT ?_
        refine ⟨_, rfl, p, l, 5, rfl, by decide, by decide, S2.same s3, fun j H4 j0 j1 S4 b4 => ?_⟩
        have m34 : Md [p] H3 H4 := src_md (S2.same s3) b4
        refine ⟨rfl, _, rfl, ie (fun h => ?_) (fun h => ?_)⟩
        · rw [hfe] at dL1
          cases ws with
          | nil => cases dL1
          | cons w0 wr =>
            have d0 : Dp K H4 w0 a0.d := by
              cases dL1 with
              | cons x y => exact m34.dp (nl_at _) (Dp.same s3 x)
            have m24 : Md [p] H2 H4 := (Md.of s3).trans m34
            obtain ⟨us', t', L', ws', e1', ht1', hT1', hL1', _, _⟩ := (FO2.md m24 sub).get hf
            have nfo : fo ∉ [p] := fun z => FO2.nS (sub _ z)
            refine ⟨_, rfl, _, rfl, _, _, (k : Nat), _, rfl, rfl, SqL.of (m24.out _ _ e1 nfo), atI_nat ht1, _, _, 2, _, rfl, rfl, m24.sqT hT1, atI_nat (j := 2) rfl, _, _, 0, _, rfl, rfl, SqL.of (m24.out _ _ hL1 (fun z => nLS (sub _ z))), atI_nat (j := 0) rfl, ?_⟩
            exact ⟨w0, a0, rfl, m13.trans m34, S4, d0, ok.ok f hfm a0 (by rw [hfe]; exact List.mem_cons_self ..), List.all_eq_true.mp (ok.fi f hfm) a0 (by rw [hfe]; exact List.mem_cons_self ..)⟩
        · exact ⟨v, a, rfl, m13.trans m34, S4, m34.dp (nl_at _) (Dp.same s3 d2), ok2, fi2⟩
    · rintro σ H3 ⟨v, a, rfl, m3, S3, d3, ok3, fi3⟩
      obtain ⟨us, t, L, ws, e1, ht1, hT1, hL1, nLS, dL1⟩ := (FO1.md m3 sub).get hf
      refine ⟨_, rfl, _, rfl, _, _, (k : Nat), _, rfl, rfl, SqL.of e1, atI_nat ht1, _, _, 0, _, rfl, rfl, hT1, atI_nat (j := 0) rfl, _, rfl, (by show 2 ≤ sizeLine; decide), fun q nq => ?_⟩
      generalize eH4 : upd H3 q _ = H4
      have s4 : Same H3 H4 := eH4 ▸ same_upd nq
      have u4 : H4 q = some _ := eH4 ▸ upd_same
      exact hQ q (f.1, a) H4 (m01.trans (m3.trans (Md.of s4))) (S3.same s4) (.tup (SqT.of u4) (.cons (.str _) (.cons (Dp.same s4 d3) .nil))) ⟨ok3, f, hfm, rfl, fi3⟩
end
end K51
namespace K51
open PySem PySem.Spec PyProof.Rows L2 He TL EL
section
variable {P : Program} {w : World} {K : PySem.W.Frag} {mg : Str → Option Value} {base : Heap}
/-! items of a stock whose lists are not in S -/
structure CX (K : PySem.W.Frag) (S : List Addr) (H : Hp) (v : V) (as : List At) : Prop where
  ex : ∃ y dy m, v = .ref y ∧ CdAt K H y dy m as ∧ y ∉ S ∧ m ∉ S
theorem CX.md {S S' : List Addr} {H H' : Hp} {v : V} {as : List At} (h : CX K S H v as) (m : Md S' H H') (hs : ∀ b ∈ S', b ∈ S) : CX K S H' v as := by
  obtain ⟨y, dy, n, e, C, h1, h2⟩ := h.ex
  exact ⟨y, dy, n, e, C.md m (fun z => h1 (hs _ z)) (fun z => h2 (hs _ z)), h1, h2⟩
theorem CX.same {S : List Addr} {H H' : Hp} {v : V} {as : List At} (h : CX K S H v as) (s : Same H H') : CX K S H' v as := h.md (.of (S := []) s) (by simp)
theorem CX.re {S S' : List Addr} {H : Hp} {v : V} {as : List At} (h : CX K S H v as) (hm : ∀ b, b ∉ S → (∃ o, H b = some o) → b ∉ S') : CX K S' H v as := by
  obtain ⟨y, dy, n, e, C, h1, h2⟩ := h.ex
  obtain ⟨vs, el, _⟩ := C.hl
  exact ⟨y, dy, n, e, C, hm _ h1 ⟨_, C.hx⟩, hm _ h2 ⟨_, el⟩⟩
def ItmX (K : PySem.W.Frag) (S : List Addr) (H : Hp) (v : V) : Itm → Prop
  | .odd => v = .non ∨ ∃ a vs, v = .ref a ∧ H a = some (.lst vs) ∧ a ∉ S
  | .long => ∃ a vs, v = .ref a ∧ SqT K H a vs ∧ vs.length ≠ 2
  | .pair d (some as) => ∃ a v0 v1, v = .ref a ∧ SqT K H a [v0, v1] ∧ DpX K S H v0 d ∧ CX K S H v1 as ∧ as.length ≤ 1000
  | .pair d none => ∃ a v0 v1 e, v = .ref a ∧ SqT K H a [v0, v1] ∧ DpX K S H v0 d ∧ DpX K S H v1 e
theorem dpx_md {S S' : List Addr} {H H' : Hp} {d : PyData} {v : V} (h : DpX K S H v d) (m : Md S' H H') (hs : ∀ b ∈ S', b ∈ S) : DpX K S H' v d := h.md (m.mono hs)
theorem ItmX.md {S S' : List Addr} {H H' : Hp} {v : V} {i : Itm} (h : ItmX K S H v i) (m : Md S' H H') (hs : ∀ b ∈ S', b ∈ S) : ItmX K S H' v i := by
  cases i with
  | odd =>
    rcases h with h | ⟨a, vs, e, h, n⟩
    · exact .inl h
    · exact .inr ⟨a, vs, e, m.out _ _ h (fun z => n (hs _ z)), n⟩
  | long =>
    obtain ⟨a, vs, e, h, hl⟩ := h
    exact ⟨a, vs, e, m.sqT h, hl⟩
  | pair d o =>
    cases o with
    | some as =>
      obtain ⟨a, v0, v1, e, h, h0, h1, hl⟩ := h
      exact ⟨a, v0, v1, e, m.sqT h, dpx_md h0 m hs, h1.md m hs, hl⟩
    | none =>
      obtain ⟨a, v0, v1, g, e, h, h0, h1⟩ := h
      exact ⟨a, v0, v1, g, e, m.sqT h, dpx_md h0 m hs, dpx_md h1 m hs⟩
theorem ItmX.same {S : List Addr} {H H' : Hp} {v : V} {i : Itm} (h : ItmX K S H v i) (s : Same H H') : ItmX K S H' v i := h.md (.of (S := []) s) (by simp)
theorem ItmX.re {S S' : List Addr} {H : Hp} {v : V} {i : Itm} (h : ItmX K S H v i) (hm : ∀ b, b ∉ S → (∃ o, H b = some o) → b ∉ S') : ItmX K S' H v i := by
  cases i with
  | odd =>
    rcases h with h | ⟨a, vs, e, h, n⟩
    · exact .inl h
    · exact .inr ⟨a, vs, e, h, hm _ n ⟨_, h⟩⟩
  | long => exact h
  | pair d o =>
    cases o with
    | some as =>
      obtain ⟨a, v0, v1, e, h, h0, h1, hl⟩ := h
      exact ⟨a, v0, v1, e, h, h0.re hm, h1.re hm, hl⟩
    | none =>
      obtain ⟨a, v0, v1, g, e, h, h0, h1⟩ := h
      exact ⟨a, v0, v1, g, e, h, h0.re hm, h1.re hm⟩
theorem ItmX.at {S : List Addr} {H : Hp} {v : V} {i : Itm} (h : ItmX K S H v i) : ItmAt K H v i := by
  cases i with
  | odd =>
    rcases h with h | ⟨a, vs, e, h, n⟩
    · exact .inl h
    · exact .inr ⟨a, vs, e, SqL.of h⟩
  | long => exact h
  | pair d o =>
    cases o with
    | some as =>
      obtain ⟨a, v0, v1, e, h, h0, h1, hl⟩ := h
      obtain ⟨y, dy, m, ey, C, _, _⟩ := h1.ex
      exact ⟨a, v0, v1, e, h, h0.dp, y, dy, m, ey, C, hl⟩
    | none =>
      obtain ⟨a, v0, v1, g, e, h, h0, h1⟩ := h
      exact ⟨a, v0, v1, e, h, h0.dp, g, h1.dp⟩
def nnK (k : Key3) : Str × Nat := (k.1, k.2.1)
/-- no item of a stock for these forms -/
def Bad (fs : List Key3) (i : Itm) : Prop := ∀ rs : List Sch, (rs.map keyS).map nnK = fs.map nnK → i.good rs = false
def AllX (K : PySem.W.Frag) (S : List Addr) (H : Hp) (fs : List Key3) (vs : List V) : Prop := ∀ v ∈ vs, ∃ i, ItmX K S H v i ∧ Bad fs i
theorem AllX.md {S S' : List Addr} {H H' : Hp} {fs : List Key3} {vs : List V} (h : AllX K S H fs vs) (m : Md S' H H') (hs : ∀ b ∈ S', b ∈ S) : AllX K S H' fs vs := fun v hv => (h v hv).imp fun i h => ⟨h.1.md m hs, h.2⟩
theorem AllX.same {S : List Addr} {H H' : Hp} {fs : List Key3} {vs : List V} (h : AllX K S H fs vs) (s : Same H H') : AllX K S H' fs vs := h.md (.of (S := []) s) (by simp)
theorem AllX.re {S S' : List Addr} {H : Hp} {fs : List Key3} {vs : List V} (h : AllX K S H fs vs) (hm : ∀ b, b ∉ S → (∃ o, H b = some o) → b ∉ S') : AllX K S' H fs vs := fun v hv => (h v hv).imp fun i h => ⟨h.1.re hm, h.2⟩
theorem AllX.cons {S : List Addr} {H : Hp} {fs : List Key3} {v : V} {vs : List V} {i : Itm} (h : ItmX K S H v i) (b : Bad fs i) (r : AllX K S H fs vs) : AllX K S H fs (v :: vs) := fun u hu => (List.mem_cons.mp hu).elim (fun e => ⟨i, e ▸ h, b⟩) (r u)
theorem AllX.nil {S : List Addr} {H : Hp} {fs : List Key3} : AllX K S H fs [] := fun u hu => by cases hu
/-! why they are none -/
theorem nm_of {rs : List Sch} {fs : List Key3} (ok : FsOk fs) (e : (rs.map keyS).map nnK = fs.map nnK) : nmS rs = [("t" : Str), ("u" : Str)] := by
  have := congrArg (List.map Prod.fst) e
  rw [List.map_map, List.map_map, List.map_map] at this
  rw [← ok.nm]
  exact this
theorem bad_odd {fs : List Key3} : Bad fs .odd := fun _ _ => rfl
theorem bad_long {fs : List Key3} : Bad fs .long := fun _ _ => rfl
theorem bad_none {fs : List Key3} {d : PyData} : Bad fs (.pair d none) := fun _ _ => rfl
theorem bad_in {fs : List Key3} (ok : FsOk fs) {d : PyData} {o : Option (List At)} (h : ∀ z, d = .str z → z ∉ [("t" : Str), ("u" : Str)]) : Bad fs (.pair d o) := fun rs e => by
  cases o with
  | none => rfl
  | some as =>
    have : inS rs d = false := by
      cases d <;> first | rfl | skip
      rename_i z
      show (findS rs z).isSome = false
      rw [findS_nm, nm_of ok e]
      exact decide_eq_false (h z rfl)
    show (inS rs d && _) = false
    rw [this]
    rfl
theorem bad_len {fs : List Key3} {d : PyData} {as : List At} (h : as.length ≠ 1) : Bad fs (.pair d (some as)) := fun rs _ => by
  show (inS rs d && (decide (as.length = 1) && _)) = false
  rw [decide_eq_false h, Bool.false_and, Bool.and_false]
theorem bad_fit {fs : List Key3} {d : PyData} {a : At} (h : ∀ rs : List Sch, (rs.map keyS).map nnK = fs.map nnK → At.fits (pn1 (colsOf rs d)) a = false) : Bad fs (.pair d (some [a])) := fun rs e => by
  show (inS rs d && (decide ([a].length = 1) && (At.fits (pn1 (colsOf rs d)) a && true))) = false
  rw [h rs e, Bool.false_and, Bool.and_false, Bool.and_false]
theorem cols_eq {rs : List Sch} {fs : List Key3} {f : Key3} {z : Str} (ok : FsOk fs) (e : (rs.map keyS).map nnK = fs.map nnK) (hf : f ∈ fs) (hz : f.1 = z) : colsOf rs (.str z) = f.2.1 := by
  have nd : (nmS rs).Nodup := by rw [nm_of ok e]; decide +kernel
  obtain ⟨k, hk, hkf⟩ : ∃ k ∈ rs.map keyS, nnK k = nnK f := by
    have : nnK f ∈ (rs.map keyS).map nnK := by rw [e]; exact List.mem_map_of_mem hf
    exact List.mem_map.mp this
  obtain ⟨s, hs, rfl⟩ := List.mem_map.mp hk
  obtain ⟨h1, h2⟩ := Prod.mk.inj hkf
  have h1 : s.nm = f.1 := h1
  have h2 : s.n = f.2.1 := h2
  have hfs := findS_of nd hs
  rw [h1, hz] at hfs
  show (match findS rs z with | some s => s.n | none => 0) = _
  rw [hfs]
  exact h2
end
end K51
namespace K51
open PySem PySem.Spec PyProof.Rows L2 He TL EL
section
variable {P : Program} {w : World} {K : PySem.W.Frag} {mg : Str → Option Value} {base : Heap}
/-! _law_wrong -/
def spWrong (K : PySem.W.Frag) : Sp := fun vs H Q _ => ∃ (p l iq fo : Addr) (S : List Addr) (x : Str × At) (fs : List Key3), vs = [.ref p, .ref iq, .ref fo] ∧ Src H p l ∧ p ∈ S ∧ EL.Al S H ∧ Dp K H (.ref iq) (itD x) ∧ At.ok x.2 ∧ FoAt K S H fo fs ∧ FsOk fs ∧
  ∀ v i H', Md [p] H H' → Src H' p l → ItmX K S H' v i → Bad fs i → Q v H'
def atF : At := ⟨.lt, .cell .first 0, .cell .second 0⟩
def atG : At := ⟨.eq, .cell .first 0, .cell .first 0⟩
def atH : At := ⟨.le, .cell .first 0, .cell .first 0⟩
def atZ (n : Nat) : At := ⟨.lt, .cell .first 0, .cell .first (n % 3)⟩
theorem d_wrong (T : Txt K mg) : Dn P w K mg base CX0 7 "_law_wrong" (spWrong K) := by
  obtain ⟨fd, F⟩ := T.f__law_wrong
  have D__law_draw := d_draw (P := P) (w := w) (base := base) T
  have D_cd := d_cd1 (P := P) (w := w) (base := base) T
  have D_cd0 := d_cd0 (P := P) (w := w) (base := base) T
  refine dnN T.g__law_wrong F (fun _ _ _ _ _ _ us hl => match us, hl with | [_, _, _], _ => rfl) sc__law_wrong (fun vs H Q E h => ?_) (fun cdv A outer s H vs Q E hr h => ?_)
  · obtain ⟨p, l, iq, fo, S, x, fs, rfl, _⟩ := h
    rfl
  · obtain ⟨p, l, iq, fo, S, x, fs, rfl, Sr, hpS, al, hI, xok, FO, ok, hQ⟩ := h
    refine ⟨_, PSs.nox (pss_cons (ps_set (i := 3) sc__law_wrong.nd rfl (.inl rfl) (pe_ix ix_tup (pv 1) pe_int (fun _ _ => rfl)))
      (pss_cons (ps_set (i := 4) sc__law_wrong.nd rfl (.inl rfl) (pe_makeE T.m_Conditions D_cd (hr.mono (by decide)) T.g_Conditions pxq (pa_cons (pe_lst (pa_cons (pe_ix ix_tup (pv 1) pe_int (fun _ _ => rfl)) pa_nil)) pa_nil)))
      (pss_cons (ps_set (i := 5) sc__law_wrong.nd rfl (.inl rfl) (pe_makeE T.m_Conditions D_cd (hr.mono (by decide)) T.g_Conditions pxq (pa_cons (lit_l (lits_cons (lit_t (lits_cons lit_s (lits_cons (lit_t (lits_cons lit_s (lits_cons lit_i lits_nil))) (lits_cons (lit_t (lits_cons lit_s (lits_cons lit_i lits_nil))) lits_nil)))) lits_nil)) pa_nil)))
      (pss_mid (ps_set (i := 6) sc__law_wrong.nd rfl (.inl rfl) (pe_makeE T.m_Conditions D_cd (hr.mono (by decide)) T.g_Conditions pxq (pa_cons (lit_l (lits_cons (lit_t (lits_cons lit_s (lits_cons (lit_t (lits_cons lit_s (lits_cons lit_i lits_nil))) (lits_cons (lit_t (lits_cons lit_s (lits_cons lit_i lits_nil))) lits_nil)))) (lits_cons (lit_t (lits_cons lit_s (lits_cons (lit_t (lits_cons lit_s (lits_cons lit_i lits_nil))) (lits_cons (lit_t (lits_cons lit_s (lits_cons lit_i lits_nil))) lits_nil)))) lits_nil))) pa_nil)))
      (pss_mid (ps_set (i := 7) sc__law_wrong.nd rfl (.inl rfl) (pe_lst (pa_cons (pe_tup (pa_cons pe_str (pa_cons (pv 4) pa_nil))) (pa_cons (pe_tup (pa_cons (pv 3) (pa_cons (pe_makeE0 T.m_Conditions D_cd0 (hr.mono (by decide)) T.g_Conditions pxq) pa_nil))) (pa_cons (pe_tup (pa_cons (pv 3) (pa_cons (pv 6) pa_nil))) (pa_cons (pe_tup (pa_cons (pv 3) (pa_cons (pv 5) pa_nil))) (pa_cons (pe_lst (pa_cons (pv 3) (pa_cons (pv 4) pa_nil))) (pa_cons (pe_tup (pa_cons (pv 3) pa_nil)) (pa_cons pe_non (pa_cons (pe_tup (pa_cons (pv 3) (pa_cons (pv 4) (pa_cons pe_int pa_nil)))) pa_nil))))))))))
      (pss_mid (ps_set (i := 7) sc__law_wrong.nd rfl (.inl rfl) (pe_op op_cat (pv 7) (pe_lst (pa_cons (pe_tup (pa_cons pe_non (pa_cons (pv 4) pa_nil))) (pa_cons (pe_tup (pa_cons (pv 3) (pa_cons (pe_ix ix_tup (pv 1) pe_int (fun _ _ => rfl)) pa_nil))) (pa_cons (pe_tup (pa_cons (pv 3) (pa_cons (pe_lst (pa_cons (pe_ix ix_tup (pv 1) pe_int (fun _ _ => rfl)) pa_nil)) pa_nil))) (pa_cons (pe_tup (pa_cons (pe_lst (pa_cons (pv 3) pa_nil)) (pa_cons (pv 4) pa_nil))) pa_nil)))))))
      (pss_cons (ps_expr (pe_bm PySem.F.plainAttrs_list PySem.F.slot_list_append PySem.F.type_list_append mt_append (pv 7) (pa_cons (pe_tup (pa_cons (pe_ix ix_tup (pe_ix ix_list (pv 2) pe_int (fun _ _ => rfl)) pe_int (fun _ _ => rfl)) (pa_cons (pe_makeE T.m_Conditions D_cd (hr.mono (by decide)) T.g_Conditions pxq (pa_cons (pe_lst (pa_cons (pe_tup (pa_cons pe_str (pa_cons (pe_tup (pa_cons pe_str (pa_cons pe_int pa_nil))) (pa_cons (pe_tup (pa_cons pe_str (pa_cons (pe_op op_mod (pe_ix ix_tup (pe_ix ix_list (pv 2) pe_int (fun _ _ => rfl)) pe_int (fun _ _ => rfl)) pe_int) pa_nil))) pa_nil)))) pa_nil)) pa_nil)) pa_nil))) pa_nil)))
      (pss_one (ps_ret (pe_ix ix_list (pv 7) (cl D__law_draw (hr.mono (by decide)) (pa_cons (pv 0) (pa_cons (pe_op op_sub pe_int (pe_callTy call_int1 (by rfl) T.z_int (by decide +kernel) (pa_cons (pe_cmpR op_eq (pe_ix ix_tup (pe_ix ix_list (pv 2) pe_int (fun _ _ => rfl)) pe_int (fun _ _ => rfl)) pe_int (nomark _)) pa_nil))) pa_nil))) (fun _ _ => rfl))))))))))), ?_⟩
    obtain ⟨va, hT, hva⟩ : ∃ va, SqT K H iq [.str x.1, va] ∧ Dp K H va x.2.d := by
      cases hI with
      | tup hS hA =>
        cases hA with
        | cons a b =>
          cases a
          cases b with
          | cons c d => cases d; exact ⟨_, hS, c⟩
    refine ⟨_, rfl, _, _, 0, _, rfl, rfl, hT, atI_nat (j := 0) rfl, ?_⟩
    refine ⟨_, rfl, _, _, 1, _, rfl, rfl, hT, atI_nat (j := 1) rfl, (by show 1 ≤ sizeLine; decide), fun z1 nz1 => ?_⟩
    generalize eH1 : upd H z1 _ = H1
    have s1 : Same H H1 := eH1 ▸ same_upd nz1
    have u1 : H1 z1 = some _ := eH1 ▸ upd_same
    refine mkCd (as := [x.2]) (.inl (SqL.of u1)) (.cons (Dp.same s1 hva) .nil) (fun a h => by cases List.mem_singleton.mp h; exact xok) (by show 1 ≤ 1000; decide) fun y1 dy1 n1 H2 s2 ny1 nn1 _ C1 => ?_
    have s02 := s1.trans s2
    have X1 : CX K S H2 (.ref y1) [x.2] := ⟨y1, dy1, n1, rfl, C1, (al.same s1).out ny1, (al.same s1).out nn1⟩
    intro v3 H3 s3 hL3
    obtain ⟨a3, xs3, rfl, e3, _, d3⟩ := (hL3 [] al_nil).lst_inv
    have s03 := s02.trans s3
    refine mkCd (as := [atF]) (.inl (SqL.of e3)) d3.dp (fun a h => by cases List.mem_singleton.mp h; exact ⟨by show 0 < 3; decide, by show 0 < 3; decide⟩) (by show 1 ≤ 1000; decide) fun y4 dy4 n4 H4 s4 ny4 nn4 _ C4 => ?_
    have s04 := s03.trans s4
    have X4 : CX K S H4 (.ref y4) [atF] := ⟨y4, dy4, n4, rfl, C4, (al.same s03).out ny4, (al.same s03).out nn4⟩
    refine ⟨fun σ H' => ∃ g f t, σ = [some (.ref p), some (.ref iq), some (.ref fo), some (.str x.1), some g, some f, some t, none] ∧ Same H H' ∧ CX K S H' g [x.2] ∧ CX K S H' f [atF] ∧ CX K S H' t [atG, atH], ?_, ?_⟩
    · intro v5 H5 s5 hL5
      obtain ⟨a5, xs5, rfl, e5, _, d5⟩ := (hL5 [] al_nil).lst_inv
      have s05 := s04.trans s5
      refine mkCd (as := [atG, atH]) (.inl (SqL.of e5)) d5.dp (fun a h => by
        rcases List.mem_cons.mp h with rfl | h
        · exact ⟨by show 0 < 3; decide, by show 0 < 3; decide⟩
        · cases List.mem_singleton.mp h
          exact ⟨by show 0 < 3; decide, by show 0 < 3; decide⟩) (by show 2 ≤ 1000; decide) fun y6 dy6 n6 H6 s6 ny6 nn6 _ C6 => ?_
      exact ⟨_, _, _, rfl, s05.trans s6, X1.same ((s3.trans s4).trans (s5.trans s6)), X4.same (s5.trans s6), ⟨y6, dy6, n6, rfl, C6, (al.same s05).out ny6, (al.same s05).out nn6⟩⟩
    · rintro σ H1 ⟨g, f, t, rfl, s01, Xg, Xf, Xt⟩
      refine ⟨fun σ H' => ∃ g f t L vs, σ = [some (.ref p), some (.ref iq), some (.ref fo), some (.str x.1), some g, some f, some t, some (.ref L)] ∧ Same H H' ∧ CX K S H' g [x.2] ∧ H' L = some (.lst vs) ∧ vs.length = 8 ∧ AllX K S H' fs vs, ?_, ?_⟩
      · refine ⟨_, rfl, (by show 2 ≤ sizeLine; decide), fun q1 nq1 => ?_⟩
        generalize eH2 : upd H1 q1 _ = H2
        have s2 : Same H1 H2 := eH2 ▸ same_upd nq1
        have u2 : H2 q1 = some _ := eH2 ▸ upd_same
        refine ⟨_, rfl, ?_⟩
        refine mkCd (a := dflAt ("Conditions", some "__init__") 0 K) (vs := []) (as := []) (.inr (T.dc0 _)) .nil (fun t ht => by cases ht) (by decide) fun y3 dy3 n3 H3 s3 ny3 nn3 _ C3 => ?_
        refine ⟨(by show 2 ≤ sizeLine; decide), fun q4 nq4 => ?_⟩
        generalize eH4 : upd H3 q4 _ = H4
        have s4 : Same H3 H4 := eH4 ▸ same_upd nq4
        have u4 : H4 q4 = some _ := eH4 ▸ upd_same
        refine ⟨_, rfl, _, rfl, (by show 2 ≤ sizeLine; decide), fun q5 nq5 => ?_⟩
        generalize eH5 : upd H4 q5 _ = H5
        have s5 : Same H4 H5 := eH5 ▸ same_upd nq5
        have u5 : H5 q5 = some _ := eH5 ▸ upd_same
        refine ⟨_, rfl, _, rfl, (by show 2 ≤ sizeLine; decide), fun q6 nq6 => ?_⟩
        generalize eH6 : upd H5 q6 _ = H6
        have s6 : Same H5 H6 := eH6 ▸ same_upd nq6
        have u6 : H6 q6 = some _ := eH6 ▸ upd_same
        refine ⟨_, rfl, _, rfl, (by show 2 ≤ sizeLine; decide), fun q7 nq7 => ?_⟩
        generalize eH7 : upd H6 q7 _ = H7
        have s7 : Same H6 H7 := eH7 ▸ same_upd nq7
        have u7 : H7 q7 = some _ := eH7 ▸ upd_same
        refine ⟨_, rfl, (by show 1 ≤ sizeLine; decide), fun q8 nq8 => ?_⟩
        generalize eH8 : upd H7 q8 _ = H8
        have s8 : Same H7 H8 := eH8 ▸ same_upd nq8
        have u8 : H8 q8 = some _ := eH8 ▸ upd_same
        refine ⟨_, rfl, _, rfl, (by show 3 ≤ sizeLine; decide), fun q9 nq9 => ?_⟩
        generalize eH9 : upd H8 q9 _ = H9
        have s9 : Same H8 H9 := eH9 ▸ same_upd nq9
        have u9 : H9 q9 = some _ := eH9 ▸ upd_same
        refine ⟨(by show 8 ≤ sizeLine; decide), fun L nL => ?_⟩
        generalize eH10 : upd H9 L _ = H10
        have s10 : Same H9 H10 := eH10 ▸ same_upd nL
        have u10 : H10 L = some _ := eH10 ▸ upd_same
        have t9 := s10
        have t8 := s9.trans t9
        have t7 := s8.trans t8
        have t6 := s7.trans t7
        have t5 := s6.trans t6
        have t4 := s5.trans t5
        have t3 := s4.trans t4
        have t2 := s3.trans t3
        have t1 := s2.trans t2
        have X3 : CX K S H3 (.ref y3) [] := ⟨y3, dy3, n3, rfl, C3, (al.same (s01.trans s2)).out ny3, (al.same (s01.trans s2)).out nn3⟩
        have n7 : q7 ∉ S := (al.same (s01.trans (s2.trans (s3.trans (s4.trans (s5.trans s6)))))).out nq7
        refine ⟨g, f, t, L, _, rfl, s01.trans t1, Xg.same t1, u10, rfl, ?_⟩
        refine .cons (i := .pair (.str "x") (some [x.2])) ⟨q1, _, _, rfl, SqT.of (t2 _ _ u2), .str _, Xg.same t1, (by show 1 ≤ 1000; decide)⟩ (bad_in ok fun z e => by cases e; decide +kernel) ?_
        refine .cons (i := .pair (.str x.1) (some [])) ⟨q4, _, _, rfl, SqT.of (t4 _ _ u4), .str _, X3.same t3, (by show 0 ≤ 1000; decide)⟩ (bad_len (by decide)) ?_
        refine .cons (i := .pair (.str x.1) (some [atG, atH])) ⟨q5, _, _, rfl, SqT.of (t5 _ _ u5), .str _, Xt.same t1, (by show 2 ≤ 1000; decide)⟩ (bad_len (by decide)) ?_
        refine .cons (i := .pair (.str x.1) (some [atF])) ⟨q6, _, _, rfl, SqT.of (t6 _ _ u6), .str _, Xf.same t1, (by show 1 ≤ 1000; decide)⟩ (bad_fit fun rs _ => by show (_ && decide (0 < 0)) = false; rw [Bool.and_comm]; rfl) ?_
        refine .cons (i := .odd) (.inr ⟨q7, _, rfl, t7 _ _ u7, n7⟩) bad_odd ?_
        refine .cons (i := .long) ⟨q8, _, rfl, SqT.of (t8 _ _ u8), (by show 1 ≠ 2; decide)⟩ bad_long ?_
        refine .cons (i := .odd) (.inl rfl) bad_odd ?_
        exact .cons (i := .long) ⟨q9, _, rfl, SqT.of (t9 _ _ u9), (by show 3 ≠ 2; decide)⟩ bad_long .nil
      · rintro σ H1 ⟨g, f, t, L, vs, rfl, s01, Xg, eL, lv, aX⟩
        refine ⟨fun σ H' => ∃ g f t L vs, σ = [some (.ref p), some (.ref iq), some (.ref fo), some (.str x.1), some g, some f, some t, some (.ref L)] ∧ Same H H' ∧ H' L = some (.lst vs) ∧ vs.length = 12 ∧ H L = none ∧ AllX K (L :: S) H' fs vs, ?_, ?_⟩
        · refine ⟨_, rfl, _, rfl, (by show 2 ≤ sizeLine; decide), fun q1 nq1 => ?_⟩
          generalize eH2 : upd H1 q1 _ = H2
          have s2 : Same H1 H2 := eH2 ▸ same_upd nq1
          have u2 : H2 q1 = some _ := eH2 ▸ upd_same
          have hT2 := Same.seqT (s01.trans s2) hT
          refine ⟨_, rfl, _, rfl, _, _, 1, _, rfl, rfl, hT2, atI_nat (j := 1) rfl, (by show 2 ≤ sizeLine; decide), fun q3 nq3 => ?_⟩
          generalize eH3 : upd H2 q3 _ = H3
          have s3 : Same H2 H3 := eH3 ▸ same_upd nq3
          have u3 : H3 q3 = some _ := eH3 ▸ upd_same
          refine ⟨_, rfl, _, rfl, _, _, 1, _, rfl, rfl, Same.seqT s3 hT2, atI_nat (j := 1) rfl, (by show 1 ≤ sizeLine; decide), fun q4 nq4 => ?_⟩
          generalize eH4 : upd H3 q4 _ = H4
          have s4 : Same H3 H4 := eH4 ▸ same_upd nq4
          have u4 : H4 q4 = some _ := eH4 ▸ upd_same
          refine ⟨(by show 2 ≤ sizeLine; decide), fun q5 nq5 => ?_⟩
          generalize eH5 : upd H4 q5 _ = H5
          have s5 : Same H4 H5 := eH5 ▸ same_upd nq5
          have u5 : H5 q5 = some _ := eH5 ▸ upd_same
          refine ⟨_, rfl, (by show 1 ≤ sizeLine; decide), fun q6 nq6 => ?_⟩
          generalize eH6 : upd H5 q6 _ = H6
          have s6 : Same H5 H6 := eH6 ▸ same_upd nq6
          have u6 : H6 q6 = some _ := eH6 ▸ upd_same
          refine ⟨_, rfl, (by show 2 ≤ sizeLine; decide), fun q7 nq7 => ?_⟩
          generalize eH7 : upd H6 q7 _ = H7
          have s7 : Same H6 H7 := eH7 ▸ same_upd nq7
          have u7 : H7 q7 = some _ := eH7 ▸ upd_same
          refine ⟨(by show 4 ≤ sizeLine; decide), fun L2 nL2 => ?_⟩
          generalize eH8 : upd H7 L2 _ = H8
          have s8 : Same H7 H8 := eH8 ▸ same_upd nL2
          have u8 : H8 L2 = some _ := eH8 ▸ upd_same
          have t7 := s8
          have t6 := s7.trans t7
          have t5 := s6.trans t6
          have t4 := s5.trans t5
          have t3 := s4.trans t4
          have t2 := s3.trans t3
          have t1 := s2.trans t2
          have n4 : q4 ∉ S := (al.same (s01.trans (s2.trans s3))).out nq4
          have n6 : q6 ∉ S := (al.same (s01.trans (s2.trans (s3.trans (s4.trans s5))))).out nq6
          have hva8 : Dp K H8 va x.2.d := Dp.same (s01.trans t1) hva
          refine ⟨L, L2, _, _, rfl, rfl, t1 _ _ eL, u8, (by rw [lv]; show 8 + 4 ≤ sizeLine; decide), fun L3 nL3 => ?_⟩
          generalize eH9 : upd H8 L3 _ = H9
          have s9 : Same H8 H9 := eH9 ▸ same_upd nL3
          have u9 : H9 L3 = some _ := eH9 ▸ upd_same
          have bX : AllX K S H8 fs (vs ++ [.ref q1, .ref q3, .ref q5, .ref q7]) := fun u hu => by
            rcases List.mem_append.mp hu with hu | hu
            · exact aX.same t1 u hu
            · refine AllX.cons (i := .pair .none (some [x.2])) ⟨q1, _, _, rfl, SqT.of (t2 _ _ u2), .non, Xg.same t1, (by show 1 ≤ 1000; decide)⟩ (bad_in ok fun z e => by cases e) ?_ u hu
              refine AllX.cons (i := .pair (.str x.1) none) ⟨q3, _, _, x.2.d, rfl, SqT.of (t3 _ _ u3), .str _, DpX.of (nl_at _) hva8⟩ bad_none ?_
              refine AllX.cons (i := .pair (.str x.1) none) ⟨q5, _, _, .list [x.2.d], rfl, SqT.of (t5 _ _ u5), .str _, .lst (t4 _ _ u4) n4 (.cons (DpX.of (nl_at _) hva8) .nil)⟩ bad_none ?_
              exact AllX.cons (i := .pair (.list [.str x.1]) (some [x.2])) ⟨q7, _, _, rfl, SqT.of (t7 _ _ u7), .lst (t6 _ _ u6) n6 (.cons (.str _) .nil), Xg.same t1, (by show 1 ≤ 1000; decide)⟩ (bad_in ok fun z e => by cases e) .nil
          exact ⟨g, f, t, L3, _, rfl, (s01.trans t1).trans s9, u9, (by rw [List.length_append, lv]; rfl), (s01.trans t1).free nL3, (bX.re (fresh1 nL3)).same s9⟩
        · rintro σ H1 ⟨g, f, t, L, vs, rfl, s01, eL, lv, nL, aX⟩
          obtain ⟨f0, hf0⟩ : ∃ f0, fs[0]? = some f0 := ⟨_, List.getElem?_eq_getElem (by rw [ok.len]; decide)⟩
          have hfm := List.mem_of_getElem? hf0
          have k1 := ok.n1 f0 hfm
          have k3 := ok.n3 f0 hfm
          obtain ⟨us, tt, LL, ws, e1, ht1, hT1, _⟩ := (FO.same s01).get hf0
          refine ⟨_, rfl, .inl ⟨rfl, _, SqL.of eL⟩, _, rfl, _, _, 0, _, rfl, rfl, SqL.of e1, atI_nat (j := 0) ht1, _, _, 0, _, rfl, rfl, hT1, atI_nat (j := 0) rfl, ?_⟩
          refine ⟨(by show 2 ≤ sizeLine; decide), fun q1 nq1 => ?_⟩
          generalize eH2 : upd H1 q1 _ = H2
          have s2 : Same H1 H2 := eH2 ▸ same_upd nq1
          have u2 : H2 q1 = some _ := eH2 ▸ upd_same
          refine ⟨_, rfl, _, _, 0, _, rfl, rfl, SqL.of (s2 _ _ e1), atI_nat (j := 0) ht1, _, _, 1, _, rfl, rfl, Same.seqT s2 hT1, atI_nat (j := 1) rfl, _, _, rfl, rfl, (by show (0 : Int) < 3; decide), (by show 2 ≤ sizeLine; decide), fun q2 nq2 => ?_⟩
          generalize eH3 : upd H2 q2 _ = H3
          have s3 : Same H2 H3 := eH3 ▸ same_upd nq2
          have u3 : H3 q2 = some _ := eH3 ▸ upd_same
          refine ⟨(by show 3 ≤ sizeLine; decide), fun q3 nq3 => ?_⟩
          generalize eH4 : upd H3 q3 _ = H4
          have s4 : Same H3 H4 := eH4 ▸ same_upd nq3
          have u4 : H4 q3 = some _ := eH4 ▸ upd_same
          refine ⟨(by show 1 ≤ sizeLine; decide), fun z nz => ?_⟩
          generalize eH5 : upd H4 z _ = H5
          have s5 : Same H4 H5 := eH5 ▸ same_upd nz
          have u5 : H5 z = some _ := eH5 ▸ upd_same
          have hm : ((f0.2.1 : Nat) : Int) % 3 = ((f0.2.1 % 3 : Nat) : Int) := by omega
          have u3 : H3 q2 = some (HO.tup [V.str "first", V.int (((f0.2.1 : Nat) : Int) % 3)]) := u3
          rw [hm] at u3
          refine mkCd (as := [atZ f0.2.1]) (.inl (SqL.of u5)) (.cons (.tup (SqT.of (s5 _ _ u4)) (.cons (.str _) (.cons (.tup (SqT.of ((s3.trans (s4.trans s5)) _ _ u2)) (.cons (.str _) (.cons (.int _) .nil))) (.cons (.tup (SqT.of ((s4.trans s5) _ _ u3)) (.cons (.str _) (.cons (.int _) .nil))) .nil)))) .nil) (fun a h => by cases List.mem_singleton.mp h; exact ⟨by show 0 < 3; decide, by show f0.2.1 % 3 < 3; exact Nat.mod_lt _ (by decide)⟩) (by show 1 ≤ 1000; decide) fun y6 dy6 n6 H6 s6 ny6 nn6 _ C6 => ?_
          refine ⟨(by show 2 ≤ sizeLine; decide), fun q7 nq7 => ?_⟩
          generalize eH7 : upd H6 q7 _ = H7
          have s7 : Same H6 H7 := eH7 ▸ same_upd nq7
          have u7 : H7 q7 = some _ := eH7 ▸ upd_same
          have t5 := s6.trans s7
          have t15 := s2.trans (s3.trans (s4.trans s5))
          have t17 := t15.trans t5
          have eL7 := t17 _ _ eL
          have al1 : EL.Al (L :: S) H5 := (Al.cons' (al.same s01) eL).same t15
          have X6 : CX K (L :: S) H7 (.ref y6) [atZ f0.2.1] := ⟨y6, dy6, n6, rfl, C6.same s7, al1.out ny6, al1.out nn6⟩
          refine ⟨L, _, _, rfl, rfl, eL7, (by rw [lv]; decide), ?_⟩
          have s07 := s01.trans t17
          have m78 : Md [L] H7 (upd H7 L (.lst (vs ++ [.ref q7]))) := Md.upd eL7 rfl (by simp)
          have e8 : (upd H7 L (.lst (vs ++ [.ref q7]))) L = some (.lst (vs ++ [.ref q7])) := upd_same
          generalize upd H7 L (.lst (vs ++ [.ref q7])) = H8 at m78 e8 ⊢
          have nLp := src_ne Sr nL
          have nLl : l ≠ L := fun z => by obtain ⟨xs, e⟩ := Sr.lst2; rw [z, nL] at e; cases e
          have S8 : Src H8 p l := Src.md (Sr.same s07) m78 (not1 nLp.symm) (not1 nLl)
          have sub : ∀ b ∈ [L], b ∈ L :: S := fun b hb => by rw [List.mem_singleton.mp hb]; exact List.mem_cons_self ..
          have FO8 := ((FO.re (fresh1 nL)).same s07).md m78 sub
          obtain ⟨us8, tt8, LL8, ws8, e18, ht18, hT18, _⟩ := FO8.get hf0
          have A8 : ∀ i : Nat, (i : Int) < 13 - (if decide (V.int (f0.2.1 : Nat) = V.int 3) then 1 else 0) → ∀ v, (vs ++ [.ref q7])[i]? = some v → ∃ it, ItmX K (L :: S) H8 v it ∧ Bad fs it := fun i hi v hv => by
            rcases List.mem_append.mp (List.mem_of_getElem? hv) with h | h
            · exact (aX.same t17).md m78 sub v h
            · by_cases h12 : i < 12
              · rw [List.getElem?_append_left (by omega)] at hv
                exact (aX.same t17).md m78 sub v (List.mem_of_getElem? hv)
              · cases List.mem_singleton.mp h
                refine ⟨.pair (.str f0.1) (some [atZ f0.2.1]), (ItmX.md (i := .pair (.str f0.1) (some [atZ f0.2.1])) ⟨q7, _, _, rfl, SqT.of u7, .str _, X6, (by show 1 ≤ 1000; decide)⟩ m78 sub), bad_fit fun rs e => ?_⟩
                rw [cols_eq ok e hfm rfl]
                have hn3 : f0.2.1 ≠ 3 := fun z => by rw [z] at hi; have hi : (i : Int) < 13 - 1 := hi; omega
                show (decide (0 < f0.2.1) && decide (f0.2.1 % 3 < f0.2.1)) = false
                rw [decide_eq_false (show ¬ f0.2.1 % 3 < f0.2.1 by omega), Bool.and_false]
          refine ⟨_, rfl, _, rfl, _, rfl, _, _, 0, _, rfl, rfl, SqL.of e18, atI_nat (j := 0) ht18, _, _, 1, _, rfl, rfl, hT18, atI_nat (j := 1) rfl, rfl, .inr ⟨_, rfl, _, _, rfl, rfl, p, l, _, rfl, ?_, ?_, S8, fun k H9 k0 k1 S9 b9 => ?_⟩⟩
          · split <;> omega
          · split <;> omega
          · obtain ⟨k, rfl⟩ := Int.eq_ofNat_of_zero_le k0
            have m89 : Md [p] H8 H9 := src_md S8 b9
            have e9 := m89.out _ _ e8 (not1 nLp)
            have hk : k < (vs ++ [V.ref q7]).length := by
              rw [List.length_append, lv]
              have : (13 : Int) - (if decide (V.int (f0.2.1 : Nat) = V.int 3) then 1 else 0) ≤ 13 := by split <;> omega
              show k < 12 + 1
              omega
            have hv : (vs ++ [V.ref q7])[k]? = some (vs ++ [V.ref q7])[k] := List.getElem?_eq_getElem hk
            generalize (vs ++ [V.ref q7])[k] = v at hv
            obtain ⟨it, hit, hb⟩ := A8 k k1 v hv
            refine ⟨L, _, (k : Nat), _, rfl, rfl, SqL.of e9, atI_nat hv, ?_⟩
            refine hQ v it H9 (Md.new1 ((m78.mono (by simp)).trans (m89.mono (by simp))) s07 nL) S9 ((hit.md m89 (fun b hb => by rw [List.mem_singleton.mp hb]; exact List.mem_cons_of_mem _ hpS)).re fun b h _ z => h (List.mem_cons_of_mem _ z)) hb
end
end K51
namespace K51
open PySem PySem.Spec PyProof.Rows L2 He TL EL
section
variable {P : Program} {w : World} {K : PySem.W.Frag} {mg : Str → Option Value} {base : Heap}
/-! a stock whose lists are not in S -/
def StkX (K : PySem.W.Frag) (S : List Addr) (H : Hp) (v : V) : Option (List Itm) → Prop
  | none => (v = .non ∨ v = .int 3 ∨ (∃ a vs, v = .ref a ∧ SqT K H a vs) ∨ (∃ a, v = .ref a ∧ H a = some (.dK []) ∧ a ∉ S)) ∨ ∃ a vs, v = .ref a ∧ H a = some (.lst vs) ∧ a ∉ S ∧ 5 < vs.length ∧ vs.length ≤ 1000
  | some l => ∃ a vs, v = .ref a ∧ H a = some (.lst vs) ∧ a ∉ S ∧ vs.length = l.length ∧ l.length ≤ 5 ∧ ∀ (i : Nat) (u : V) (it : Itm), vs[i]? = some u → l[i]? = some it → ItmX K S H u it
theorem StkX.md {S S' : List Addr} {H H' : Hp} {v : V} {o : Option (List Itm)} (h : StkX K S H v o) (m : Md S' H H') (hs : ∀ b ∈ S', b ∈ S) : StkX K S H' v o := by
  cases o with
  | none =>
    rcases h with (h | h | ⟨a, vs, e, h⟩ | ⟨a, e, h, n⟩) | ⟨a, vs, e, h, n, h1, h2⟩
    · exact .inl (.inl h)
    · exact .inl (.inr (.inl h))
    · exact .inl (.inr (.inr (.inl ⟨a, vs, e, m.sqT h⟩)))
    · exact .inl (.inr (.inr (.inr ⟨a, e, m.out _ _ h (fun z => n (hs _ z)), n⟩)))
    · exact .inr ⟨a, vs, e, m.out _ _ h (fun z => n (hs _ z)), n, h1, h2⟩
  | some l =>
    obtain ⟨a, vs, e, h, n, lv, l5, hI⟩ := h
    exact ⟨a, vs, e, m.out _ _ h (fun z => n (hs _ z)), n, lv, l5, fun i u it h1 h2 => (hI i u it h1 h2).md m hs⟩
theorem StkX.same {S : List Addr} {H H' : Hp} {v : V} {o : Option (List Itm)} (h : StkX K S H v o) (s : Same H H') : StkX K S H' v o := h.md (.of (S := []) s) (by simp)
theorem StkX.re {S S' : List Addr} {H : Hp} {v : V} {o : Option (List Itm)} (h : StkX K S H v o) (hm : ∀ b, b ∉ S → (∃ o, H b = some o) → b ∉ S') : StkX K S' H v o := by
  cases o with
  | none =>
    rcases h with (h | h | h | ⟨a, e, h, n⟩) | ⟨a, vs, e, h, n, h1, h2⟩
    · exact .inl (.inl h)
    · exact .inl (.inr (.inl h))
    · exact .inl (.inr (.inr (.inl h)))
    · exact .inl (.inr (.inr (.inr ⟨a, e, h, hm _ n ⟨_, h⟩⟩)))
    · exact .inr ⟨a, vs, e, h, hm _ n ⟨_, h⟩, h1, h2⟩
  | some l =>
    obtain ⟨a, vs, e, h, n, lv, l5, hI⟩ := h
    exact ⟨a, vs, e, h, hm _ n ⟨_, h⟩, lv, l5, fun i u it h1 h2 => (hI i u it h1 h2).re hm⟩
theorem StkX.at {S : List Addr} {H : Hp} {v : V} {o : Option (List Itm)} (h : StkX K S H v o) : StkAt K H v o := by
  cases o with
  | none =>
    rcases h with (rfl | rfl | ⟨a, vs, rfl, h⟩ | ⟨a, rfl, h, n⟩) | ⟨a, vs, e, h, n, h1, h2⟩
    · exact .inl ⟨_, .base .non, kit_ty (kit_k .lst .non)⟩
    · exact .inl ⟨_, .base (.int 3), kit_ty (kit_k .lst .int)⟩
    · exact .inl ⟨_, SqT.ty h, kit_ty (kit_k .lst .tup)⟩
    · exact .inl ⟨_, .base (.dK h), kit_ty (kit_k .lst .dct)⟩
    · exact .inr ⟨a, vs, e, SqL.of h, h1, h2⟩
  | some l =>
    obtain ⟨a, vs, e, h, n, lv, l5, hI⟩ := h
    exact ⟨a, vs, e, SqL.of h, lv, l5, fun i u it h1 h2 => (hI i u it h1 h2).at⟩
/-! least_sets and floors: they raise -/
def spBadS (K : PySem.W.Frag) : Sp := fun vs H Q E => ∃ ρ M S A v o i, vs = [.ref A.q, v] ∧ QuAt K ρ M H A ∧ StkX K S H v o ∧ lookI A.rs o = some i ∧
  ∀ d H', Same H H' → H' d = some (.xd [("index", .int i)]) → E (.ref (ga K "NoStock")) (some d) H'
theorem d_least (hP : PF P "/claim/cut.py") (T : Txt K mg) : Dn P w K mg base (L2.CX P w) 7 "least_sets" (spBadS K) := by
  obtain ⟨fd, F⟩ := T.f_least_sets
  have D_look_at_stock := d_look_stock (P := P) (w := w) (base := base) hP T
  refine dnN T.g_least_sets F (fun _ _ _ _ _ _ us hl => match us, hl with | [_, _], _ => rfl) sc_least_sets (fun vs H Q E h => ?_) (fun cdv A outer s H vs Q E hr h => ?_)
  · obtain ⟨ρ, M, S, A, v, o, i, rfl, _⟩ := h
    rfl
  · obtain ⟨ρ, M, S, B, v, o, i, rfl, C, hv, hi, hE⟩ := h
    refine ⟨_, (pss_cons (ps_expr (clx (takes_of rfl rfl rfl rfl) D_look_at_stock (hr.mono (by decide)) (pa_cons (pv 0) (pa_cons (pv 1) pa_nil))))
      (pss_cons ps_never
      (pss_cons ps_never
      (pss_cons ps_never
      (pss_one ps_never))))), ?_⟩
    refine ⟨_, rfl, _, rfl, ρ, M, B, v, o, rfl, C, hv.at, fun j hj dd H' s' e => ?_, fun hno => by rw [hi] at hno; cases hno⟩
    rw [hi] at hj
    cases hj
    exact hE dd H' s' e
theorem d_floors (hP : PF P "/claim/cut.py") (T : Txt K mg) : Dn P w K mg base (L2.CX P w) 8 "floors" (spBadS K) := by
  obtain ⟨fd, F⟩ := T.f_floors
  have D_least_sets := d_least (P := P) (w := w) (base := base) hP T
  refine dnN T.g_floors F (fun _ _ _ _ _ _ us hl => match us, hl with | [_, _], _ => rfl) sc_floors (fun vs H Q E h => ?_) (fun cdv A outer s H vs Q E hr h => ?_)
  · obtain ⟨ρ, M, S, A, v, o, i, rfl, _⟩ := h
    rfl
  · obtain ⟨ρ, M, S, B, v, o, i, rfl, C, hv, hi, hE⟩ := h
    refine ⟨_, (pss_cons (ps_set (i := 2) sc_floors.nd rfl (.inl rfl) (pe_lst pa_nil))
      (pss_cons (ps_for (passes_of rfl) rfl (pi_list (clx (takes_of rfl rfl rfl rfl) D_least_sets (hr.mono (by decide)) (pa_cons (pv 0) (pa_cons (pv 1) pa_nil)))) (pg_name (i := 3) sc_floors.nd rfl (.inl rfl))
      (pss_one ps_never))
      (pss_one (ps_ret (pv 2))))), ?_⟩
    refine ⟨(by show 0 ≤ sizeLine; decide), fun z nz => ?_⟩
    generalize eH1 : upd H z _ = H1
    have s1 : Same H H1 := eH1 ▸ same_upd nz
    have u1 : H1 z = some _ := eH1 ▸ upd_same
    exact ⟨_, rfl, _, rfl, ρ, M, S, B, v, o, i, rfl, C.same s1, hv.same s1, hi, fun dd H' s' e => hE dd H' (s1.trans s') e⟩
/-! _law_asked -/
def spAsked (K : PySem.W.Frag) : Sp := fun vs H Q _ => ∃ ρ M A v o c d i, vs = [.ref A.q, v, c] ∧ QuAt K ρ M H A ∧ EL.Al M H ∧ StkX K M H v o ∧ Dp K H c d ∧ (∀ ds, d = .tuple ds → ds.length ≤ 40) ∧ (∀ s ∈ A.rs, s.as.length ≤ 150) ∧ lookI A.rs o = some i ∧
  ∀ L H', Same H H' → H' L = some (.lst [.int i, .int i, .int i]) → Q (.ref L) H'
theorem d_asked (hP : PF P "/claim/cut.py") (T : Txt K mg) : Dn P w K mg base CX0 11 "_law_asked" (spAsked K) := by
  obtain ⟨fd, F⟩ := T.f__law_asked
  have D_with_stock := d_with (P := P) (w := w) (base := base) hP T
  have D_least_sets := d_least (P := P) (w := w) (base := base) hP T
  have D_floors := d_floors (P := P) (w := w) (base := base) hP T
  refine dnN T.g__law_asked F (fun _ _ _ _ _ _ us hl => match us, hl with | [_, _, _], _ => rfl) sc__law_asked (fun vs H Q E h => ?_) (fun cdv A outer s H vs Q E hr h => ?_)
  · obtain ⟨ρ, M, A, v, o, c, d, i, rfl, _⟩ := h
    rfl
  · obtain ⟨ρ, M, B, v, o, c, d, i, rfl, C, al, hv, hc, hln, h150, hi, hQ⟩ := h
    refine ⟨_, PSs.nox (pss_cons (ps_set (i := 3) sc__law_asked.nd rfl (.inl rfl) (pe_lst pa_nil))
      (pss_cons (ps_try_as (i := 4) (by rfl) (by rfl) sc__law_asked.nd rfl (by rfl) ⟨rfl, by decide, .inl T.g_NoStock⟩ takes0 (fun W pn xe tk po => (pss_one (ps_expr (clx tk D_with_stock (hr.mono (by decide)) (pa_cons (pv 0) (pa_cons (pv 1) (pa_cons (pv 2) pa_nil)))))))
      (fun a oe cls d pn hz hf => (pss_one (ps_expr (show PE _ _ (tBM K "list" rAppend (tVar 3) (tCons (tXf a cls d (ga K "NoStock") "index" (tVar 4)) tNil)) from pe_bm PySem.F.plainAttrs_list PySem.F.slot_list_append PySem.F.type_list_append mt_append (pv 3) (pa_cons (pe_xf T.y_NoStock.2.1 T.y_NoStock.2.2 hz hf (pv 4)) pa_nil))))))
      (pss_cons (ps_try_as (i := 4) (by rfl) (by rfl) sc__law_asked.nd rfl (by rfl) ⟨rfl, by decide, .inl T.g_NoStock⟩ takes0 (fun W pn xe tk po => (pss_one (ps_expr (clx tk D_least_sets (hr.mono (by decide)) (pa_cons (pv 0) (pa_cons (pv 1) pa_nil))))))
      (fun a oe cls d pn hz hf => (pss_one (ps_expr (show PE _ _ (tBM K "list" rAppend (tVar 3) (tCons (tXf a cls d (ga K "NoStock") "index" (tVar 4)) tNil)) from pe_bm PySem.F.plainAttrs_list PySem.F.slot_list_append PySem.F.type_list_append mt_append (pv 3) (pa_cons (pe_xf T.y_NoStock.2.1 T.y_NoStock.2.2 hz hf (pv 4)) pa_nil))))))
      (pss_cons (ps_try_as (i := 4) (by rfl) (by rfl) sc__law_asked.nd rfl (by rfl) ⟨rfl, by decide, .inl T.g_NoStock⟩ takes0 (fun W pn xe tk po => (pss_one (ps_expr (clx tk D_floors (hr.mono (by decide)) (pa_cons (pv 0) (pa_cons (pv 1) pa_nil))))))
      (fun a oe cls d pn hz hf => (pss_one (ps_expr (show PE _ _ (tBM K "list" rAppend (tVar 3) (tCons (tXf a cls d (ga K "NoStock") "index" (tVar 4)) tNil)) from pe_bm PySem.F.plainAttrs_list PySem.F.slot_list_append PySem.F.type_list_append mt_append (pv 3) (pa_cons (pe_xf T.y_NoStock.2.1 T.y_NoStock.2.2 hz hf (pv 4)) pa_nil))))))
      (pss_one (ps_ret (pv 3))))))), ?_⟩
    refine ⟨(by show 0 ≤ sizeLine; decide), fun L nL => ?_⟩
    generalize eH1 : upd H L _ = H1
    have s1 : Same H H1 := eH1 ▸ same_upd nL
    have u1 : H1 L = some _ := eH1 ▸ upd_same
    have nq : B.q ∉ [L] := not1 (ne_of_none C.hq nL)
    have nst : B.st ∉ [L] := not1 (ne_of_none C.hs nL)
    have sub : ∀ b ∈ [L], b ∈ L :: M := fun b hb => by rw [List.mem_singleton.mp hb]; exact List.mem_cons_self ..
    have fr := fresh1 (M := M) nL
    have CL := C.re fr
    have vL := hv.re fr
    have QA : ∀ {H'}, Md [L] H1 H' → QuAt K ρ (L :: M) H' B := fun m => (CL.same s1).md m sub nq nst
    have VA : ∀ {H'}, Md [L] H1 H' → StkX K (L :: M) H' v o := fun m => (vL.same s1).md m sub
    refine ⟨_, rfl, _, rfl, _, rfl, ρ, L :: M, B, v, o, c, d, rfl, QA (.refl _ _), Al.cons' (al.same s1) u1, (VA (.refl _ _)).at, Dp.same s1 hc, hln, h150, fun j hj dd H2 s2 e2 => ?_, fun l hno => (by rw [hi] at hno; cases hno), fun its cs hno => (by rw [hi] at hno; cases hno)⟩
    rw [hi] at hj
    cases hj
    refine ⟨true, T.e_NoStock_NoStock, fun _ a na => ?_, fun z => by cases z⟩
    have eL2 := s2 _ _ u1
    refine ⟨_, rfl, .inl ⟨rfl, _, SqL.of eL2⟩, _, rfl, rfl, rfl, dd, _, _, rfl, e2, rfl, L, _, _, rfl, rfl, eL2, (by decide), ?_⟩
    have mu : Md [L] H2 (upd H2 L (.lst ([] ++ [.int i]))) := Md.upd eL2 rfl (by simp)
    have e3 : (upd H2 L (.lst ([] ++ [.int i]))) L = some (.lst [.int i]) := upd_same
    generalize upd H2 L (.lst ([] ++ [.int i])) = H3 at mu e3 ⊢
    have m13 : Md [L] H1 H3 := (Md.of s2).trans mu
    refine ⟨_, rfl, _, rfl, ρ, L :: M, L :: M, B, v, o, i, rfl, QA m13, VA m13, hi, fun dd4 H4 s4 e4 => ?_⟩
    refine ⟨true, T.e_NoStock_NoStock, fun _ a4 na4 => ?_, fun z => by cases z⟩
    have eL4 := s4 _ _ e3
    refine ⟨_, rfl, .inl ⟨rfl, _, SqL.of eL4⟩, _, rfl, rfl, rfl, dd4, _, _, rfl, e4, rfl, L, _, _, rfl, rfl, eL4, (by show 1 < sizeLine; decide), ?_⟩
    have mu5 : Md [L] H4 (upd H4 L (.lst ([.int i] ++ [.int i]))) := Md.upd eL4 rfl (by simp)
    have e5 : (upd H4 L (.lst ([.int i] ++ [.int i]))) L = some (.lst [.int i, .int i]) := upd_same
    generalize upd H4 L (.lst ([.int i] ++ [.int i])) = H5 at mu5 e5 ⊢
    have m15 : Md [L] H1 H5 := m13.trans ((Md.of s4).trans mu5)
    refine ⟨_, rfl, _, rfl, ρ, L :: M, L :: M, B, v, o, i, rfl, QA m15, VA m15, hi, fun dd6 H6 s6 e6 => ?_⟩
    refine ⟨true, T.e_NoStock_NoStock, fun _ a6 na6 => ?_, fun z => by cases z⟩
    have eL6 := s6 _ _ e5
    refine ⟨_, rfl, .inl ⟨rfl, _, SqL.of eL6⟩, _, rfl, rfl, rfl, dd6, _, _, rfl, e6, rfl, L, _, _, rfl, rfl, eL6, (by show 2 < sizeLine; decide), ?_⟩
    have mu7 : Md [L] H6 (upd H6 L (.lst ([.int i, .int i] ++ [.int i]))) := Md.upd eL6 rfl (by simp)
    have e7 : (upd H6 L (.lst ([.int i, .int i] ++ [.int i]))) L = some (.lst [.int i, .int i, .int i]) := upd_same
    generalize upd H6 L (.lst ([.int i, .int i] ++ [.int i])) = H7 at mu7 e7 ⊢
    have m17 : Md [L] H1 H7 := m15.trans ((Md.of s6).trans mu7)
    exact ⟨_, rfl, hQ L H7 (Md.new1 (S := []) m17 s1 nL).same e7⟩
end
end K51
namespace K51
open PySem PySem.Spec PyProof.Rows L2 He TL EL
section
variable {P : Program} {w : World} {K : PySem.W.Frag} {mg : Str → Option Value} {base : Heap}
/-! _law_choice_refused -/
def spRefS (K : PySem.W.Frag) : Sp := fun vs H Q _ => ∃ ρ M A v l c d, vs = [.ref A.q, v, c] ∧ QuAt K ρ M H A ∧ EL.Al M H ∧ StkX K M H v (some l) ∧ Dp K H c d ∧ (∀ ds, d = .tuple ds → ds.length ≤ 40) ∧ (∀ s ∈ A.rs, s.as.length ≤ 150) ∧ lookI A.rs (some l) = none ∧ chosB (l.length : Nat) d = false ∧
  ∀ H', Same H H' → Q (.bl true) H'
theorem d_refS (hP : PF P "/claim/cut.py") (T : Txt K mg) : Dn P w K mg base CX0 11 "_law_choice_refused" (spRefS K) := by
  obtain ⟨fd, F⟩ := T.f__law_choice_refused
  have D_with_stock := d_with (P := P) (w := w) (base := base) hP T
  refine dnN T.g__law_choice_refused F (fun _ _ _ _ _ _ us hl => match us, hl with | [_, _, _], _ => rfl) sc__law_choice_refused (fun vs H Q E h => ?_) (fun cdv A outer s H vs Q E hr h => ?_)
  · obtain ⟨ρ, M, A, v, l, c, d, rfl, _⟩ := h
    rfl
  · obtain ⟨ρ, M, B, v, l, c, d, rfl, C, al, hv, hc, hln, h150, hi, hch, hQ⟩ := h
    refine ⟨_, PSs.nox (pss_cons (ps_try_as (i := 3) (by rfl) (by rfl) sc__law_choice_refused.nd rfl (by rfl) ⟨rfl, by decide, .inl T.g_NoStock⟩ takes0 (fun W pn xe tk po => (pss_one (ps_expr (clx tk D_with_stock (hr.mono (by decide)) (pa_cons (pv 0) (pa_cons (pv 1) (pa_cons (pv 2) pa_nil)))))))
      (fun a oe cls d pn hz hf => (pss_one (ps_ret (pe_and (pe_cmpR op_eq (pe_xf T.y_NoStock.2.1 T.y_NoStock.2.2 hz hf (pv 3)) (pe_un un_neg pe_int) (nomark _)) (pe_one (pe_callB (call_isY hz) (by rfl) T.z_isinstance (by decide +kernel) (pa_cons (pv 3) (pa_cons (pe_bltn (v := .ty "ValueError") (by rfl) T.z_ValueError (by decide +kernel) rfl) pa_nil)))))))))
      (pss_one (ps_ret pe_bl))), ?_⟩
    refine ⟨_, rfl, _, rfl, _, rfl, ρ, M, B, v, some l, c, d, rfl, C, al, hv.at, hc, hln, h150, fun j hj => (by rw [hi] at hj; cases hj), fun l' _ el _ dd H2 s2 e2 => ?_, fun its cs _ el _ hc1 => ?_⟩
    · refine ⟨true, T.e_NoStock_NoStock, fun _ a na => ?_, fun z => by cases z⟩
      refine ⟨_, rfl, rfl, rfl, dd, _, _, rfl, e2, rfl, ?_⟩
      refine ⟨_, rfl, rfl, _, rfl, if_pos_of (decide_eq_true rfl) ?_⟩
      exact ⟨_, rfl, _, .type "ValueError", rfl, fun u r => r, T.k_NoStock_ValueError, hQ H2 s2⟩
    · cases el
      rw [List.length_map] at hch
      rw [hch] at hc1
      cases hc1
/-! _law_wrong_choices -/
def oddC (m : Int) : List PyData := [.none, .list [.int 0], .int 0, .tuple [.int m], .tuple [.int (-1)], .tuple [.int 0, .int 0], .tuple [.int 1, .int 0], .tuple [.bool true], .tuple [.none]]
theorem oddC_bad {m : Int} : ∀ d ∈ oddC m, chosB m d = false ∧ ∀ ds, d = .tuple ds → ds.length ≤ 40 := by
  intro d hd
  simp only [oddC, List.mem_cons, List.not_mem_nil, or_false] at hd
  rcases hd with rfl | rfl | rfl | rfl | rfl | rfl | rfl | rfl | rfl
  · exact ⟨rfl, fun ds e => by cases e⟩
  · exact ⟨rfl, fun ds e => by cases e⟩
  · exact ⟨rfl, fun ds e => by cases e⟩
  · refine ⟨?_, fun ds e => by cases e; show 1 ≤ 40; decide⟩
    show ((_ && decide (m < m)) && _) = false
    rw [decide_eq_false (Int.lt_irrefl m), Bool.and_false, Bool.false_and]
  · exact ⟨rfl, fun ds e => by cases e; decide⟩
  · refine ⟨?_, fun ds e => by cases e; decide⟩
    show (_ && ((decide ((0 : Int) + 1 ≤ 0) && _) && _)) = false
    rw [decide_eq_false (by decide : ¬ (0 : Int) + 1 ≤ 0), Bool.false_and, Bool.false_and, Bool.and_false]
  · refine ⟨?_, fun ds e => by cases e; decide⟩
    show (_ && ((decide ((1 : Int) + 1 ≤ 0) && _) && _)) = false
    rw [decide_eq_false (by decide : ¬ (1 : Int) + 1 ≤ 0), Bool.false_and, Bool.false_and, Bool.and_false]
  · exact ⟨rfl, fun ds e => by cases e; decide⟩
  · exact ⟨rfl, fun ds e => by cases e; decide⟩
def spWrongC (K : PySem.W.Frag) : Sp := fun vs H Q _ => ∃ ρ M A v l, vs = [.ref A.q, v] ∧ QuAt K ρ M H A ∧ EL.Al M H ∧ StkX K M H v (some l) ∧ (∀ s ∈ A.rs, s.as.length ≤ 150) ∧ lookI A.rs (some l) = none ∧
  ∀ H', Same H H' → Q (.bl true) H'
theorem d_wrongC (hP : PF P "/claim/cut.py") (T : Txt K mg) : Dn P w K mg base CX0 12 "_law_wrong_choices" (spWrongC K) := by
  obtain ⟨fd, F⟩ := T.f__law_wrong_choices
  have D__law_choice_refused := d_refS (P := P) (w := w) (base := base) hP T
  refine dnN T.g__law_wrong_choices F (fun _ _ _ _ _ _ us hl => match us, hl with | [_, _], _ => rfl) sc__law_wrong_choices (fun vs H Q E h => ?_) (fun cdv A outer s H vs Q E hr h => ?_)
  · obtain ⟨ρ, M, A, v, l, rfl, _⟩ := h
    rfl
  · obtain ⟨ρ, M, B, v, l, rfl, C, al, hv, h150, hi, hQ⟩ := h
    refine ⟨_, PSs.nox (pss_cons (ps_set (i := 2) sc__law_wrong_choices.nd rfl (.inl rfl) (pe_callB call_len_seq (by rfl) T.z_len (by decide +kernel) (pa_cons (pv 1) pa_nil)))
      (pss_cons (ps_for PassesOwn.never rfl (pi_list (pe_lst (pa_cons pe_non (pa_cons (lit_l (lits_cons lit_i lits_nil)) (pa_cons pe_int (pa_cons (pe_tup (pa_cons (pv 2) pa_nil)) (pa_cons (pe_tup (pa_cons (pe_un un_neg pe_int) pa_nil)) (pa_cons (lit_t (lits_cons lit_i (lits_cons lit_i lits_nil))) (pa_cons (lit_t (lits_cons lit_i (lits_cons lit_i lits_nil))) (pa_cons (lit_t (lits_cons lit_b lits_nil)) (pa_cons (lit_t (lits_cons lit_n lits_nil)) pa_nil))))))))))) (pg_name (i := 3) sc__law_wrong_choices.nd rfl (.inl rfl))
      (pss_one (ps_if (pt_not (pt_val (cl D__law_choice_refused (hr.mono (by decide)) (pa_cons (pv 0) (pa_cons (pv 1) (pa_cons (pv 3) pa_nil)))))) (pss_one (ps_ret pe_bl)) pss_nil)))
      (pss_one (ps_ret pe_bl)))), ?_⟩
    obtain ⟨a, us, rfl, ha, naM, lu, l5, hI⟩ := id hv
    refine ⟨_, rfl, _, _, rfl, .inl (SqL.of ha), ?_⟩
    intro v1 H1 s1 h1
    refine ⟨_, rfl, (by show 1 ≤ sizeLine; decide), fun q2 nq2 => ?_⟩
    generalize eH2 : upd H1 q2 _ = H2
    have s2 : Same H1 H2 := eH2 ▸ same_upd nq2
    have u2 : H2 q2 = some _ := eH2 ▸ upd_same
    refine ⟨_, rfl, (by show 1 ≤ sizeLine; decide), fun q3 nq3 => ?_⟩
    generalize eH3 : upd H2 q3 _ = H3
    have s3 : Same H2 H3 := eH3 ▸ same_upd nq3
    have u3 : H3 q3 = some _ := eH3 ▸ upd_same
    intro v4 H4 s4 h4 v5 H5 s5 h5 v6 H6 s6 h6 v7 H7 s7 h7
    refine ⟨(by show 9 ≤ sizeLine; decide), fun L nL => ?_⟩
    generalize eH8 : upd H7 L _ = H8
    have s8 : Same H7 H8 := eH8 ▸ same_upd nL
    have u8 : H8 L = some _ := eH8 ▸ upd_same
    have t8 := s8
    have t7 := s7.trans t8
    have t6 := s6.trans t7
    have t5 := s5.trans t6
    have t4 := s4.trans t5
    have t3 := s3.trans t4
    have t2 := s2.trans t3
    have t1 := s1.trans t2
    have dX : DpAll K H8 [.non, v1, .int 0, .ref q2, .ref q3, v4, v5, v6, v7] (oddC (us.length : Nat)) :=
      .cons .non (.cons (Dp.same t2 (h1 [] al_nil).dp) (.cons (.int _) (.cons (.tup (SqT.of (t3 _ _ u2)) (.cons (.int _) .nil)) (.cons (.tup (SqT.of (t4 _ _ u3)) (.cons (.int _) .nil))
        (.cons (Dp.same t5 (h4 [] al_nil).dp) (.cons (Dp.same t6 (h5 [] al_nil).dp) (.cons (Dp.same t7 (h6 [] al_nil).dp) (.cons (Dp.same t8 (h7 [] al_nil).dp) .nil))))))))
    refine ⟨L, rfl, ⟨_, SqL.of u8⟩, for_list (K := K) (a := L) (xs := [.non, v1, .int 0, .ref q2, .ref q3, v4, v5, v6, v7]) (fun i σ H' => Same H8 H' ∧ ∃ o, σ = [some (.ref B.q), some (.ref a), some (.int (us.length : Nat)), o]) ⟨.refl _, none, rfl⟩ (fun i σ H' _ h => h.1.seq (SqL.of u8)) ?_ ?_⟩
    · rintro i xv σ H' ey ⟨m, o, rfl⟩
      obtain ⟨d, hd, hdp⟩ := DpAll.get dX ey
      obtain ⟨hb, hl40⟩ := oddC_bad d (List.mem_of_getElem? hd)
      rw [lu] at hb
      have sH := t1.trans m
      refine ⟨_, rfl, _, rfl, _, rfl, ρ, M, B, .ref a, l, xv, d, rfl, C.same sH, al.same sH, hv.same sH, Dp.same m hdp, hl40, h150, hi, hb, fun H2 s2 => ?_⟩
      exact ⟨_, rfl, iteF ⟨m.trans s2, _, rfl⟩⟩
    · rintro σ H' ⟨m, o, rfl⟩
      exact hQ H' (t1.trans m)
end
end K51
namespace K51
open PySem PySem.Spec PyProof.Rows L2 He TL EL
section
variable {P : Program} {w : World} {K : PySem.W.Frag} {mg : Str → Option Value} {base : Heap}
/-! what a question's schema is, the law's way -/
theorem ddS_eq (as : List At) (a : At) : ddS as a = if a ∈ as then as else as ++ [a] := by
  unfold ddS
  by_cases h : a ∈ as
  · rw [if_pos h, if_pos (List.any_eq_true.mpr ⟨a, h, decide_eq_true rfl⟩)]
  · rw [if_neg h, if_neg]
    intro z
    obtain ⟨b, hb, e⟩ := List.any_eq_true.mp z
    exact h (of_decide_eq_true e ▸ hb)
theorem dd_fix {as : List At} (nd : as.Nodup) : dd as = as := by
  have key : ∀ (l acc : List At), l.Nodup → (∀ a ∈ l, a ∉ acc) → l.foldl ddS acc = acc ++ l := by
    intro l
    induction l with
    | nil => intro acc _ _; rw [List.append_nil]; rfl
    | cons a r ih =>
      intro acc nd h
      obtain ⟨h1, h2⟩ := List.nodup_cons.mp nd
      rw [List.foldl_cons, ddS_eq, if_neg (h a (List.mem_cons_self ..)), ih (acc ++ [a]) h2 fun b hb z => ?_, List.append_assoc]
      · rfl
      · rcases List.mem_append.mp z with z | z
        · exact h b (List.mem_cons_of_mem _ hb) z
        · cases List.mem_singleton.mp z
          exact h1 hb
  have := key as [] nd (fun a _ z => by cases z)
  rwa [List.nil_append] at this
theorem dd_add {as : List At} (nd : as.Nodup) (a : At) : dd (as ++ [a]) = if a ∈ as then as else as ++ [a] := by
  rw [dd_snoc, dd_fix nd, ddS_eq]
def inS1 (z : Str) (l : List At) (x : Str × At) : List At := if x.1 = z ∧ x.2 ∉ l then l ++ [x.2] else l
def inn (z : Str) (l : List At) (ad : List (Str × At)) : List At := ad.foldl (inS1 z) l
theorem inS1_nd {z : Str} {l : List At} (h : l.Nodup) (x : Str × At) : (inS1 z l x).Nodup := by
  unfold inS1
  split
  · next c => exact List.nodup_append.mpr ⟨h, by simp, fun a ha b hb e => by cases List.mem_singleton.mp hb; exact c.2 (e ▸ ha)⟩
  · exact h
theorem inn_nd {z : Str} : ∀ {ad : List (Str × At)} {l : List At}, l.Nodup → (inn z l ad).Nodup
  | [], _, h => h
  | x :: ad, _, h => inn_nd (ad := ad) (inS1_nd h x)
theorem inn_len {z : Str} : ∀ {ad : List (Str × At)} {l : List At}, (inn z l ad).length ≤ l.length + ad.length
  | [], _ => Nat.le_refl _
  | x :: ad, l => by
    have h := inn_len (z := z) (ad := ad) (l := inS1 z l x)
    have h2 : (inS1 z l x).length ≤ l.length + 1 := by
      unfold inS1
      split
      · rw [List.length_append]; exact Nat.le_refl _
      · omega
    show (inn z (inS1 z l x) ad).length ≤ _
    rw [List.length_cons]
    omega
theorem fold_inn : ∀ (ad : List (Str × At)) (fs : List Key3), (∀ f ∈ fs, f.2.2.Nodup) → ad.foldl narK fs = fs.map fun f => (f.1, f.2.1, inn f.1 f.2.2 ad)
  | [], fs, _ => by
    show fs = fs.map fun f => (f.1, f.2.1, f.2.2)
    rw [show (fun f : Key3 => (f.1, f.2.1, f.2.2)) = id from rfl, List.map_id]
  | x :: ad, fs, h => by
    have e : narK fs x = fs.map fun f => (f.1, f.2.1, inS1 f.1 f.2.2 x) := by
      unfold narK
      refine List.map_congr_left fun f hf => ?_
      unfold inS1
      by_cases c : f.1 = x.1
      · rw [if_pos c, dd_add (h f hf)]
        by_cases c2 : x.2 ∈ f.2.2
        · rw [if_pos c2, if_neg fun z => z.2 c2]
        · rw [if_neg c2, if_pos ⟨c.symm, c2⟩]
      · rw [if_neg c, if_neg fun z => c z.1.symm]
    rw [List.foldl_cons, e, fold_inn ad _ fun f hf => ?_, List.map_map]
    · rfl
    · obtain ⟨g, hg, rfl⟩ := List.mem_map.mp hf
      exact inS1_nd (h g hg) x
theorem fold_pick {its : List (Str × At)} : ∀ {cs : List Nat} {ks : List Key3}, (∀ i ∈ cs, i < its.length) → cs.foldl (nar1 its) ks = (cs.filterMap fun i => its[i]?).foldl narK ks
  | [], _, _ => rfl
  | i :: cs, ks, h => by
    have hi : its[i]? = some (its[i]'(h i (List.mem_cons_self ..))) := List.getElem?_eq_getElem _
    rw [List.foldl_cons, List.filterMap_cons, hi, List.foldl_cons, fold_pick fun j hj => h j (List.mem_cons_of_mem _ hj)]
    show _ = (cs.filterMap fun i => its[i]?).foldl narK (narK ks _)
    congr 1
    unfold nar1
    rw [hi]
/-! _law_is -/
def spIs (K : PySem.W.Frag) : Sp := fun vs H Q _ => ∃ ρ M S A fo fs aa va, ∃ ad : List (Str × At), vs = [.ref A.q, .ref fo, .ref aa] ∧ QuAt K ρ M H A ∧ FoAt K S H fo fs ∧ FsOk fs ∧ H aa = some (.lst va) ∧ DpAll K H va (ad.map itD) ∧ ad.length ≤ 40 ∧ A.rs.map keyS = ad.foldl narK fs ∧ A.ss.length = 1 ∧
  ∀ H', Same H H' → Q (.bl true) H'
theorem d_is (hP : PF P "/claim/cut.py") (T : Txt K mg) : Dn P w K mg base CX0 9 "_law_is" (spIs K) := by
  obtain ⟨fd, F⟩ := T.f__law_is
  have D_schema := d_q_schema (P := P) (w := w) (base := base) T
  have D_len := d_q_len (P := P) (w := w) (base := base) T
  have D_col := d_sc_col (w := w) (base := base) hP T
  have D_rul := d_sc_rules (w := w) (base := base) hP T
  have D_names := d_sc_names (P := P) (w := w) (base := base) T
  have D_atoms := d_atoms (P := P) (w := w) (base := base) T
  refine dnN T.g__law_is F (fun _ _ _ _ _ _ us hl => match us, hl with | [_, _, _], _ => rfl) sc__law_is (fun vs H Q E h => ?_) (fun cdv A outer s H vs Q E hr h => ?_)
  · obtain ⟨ρ, M, S, A, fo, fs, aa, va, ad, rfl, _⟩ := h
    rfl
  · obtain ⟨ρ, M, S, B, fo, fs, aa, va, ad, rfl, C, FO, ok, ea, da, l40, hk, h1, hQ⟩ := h
    refine ⟨_, PSs.nox (pss_cons (ps_set (i := 3) sc__law_is.nd rfl (.inl rfl) (pe_methE0 (pv 0) T.o_Question.cl T.h_Question_schema D_schema (hr.mono (by decide)) px0))
      (pss_cons (ps_for PassesOwn.never rfl (pi_list (pv 1)) (pg_name (i := 4) sc__law_is.nd rfl (.inl rfl))
      (pss_cons (ps_set (i := 5) sc__law_is.nd rfl (.inl rfl) (pe_callTy call_list_of (by rfl) T.z_list (by decide +kernel) (pa_cons (pe_ix ix_tup (pv 4) pe_int (fun _ _ => rfl)) pa_nil)))
      (pss_cons (ps_for PassesOwn.never rfl (pi_list (pv 2)) (pg_name (i := 6) sc__law_is.nd rfl (.inl rfl))
      (pss_one (ps_if (PW.pt (pw_and (pt_cmpR op_eq (pe_ix ix_tup (pv 6) pe_int (fun _ _ => rfl)) (pe_ix (show IxR _ (rIxT K) from ix_tup) (pv 4) pe_int (fun _ _ => rfl)) (nomark _)) (pw_and1 (pt_cmpR (op_notInD (u65 hr)) (pe_ix ix_tup (pv 6) pe_int (fun _ _ => rfl)) (pv 5) (by rfl))))) (pss_one (ps_expr (pe_bm PySem.F.plainAttrs_list PySem.F.slot_list_append PySem.F.type_list_append mt_append (pv 5) (pa_cons (pe_ix ix_tup (pv 6) pe_int (fun _ _ => rfl)) pa_nil)))) pss_nil)))
      (pss_one (ps_if (PW.pt (pw_or (pt_cmpR op_ne (pe_methE (pv 3) T.o_Schema.cl T.h_Schema_columns D_col (hr.mono (by decide)) pxq (pa_cons (pe_ix (show IxR _ (rIxT K) from ix_tup) (pv 4) pe_int (fun _ _ => rfl)) pa_nil)) (pe_ix ix_tup (pv 4) pe_int (fun _ _ => rfl)) (nomark _)) (pw_or1 (pt_cmpR (op_neD hr.units) (pe_methE0 (pe_methE (pv 3) T.o_Schema.cl T.h_Schema_rules D_rul (hr.mono (by decide)) pxq (pa_cons (pe_ix (show IxR _ (rIxT K) from ix_tup) (pv 4) pe_int (fun _ _ => rfl)) pa_nil)) T.o_Conditions.cl T.h_Conditions_atoms D_atoms (hr.mono (by decide)) px0) (pv 5) (nomark _))))) (pss_one (ps_ret pe_bl)) pss_nil)))))
      (pss_one (ps_ret (pe_and (pe_cmpR (op_eqD hr.units) (pe_methE0 (pv 3) T.o_Schema.cl T.h_Schema_names D_names (hr.mono (by decide)) px0) (pe_lc (own := [("_law_form", 4)]) (tt := tYes) (by rfl) sc__law_is.nd (pi_list (pv 1)) (blkOk_by (own := [("_law_form", 4)]) (N := ["_law_question", "_law_forms", "_law_added", "_law_schema", "_law_form", "_law_atoms", "_law_item_here"]) (sc := defScope s__law_is) (by decide +kernel)) (fun _ _ _ _ _ => (pg_name (i := 4) sc__law_is.nd rfl (.inl rfl))) (fun _ _ _ _ _ => pts_nil) (fun _ _ _ _ _ => (pe_ix (show IxR _ (rIxT K) from ix_tup) (pv 4) pe_int (fun _ _ => rfl)))) (nomark _)) (pe_one (pe_cmpR op_eq (pe_callB (call_lenO T.h_Question___len__ D_len (hr.mono (by decide)) pass0) (by rfl) T.z_len (by decide +kernel) (pa_cons (pv 0) pa_nil)) pe_int (nomark _)))))))), ?_⟩
    refine ⟨_, rfl, _, _, _, rfl, C.hq, quF_no (by decide +kernel), ρ, M, B, rfl, C, fun x dx dw dl H1 s1 nx ndw ndl hne SC => ?_⟩
    obtain ⟨us, eu, lu, _⟩ := FO.ex
    have l2 := ok.len
    have nmR : nmS B.rs = fs.map Prod.fst := by
      have := congrArg (List.map Prod.fst) hk
      rw [fold_inn ad fs ok.nd, List.map_map, List.map_map] at this
      exact this
    refine ⟨_, rfl, fo, rfl, ⟨_, SqL.of (s1 _ _ eu)⟩, for_list (K := K) (a := fo) (xs := us) (fun i σ H' => Same H1 H' ∧ ∃ o4 o5 o6, σ = [some (.ref B.q), some (.ref fo), some (.ref aa), some (.ref x), o4, o5, o6]) ⟨.refl _, none, none, none, rfl⟩ (fun i σ H' _ h => SqL.of (h.1 _ _ (s1 _ _ eu))) ?_ ?_⟩
    · rintro i xv σ H2 ey ⟨s2, o4, o5, o6, rfl⟩
      have S2 := s1.trans s2
      have hif : i < fs.length := by rw [← lu]; exact (List.getElem?_eq_some_iff.mp ey).1
      have hf : fs[i]? = some fs[i] := List.getElem?_eq_getElem hif
      generalize fs[i] = f at hf
      have hfm := List.mem_of_getElem? hf
      obtain ⟨us', t, L0, ws, e1, ht1, hT, hL0, _, dL⟩ := (FO.same S2).get hf
      rw [S2 _ _ eu] at e1
      have e1' : us = us' := by injection e1 with e1; injection e1
      subst e1'
      rw [ey] at ht1
      cases ht1
      -- the row of the schema
      obtain ⟨s, hs, hsk⟩ : ∃ s ∈ B.rs, keyS s = (f.1, f.2.1, inn f.1 f.2.2 ad) := by
        have : (f.1, f.2.1, inn f.1 f.2.2 ad) ∈ B.rs.map keyS := by
          rw [hk, fold_inn ad fs ok.nd]
          exact List.mem_map_of_mem hfm
        obtain ⟨s, hs, e⟩ := List.mem_map.mp this
        exact ⟨s, hs, e⟩
      have hs1 : s.nm = f.1 := (Prod.mk.inj hsk).1
      have hs2 : s.n = f.2.1 := (Prod.mk.inj (Prod.mk.inj hsk).2).1
      have hs3 : s.as = inn f.1 f.2.2 ad := (Prod.mk.inj (Prod.mk.inj hsk).2).2
      have hfs : findS B.rs f.1 = some s := hs1 ▸ findS_of C.ok.nd hs
      have notF : ∀ {R : Prop}, inS B.rs (.str f.1) = false → R := fun h => by
        have h2 : (findS B.rs f.1).isSome = false := h
        rw [hfs] at h2
        cases h2
      refine ⟨_, rfl, _, _, 2, _, rfl, rfl, hT, atI_nat (j := 2) rfl, _, _, rfl, .inl (SqL.of hL0), fun L nL => ?_⟩
      generalize eH3 : upd H2 L _ = H3
      have s3 : Same H2 H3 := eH3 ▸ same_upd nL
      have u3 : H3 L = some _ := eH3 ▸ upd_same
      have S3 := S2.trans s3
      refine ⟨_, rfl, aa, rfl, ⟨_, SqL.of (S3 _ _ ea)⟩, for_list (K := K) (a := aa) (xs := va) (fun j σ H' => ∃ ws' o6, σ = [some (.ref B.q), some (.ref fo), some (.ref aa), some (.ref x), some (.ref t), some (.ref L), o6] ∧ Md [L] H3 H' ∧ H' L = some (.lst ws') ∧ DpAll K H' ws' ((inn f.1 f.2.2 (ad.take j)).map At.d)) ⟨ws, o6, rfl, .refl _ _, u3, DpAll.same s3 dL⟩ (fun j σ H' _ ⟨_, _, _, m, _⟩ => SqL.of ((S2.trans (Md.new1 (S := []) m s3 nL).same) _ _ ea)) ?_ ?_⟩
      · rintro j yv σ H4 ey4 ⟨ws', o6', rfl, m4, eL4, dL4⟩
        have S4 : Same H H4 := S2.trans (Md.new1 (S := []) m4 s3 nL).same
        obtain ⟨dd', hd, hdp⟩ := DpAll.get da ey4
        obtain ⟨x', hx', rfl⟩ := getM hd
        obtain ⟨q, v1, rfl, hq, hv⟩ : ∃ q v1, yv = .ref q ∧ SqT K H4 q [.str x'.1, v1] ∧ Dp K H4 v1 x'.2.d := by
          cases Dp.same S4 hdp with
          | tup hS hA =>
            cases hA with
            | cons a b =>
              cases a
              cases b with
              | cons c d => cases d; exact ⟨_, _, rfl, hS, c⟩
        have hT4 : SqT K H4 t _ := Same.seqT (Md.new1 (S := []) m4 s3 nL).same hT
        have htk : inn f.1 f.2.2 (ad.take (j + 1)) = inS1 f.1 (inn f.1 f.2.2 (ad.take j)) x' := by
          rw [tk1 hx']
          show (ad.take j ++ [x']).foldl (inS1 f.1) f.2.2 = _
          rw [List.foldl_append]
          rfl
        refine ⟨_, rfl, _, _, 0, _, rfl, rfl, hq, atI_nat (j := 0) rfl, _, rfl, _, _, 0, _, rfl, rfl, hT4, atI_nat (j := 0) rfl, rfl, _, rfl, ?_⟩
        by_cases c : x'.1 = f.1
        · refine if_pos_of (decide_eq_true (by rw [c])) ?_
          refine ⟨_, rfl, _, _, 1, _, rfl, rfl, hq, atI_nat (j := 1) rfl, _, rfl, x'.2.d, _, hv, .lst (SqL.of eL4) dL4, (At.pd x'.2).shaped, (pds_at _).shaped, ?_⟩
          rw [any_eqv]
          by_cases c2 : x'.2 ∈ inn f.1 f.2.2 (ad.take j)
          · refine ⟨_, rfl, if_neg_of (by rw [List.any_eq_true.mpr ⟨_, c2, decide_eq_true rfl⟩]; rfl) ?_⟩
            refine ⟨ws', _, rfl, m4, eL4, ?_⟩
            rw [htk]
            unfold inS1
            rw [if_neg fun z => z.2 c2]
            exact dL4
          · have e0 : ((inn f.1 f.2.2 (ad.take j)).any fun z => decide (z = x'.2)) = false := Bool.eq_false_iff.mpr (fun z => by obtain ⟨b, hb, e⟩ := List.any_eq_true.mp z; exact c2 (of_decide_eq_true e ▸ hb))
            refine ⟨_, rfl, if_pos_of (by rw [e0]; rfl) ?_⟩
            refine ⟨_, rfl, .inl ⟨rfl, _, SqL.of eL4⟩, _, rfl, _, _, 1, _, rfl, rfl, hq, atI_nat (j := 1) rfl, L, _, _, rfl, rfl, eL4, ?_, ?_⟩
            · rw [DpAll.length dL4, List.length_map]
              have h1 := inn_len (z := f.1) (ad := ad.take j) (l := f.2.2)
              have h2 := ok.le f hfm
              have h3 : (ad.take j).length ≤ ad.length := by rw [List.length_take]; exact Nat.min_le_right _ _
              exact Nat.lt_of_le_of_lt (show _ ≤ 100 by omega) (by decide)
            · have mu : Md [L] H4 (upd H4 L (.lst (ws' ++ [v1]))) := Md.upd eL4 rfl (by simp)
              refine ⟨ws' ++ [v1], _, rfl, m4.trans mu, upd_same, ?_⟩
              rw [htk]
              unfold inS1
              rw [if_pos ⟨c, c2⟩, List.map_append]
              exact DpAll.snoc (mu.dp (nl_at _) hv) (mu.dpAll (nl_ats _) dL4)
        · refine if_neg_of (decide_eq_false fun z => c (V.str.inj z)) ?_
          refine ⟨ws', _, rfl, m4, eL4, ?_⟩
          rw [htk]
          unfold inS1
          rw [if_neg fun z => c z.1]
          exact dL4
      · rintro σ H5 ⟨ws', o6', rfl, m5, eL5, dL5⟩
        have lva : va.length = ad.length := by rw [DpAll.length da, List.length_map]
        rw [lva, List.take_length] at dL5
        have s25 : Same H2 H5 := (Md.new1 (S := []) m5 s3 nL).same
        have SC5 := SC.same (s2.trans s25)
        have hT5 : SqT K H5 t _ := Same.seqT s25 hT
        refine ⟨_, rfl, _, _, _, rfl, SC5.hx, scF_no (by decide) (by decide), _, rfl, _, _, 0, _, rfl, rfl, hT5, atI_nat (j := 0) rfl, x, dx, dw, dl, B.rs, _, .str f.1, rfl, SC5, .str _, fun h => notF h, fun z s' ez hf' => ?_⟩
        cases ez
        rw [hfs] at hf'
        cases hf'
        refine ⟨_, rfl, _, _, 1, _, rfl, rfl, hT5, atI_nat (j := 1) rfl, rfl, _, rfl, if_neg_of (by show (!decide (V.int (s.n : Int) = V.int (f.2.1 : Int))) = false; rw [hs2, decide_eq_true rfl]; rfl) ?_⟩
        refine ⟨_, rfl, _, _, _, rfl, SC5.hx, scF_no (by decide) (by decide), _, rfl, _, _, 0, _, rfl, rfl, hT5, atI_nat (j := 0) rfl, x, dx, dw, dl, B.rs, _, .str f.1, rfl, SC5, .str _, fun h => notF h, fun z s' ez hf' => ?_⟩
        cases ez
        rw [hfs] at hf'
        cases hf'
        have l42 : s.as.length ≤ 42 := by
          rw [hs3]
          have h1 := inn_len (z := f.1) (ad := ad) (l := f.2.2)
          have h2 := ok.le f hfm
          omega
        refine ⟨by omega, fun y dy m H6 s6 ny nm hym CY => ?_⟩
        rw [dd_fix (by rw [hs3]; exact inn_nd (ok.nd f hfm))] at CY
        refine ⟨_, _, _, rfl, CY.hx, cdF_no (by decide), y, dy, m, s.as, rfl, CY, fun q vq H7 nq s7 e7 a7 => ?_⟩
        have s57 := s6.trans s7
        refine ⟨_, rfl, _, _, .lst (SqL.of e7) a7, .lst (SqL.of (s57 _ _ eL5)) (DpAll.same s57 dL5), (pds_at _).shaped, (pds_at _).shaped, ?_⟩
        rw [eqv_ats, decide_eq_true (show s.as = inn f.1 f.2.2 ad from hs3)]
        exact ⟨_, rfl, iteF ⟨s2.trans (s25.trans s57), _, _, _, rfl⟩⟩
    · rintro σ H2 ⟨s2, o4, o5, o6, rfl⟩
      have SC2 := SC.same s2
      have S2 := s1.trans s2
      refine ⟨_, rfl, _, _, _, rfl, SC2.hx, scF_no (by decide) (by decide), x, dx, dw, dl, B.rs, rfl, SC2, fun p H3 np s3 e3 => ?_⟩
      refine ⟨_, rfl, ?_⟩
      refine ⟨fo, rfl, ⟨_, SqL.of ((S2.trans s3) _ _ eu)⟩, fun D nD => ?_⟩
      have sD : Same H3 (upd H3 D (.lst [])) := same_upd nD
      have S3 := S2.trans s3
      have lnf : ∀ i : Nat, ((fs.take i).map fun f => V.str f.1).length ≤ 2 := fun i => by
        rw [List.length_map, List.length_take, l2]
        exact Nat.min_le_right _ _
      refine lc_it (walk_list (xs := us)) (fun i H' => H' D = some (.lst ((fs.take i).map fun f => V.str f.1)) ∧ Md [D] (upd H3 D (.lst [])) H') ⟨upd_same, .refl _ _⟩ (fun i H' _ h => SqL.of ((S3.trans (Md.new1 (S := []) h.2 sD nD).same) _ _ eu)) ?_ ?_
      · rintro j xv H4 H5 hj ⟨e4, m4⟩ ⟨rfl, hx⟩
        have S4 := S3.trans (Md.new1 (S := []) m4 sD nD).same
        have hif : j < fs.length := by rw [← lu]; exact hj
        have hf : fs[j]? = some fs[j] := List.getElem?_eq_getElem hif
        generalize fs[j] = f at hf
        obtain ⟨us', t, L0, ws, e1, ht1, hT, hL0, _, dL⟩ := (FO.same S4).get hf
        rw [S4 _ _ eu] at e1
        have e1' : us = us' := by injection e1 with e1; injection e1
        subst e1'
        rw [hx] at ht1
        cases ht1
        refine ⟨rfl, tYes_of ?_⟩
        refine ⟨_, rfl, _, _, 0, _, rfl, rfl, hT, atI_nat (j := 0) rfl, ?_⟩
        refine ⟨_, e4, Nat.lt_of_le_of_lt (lnf j) (by decide), ?_, m4.trans (Md.upd e4 rfl (by simp))⟩
        rw [tk1 hf, List.map_append]
        exact upd_same
      · rintro H4 ⟨e4, m4⟩
        rw [lu, List.take_length] at e4
        have s34 := (Md.new1 (S := []) m4 sD nD).same
        have S4 := S3.trans s34
        have C4 := C.same S4
        have e3' := s34 _ _ e3
        rw [nmS_map, nmR] at e3'
        have e4' : H4 D = some (.lst ((fs.map Prod.fst).map V.str)) := by rw [e4, List.map_map]; rfl
        have pn := pds_str (ns := fs.map Prod.fst) (fun z hz => C.ok.so z (nmR ▸ hz))
        refine ⟨_, _, .lst (SqL.of e3') (dp_str _), .lst (SqL.of e4') (dp_str _), pn.shaped, pn.shaped, ?_⟩
        rw [eqv_strs, decide_eq_true rfl]
        refine ⟨_, rfl, iteT ?_⟩
        refine ⟨_, rfl, _, _, _, rfl, C4.hq, ρ, M, B, rfl, C4, _, rfl, ⟨by omega, by omega⟩, rfl, ?_⟩
        rw [h1]
        exact hQ H4 S4
end
end K51
namespace K51
open PySem PySem.Spec PyProof.Rows L2 He TL EL
section
variable {P : Program} {w : World} {K : PySem.W.Frag} {mg : Str → Option Value} {base : Heap}
/-! a written rule: base("a", ["t"], [Cell("first", 0)]) -/
def r51 : Ru := ⟨"a", none, ["t"], [.cell .first 0], [], 0, none⟩
theorem r51_ok : RuOk r51 where
  st := fun z hz => by
    rcases hz with rfl | h | h
    · decide +kernel
    · cases h
    · cases List.mem_singleton.mp h; decide +kernel
  la := by decide
  nd := List.nodup_nil
  ok := fun a ha => by cases ha
  ts := fun t ht => by cases List.mem_singleton.mp ht; show 0 < 3; decide
  lt := by decide
  lw := by decide
theorem mkBase51 {H : Hp} {lt lm cx cdx : Addr} {Q : V → Hp → Prop} {E : XK} (hlt : SqL K H lt [.str "t"]) (hlm : SqL K H lm [.ref cx]) (hcx : H cx = some (.ins (aCell K) cdx (plF .first 0)))
    (hQ : ∀ x H', Same H H' → (∀ M, EL.Al M H → RuAt K M H' x r51) → Q (.ref x) H') : spBase K [.str "a", .ref lt, .ref lm, .non] H Q E := by
  refine ⟨_, _, _, _, .str "a", .list [.str "t"], some [some (.cell .first 0)], some [], rfl, .str _, by show 1 ≤ 100000; decide, .lst hlt (.cons (.str _) .nil), fun d hd => by cases List.mem_singleton.mp hd; show 1 ≤ 100000; decide, ⟨lm, _, rfl, hlm, ⟨⟨cx, cdx, rfl, hcx, by decide⟩, trivial⟩, by decide, fun t ht => ?_⟩, .inl ⟨rfl, rfl⟩, fun as e => by cases e; decide, fun z e => ?_, fun _ r x H' s e1 e2 e3 e4 e5 e6 e7 R => ?_⟩
  · cases List.mem_singleton.mp ht
    show 0 < 3
    decide
  · have : whyB (.str "a") (.list [.str "t"]) (some [some (.cell .first 0)]) (some []) = none := by decide +kernel
    rw [this] at e
    cases e
  · have e : r = r51 := by
      obtain ⟨ra, ro, rw_, rt, ras, rn, rm⟩ := r
      have e1 : ("a" : Str) = ra := by injection e1
      have e3 : [("t" : Str)] = rw_ := by
        injection e3 with e3
        exact (List.map_inj_right (f := PyData.str) (fun a b h => by injection h)).mp (show [("t" : Str)].map PyData.str = rw_.map PyData.str from e3)
      have e4 : some [Tm.cell .first 0] = some rt := by rw [← e4]; decide +kernel
      have e4 := Option.some.inj e4
      obtain ⟨as, ea, e5⟩ := e5
      cases ea
      have e5 : ras = [] := e5
      have e2 : ro = none := e2
      have e6 : rn = 0 := e6
      have e7 : rm = none := e7
      unfold r51
      rw [← e1, ← e3, ← e4, e5, e2, e6, e7]
    subst e
    exact hQ x H' s R
/-! _law_begun -/
theorem findS_none {rs : List Sch} {z : Str} (h : z ∉ nmS rs) : findS rs z = none := by
  have := findS_nm rs z
  rw [decide_eq_false h] at this
  cases q : findS rs z with
  | none => rfl
  | some s => rw [q] at this; cases this
def aw1 : List (Str × Nat) := [("a", 1)]
def aK : List (Key × V) := [(.inr "a", .int 1)]
theorem merge_a : mergeK ([] : List (Key × V)) aK = aK := by
  show putK ([] : List (Key × V)) (Sum.inr "a" : Key) (.int 1) = _
  rw [putK_new (kvs := ([] : List (Key × V))) (k := (Sum.inr "a" : Key)) (V.int 1) rfl]
  rfl
theorem aw1_ok {rs : List Sch} (h : nmS rs = [("t" : Str), ("u" : Str)]) : AwOk rs aw1 := by
  refine ⟨by decide, by decide, fun p hp => ?_, by decide +kernel, fun p hp => ?_⟩
  · cases List.mem_singleton.mp hp
    refine ⟨by decide +kernel, by decide +kernel, by decide, by decide, ?_⟩
    show (findS rs "a").isSome = false
    rw [findS_none (by rw [h]; decide +kernel)]
    rfl
  · cases List.mem_singleton.mp hp
    decide +kernel
theorem look51 {rs : List Sch} {s : Sch} (h : findS rs "t" = some s) (h1 : 1 ≤ s.n) : lookE rs aw1 r51 = none := by
  have e0 : (r51.ws.find? fun z => (awN aw1 z).isSome) = none := by decide +kernel
  have e1 : (awN aw1 r51.a).getD 0 = r51.ts.length := by decide +kernel
  have e2 : (r51.ws.any fun z => (rsN rs z).isNone) = false := by
    show ((((findS rs "t").map Sch.n).isNone) || false) = false
    rw [h]
    rfl
  have e3 : r51.ts.all (Tm.fits (plN rs aw1 r51)) = true := by
    show (decide (0 < ((some ("t" : Str)).bind (rsN rs)).getD 0) && true) = true
    rw [show ((some ("t" : Str)).bind (rsN rs)).getD 0 = s.n by show ((findS rs "t").map Sch.n).getD 0 = s.n; rw [h]; rfl, decide_eq_true (by omega)]
    rfl
  unfold lookE
  rw [e0]
  show (if (awN aw1 r51.a).getD 0 ≠ r51.ts.length then some (LkE.why "answer") else if false = true then some (LkE.why "old") else if (r51.ws.any fun z => (rsN rs z).isNone) = true then some (LkE.why "tables") else if r51.ts.all (Tm.fits (plN rs aw1 r51)) = false then some (LkE.why "makes") else if true = false then some (LkE.why "conditions") else none) = none
  rw [if_neg (fun z => z e1), if_neg (by decide), e2, if_neg (by decide), e3, if_neg (by decide), if_neg (by decide)]
def spBegun (K : PySem.W.Frag) : Sp := fun vs H Q _ => ∃ fo S M0 fs, vs = [.ref fo] ∧ FoAt K S H fo fs ∧ FsOk fs ∧ EL.Al M0 H ∧
  ∀ A H', Same H H' → QuNew H A → QuAt K (fun _ => r51) (A.q :: A.st :: M0) H' A → A.rs.map keyS = fs → A.ss.length = 1 → Q (.ref A.q) H'
theorem d_begun (hP : PF P "/claim/cut.py") (T : Txt K mg) : Dn P w K mg base CX0 11 "_law_begun" (spBegun K) := by
  obtain ⟨fd, F⟩ := T.f__law_begun
  have D_sc0 := d_sc0 (P := P) (w := w) (base := base) T
  have D_qi2 := d_qi2 (P := P) (w := w) (base := base) T
  have D_cd := d_cd1 (P := P) (w := w) (base := base) T
  have D_add := (d_sc_add (P := P) (w := w) (base := base) hP T)
  have D_qadd := d_q_add (P := P) (w := w) (base := base) hP T
  have D_cell := d_cell (P := P) (w := w) (base := base) T
  obtain ⟨fdA, FA, okA⟩ := D_add
  have D_add4 := fnD FA okA 4 1 (by simp) rfl (fun _ _ _ _ _ _ _ us its h1 h2 => match us, its, h1, h2 with | [_, _, _, _], [_], _, _ => ⟨_, rfl, rfl⟩)
  obtain ⟨fdB, FB, okB⟩ := ok_base (w := w) (base := base) hP T
  have D_base : Dn P w K mg base (L2.CX P w) 9 "base" (fun vs H Q E => spBase K (vs ++ ([V.non] : List V).drop 0) H Q E) := ⟨T.g_base, FB.kp, fnD FB okB 3 0 (by simp) rfl (fun _ _ _ _ _ _ _ us its h1 h2 => match us, its, h1, h2 with | [_, _, _], [_], _, _ => ⟨_, rfl, rfl⟩)⟩
  refine dnN T.g__law_begun F (fun _ _ _ _ _ _ us hl => match us, hl with | [_], _ => rfl) sc__law_begun (fun vs H Q E h => ?_) (fun cdv A outer s H vs Q E hr h => ?_)
  · obtain ⟨fo, S, M0, fs, rfl, _⟩ := h
    rfl
  · obtain ⟨fo, S, M0, fs, rfl, FO, ok, al, hQ⟩ := h
    refine ⟨_, PSs.nox (pss_cons (ps_set (i := 1) sc__law_begun.nd rfl (.inl rfl) (pe_makeE0 T.m_Schema D_sc0 (hr.mono (by decide)) T.g_Schema px0))
      (pss_cons (ps_for PassesOwn.never rfl (pi_list (pv 0)) (pg_name (i := 2) sc__law_begun.nd rfl (.inl rfl))
      (pss_one (ps_expr (pe_methE (pv 1) T.o_Schema.cl T.h_Schema_add D_add4 (hr.mono (by decide)) pxq (pa_cons (pe_ix ix_tup (pv 2) pe_int (fun _ _ => rfl)) (pa_cons (pe_ix ix_tup (pv 2) pe_int (fun _ _ => rfl)) (pa_cons (pe_makeE T.m_Conditions D_cd (hr.mono (by decide)) T.g_Conditions pxq (pa_cons (pe_ix ix_tup (pv 2) pe_int (fun _ _ => rfl)) pa_nil)) pa_nil)))))))
      (pss_cons (ps_set (i := 3) sc__law_begun.nd rfl (.inl rfl) (pe_makeE T.m_Question D_qi2 (hr.mono (by decide)) T.g_Question px0 (pa_cons (pv 1) (pa_cons (pe_disp (pps_cons pe_str pe_int pps_nil) rfl rfl (by simp) (by decide)) pa_nil))))
      (pss_cons (ps_expr (pe_methE (pv 3) T.o_Question.cl T.h_Question_add D_qadd (hr.mono (by decide)) pxq (pa_cons (cl0 D_base (hr.mono (by decide)) (pa_cons pe_str (pa_cons (pe_lst (pa_cons pe_str pa_nil)) (pa_cons (pe_lst (pa_cons (pe_makeE T.m_Cell D_cell (hr.mono (by decide)) T.g_Cell px0 (pa_cons pe_str (pa_cons pe_int pa_nil))) pa_nil)) pa_nil)))) pa_nil)))
      (pss_one (ps_ret (pv 3))))))), ?_⟩
    refine mkSc (.inl ⟨rfl, rfl⟩) (.inl ⟨rfl, rfl⟩) fun x dx dw dl H1 s1 nx nw nl hwl hx hw hl => ?_
    have C0 : ScAt K H1 x dx dw dl [] := ⟨hx, hw, hl, fun s hs => by cases hs⟩
    obtain ⟨us, eu, lu, _⟩ := FO.ex
    have l2 := ok.len
    have FOd := FO.re (fresh2 nw nl)
    have subd : ∀ b ∈ [dw, dl], b ∈ dw :: dl :: S := fun b hb => by
      rcases List.mem_cons.mp hb with h | h
      · rw [h]; exact List.mem_cons_self ..
      · cases List.mem_singleton.mp h; exact List.mem_cons_of_mem _ (List.mem_cons_self ..)
    have nfo : fo ∉ [dw, dl] := not2 (ne_of_none eu nw) (ne_of_none eu nl)
    have FOm : ∀ {H'}, Md [dw, dl] H1 H' → FoAt K (dw :: dl :: S) H' fo fs := fun m => (FOd.same s1).md m subd
    have alm : ∀ {H'}, Md [dw, dl] H1 H' → EL.Al M0 H' := fun m => al.same ((Md.newM (S := []) (Md.newM (S := [dl]) m (Md.of s1) nw) (Md.refl _ _) nl).same)
    refine ⟨_, rfl, fo, rfl, ⟨_, SqL.of (s1 _ _ eu)⟩, for_list (K := K) (a := fo) (xs := us) (fun i σ H' => Md [dw, dl] H1 H' ∧ ∃ rs o2, σ = [some (.ref fo), some (.ref x), o2, none] ∧ ScAt K H' x dx dw dl rs ∧ rs.map keyS = fs.take i ∧ (∀ s ∈ rs, s.c ∉ M0 ∧ s.l ∉ M0)) ⟨.refl _ _, [], none, rfl, C0, rfl, fun s hs => (by cases hs)⟩ (fun i σ H' _ h => SqL.of (h.1.out _ _ (s1 _ _ eu) nfo)) ?_ ?_⟩
    · rintro i xv σ H2 ey ⟨m2, rs, o2, rfl, C2, hk, hc⟩
      have hif : i < fs.length := by rw [← lu]; exact (List.getElem?_eq_some_iff.mp ey).1
      have hf : fs[i]? = some fs[i] := List.getElem?_eq_getElem hif
      generalize fs[i] = f at hf
      have hfm := List.mem_of_getElem? hf
      obtain ⟨us', t, L0, ws, e1, ht1, hT, hL0, _, dL⟩ := (FOm m2).get hf
      rw [m2.out _ _ (s1 _ _ eu) nfo] at e1
      have e1' : us = us' := by injection e1 with e1; injection e1
      subst e1'
      rw [ey] at ht1
      cases ht1
      have nmr : nmS rs = (fs.map Prod.fst).take i := by
        rw [← List.map_take, ← hk, List.map_map]
        rfl
      have lrs : rs.length ≤ 2 := by
        have := congrArg List.length hk
        rw [List.length_map, List.length_take] at this
        omega
      have hzm : f.1 ∈ [("t" : Str), ("u" : Str)] := by rw [← ok.nm]; exact List.mem_map_of_mem hfm
      have hzw : isWordD (.str f.1) = true ∧ f.1.length ≤ 100000 := by
        simp only [List.mem_cons, List.not_mem_nil, or_false] at hzm
        rcases hzm with h | h <;> rw [h] <;> exact ⟨by decide +kernel, by decide +kernel⟩
      have hzn : f.1 ∉ nmS rs := by
        rw [nmr]
        have hnd : (fs.map Prod.fst).Nodup := by rw [ok.nm]; decide +kernel
        have hz : (fs.map Prod.fst)[i]? = some f.1 := by rw [List.getElem?_map, hf]; rfl
        have h1 := List.Nodup.sublist (List.take_sublist (i + 1) _) hnd
        rw [tk1 hz] at h1
        exact fun hm => (List.nodup_append.mp h1).2.2 f.1 hm f.1 (by simp) rfl
      have k1 := ok.n1 f hfm
      have k3 := ok.n3 f hfm
      have hadd : addOk rs (.str f.1) (.int (f.2.1 : Nat)) = true := by
        unfold addOk
        rw [hzw.1, show inS rs (.str f.1) = false by show (findS rs f.1).isSome = false; rw [findS_none hzn]; rfl, show colOk (.int (f.2.1 : Nat)) = true by show (decide ((1 : Int) ≤ (f.2.1 : Nat)) && decide (((f.2.1 : Nat) : Int) ≤ (3 : Int))) = true; rw [decide_eq_true (by omega), decide_eq_true (by omega)]; rfl]
        rfl
      have hfit : f.2.2.all (At.fits (pn1 (colN (.int (f.2.1 : Nat))))) = true := ok.fi f hfm
      refine ⟨_, rfl, _, _, _, rfl, C2.hx, scF_no (by decide) (by decide), _, rfl, _, _, 0, _, rfl, rfl, hT, atI_nat (j := 0) rfl, _, rfl, _, _, 1, _, rfl, rfl, hT, atI_nat (j := 1) rfl, _, rfl, _, _, 2, _, rfl, rfl, hT, atI_nat (j := 2) rfl, ?_⟩
      have lf := ok.le f hfm
      refine mkCd (as := f.2.2) (.inl (SqL.of hL0)) dL (ok.ok f hfm) (by omega) fun y dy n H3 s3 ny nn hyn CY => ?_
      rw [dd_fix (ok.nd f hfm)] at CY
      have C3 := C2.same s3
      refine ⟨x, dx, dw, dl, rs, _, _, _, .str f.1, .int (f.2.1 : Nat), f.2.2, rfl, C3, .str _, .int _, (fun z' e => by cases e; exact hzw.2), .inr ⟨y, dy, n, rfl, CY⟩, by omega, by omega, hwl, (fun h => by rw [hadd] at h; cases h), (fun _ h => by rw [hfit] at h; cases h), fun z' ez _ _ y' dy' l' H4 m4 ny' nl' hyl C4 => ?_⟩
      cases ez
      have al3 := (alm m2).same s3
      refine ⟨m2.trans ((Md.of s3).trans m4), _, _, rfl, C4, ?_, fun s hs => ?_⟩
      · rw [List.map_append, hk, tk1 hf, dd_fix (ok.nd f hfm)]
        rfl
      · rcases List.mem_append.mp hs with hs | hs
        · exact hc s hs
        · cases List.mem_singleton.mp hs
          exact ⟨al3.out ny', al3.out nl'⟩
    · rintro σ H2 ⟨m2, rs, o2, rfl, C2, hk, hc⟩
      rw [lu, List.take_length] at hk
      have nmr : nmS rs = [("t" : Str), ("u" : Str)] := by
        rw [← ok.nm, ← hk, List.map_map]
        rfl
      have s02 : Same H H2 := (Md.newM (S := []) (Md.newM (S := [dl]) m2 (Md.of s1) nw) (Md.refl _ _) nl).same
      refine ⟨_, rfl, ?_⟩
      intro pd npd
      refine ⟨upd_same, aK, rfl, (by show 1 ≤ 15; decide), ?_⟩
      rw [upd_upd, merge_a]
      generalize eH3 : upd H2 pd _ = H3
      have s3 : Same H2 H3 := eH3 ▸ same_upd npd
      have e3 : H3 pd = some _ := eH3 ▸ upd_same
      have C3 := C2.same s3
      have e3' : H3 pd = some (.dK (dI (awI aw1))) := e3
      refine mkQu C3 e3' (Ne.symm (ne_of_none C2.hw npd)) (Ne.symm (ne_of_none C2.hl npd)) (aw1_ok nmr) (.inl ⟨rfl, rfl⟩) (.inr (T.dq1 _)) fun q dq f' df' dw' dl' wd st ex H4 s4 a0 a1 a2 a3 a4 a5 a6 a7 a8 a9 b1 b2 b3 b4 b5 b6 => ?_
      have al3 : EL.Al M0 H3 := al.same (s02.trans s3)
      have nin : ∀ {b : Addr}, H3 b = none → b ≠ q → b ≠ st → b ∉ q :: st :: M0 := fun n h1 h2 z => (List.mem_cons.mp z).elim h1 fun z => (List.mem_cons.mp z).elim h2 (al3.out n)
      have okA : QuOk ⟨q, dq, f', df', dw', dl', wd, st, ex, rs, aw1, [], []⟩ := by
        refine ⟨a4, a5, a6, b1, aw1_ok nmr, by show (nmS rs).Nodup; rw [nmr]; decide +kernel, fun z hz => ?_, ?_, fun s hs => ?_, by show 0 ≤ 1000; decide, by show 0 ≤ 1000; decide, fun y hy => by cases hy⟩
        · have hz : z ∈ nmS rs := hz
          rw [nmr] at hz
          simp only [List.mem_cons, List.not_mem_nil, or_false] at hz
          rcases hz with rfl | rfl <;> decide +kernel
        · have := congrArg List.length hk
          rw [List.length_map, l2] at this
          show rs.length ≤ 100
          omega
        · have hm : keyS s ∈ fs := hk ▸ List.mem_map_of_mem hs
          have := ok.le _ hm
          show s.as.length ≤ 300
          have this : s.as.length ≤ 2 := this
          omega
      have QA : QuAt K (fun _ => r51) (q :: st :: M0) H4 ⟨q, dq, f', df', dw', dl', wd, st, ex, rs, aw1, [], []⟩ := by
        refine ⟨b2, b3, b4, b5, ⟨[], b6, .nil⟩, fun y hy => (by cases hy), ⟨nin a1 (ne_of b3.hx b2 fun z => quF_ne_scF (HO.ins.inj z).2.2.symm) (ne_of b3.hx b5 (by intro z; cases z)), nin a2 (ne_of b3.hw b2 (by intro z; cases z)) (ne_of b3.hw b5 (by intro z; cases z)), nin a3 (ne_of b3.hl b2 (by intro z; cases z)) (ne_of b3.hl b5 (by intro z; cases z)), nin a7 (ne_of b4 b2 (by intro z; cases z)) (ne_of b4 b5 (by intro z; cases z)), nin a9 (ne_of b6 b2 (by intro z; cases z)) (Ne.symm b1)⟩, fun s hs => ?_, okA⟩
        have CD := C3.hc s hs
        obtain ⟨ws, ew, _⟩ := CD.hl
        refine ⟨fun z => ?_, fun z => ?_⟩
        · rcases List.mem_cons.mp z with h | z
          · exact ne_of_none CD.hx a0 h
          · rcases List.mem_cons.mp z with h | z
            · exact ne_of_none CD.hx a8 h
            · exact (hc s hs).1 z
        · rcases List.mem_cons.mp z with h | z
          · exact ne_of_none ew a0 h
          · rcases List.mem_cons.mp z with h | z
            · exact ne_of_none ew a8 h
            · exact (hc s hs).2 z
      have alQ : EL.Al (q :: st :: M0) H4 := Al.cons' (Al.cons' (al3.same s4) b5) b2
      refine ⟨_, rfl, _, _, _, rfl, b2, quF_no (by decide +kernel), (by show 1 ≤ sizeLine; decide), fun t1 nt1 => ?_⟩
      generalize eH5 : upd H4 t1 _ = H5
      have s5 : Same H4 H5 := eH5 ▸ same_upd nt1
      have e5 : H5 t1 = some _ := eH5 ▸ upd_same
      refine mkCell (p := .first) (c := 0) (by decide) fun cx cdx H6 s6 ncx ecx => ?_
      refine ⟨(by show 1 ≤ sizeLine; decide), fun t2 nt2 => ?_⟩
      generalize eH7 : upd H6 t2 _ = H7
      have s7 : Same H6 H7 := eH7 ▸ same_upd nt2
      have e7 : H7 t2 = some _ := eH7 ▸ upd_same
      delta tNil
      show spBase K [.str "a", .ref t1, .ref t2, .non] H7 _ _
      refine mkBase51 (cdx := cdx) (SqL.of ((s6.trans s7) _ _ e5)) (SqL.of e7) (s7 _ _ ecx) fun xr H8 s8 R => ?_
      have s48 := s5.trans (s6.trans (s7.trans s8))
      obtain ⟨s0, hs0, hn0⟩ : ∃ s0, findS rs "t" = some s0 ∧ 1 ≤ s0.n := by
        have hm : ("t" : Str) ∈ nmS rs := by rw [nmr]; exact List.mem_cons_self ..
        obtain ⟨s0, hs0, e⟩ := List.mem_map.mp hm
        refine ⟨s0, e ▸ findS_of (by rw [nmr]; decide +kernel) hs0, ?_⟩
        exact ok.n1 (keyS s0) (hk ▸ List.mem_map_of_mem hs0)
      have hlk : lookE rs aw1 r51 = none := look51 hs0 hn0
      refine ⟨fun _ => r51, q :: st :: M0, ⟨q, dq, f', df', dw', dl', wd, st, ex, rs, aw1, [], []⟩, xr, rfl, QA.same s48, R _ (alQ.same (s5.trans (s6.trans s7))), r51_ok, by show 0 ≤ 900; decide, List.mem_cons_of_mem _ (List.mem_cons_self ..), QA.qs, fun z h => (by rw [show lookE rs aw1 r51 = none from hlk] at h; cases h), fun z h => (by rw [show lookE rs aw1 r51 = none from hlk] at h; cases h), fun _ H9 m9 e9 Q9 => ?_⟩
      have s03 := s02.trans s3
      exact ⟨_, rfl, hQ ⟨q, dq, f', df', dw', dl', wd, st, ex, rs, aw1, [xr], []⟩ H9 (Md.new1 (S := []) m9 (s03.trans (s4.trans s48)) (s03.free a8)).same ⟨s03.free a0, s03.free a8⟩ Q9 hk rfl⟩
end
end K51
namespace K51
open PySem PySem.Spec PyProof.Rows L2 He TL EL
section
variable {P : Program} {w : World} {K : PySem.W.Frag} {mg : Str → Option Value} {base : Heap}
/-! _law_good -/
structure ItL (K : PySem.W.Frag) (S : List Addr) (H : Hp) (ia : Addr) (fs : List Key3) (its : List (Str × At)) : Prop where
  ex : ∃ vs, H ia = some (.lst vs) ∧ DpAll K H vs (its.map itD)
  nS : ia ∉ S
  le : its.length ≤ 5
  ok : ∀ x ∈ its, ItOk fs x
theorem nl_its : ∀ its : List (Str × At), noLs (its.map itD) = true
  | [] => rfl
  | x :: r => by show ((true && (noL x.2.d && true)) && noLs (r.map itD)) = true; rw [nl_at, nl_its r]; rfl
theorem ItL.md {S S' : List Addr} {H H' : Hp} {ia : Addr} {fs : List Key3} {its : List (Str × At)} (h : ItL K S H ia fs its) (m : Md S' H H') (hs : ∀ b ∈ S', b ∈ S) : ItL K S H' ia fs its := by
  obtain ⟨vs, e, d⟩ := h.ex
  exact ⟨⟨vs, m.out _ _ e (fun z => h.nS (hs _ z)), m.dpAll (nl_its _) d⟩, h.nS, h.le, h.ok⟩
theorem ItL.same {S : List Addr} {H H' : Hp} {ia : Addr} {fs : List Key3} {its : List (Str × At)} (h : ItL K S H ia fs its) (s : Same H H') : ItL K S H' ia fs its := h.md (.of (S := []) s) (by simp)
theorem ItL.re {S S' : List Addr} {H : Hp} {ia : Addr} {fs : List Key3} {its : List (Str × At)} (h : ItL K S H ia fs its) (hm : ∀ b, b ∉ S → (∃ o, H b = some o) → b ∉ S') : ItL K S' H ia fs its := by
  obtain ⟨vs, e, d⟩ := h.ex
  exact ⟨⟨vs, e, d⟩, hm _ h.nS ⟨_, e⟩, h.le, h.ok⟩
theorem it_inv {H : Hp} {v : V} {x : Str × At} (h : Dp K H v (itD x)) : ∃ q v1, v = .ref q ∧ SqT K H q [.str x.1, v1] ∧ Dp K H v1 x.2.d := by
  cases h with
  | tup hS hA =>
    cases hA with
    | cons a b =>
      cases a
      cases b with
      | cons c d => cases d; exact ⟨_, _, rfl, hS, c⟩
theorem good_of {fs : List Key3} (ok : FsOk fs) {rs : List Sch} {x : Str × At} (hx : ItOk fs x) (e : (rs.map keyS).map nnK = fs.map nnK) : (itI x).good rs = true := by
  obtain ⟨_, f, hf, hz, hfit⟩ := hx
  have hc := cols_eq ok e hf hz
  have hin : inS rs (.str x.1) = true := by
    show (findS rs x.1).isSome = true
    rw [findS_nm, nm_of ok e, ← ok.nm, ← hz]
    exact decide_eq_true (List.mem_map_of_mem hf)
  show (inS rs (.str x.1) && (decide ([x.2].length = 1) && (At.fits (pn1 (colsOf rs (.str x.1))) x.2 && true))) = true
  rw [hin, hc, hfit]
  rfl
theorem look_good {fs : List Key3} (ok : FsOk fs) {rs : List Sch} {its : List (Str × At)} (hx : ∀ x ∈ its, ItOk fs x) (e : (rs.map keyS).map nnK = fs.map nnK) : lookI rs (some (its.map itI)) = none := by
  show Option.map Int.ofNat ((its.map itI).findIdx? fun it => !it.good rs) = none
  rw [Option.map_eq_none_iff, List.findIdx?_eq_none_iff]
  intro y hy
  obtain ⟨x, hxm, rfl⟩ := List.mem_map.mp hy
  rw [good_of ok (hx x hxm) e]
  rfl
/-- a stock under way -/
def StkP (K : PySem.W.Frag) (S : List Addr) (H : Hp) (us : List V) (its : List (Str × At)) : Prop := ∀ (j : Nat) (u : V) (x : Str × At), us[j]? = some u → its[j]? = some x → ItmX K S H u (itI x)
theorem StkP.md {S S' : List Addr} {H H' : Hp} {us : List V} {its : List (Str × At)} (h : StkP K S H us its) (m : Md S' H H') (hs : ∀ b ∈ S', b ∈ S) : StkP K S H' us its := fun j u x h1 h2 => (h j u x h1 h2).md m hs
theorem StkP.snoc {S : List Addr} {H : Hp} {us : List V} {its : List (Str × At)} {u : V} {x : Str × At} (h : StkP K S H us its) (hx : its[us.length]? = some x) (hu : ItmX K S H u (itI x)) : StkP K S H (us ++ [u]) its := fun j v y h1 h2 => by
  by_cases c : j < us.length
  · rw [List.getElem?_append_left c] at h1
    exact h j v y h1 h2
  · have hj : j = us.length := by
      have := (List.getElem?_eq_some_iff.mp h1).1
      rw [List.length_append] at this
      have : j < us.length + 1 := this
      omega
    subst hj
    rw [List.getElem?_append_right (Nat.le_refl _), Nat.sub_self] at h1
    cases h1
    rw [hx] at h2
    cases h2
    exact hu
theorem StkP.stk {S : List Addr} {H : Hp} {D : Addr} {us : List V} {its : List (Str × At)} (h : StkP K (D :: S) H us its) (e : H D = some (.lst us)) (n : D ∉ S) (hl : us.length = its.length) (h5 : its.length ≤ 5) : StkX K S H (.ref D) (some (its.map itI)) := by
  refine ⟨D, us, rfl, e, n, by rw [List.length_map]; exact hl, by rw [List.length_map]; exact h5, fun i u it h1 h2 => ?_⟩
  obtain ⟨x, hx, rfl⟩ := getM h2
  exact (h i u x h1 hx).re fun b hb _ z => hb (List.mem_cons_of_mem _ z)
/-! the chosen indexes -/
theorem chF_mono {n m : Int} (h : n ≤ m) : ∀ {ds : List PyData} {l : Int}, chF n l ds = true → chF m l ds = true
  | [], _, _ => rfl
  | d :: ds, l, hc => by
    cases d <;> first | (cases hc; done) | skip
    rename_i k
    have hc : ((decide (l ≤ k) && decide (k < n)) && chF n (k + 1) ds) = true := hc
    show ((decide (l ≤ k) && decide (k < m)) && chF m (k + 1) ds) = true
    rw [Bool.and_eq_true, Bool.and_eq_true] at hc ⊢
    exact ⟨⟨hc.1.1, decide_eq_true (Int.lt_of_lt_of_le (of_decide_eq_true hc.1.2) h)⟩, chF_mono h hc.2⟩
theorem chF_snoc {n : Nat} : ∀ {cs : List Nat} {l : Int}, l ≤ (n : Nat) → chF (n : Nat) l (cs.map fun i => PyData.int (i : Nat)) = true → chF ((n : Nat) + 1 : Int) l ((cs ++ [n]).map fun i => PyData.int (i : Nat)) = true
  | [], l, hl, _ => by
    show ((decide (l ≤ ((n : Nat) : Int)) && decide (((n : Nat) : Int) < (n : Nat) + 1)) && true) = true
    rw [decide_eq_true hl, decide_eq_true (by omega)]
    rfl
  | c :: cs, l, hl, h => by
    have h : ((decide (l ≤ ((c : Nat) : Int)) && decide (((c : Nat) : Int) < (n : Nat))) && chF (n : Nat) ((c : Int) + 1) (cs.map fun i => PyData.int (i : Nat))) = true := h
    show ((decide (l ≤ ((c : Nat) : Int)) && decide (((c : Nat) : Int) < (n : Nat) + 1)) && chF ((n : Nat) + 1 : Int) ((c : Int) + 1) ((cs ++ [n]).map fun i => PyData.int (i : Nat))) = true
    rw [Bool.and_eq_true, Bool.and_eq_true] at h ⊢
    have h2 := of_decide_eq_true h.1.2
    exact ⟨⟨h.1.1, decide_eq_true (by omega)⟩, chF_snoc (by omega) h.2⟩
def addN (its : List (Str × At)) (cs : List Nat) : List (Str × At) := cs.filterMap fun i => its[i]?
end
end K51
namespace K51
open PySem PySem.Spec PyProof.Rows L2 He TL EL
section
variable {P : Program} {w : World} {K : PySem.W.Frag} {mg : Str → Option Value} {base : Heap}
theorem dp_intsR {H : Hp} : ∀ cs : List Nat, DpAll K H (cs.map fun c => V.int (c : Nat)) (cs.map fun c => PyData.int (c : Nat))
  | [] => .nil
  | c :: r => .cons (.int _) (dp_intsR r)
theorem its_inj {a b : List (Str × At)} (h : a.map itI = b.map itI) : a = b := by
  refine (List.map_inj_right (f := itI) fun x y e => ?_).mp h
  have e : Itm.pair (.str x.1) (some [x.2]) = Itm.pair (.str y.1) (some [y.2]) := e
  injection e with e1 e2
  injection e1 with e1
  injection e2 with e2
  injection e2 with e2
  exact Prod.ext e1 e2
theorem ints_inj {a b : List Nat} (h : (a.map fun c => PyData.int (c : Nat)) = b.map fun c => PyData.int (c : Nat)) : a = b := by
  refine (List.map_inj_right (f := fun c : Nat => PyData.int (c : Nat)) fun x y e => ?_).mp h
  injection e with e
  exact Int.ofNat.inj e
def atsD (x : Str × At) : PyData := .list [x.2.d]
theorem at_dep (a : At) : (At.d a).depth ≤ 8 := by
  have h1 := (Tm.pd a.l).2
  have h2 := (Tm.pd a.r).2
  show Nat.max (PyData.depth (.str a.s.s)) (Nat.max a.l.d.depth (Nat.max a.r.d.depth 0)) + 1 ≤ 8
  have h3 : PyData.depth (.str a.s.s) ≤ 1 := by first | exact Nat.zero_le _ | exact Nat.le_refl _
  have : Nat.max (PyData.depth (.str a.s.s)) (Nat.max a.l.d.depth (Nat.max a.r.d.depth 0)) ≤ 7 := Nat.max_le.mpr ⟨by omega, Nat.max_le.mpr ⟨by omega, Nat.max_le.mpr ⟨by omega, by omega⟩⟩⟩
  omega
theorem ats_sh (its : List (Str × At)) : SeqAt.shaped (.list (its.map atsD)) = true := by
  have h : PyData.canLayAll0 (its.map atsD) = true ∧ PyData.depthAll (its.map atsD) ≤ 9 := by
    induction its with
    | nil => exact ⟨rfl, Nat.zero_le _⟩
    | cons t r ih =>
      refine ⟨Bool.and_eq_true_iff.mpr ⟨?_, ih.1⟩, Nat.max_le.mpr ⟨?_, ih.2⟩⟩
      · show (PyData.canLay0 t.2.d && true) = true
        rw [SeqAt.canLay_of_shaped (At.pd t.2).shaped]
        rfl
      · show Nat.max (At.d t.2).depth 0 + 1 ≤ 9
        have := Nat.max_le.mpr ⟨at_dep t.2, Nat.zero_le 8⟩
        have h : Nat.max (At.d t.2).depth 0 ≤ 8 := this
        omega
  exact Bool.and_eq_true_iff.mpr ⟨h.1, decide_eq_true (by show PyData.depthAll (its.map atsD) + 1 ≤ 64; have := h.2; omega)⟩
theorem ats_eqv : ∀ its : List (Str × At), PyData.eqv (.list (its.map atsD)) (.list (its.map atsD)) = true
  | [] => rfl
  | x :: r => by
    show (PyData.eqv (.list ([x.2].map At.d)) (.list ([x.2].map At.d)) && PyData.eqv (.list (r.map atsD)) (.list (r.map atsD))) = true
    rw [eqv_ats, decide_eq_true rfl, ats_eqv r]
    rfl
def at9 : At := ⟨.ne, .cell .first 0, .val 9 1⟩
theorem at9_ok : At.ok at9 := ⟨by show 0 < 3; decide, ⟨by decide, by decide⟩, by decide, by decide⟩
theorem row_of {rs : List Sch} {fs : List Key3} {ad : List (Str × At)} (ok : FsOk fs) (nd : (nmS rs).Nodup) (hk : rs.map keyS = ad.foldl narK fs) {z : Str} (hz : z ∈ [("t" : Str), ("u" : Str)]) : ∃ s, findS rs z = some s ∧ 1 ≤ s.n ∧ s.as.length ≤ 2 + ad.length := by
  rw [← ok.nm] at hz
  obtain ⟨f, hf, rfl⟩ := List.mem_map.mp hz
  have : (f.1, f.2.1, inn f.1 f.2.2 ad) ∈ rs.map keyS := by
    rw [hk, fold_inn ad fs ok.nd]
    exact List.mem_map_of_mem hf
  obtain ⟨s, hs, hsk⟩ := List.mem_map.mp this
  have hs1 : s.nm = f.1 := (Prod.mk.inj hsk).1
  have hs2 : s.n = f.2.1 := (Prod.mk.inj (Prod.mk.inj hsk).2).1
  have hs3 : s.as = inn f.1 f.2.2 ad := (Prod.mk.inj (Prod.mk.inj hsk).2).2
  refine ⟨s, hs1 ▸ findS_of nd hs, by rw [hs2]; exact ok.n1 f hf, ?_⟩
  rw [hs3]
  have h1 := inn_len (z := f.1) (ad := ad) (l := f.2.2)
  have h2 := ok.le f hf
  omega
def spGood (K : PySem.W.Frag) : Sp := fun vs H Q _ => ∃ (p l fo ia : Addr) (ρ : Addr → Ru) (M : List Addr) (A : Qa) (fs : List Key3) (its : List (Str × At)), vs = [.ref p, .ref fo, .ref A.q, .ref ia] ∧ Src H p l ∧ p ∈ M ∧ l ∉ M ∧ A.q ∈ M ∧ EL.Al M H ∧ QuAt K ρ M H A ∧ p ≠ A.q ∧ p ≠ A.st ∧ FoAt K M H fo fs ∧ FsOk fs ∧ ItL K M H ia fs its ∧ A.rs.map keyS = fs ∧ A.ss.length = 1 ∧
  ∀ H', Q (.bl true) H'
theorem d_good (hP : PF P "/claim/cut.py") (T : Txt K mg) : Dn P w K mg base CX0 13 "_law_good" (spGood K) := by
  obtain ⟨fd, F⟩ := T.f__law_good
  have D__law_draw := d_draw (P := P) (w := w) (base := base) T
  have D_cd := d_cd1 (P := P) (w := w) (base := base) T
  have D_with_stock := d_with (P := P) (w := w) (base := base) hP T
  have D__law_is := d_is (P := P) (w := w) (base := base) hP T
  have D__law_wrong_choices := d_wrongC (P := P) (w := w) (base := base) hP T
  have D_rule := d_q_rule (P := P) (w := w) (base := base) hP T
  have D_rueq := d_ru_eq (P := P) (w := w) (base := base) T
  have D_atoms := d_atoms (P := P) (w := w) (base := base) T
  have D_nar := d_q_narrow (P := P) (w := w) (base := base) hP T
  refine dnN T.g__law_good F (fun _ _ _ _ _ _ us hl => match us, hl with | [_, _, _, _], _ => rfl) sc__law_good (fun vs H Q E h => ?_) (fun cdv A outer s H vs Q E hr h => ?_)
  · obtain ⟨p, l, fo, ia, ρ, M, A, fs, its, rfl, _⟩ := h
    rfl
  · obtain ⟨p, l, fo, ia, ρ, M, B, fs, its, rfl, Sr, hpM, hlM, hqM, al, C, npq, nps, FO, ok, IL, hk, h1, hQ⟩ := h
    refine ⟨_, PSs.nox (pss_cons (ps_setLc (i := 4) (own := [("_law_item_here", 5)]) (tt := tYes) (by rfl) sc__law_good.nd rfl rfl (sw_true rfl rfl rfl (by decide +kernel)) (pi_list (pv 3)) (blkOk_by (own := [("_law_item_here", 5)]) (N := ["_law_source", "_law_forms", "_law_question", "_law_items", "_law_stock", "_law_item_here", "_law_chosen", "_law_at", "_law_added", "_law_other", "_law_one", "_law_second"]) (sc := defScope s__law_good) (by decide +kernel)) (fun _ _ _ _ _ => (pg_name (i := 5) sc__law_good.nd rfl (.inl rfl))) (fun _ _ _ _ _ => pts_nil) (fun _ _ _ _ _ => (pe_tup (pa_cons (pe_ix (show IxR _ (rIxT K) from ix_tup) (pv 5) pe_int (fun _ _ => rfl)) (pa_cons (pe_makeE T.m_Conditions D_cd (hr.mono (by decide)) T.g_Conditions pxq (pa_cons (pe_lst (pa_cons (pe_ix (show IxR _ (rIxT K) from ix_tup) (pv 5) pe_int (fun _ _ => rfl)) pa_nil)) pa_nil)) pa_nil)))))
      (pss_cons (ps_set (i := 6) sc__law_good.nd rfl (.inl rfl) (pe_callTy call_tuple_of (by rfl) T.z_tuple (by decide +kernel) (pa_cons (pe_lc (own := [("_law_at", 7)]) (by rfl) sc__law_good.nd (pi_range1 (by rfl) T.z_range (pa_cons (pe_callB call_len_seq (by rfl) T.z_len (by decide +kernel) (pa_cons (pv 3) pa_nil)) pa_nil)) (blkOk_by (own := [("_law_at", 7)]) (N := ["_law_source", "_law_forms", "_law_question", "_law_items", "_law_stock", "_law_item_here", "_law_chosen", "_law_at", "_law_added", "_law_other", "_law_one", "_law_second"]) (sc := defScope s__law_good) (by decide +kernel)) (fun _ _ _ _ _ => (pg_name (i := 7) sc__law_good.nd rfl (.inl rfl))) (fun _ _ _ _ _ => pts_one (pt_cmpR op_eq (cl D__law_draw (hr.mono (by decide)) (pa_cons (pv 0) (pa_cons pe_int pa_nil))) pe_int (nomark _))) (fun _ _ _ _ _ => (pv 7))) pa_nil)))
      (pss_mid (ps_setLc (i := 8) (own := [("_law_at", 7)]) (tt := tYes) (by rfl) sc__law_good.nd rfl rfl (sw_true rfl rfl rfl (by decide +kernel)) (pi_tup (pv 6)) (blkOk_by (own := [("_law_at", 7)]) (N := ["_law_source", "_law_forms", "_law_question", "_law_items", "_law_stock", "_law_item_here", "_law_chosen", "_law_at", "_law_added", "_law_other", "_law_one", "_law_second"]) (sc := defScope s__law_good) (by decide +kernel)) (fun _ _ _ _ _ => (pg_name (i := 7) sc__law_good.nd rfl (.inl rfl))) (fun _ _ _ _ _ => pts_nil) (fun _ _ _ _ _ => (pe_ix (show IxR _ (rIxL K) from ix_list) (pv 3) (pv 7) (fun _ _ => rfl))))
      (pss_cons (ps_set (i := 9) sc__law_good.nd rfl (.inl rfl) (cl0 D_with_stock (hr.mono (by decide)) (pa_cons (pv 2) (pa_cons (pv 4) (pa_cons (pv 6) pa_nil)))))
      (pss_mid (ps_if (PW.pt (pw_or (pt_not (pt_val (cl D__law_is (hr.mono (by decide)) (pa_cons (pv 9) (pa_cons (pv 1) (pa_cons (pv 8) pa_nil)))))) (pw_or1 (pt_not (pt_val (cl D__law_is (hr.mono (by decide)) (pa_cons (pv 2) (pa_cons (pv 1) (pa_cons (pe_lst pa_nil) pa_nil))))))))) (pss_one (ps_ret pe_bl)) pss_nil)
      (pss_cons (ps_if (PW.pt (pw_or (pt_cmpR (op_neO T.o_Rule T.ne_Rule T.u_Rule___eq__.1 T.u_Rule___eq__.2 D_rueq (hr.mono (by decide)) pass0) (pe_methE (pv 9) T.o_Question.cl T.h_Question_rule D_rule (hr.mono (by decide)) pxq (pa_cons pe_int pa_nil)) (pe_methE (pv 2) T.o_Question.cl T.h_Question_rule D_rule (hr.mono (by decide)) pxq (pa_cons pe_int pa_nil)) (nomark _)) (pw_or1 (pt_not (pt_val (cl D__law_wrong_choices (hr.mono (by decide)) (pa_cons (pv 2) (pa_cons (pv 4) pa_nil)))))))) (pss_one (ps_ret pe_bl)) pss_nil)
      (pss_mid (ps_if (pt_cmpR (op_neD hr.units) (pe_lc (own := [("_law_one", 10)]) (tt := tYes) (by rfl) sc__law_good.nd (pi_list (pv 4)) (blkOk_by (own := [("_law_one", 10)]) (N := ["_law_source", "_law_forms", "_law_question", "_law_items", "_law_stock", "_law_item_here", "_law_chosen", "_law_at", "_law_added", "_law_other", "_law_one", "_law_second"]) (sc := defScope s__law_good) (by decide +kernel)) (fun _ _ _ _ _ => (pg_name (i := 10) sc__law_good.nd rfl (.inl rfl))) (fun _ _ _ _ _ => pts_nil) (fun _ _ _ _ _ => (pe_methE0 (pe_ix (show IxR _ (rIxT K) from ix_tup) (pv 10) pe_int (fun _ _ => rfl)) T.o_Conditions.cl T.h_Conditions_atoms D_atoms (hr.mono (by decide)) px0))) (pe_lc (own := [("_law_item_here", 5)]) (tt := tYes) (by rfl) sc__law_good.nd (pi_list (pv 3)) (blkOk_by (own := [("_law_item_here", 5)]) (N := ["_law_source", "_law_forms", "_law_question", "_law_items", "_law_stock", "_law_item_here", "_law_chosen", "_law_at", "_law_added", "_law_other", "_law_one", "_law_second"]) (sc := defScope s__law_good) (by decide +kernel)) (fun _ _ _ _ _ => (pg_name (i := 5) sc__law_good.nd rfl (.inl rfl))) (fun _ _ _ _ _ => pts_nil) (fun _ _ _ _ _ => (pe_lst (pa_cons (pe_ix (show IxR _ (rIxT K) from ix_tup) (pv 5) pe_int (fun _ _ => rfl)) pa_nil)))) (nomark _)) (pss_one (ps_ret pe_bl)) pss_nil)
      (pss_cons (ps_expr (pe_methE (pv 9) T.o_Question.cl T.h_Question_narrow D_nar (hr.mono (by decide)) pxq (pa_cons pe_str (pa_cons (pe_makeE T.m_Conditions D_cd (hr.mono (by decide)) T.g_Conditions pxq (pa_cons (lit_l (lits_cons (lit_t (lits_cons lit_s (lits_cons (lit_t (lits_cons lit_s (lits_cons lit_i lits_nil))) (lits_cons (lit_t (lits_cons lit_s (lits_cons (lit_t (lits_cons lit_i (lits_cons lit_i lits_nil))) lits_nil))) lits_nil)))) lits_nil)) pa_nil)) pa_nil))))
      (pss_cons (ps_if (pt_not (pt_val (cl D__law_is (hr.mono (by decide)) (pa_cons (pv 2) (pa_cons (pv 1) (pa_cons (pe_lst pa_nil) pa_nil)))))) (pss_one (ps_ret pe_bl)) pss_nil)
      (pss_cons (ps_set (i := 11) sc__law_good.nd rfl (.inl rfl) (cl0 D_with_stock (hr.mono (by decide)) (pa_cons (pv 2) (pa_cons (pv 4) (pa_cons (pv 6) pa_nil)))))
      (pss_cons (ps_expr (pe_methE (pv 2) T.o_Question.cl T.h_Question_narrow D_nar (hr.mono (by decide)) pxq (pa_cons pe_str (pa_cons (pe_makeE T.m_Conditions D_cd (hr.mono (by decide)) T.g_Conditions pxq (pa_cons (lit_l (lits_cons (lit_t (lits_cons lit_s (lits_cons (lit_t (lits_cons lit_s (lits_cons lit_i lits_nil))) (lits_cons (lit_t (lits_cons lit_s (lits_cons (lit_t (lits_cons lit_i (lits_cons lit_i lits_nil))) lits_nil))) lits_nil)))) lits_nil)) pa_nil)) pa_nil))))
      (pss_one (ps_ret (cl D__law_is (hr.mono (by decide)) (pa_cons (pv 11) (pa_cons (pv 1) (pa_cons (pv 8) pa_nil))))))))))))))))), ?_⟩
    obtain ⟨vi, evi, dvi⟩ := IL.ex
    have lvi : vi.length = its.length := by rw [DpAll.length dvi, List.length_map]
    have l5 := IL.le
    refine ⟨_, rfl, ia, rfl, ⟨_, SqL.of evi⟩, fun D nD => ?_⟩
    have sD : Same H (upd H D (.lst [])) := same_upd nD
    have subD : ∀ b ∈ [D], b ∈ D :: M := fun b hb => by rw [List.mem_singleton.mp hb]; exact List.mem_cons_self ..
    refine lc_it (walk_list (xs := vi)) (fun i H' => ∃ us, H' D = some (.lst us) ∧ us.length = i ∧ StkP K (D :: M) H' us its ∧ Md [D] (upd H D (.lst [])) H') ⟨[], upd_same, rfl, fun j u x h => (by cases h), .refl _ _⟩ (fun i H' _ h => ?_) ?_ ?_
    · obtain ⟨us, _, _, _, m⟩ := h
      exact SqL.of ((Md.new1 (S := []) m sD nD).same _ _ evi)
    · rintro i xv H1' H1 hi ⟨us, eD, lus, SP, m1⟩ ⟨rfl, hx⟩
      have S1 : Same H H1 := (Md.new1 (S := []) m1 sD nD).same
      obtain ⟨d, hd, hdp⟩ := DpAll.get dvi hx
      obtain ⟨x, hx', rfl⟩ := getM hd
      obtain ⟨q, v1, rfl, hq, hv⟩ := it_inv (Dp.same S1 hdp)
      have hxo := IL.ok x (List.mem_of_getElem? hx')
      refine ⟨rfl, tYes_of ?_⟩
      refine ⟨_, rfl, _, _, 0, _, rfl, rfl, hq, atI_nat (j := 0) rfl, _, rfl, _, _, 1, _, rfl, rfl, hq, atI_nat (j := 1) rfl, (by show 1 ≤ sizeLine; decide), fun z nz => ?_⟩
      generalize eH2 : upd H1 z _ = H2
      have s2 : Same H1 H2 := eH2 ▸ same_upd nz
      have u2 : H2 z = some _ := eH2 ▸ upd_same
      refine mkCd (as := [x.2]) (.inl (SqL.of u2)) (.cons (Dp.same s2 hv) .nil) (fun a h => by cases List.mem_singleton.mp h; exact hxo.1) (by show 1 ≤ 1000; decide) fun y dy n H3 s3 ny nn _ CY => ?_
      refine ⟨(by show 2 ≤ sizeLine; decide), fun t nt => ?_⟩
      generalize eH4 : upd H3 t _ = H4
      have s4 : Same H3 H4 := eH4 ▸ same_upd nt
      have u4 : H4 t = some _ := eH4 ▸ upd_same
      have S14 := s2.trans (s3.trans s4)
      have eD4 := S14 _ _ eD
      have al2 : EL.Al (D :: M) H2 := (Al.cons' (al.same S1) eD).same s2
      refine ⟨us, eD4, ?_, us ++ [.ref t], upd_same, (by rw [List.length_append, lus]; rfl), ?_, m1.trans ((Md.of S14).trans (Md.upd eD4 rfl (by simp)))⟩
      · rw [lus]
        exact Nat.lt_of_lt_of_le (show i < 1000 by omega) (by decide)
      · have mu : Md [D] H4 (upd H4 D (.lst (us ++ [.ref t]))) := Md.upd eD4 rfl (by simp)
        exact (StkP.snoc (SP.md (.of (S := []) S14) (by simp)) (by rw [lus]; exact hx') ⟨t, _, _, rfl, SqT.of u4, .str _, ⟨y, dy, n, rfl, CY.same s4, al2.out ny, al2.out nn⟩, (by show 1 ≤ 1000; decide)⟩).md mu subD
    · rintro H1 ⟨us, eD, lus, SP, m1⟩
      have S1 : Same H H1 := (Md.new1 (S := []) m1 sD nD).same
      have SX : StkX K M H1 (.ref D) (some (its.map itI)) := SP.stk eD (al.out nD) (by rw [lus, lvi]) IL.le
      have nDp := src_ne Sr nD
      have npD := Ne.symm nDp
      refine ⟨_, rfl, _, _, rfl, .inl (SqL.of (S1 _ _ evi)), ((vi.length : Nat) : Int), rfl, by omega, by omega, fun D2 nD2 => ?_⟩
      have sD2 : Same H1 (upd H1 D2 (.lst [])) := same_upd nD2
      have Sr1 := Sr.same S1
      have n2p := src_ne Sr1 nD2
      have n2l : l ≠ D2 := fun z => by obtain ⟨xs, e⟩ := Sr1.lst2; rw [z, nD2] at e; cases e
      refine lc_it (walk_range (lo := 0) (n := ((vi.length : Nat) : Int).toNat)) (fun i H' => ∃ cs : List Nat, H' D2 = some (.lst (cs.map fun c => V.int (c : Nat))) ∧ cs.length ≤ i ∧ chF (i : Nat) 0 (cs.map fun c => PyData.int (c : Nat)) = true ∧ Md [p, D2] (upd H1 D2 (.lst [])) H' ∧ Src H' p l) ⟨[], upd_same, Nat.le_refl _, rfl, .refl _ _, Sr1.same sD2⟩ (fun i H' _ h => trivial) ?_ ?_
      · rintro i xv H2' H2 hi ⟨cs, e2, lcs, hch, m2, Sr2⟩ ⟨rfl, rfl⟩
        refine ⟨rfl, ?_⟩
        refine ⟨_, rfl, p, l, 2, rfl, by decide, by decide, Sr2, fun z H3 z0 z1 Sr3 b3 => ?_⟩
        have m23 := src_md Sr2 b3
        have e3 := m23.out _ _ e2 (not1 n2p)
        have m13 := m2.trans (m23.mono (by simp))
        refine ⟨rfl, _, rfl, ie (fun h => ?_) (fun h => ?_)⟩
        · refine ⟨_, rfl, _, e3, ?_, cs ++ [i], ?_, (by rw [List.length_append]; exact Nat.succ_le_succ lcs), chF_snoc (by omega) hch, m13.trans (Md.upd e3 rfl (by simp)), Src.md Sr3 (Md.upd (S := [D2]) e3 rfl (by simp)) (not1 (Ne.symm n2p)) (not1 n2l)⟩
          · rw [List.length_map]
            have : (((vi.length : Nat) : Int)).toNat = vi.length := rfl
            exact Nat.lt_of_le_of_lt (show cs.length ≤ 100 by omega) (by decide)
          · rw [upd_same, List.map_append]
            show some (HO.lst (_ ++ [V.int (0 + (i : Int))])) = some (HO.lst (_ ++ [V.int (i : Int)]))
            rw [Int.zero_add]
        · exact ⟨cs, e3, by omega, chF_mono (by omega) hch, m13, Sr3⟩
      · rintro H2 ⟨cs, e2, lcs, hch, m2, Sr2⟩
        have hcl : (((vi.length : Nat) : Int)).toNat = its.length := lvi
        rw [hcl] at lcs hch
        refine ⟨D2, _, rfl, .inl ⟨SqL.of e2, fun cT ncT => ?_⟩⟩
        generalize eH3 : upd H2 cT _ = H3
        have s3 : Same H2 H3 := eH3 ▸ same_upd ncT
        have u3 : H3 cT = some _ := eH3 ▸ upd_same
        have m12 : Md [p] H1 H2 := Md.new1 (S := [p]) (m2.mono (by simp)) sD2 nD2
        have m03 : Md [p] H H3 := (Md.of S1).trans (m12.trans (Md.of s3))
        have m13 : Md [p] H1 H3 := m12.trans (Md.of s3)
        have sub : ∀ b ∈ [p], b ∈ M := fun b hb => by rw [List.mem_singleton.mp hb]; exact hpM
        have IL3 := IL.md m03 sub
        have SX3 := SX.md m13 sub
        have C3 := C.md m03 sub (not1 (Ne.symm npq)) (not1 (Ne.symm nps))
        have FO3 := FO.md m03 sub
        have evi3 := m03.out _ _ evi (fun z => IL.nS (sub _ z))
        have dvi3 := m03.dpAll (nl_its _) dvi
        have hlt : ∀ i ∈ cs, i < its.length := chF_lt hch
        refine ⟨fun σ H' => ∃ aa va, σ = [some (.ref p), some (.ref fo), some (.ref B.q), some (.ref ia), some (.ref D), none, some (.ref cT), none, some (.ref aa), none, none, none] ∧ Same H3 H' ∧ H' aa = some (.lst va) ∧ DpAll K H' va ((addN its cs).map itD), ?_, ?_⟩
        · refine ⟨_, rfl, cT, rfl, ⟨_, SqT.of u3⟩, fun D3 nD3 => ?_⟩
          have sD3 : Same H3 (upd H3 D3 (.lst [])) := same_upd nD3
          refine lc_it (walk_tup (xs := cs.map fun c => V.int (c : Nat))) (fun i H' => ∃ va, H' D3 = some (.lst va) ∧ va.length ≤ i ∧ DpAll K H' va ((addN its (cs.take i)).map itD) ∧ Md [D3] (upd H3 D3 (.lst [])) H') ⟨[], upd_same, Nat.le_refl _, .nil, .refl _ _⟩ (fun i H' _ h => ?_) ?_ ?_
          · obtain ⟨va, _, _, _, m⟩ := h
            exact Same.seqT (Md.new1 (S := []) m sD3 nD3).same (SqT.of u3)
          · rintro i xv H4' H4 hi ⟨va, e4, lva, d4, m4⟩ ⟨rfl, hx⟩
            obtain ⟨k, hk0, rfl⟩ := getM hx
            have hkm := hlt k (List.mem_of_getElem? hk0)
            have hic : i < cs.length := (List.getElem?_eq_some_iff.mp hk0).1
            have s34 := (Md.new1 (S := []) m4 sD3 nD3).same
            have hv : vi[k]? = some (vi[k]'(by omega)) := List.getElem?_eq_getElem (by omega)
            generalize vi[k]'(by omega) = u at hv
            obtain ⟨d, hd, hdp⟩ := DpAll.get dvi3 hv
            obtain ⟨x, hx', rfl⟩ := getM hd
            refine ⟨rfl, tYes_of ?_⟩
            refine ⟨_, rfl, _, rfl, _, _, ((k : Nat) : Int), _, rfl, rfl, SqL.of (s34 _ _ evi3), atI_nat hv, ?_⟩
            refine ⟨va, e4, Nat.lt_of_le_of_lt (show va.length ≤ 100 by omega) (by decide), va ++ [u], upd_same, (by rw [List.length_append]; exact Nat.succ_le_succ lva), ?_, m4.trans (Md.upd e4 rfl (by simp))⟩
            have mu : Md [D3] H4 (upd H4 D3 (.lst (va ++ [u]))) := Md.upd e4 rfl (by simp)
            have e5 : addN its (cs.take (i + 1)) = addN its (cs.take i) ++ [x] := by
              rw [tk1 hk0]
              unfold addN
              rw [List.filterMap_append, List.filterMap_cons, hx']
              rfl
            rw [e5, List.map_append]
            exact DpAll.snoc (mu.dp (show noL (itD x) = true by show (true && (noL x.2.d && true)) = true; rw [nl_at]; rfl) (Dp.same s34 hdp)) (mu.dpAll (nl_its _) d4)
          · rintro H4 ⟨va, e4, lva, d4, m4⟩
            rw [List.length_map, List.take_length] at d4
            exact ⟨D3, va, rfl, (Md.new1 (S := []) m4 sD3 nD3).same, e4, d4⟩
        · rintro σ H4 ⟨aa, va, rfl, s34, eaa, dva⟩
          have Sr3 := Sr2.same s3
          have al4 : EL.Al M H4 := (al.md m03 (al1 (Classical.choose_spec Sr3.lst))).same s34
          have C4 := C3.same s34
          have FO4 := FO3.same s34
          have SX4 := SX3.same s34
          have lads : (addN its cs).length ≤ 5 := Nat.le_trans (List.length_filterMap_le _ _) (by omega)
          have l150 : ∀ s ∈ B.rs, s.as.length ≤ 150 := fun s hs => by
            have h2 : s.as.length ≤ 2 := ok.le (keyS s) (hk ▸ List.mem_map_of_mem hs)
            omega
          have hlook : lookI B.rs (some (its.map itI)) = none := look_good ok IL.ok (by rw [hk])
          have hcB : chosB (its.length : Nat) (.tuple (cs.map fun c => .int (c : Nat))) = true := hch
          have dcs : ∀ H', SqT K H' cT (cs.map fun c => V.int (c : Nat)) → Dp K H' (.ref cT) (.tuple (cs.map fun c => .int (c : Nat))) := fun H' h => .tup h (dp_intsR cs)
          have hcT4 : SqT K H4 cT _ := Same.seqT s34 (SqT.of u3)
          have hpick : cs.foldl (nar1 its) (B.rs.map keyS) = (addN its cs).foldl narK fs := by rw [hk]; exact fold_pick hlt
          refine ⟨_, rfl, _, rfl, _, rfl, ρ, M, B, .ref D, some (its.map itI), .ref cT, .tuple (cs.map fun c => .int (c : Nat)), rfl, C4, al4, SX4.at, dcs H4 hcT4, (fun ds e => by cases e; rw [List.length_map]; omega), l150, (fun j hj => by rw [hlook] at hj; cases hj), (fun l' _ el hc => by cases el; rw [List.length_map, hcB] at hc; cases hc), fun its' cs' _ el ed _ C2 H5 s45 nw G ea es ee hk2 => ?_⟩
          have ei : its' = its := its_inj (Option.some.inj el).symm
          subst ei
          have ec : cs' = cs := ints_inj (by injection ed with ed; exact ed.symm)
          subst ec
          rw [hpick] at hk2
          have fr2 := fresh2 (M := M) nw.1 nw.2
          have C5 := (C4.re fr2).same s45
          have FO5 := (FO4.re fr2).same s45
          have SX5 := (SX4.re fr2).same s45
          have IL5 := ((IL3.same s34).re fr2).same s45
          have al5 : EL.Al (C2.q :: C2.st :: M) H5 := Al.cons' (Al.cons' (al4.same s45) G.hs) G.hq
          have eaa5 := s45 _ _ eaa
          have dva5 := DpAll.same s45 dva
          have evi5 := (s34.trans s45) _ _ evi3
          have dvi5 := DpAll.same (s34.trans s45) dvi3
          have hcT5 : SqT K H5 cT _ := Same.seqT s45 hcT4
          have hss2 : C2.ss.length = 1 := by rw [es]; exact h1
          have lad40 : (addN its' cs').length ≤ 40 := by omega
          refine ⟨fun σ H' => Same H5 H' ∧ σ = [some (.ref p), some (.ref fo), some (.ref B.q), some (.ref ia), some (.ref D), none, some (.ref cT), none, some (.ref aa), some (.ref C2.q), none, none], ?_, ?_⟩
          · refine ⟨_, rfl, _, rfl, _, rfl, ρ, _, _, C2, fo, fs, aa, va, addN its' cs', rfl, G, FO5, ok, eaa5, dva5, lad40, hk2, hss2, fun H6 s6 => ?_⟩
            refine ⟨_, rfl, iteF ?_⟩
            refine ⟨_, rfl, _, rfl, (by show 0 ≤ sizeLine; decide), fun z nz => ?_⟩
            generalize eH7 : upd H6 z _ = H7
            have s7 : Same H6 H7 := eH7 ▸ same_upd nz
            have u7 : H7 z = some _ := eH7 ▸ upd_same
            have s57 := s6.trans s7
            refine ⟨ρ, _, _, B, fo, fs, z, [], [], rfl, C5.same s57, FO5.same s57, ok, u7, .nil, by decide, hk, h1, fun H8 s8 => ?_⟩
            exact ⟨_, rfl, iteF ⟨s57.trans s8, rfl⟩⟩
          · rintro σ H6 ⟨s56, rfl⟩
            obtain ⟨x0, hx0⟩ : ∃ x0, B.ss = [x0] := by
              cases q : B.ss with
              | nil => rw [q] at h1; cases h1
              | cons a r =>
                rw [q] at h1
                cases r with
                | nil => exact ⟨a, rfl⟩
                | cons _ _ => cases h1
            have r0 : ruleIx B.ss (.int 0) = some x0 := by rw [hx0]; rfl
            have r2 : ruleIx C2.ss (.int 0) = some x0 := by rw [es]; exact r0
            have C6 := C5.same s56
            have G6 := G.same s56
            obtain ⟨R0, RO⟩ := C6.hr x0 (by rw [hx0]; exact List.mem_singleton.mpr rfl)
            have R00 := R0.re (M' := []) (fun b _ _ => by simp)
            refine ⟨_, rfl, _, _, _, rfl, G6.hq, quF_no (by decide +kernel), ρ, _, C2, _, .int 0, rfl, G6, .int _, (fun e => by rw [r2] at e; cases e), fun y hy => ?_⟩
            rw [r2] at hy
            cases hy
            refine ⟨_, rfl, _, _, _, rfl, C6.hq, quF_no (by decide +kernel), ρ, _, B, _, .int 0, rfl, C6, .int _, (fun e => by rw [r0] at e; cases e), fun y hy => ?_⟩
            rw [r0] at hy
            cases hy
            obtain ⟨dx0, _, _, _, _, _, _, _, _, hrx, _⟩ := R00.ex
            refine ⟨x0, dx0, _, _, rfl, hrx, T.o_Rule.ty hrx, T.nf_Rule, x0, x0, ρ x0, ρ x0, rfl, R00, R00, (fun z hz => RO.st z (by rcases hz with h | h | h | h | h | h <;> first | exact .inl h | exact .inr (.inl h) | exact .inr (.inr h))), _, rfl, _, rfl, if_neg_of (by rw [decide_eq_true rfl]; rfl) ?_⟩
            refine ⟨_, rfl, _, rfl, ρ, _, B, .ref D, its'.map itI, rfl, C6, al5.same s56, SX5.same s56, l150, hlook, fun H7 s67 => ?_⟩
            refine ⟨_, rfl, iteF ?_⟩
            have s57 := s56.trans s67
            refine ⟨fun σ H' => Same H5 H' ∧ σ = [some (.ref p), some (.ref fo), some (.ref B.q), some (.ref ia), some (.ref D), none, some (.ref cT), none, some (.ref aa), some (.ref C2.q), none, none], ?_, ?_⟩
            · have SX7 := SX5.same s57
              obtain ⟨D', us7, eD', hD7, _, lus7, _, hI⟩ := SX7
              cases eD'
              rw [List.length_map] at lus7
              refine ⟨_, rfl, D, rfl, ⟨_, SqL.of hD7⟩, fun D4 nD4 => ?_⟩
              have sD4 : Same H7 (upd H7 D4 (.lst [])) := same_upd nD4
              refine lc_it (walk_list (xs := us7)) (fun i H' => ∃ ws, H' D4 = some (.lst ws) ∧ ws.length = i ∧ DpXs K [D4] H' ws ((its'.take i).map atsD) ∧ Md [D4] (upd H7 D4 (.lst [])) H') ⟨[], upd_same, rfl, .nil, .refl _ _⟩ (fun i H' _ h => ?_) ?_ ?_
              · obtain ⟨ws, _, _, _, m⟩ := h
                exact SqL.of ((Md.new1 (S := []) m sD4 nD4).same _ _ hD7)
              · rintro i xv H8' H8 hi ⟨ws, e8, lws, d8, m8⟩ ⟨rfl, hx⟩
                have s78 := (Md.new1 (S := []) m8 sD4 nD4).same
                have hit : its'[i]? = some (its'[i]'(by omega)) := List.getElem?_eq_getElem (by omega)
                generalize its'[i]'(by omega) = x at hit
                obtain ⟨tq, v0, v1, rfl, hT, _, hC, _⟩ := hI i xv (itI x) hx (by rw [List.getElem?_map, hit]; rfl)
                obtain ⟨y, dy, m, rfl, Cy, _, _⟩ := hC.ex
                have Cy8 := Cy.same s78
                refine ⟨rfl, tYes_of ?_⟩
                refine ⟨_, rfl, _, _, 1, _, rfl, rfl, Same.seqT s78 hT, atI_nat (j := 1) rfl, _, _, _, rfl, Cy8.hx, cdF_no (by decide), y, dy, m, [x.2], rfl, Cy8, fun q vq H9 nq s9 e9 a9 => ?_⟩
                have e9' := s9 _ _ e8
                refine ⟨ws, e9', Nat.lt_of_le_of_lt (show ws.length ≤ 100 by omega) (by decide), ws ++ [.ref q], upd_same, (by rw [List.length_append, lws]; rfl), ?_, m8.trans ((Md.of s9).trans (Md.upd e9' rfl (by simp)))⟩
                have mu : Md [D4] H9 (upd H9 D4 (.lst (ws ++ [.ref q]))) := Md.upd e9' rfl (by simp)
                rw [tk1 hit, List.map_append]
                exact DpXs.md mu (DpXs.snoc (.lst e9 (not1 (fun z => by rw [z, e8] at nq; cases nq)) (DpXs.of (nl_ats [x.2]) a9)) (DpXs.same s9 d8))
              · rintro H8 ⟨ws, e8, lws, d8, m8⟩
                rw [lus7, List.take_length] at d8
                have s78 := (Md.new1 (S := []) m8 sD4 nD4).same
                have evi8 := (s57.trans s78) _ _ evi5
                have dvi8 := DpAll.same (s57.trans s78) dvi5
                refine ⟨_, rfl, ia, rfl, ⟨_, SqL.of evi8⟩, fun D5 nD5 => ?_⟩
                have sD5 : Same H8 (upd H8 D5 (.lst [])) := same_upd nD5
                refine lc_it (walk_list (xs := vi)) (fun i H' => ∃ ws, H' D5 = some (.lst ws) ∧ ws.length = i ∧ DpXs K [D5] H' ws ((its'.take i).map atsD) ∧ Md [D5] (upd H8 D5 (.lst [])) H') ⟨[], upd_same, rfl, .nil, .refl _ _⟩ (fun i H' _ h => ?_) ?_ ?_
                · obtain ⟨ws, _, _, _, m⟩ := h
                  exact SqL.of ((Md.new1 (S := []) m sD5 nD5).same _ _ evi8)
                · rintro i xv H9' H9 hi ⟨ws, e9, lws, d9, m9⟩ ⟨rfl, hx⟩
                  have s89 := (Md.new1 (S := []) m9 sD5 nD5).same
                  obtain ⟨d, hd, hdp⟩ := DpAll.get dvi8 hx
                  obtain ⟨x, hx', rfl⟩ := getM hd
                  obtain ⟨q, v1, rfl, hq, hv⟩ := it_inv (Dp.same s89 hdp)
                  refine ⟨rfl, tYes_of ?_⟩
                  refine ⟨_, rfl, _, _, 1, _, rfl, rfl, hq, atI_nat (j := 1) rfl, (by show 1 ≤ sizeLine; decide), fun z nz => ?_⟩
                  generalize eH10 : upd H9 z _ = H10
                  have sz : Same H9 H10 := eH10 ▸ same_upd nz
                  have uz : H10 z = some _ := eH10 ▸ upd_same
                  have e10 := sz _ _ e9
                  refine ⟨ws, e10, Nat.lt_of_le_of_lt (show ws.length ≤ 100 by omega) (by decide), ws ++ [.ref z], upd_same, (by rw [List.length_append, lws]; rfl), ?_, m9.trans ((Md.of sz).trans (Md.upd e10 rfl (by simp)))⟩
                  have mu : Md [D5] H10 (upd H10 D5 (.lst (ws ++ [.ref z]))) := Md.upd e10 rfl (by simp)
                  rw [tk1 hx', List.map_append]
                  exact DpXs.md mu (DpXs.snoc (.lst uz (not1 (fun zz => by rw [zz, e9] at nz; cases nz)) (.cons (DpX.of (nl_at _) (Dp.same sz hv)) .nil)) (DpXs.same sz d9))
                · rintro H9 ⟨ws', e9, lws', d9, m9⟩
                  rw [lvi, List.take_length] at d9
                  have s89 := (Md.new1 (S := []) m9 sD5 nD5).same
                  refine ⟨_, _, .lst (SqL.of (s89 _ _ e8)) (DpXs.same s89 d8).dp, .lst (SqL.of e9) d9.dp, ats_sh its', ats_sh its', ?_⟩
                  rw [ats_eqv]
                  exact ⟨_, rfl, iteF ⟨s57.trans (s78.trans s89), rfl⟩⟩
            · rintro σ H8 ⟨s58, rfl⟩
              obtain ⟨sct, hft, hnt, hlt'⟩ := row_of (z := "t") ok G.ok.nd hk2 (List.mem_cons_self ..)
              have ndB : (nmS B.rs).Nodup := C.ok.nd
              obtain ⟨scu, hfu, hnu, hlu⟩ := row_of (ad := []) (z := "u") ok ndB hk (List.mem_cons_of_mem _ (List.mem_cons_self ..))
              have G8 := G.same s58
              refine ⟨_, rfl, _, _, _, rfl, G8.hq, quF_no (by decide +kernel), ?_⟩
              intro v9 H9 s9 hL9
              obtain ⟨a9, xs9, rfl, e9, _, d9⟩ := (hL9 [] al_nil).lst_inv
              refine mkCd (as := [at9]) (.inl (SqL.of e9)) d9.dp (fun a h => by cases List.mem_singleton.mp h; exact at9_ok) (by show 1 ≤ 1000; decide) fun y dy n H10 s10 ny nn _ CY => ?_
              have s510 := s58.trans (s9.trans s10)
              have al10 := al5.same s510
              refine ⟨ρ, C2.q :: C2.st :: M, C2, "t", sct, y, dy, n, [at9], rfl, G.same s510, CY, hft, (by show ((decide (0 < sct.n) && true) && true) = true; rw [decide_eq_true (by omega)]; rfl), (by show 1 ≤ 100; decide), by omega, al10, List.mem_cons_self .., G.qs, fun f df dw dl q dq l' H11 m11 G11 => ?_⟩
              have sub2 : ∀ b ∈ [C2.q], b ∈ C2.q :: C2.st :: M := fun b hb => by rw [List.mem_singleton.mp hb]; exact List.mem_cons_self ..
              have nqB : B.q ∉ [C2.q] := not1 (ne_of_none C4.hq nw.1)
              have nsB : B.st ∉ [C2.q] := not1 (ne_of_none C4.hs nw.1)
              have C11 := (C5.same s510).md m11 sub2 nqB nsB
              have FO11 := (FO5.same s510).md m11 sub2
              have SX11 := (SX5.same s510).md m11 sub2
              have al11 := al10.md m11 (al1 G11.hq)
              have eaa11 := m11.out _ _ (s510 _ _ eaa5) (not1 (ne_of_none eaa nw.1))
              have dva11 := m11.dpAll (nl_its _) (DpAll.same s510 dva5)
              have hcT11 : SqT K H11 cT _ := m11.sqT (Same.seqT s510 hcT5)
              refine ⟨_, rfl, _, rfl, (by show 0 ≤ sizeLine; decide), fun z nz => ?_⟩
              generalize eH12 : upd H11 z _ = H12
              have s12 : Same H11 H12 := eH12 ▸ same_upd nz
              have u12 : H12 z = some _ := eH12 ▸ upd_same
              refine ⟨ρ, _, _, B, fo, fs, z, [], [], rfl, C11.same s12, FO11.same s12, ok, u12, .nil, by decide, hk, h1, fun H13 s13 => ?_⟩
              refine ⟨_, rfl, iteF ?_⟩
              have s1113 := s12.trans s13
              refine ⟨_, rfl, _, rfl, _, rfl, ρ, _, B, .ref D, some (its'.map itI), .ref cT, .tuple (cs'.map fun c => .int (c : Nat)), rfl, C11.same s1113, al11.same s1113, (SX11.same s1113).at, dcs H13 (Same.seqT s1113 hcT11), (fun ds e => by cases e; rw [List.length_map]; omega), l150, (fun j hj => by rw [hlook] at hj; cases hj), (fun l' _ el hc => by cases el; rw [List.length_map, hcB] at hc; cases hc), fun its3 cs3 _ el3 ed3 _ C3' H14 s14 nw3 G3 ea3 es3 ee3 hk3 => ?_⟩
              have ei : its3 = its' := its_inj (Option.some.inj el3).symm
              subst ei
              have ec : cs3 = cs' := ints_inj (by injection ed3 with ed3; exact ed3.symm)
              subst ec
              rw [hpick] at hk3
              have fr3 := fresh2 (M := C2.q :: C2.st :: M) nw3.1 nw3.2
              have C14 := ((C11.same s1113).re fr3).same s14
              have FO14 := ((FO11.same s1113).re fr3).same s14
              have al14 : EL.Al (C3'.q :: C3'.st :: C2.q :: C2.st :: M) H14 := Al.cons' (Al.cons' ((al11.same s1113).same s14) G3.hs) G3.hq
              have eaa14 := (s1113.trans s14) _ _ eaa11
              have dva14 := DpAll.same (s1113.trans s14) dva11
              refine ⟨_, rfl, _, _, _, rfl, C14.hq, quF_no (by decide +kernel), ?_⟩
              intro v15 H15 s15 hL15
              obtain ⟨a15, xs15, rfl, e15, _, d15⟩ := (hL15 [] al_nil).lst_inv
              refine mkCd (as := [at9]) (.inl (SqL.of e15)) d15.dp (fun a h => by cases List.mem_singleton.mp h; exact at9_ok) (by show 1 ≤ 1000; decide) fun y' dy' n' H16 s16 ny' nn' _ CY' => ?_
              have s1416 := s15.trans s16
              have qM : B.q ∈ C3'.q :: C3'.st :: C2.q :: C2.st :: M := by
                simp only [List.mem_cons]
                exact .inr (.inr (.inr (.inr hqM)))
              refine ⟨ρ, _, B, "u", scu, y', dy', n', [at9], rfl, C14.same s1416, CY', hfu, (by show ((decide (0 < scu.n) && true) && true) = true; rw [decide_eq_true (by omega)]; rfl), (by show 1 ≤ 100; decide), (by have h : scu.as.length ≤ 2 + 0 := hlu; omega), al14.same s1416, qM, C.qs, fun f2 df2 dw2 dl2 q2 dq2 l2 H17 m17 G17 => ?_⟩
              have sub3 : ∀ b ∈ [B.q], b ∈ C3'.q :: C3'.st :: C2.q :: C2.st :: M := fun b hb => by rw [List.mem_singleton.mp hb]; exact qM
              have hB13 := (C11.same s1113).hq
              have n3q : C3'.q ∉ [B.q] := not1 (Ne.symm (ne_of_none hB13 nw3.1))
              have n3s : C3'.st ∉ [B.q] := not1 (Ne.symm (ne_of_none hB13 nw3.2))
              have G317 := (G3.same s1416).md m17 sub3 n3q n3s
              have FO17 := (FO14.same s1416).md m17 sub3
              have eaa17 := m17.out _ _ (s1416 _ _ eaa14) (not1 (ne_of (s1416 _ _ eaa14) (C14.same s1416).hq (by intro z; cases z)))
              have dva17 := m17.dpAll (nl_its _) (DpAll.same s1416 dva14)
              refine ⟨_, rfl, _, rfl, _, rfl, ρ, _, _, C3', fo, fs, aa, va, addN its3 cs3, rfl, G317, FO17, ok, eaa17, dva17, lad40, hk3, (by rw [es3]; exact h1), fun H18 s18 => ?_⟩
              exact hQ H18
end
end K51
namespace K51
open PySem PySem.Spec PyProof.Rows L2 He TL EL
section
variable {P : Program} {w : World} {K : PySem.W.Frag} {mg : Str → Option Value} {base : Heap}
/-! the law -/
structure FsP (fs : List Key3) : Prop where
  n1 : ∀ f ∈ fs, 1 ≤ f.2.1
  n3 : ∀ f ∈ fs, f.2.1 ≤ 3
  nd : ∀ f ∈ fs, f.2.2.Nodup
  ok : ∀ f ∈ fs, ∀ a ∈ f.2.2, At.ok a
  fi : ∀ f ∈ fs, f.2.2.all (At.fits (pn1 f.2.1)) = true
  le : ∀ f ∈ fs, f.2.2.length ≤ 2
theorem FsP.snoc {fs : List Key3} (h : FsP fs) {f : Key3} (n1 : 1 ≤ f.2.1) (n3 : f.2.1 ≤ 3) (nd : f.2.2.Nodup) (ok : ∀ a ∈ f.2.2, At.ok a) (fi : f.2.2.all (At.fits (pn1 f.2.1)) = true) (le : f.2.2.length ≤ 2) : FsP (fs ++ [f]) := by
  have key : ∀ {Pr : Key3 → Prop}, (∀ g ∈ fs, Pr g) → Pr f → ∀ g ∈ fs ++ [f], Pr g := fun a b g hg => (List.mem_append.mp hg).elim (a g) fun h => by cases List.mem_singleton.mp h; exact b
  exact ⟨key h.n1 n1, key h.n3 n3, key h.nd nd, key h.ok ok, key h.fi fi, key h.le le⟩
structure Sit (K : PySem.W.Frag) (p l fo ia : Addr) (A : Qa) (fs : List Key3) (its : List (Str × At)) (H : Hp) : Prop where
  sr : Src H p l
  lM : l ∉ [A.q, A.st, p]
  al : EL.Al [A.q, A.st, p] H
  qa : QuAt K (fun _ => r51) [A.q, A.st, p] H A
  pq : p ≠ A.q
  ps : p ≠ A.st
  fo : FoAt K [A.q, A.st, p] H fo fs
  ok : FsOk fs
  il : ItL K [A.q, A.st, p] H ia fs its
  hk : A.rs.map keyS = fs
  h1 : A.ss.length = 1
theorem Sit.md {p l fo ia : Addr} {A : Qa} {fs : List Key3} {its : List (Str × At)} {H H' : Hp} (Z : Sit K p l fo ia A fs its H) (m : Md [p] H H') (S : Src H' p l) : Sit K p l fo ia A fs its H' := by
  have sub : ∀ b ∈ [p], b ∈ [A.q, A.st, p] := fun b hb => by rw [List.mem_singleton.mp hb]; simp
  exact ⟨S, Z.lM, Z.al.md m (al1 (Classical.choose_spec S.lst)), Z.qa.md m sub (not1 (Ne.symm Z.pq)) (not1 (Ne.symm Z.ps)), Z.pq, Z.ps, Z.fo.md m sub, Z.ok, Z.il.md m sub, Z.hk, Z.h1⟩
theorem Sit.same {p l fo ia : Addr} {A : Qa} {fs : List Key3} {its : List (Str × At)} {H H' : Hp} (Z : Sit K p l fo ia A fs its H) (s : Same H H') : Sit K p l fo ia A fs its H' := Z.md (Md.of s) (Z.sr.same s)
/-- the stock's items, some of them wrong -/
def StkI (K : PySem.W.Frag) (S : List Addr) (H : Hp) (us : List V) (l : List Itm) : Prop := ∀ (j : Nat) (u : V) (it : Itm), us[j]? = some u → l[j]? = some it → ItmX K S H u it
theorem StkI.md {S S' : List Addr} {H H' : Hp} {us : List V} {l : List Itm} (h : StkI K S H us l) (m : Md S' H H') (hs : ∀ b ∈ S', b ∈ S) : StkI K S H' us l := fun j u it h1 h2 => (h j u it h1 h2).md m hs
theorem StkI.set {S : List Addr} {H : Hp} {us : List V} {l : List Itm} {i : Nat} {u : V} {it : Itm} (h : StkI K S H us l) (hu : ItmX K S H u it) : StkI K S H (us.set i u) (l.set i it) := fun j v jt h1 h2 => by
  rw [List.getElem?_set] at h1 h2
  by_cases c : i = j
  · rw [if_pos c] at h1 h2
    split at h1 <;> cases h1
    split at h2 <;> cases h2
    exact hu
  · rw [if_neg c] at h1 h2
    exact h j v jt h1 h2
theorem StkI.stk {S : List Addr} {H : Hp} {D : Addr} {us : List V} {l : List Itm} (h : StkI K (D :: S) H us l) (e : H D = some (.lst us)) (n : D ∉ S) (hl : us.length = l.length) (h5 : l.length ≤ 5) : StkX K S H (.ref D) (some l) :=
  ⟨D, us, rfl, e, n, hl, h5, fun i u it h1 h2 => (h i u it h1 h2).re fun b hb _ z => hb (List.mem_cons_of_mem _ z)⟩
structure Due (fs : List Key3) (its : List (Str × At)) (l : List Itm) (due : Nat) : Prop where
  ln : l.length = its.length
  le : due ≤ its.length
  lo : ∀ j, j < due → l[j]? = (its[j]?).map itI
  hi : due < its.length → ∃ it, l[due]? = some it ∧ Bad fs it
theorem due_init {fs : List Key3} {its : List (Str × At)} : Due fs its (its.map itI) its.length := ⟨List.length_map _, Nat.le_refl _, fun j _ => List.getElem?_map, fun h => absurd h (Nat.lt_irrefl _)⟩
theorem due_set {fs : List Key3} {its : List (Str × At)} {l : List Itm} {due i : Nat} {it : Itm} (D : Due fs its l due) (hi : i < its.length) (b : Bad fs it) : Due fs its (l.set i it) (if i < due then i else due) := by
  have hs : (l.set i it)[i]? = some it := by rw [List.getElem?_set, if_pos rfl, if_pos (by rw [D.ln]; exact hi)]
  have hn : ∀ j, j ≠ i → (l.set i it)[j]? = l[j]? := fun j h => by rw [List.getElem?_set, if_neg (Ne.symm h)]
  by_cases c : i < due
  · rw [if_pos c]
    exact ⟨by rw [List.length_set]; exact D.ln, Nat.le_of_lt hi, fun j hj => by rw [hn j (by omega)]; exact D.lo j (by omega), fun _ => ⟨it, hs, b⟩⟩
  · rw [if_neg c]
    refine ⟨by rw [List.length_set]; exact D.ln, D.le, fun j hj => by rw [hn j (by omega)]; exact D.lo j hj, fun h => ?_⟩
    by_cases e : due = i
    · rw [e]
      exact ⟨it, hs, b⟩
    · rw [hn due e]
      exact D.hi h
theorem look_due {fs : List Key3} {rs : List Sch} {its : List (Str × At)} {l : List Itm} {due : Nat} (ok : FsOk fs) (e : (rs.map keyS).map nnK = fs.map nnK) (hx : ∀ x ∈ its, ItOk fs x) (D : Due fs its l due) (h : due < its.length) : lookI rs (some l) = some ((due : Nat) : Int) := by
  show Option.map Int.ofNat (l.findIdx? fun it => !it.good rs) = _
  rw [show (l.findIdx? fun it => !it.good rs) = some due from ?_]
  · rfl
  · rw [List.findIdx?_eq_some_iff_getElem]
    have hl : due < l.length := by rw [D.ln]; exact h
    refine ⟨hl, ?_, fun j hj => ?_⟩
    · obtain ⟨it, h1, b⟩ := D.hi h
      have := (List.getElem?_eq_some_iff.mp h1).2
      show (!(l[due]).good rs) = true
      rw [this, b rs e]
      rfl
    · have h1 := D.lo j hj
      have hjl : j < its.length := by omega
      rw [List.getElem?_eq_getElem hjl] at h1
      have := (List.getElem?_eq_some_iff.mp h1).2
      show ¬ (!(l[j]'(by omega)).good rs) = true
      rw [this, good_of ok (hx _ (List.getElem_mem hjl)) e]
      decide
theorem its_sh {fs : List Key3} (ok : FsOk fs) : ∀ {its : List (Str × At)}, (∀ x ∈ its, ItOk fs x) → SeqAt.shaped (.list (its.map itD)) = true := fun {its} hx => by
  have h : PyData.canLayAll0 (its.map itD) = true ∧ PyData.depthAll (its.map itD) ≤ 9 := by
    induction its with
    | nil => exact ⟨rfl, Nat.zero_le _⟩
    | cons t r ih =>
      have ih := ih fun x h => hx x (List.mem_cons_of_mem _ h)
      have hz : t.1 ∈ [("t" : Str), ("u" : Str)] := by
        obtain ⟨_, f, hf, hz, _⟩ := hx t (List.mem_cons_self ..)
        rw [← ok.nm, ← hz]
        exact List.mem_map_of_mem hf
      have hs : PyData.canLay0 (.str t.1) = true := by
        simp only [List.mem_cons, List.not_mem_nil, or_false] at hz
        rcases hz with h | h <;> rw [h] <;> decide +kernel
      refine ⟨Bool.and_eq_true_iff.mpr ⟨?_, ih.1⟩, Nat.max_le.mpr ⟨?_, ih.2⟩⟩
      · show (PyData.canLay0 (.str t.1) && (PyData.canLay0 t.2.d && true)) = true
        rw [hs, SeqAt.canLay_of_shaped (At.pd t.2).shaped]
        rfl
      · show Nat.max (PyData.depth (.str t.1)) (Nat.max (At.d t.2).depth 0) + 1 ≤ 9
        have h3 : PyData.depth (.str t.1) ≤ 8 := by first | exact Nat.zero_le _ | exact Nat.le_refl _
        have h : Nat.max (PyData.depth (.str t.1)) (Nat.max (At.d t.2).depth 0) ≤ 8 := Nat.max_le.mpr ⟨h3, Nat.max_le.mpr ⟨at_dep t.2, Nat.zero_le 8⟩⟩
        omega
  exact Bool.and_eq_true_iff.mpr ⟨h.1, decide_eq_true (by show PyData.depthAll (its.map itD) + 1 ≤ 64; have := h.2; omega)⟩
theorem its_eqv (its : List (Str × At)) : PyData.eqv (.list (its.map itD)) (.list []) = decide (its = []) := by
  cases its with
  | nil => rfl
  | cons _ _ => rfl
theorem ixN_nt {n j : Nat} (h : j < n) : ixN n (j : Int) = some j := by
  unfold ixN
  rw [if_pos (by omega), if_pos (by omega)]
  simp
theorem eqv3 (d : Int) : PyData.eqv (.list [.int d, .int d, .int d]) (.list [.int d, .int d, .int d]) = true := by
  show ((d == d) && ((d == d) && ((d == d) && true))) = true
  rw [beq_self_eq_true d]
  rfl
def spLaw (K : PySem.W.Frag) : Sp := fun vs H Q _ => ∃ (a : Addr) (ns : List Int), vs = [.ref a] ∧ SqL K H a (ns.map V.int) ∧ ns.length ≤ 63 ∧ ∀ H', Q (.bl true) H'
theorem ok_law {fd : FuncData} (hP : PF P "/claim/cut.py") (T : Txt K mg) (F : FunD K "law" "law" (defArgs s_law) (defBody s_law) (defScope s_law) ([] : List V) [] (ga K "law") fd) : FnOk P w K mg base CX0 14 (ga K "law") fd ["_law_script"] (spLaw K) := by
  have D__law_begin := d_begin (P := P) (w := w) (base := base) T
  have D__law_draw := d_draw (P := P) (w := w) (base := base) T
  have D__law_rules := d_rulesL (P := P) (w := w) (base := base) T
  have D__law_begun := d_begun (P := P) (w := w) (base := base) hP T
  have D__law_item := d_itemL (P := P) (w := w) (base := base) T
  have D__law_wrong := d_wrong (P := P) (w := w) (base := base) T
  have D__law_asked := d_asked (P := P) (w := w) (base := base) hP T
  have D__law_good := d_good (P := P) (w := w) (base := base) hP T
  have D_cd := d_cd1 (P := P) (w := w) (base := base) T
  refine F.ok sc_law (fun vs H Q E h => ?_) (fun cdv A outer s H vs Q E hr h => ?_)
  · obtain ⟨a, ns, rfl, _⟩ := h
    rfl
  · obtain ⟨a, ns, rfl, hS, hl, q⟩ := h
    refine ⟨_, PSs.nox (pss_cons (ps_set (i := 1) sc_law.nd rfl (.inr rfl) (cl D__law_begin (hr.mono (by decide)) (pa_cons (pv 0) pa_nil)))
      (pss_cons (ps_set (i := 2) sc_law.nd rfl (.inr rfl) (pe_lst pa_nil))
      (pss_mid (ps_for PassesOwn.never rfl (pi_list (pe_lst (pa_cons pe_str (pa_cons pe_str pa_nil)))) (pg_name (i := 3) sc_law.nd rfl (.inl rfl))
      (pss_cons (ps_set (i := 4) sc_law.nd rfl (.inl rfl) (pe_op op_add pe_int (cl D__law_draw (hr.mono (by decide)) (pa_cons (pv 1) (pa_cons pe_int pa_nil)))))
      (pss_one (ps_expr (pe_bm PySem.F.plainAttrs_list PySem.F.slot_list_append PySem.F.type_list_append mt_append (pv 2) (pa_cons (pe_tup (pa_cons (pv 3) (pa_cons (pv 4) (pa_cons (cl D__law_rules (hr.mono (by decide)) (pa_cons (pv 1) (pa_cons (pv 4) pa_nil))) pa_nil)))) pa_nil))))))
      (pss_cons (ps_set (i := 5) sc_law.nd rfl (.inl rfl) (cl D__law_begun (hr.mono (by decide)) (pa_cons (pv 2) pa_nil)))
      (pss_mid (ps_setLc (i := 6) (own := [("_law_turn", 7)]) (tt := tYes) (by rfl) sc_law.nd rfl rfl (sw_true rfl rfl rfl (by decide +kernel)) (pi_range1 (by rfl) T.z_range (pa_cons (cl D__law_draw (hr.mono (by decide)) (pa_cons (pv 1) (pa_cons pe_int pa_nil))) pa_nil)) (blkOk_by (own := [("_law_turn", 7)]) (N := ["_law_script", "_law_source", "_law_forms", "_law_name", "_law_columns", "_law_question", "_law_items", "_law_turn", "_law_due", "_law_stock", "_law_item_here", "_law_spoilt", "_law_at", "_law_good_here", "_law_odd"]) (sc := defScope s_law) (by decide +kernel)) (fun _ _ _ _ _ => (pg_name (i := 7) sc_law.nd rfl (.inl rfl))) (fun _ _ _ _ _ => pts_nil) (fun _ _ _ _ _ => (cl D__law_item (hr.mono (by decide)) (pa_cons (pv 1) (pa_cons (pv 2) pa_nil)))))
      (pss_mid (ps_for PassesOwn.never rfl (pi_range1 (by rfl) T.z_range (pa_cons pe_int pa_nil)) (pg_name (i := 7) sc_law.nd rfl (.inl rfl))
      (pss_cons (ps_set (i := 8) sc_law.nd rfl (.inl rfl) (pe_callB call_len_seq (by rfl) T.z_len (by decide +kernel) (pa_cons (pv 6) pa_nil)))
      (pss_mid (ps_setLc (i := 9) (own := [("_law_item_here", 10)]) (tt := tYes) (by rfl) sc_law.nd rfl rfl (sw_true rfl rfl rfl (by decide +kernel)) (pi_list (pv 6)) (blkOk_by (own := [("_law_item_here", 10)]) (N := ["_law_script", "_law_source", "_law_forms", "_law_name", "_law_columns", "_law_question", "_law_items", "_law_turn", "_law_due", "_law_stock", "_law_item_here", "_law_spoilt", "_law_at", "_law_good_here", "_law_odd"]) (sc := defScope s_law) (by decide +kernel)) (fun _ _ _ _ _ => (pg_name (i := 10) sc_law.nd rfl (.inl rfl))) (fun _ _ _ _ _ => pts_nil) (fun _ _ _ _ _ => (pe_tup (pa_cons (pe_ix (show IxR _ (rIxT K) from ix_tup) (pv 10) pe_int (fun _ _ => rfl)) (pa_cons (pe_makeE T.m_Conditions D_cd (hr.mono (by decide)) T.g_Conditions pxq (pa_cons (pe_lst (pa_cons (pe_ix (show IxR _ (rIxT K) from ix_tup) (pv 10) pe_int (fun _ _ => rfl)) pa_nil)) pa_nil)) pa_nil)))))
      (pss_mid (ps_for PassesOwn.never rfl (pi_range1 (by rfl) T.z_range (pa_cons (pe_op op_add pe_int (cl D__law_draw (hr.mono (by decide)) (pa_cons (pv 1) (pa_cons pe_int pa_nil)))) pa_nil)) (pg_name (i := 11) sc_law.nd rfl (.inl rfl))
      (pss_one (ps_if (pt_cmpR (op_neD hr.units) (pv 6) (pe_lst pa_nil) (nomark _)) (pss_cons (ps_set (i := 12) sc_law.nd rfl (.inl rfl) (pe_op op_mod (cl D__law_draw (hr.mono (by decide)) (pa_cons (pv 1) (pa_cons pe_int pa_nil))) (pe_callB call_len_seq (by rfl) T.z_len (by decide +kernel) (pa_cons (pv 6) pa_nil))))
      (pss_cons (ps_asg (cl D__law_wrong (hr.mono (by decide)) (pa_cons (pv 1) (pa_cons (pe_ix ix_list (pv 6) (pv 12) (fun _ _ => rfl)) (pa_cons (pv 2) pa_nil)))) (pg_sub (pv 9) (pv 12) set_list))
      (pss_one (ps_if (pt_cmpR op_lt (pv 12) (pv 8) (nomark _)) (pss_one (ps_set (i := 8) sc_law.nd rfl (.inl rfl) (pv 12))) pss_nil)))) pss_nil)))
      (pss_one (ps_if (PW.pt (pw_and (pt_cmpR (op_neD hr.units) (pv 6) (pe_lst pa_nil) (nomark _)) (pw_and1 (pt_cmpR (op_neD hr.units) (cl D__law_asked (hr.mono (by decide)) (pa_cons (pv 5) (pa_cons (pv 9) (pa_cons pe_non pa_nil)))) (pe_lst (pa_cons (pv 8) (pa_cons (pv 8) (pa_cons (pv 8) pa_nil)))) (nomark _))))) (pss_one (ps_ret pe_bl)) pss_nil))))))
      (pss_mid (ps_setLc (i := 13) (own := [("_law_item_here", 10)]) (tt := tYes) (by rfl) sc_law.nd rfl rfl (sw_true rfl rfl rfl (by decide +kernel)) (pi_list (pv 6)) (blkOk_by (own := [("_law_item_here", 10)]) (N := ["_law_script", "_law_source", "_law_forms", "_law_name", "_law_columns", "_law_question", "_law_items", "_law_turn", "_law_due", "_law_stock", "_law_item_here", "_law_spoilt", "_law_at", "_law_good_here", "_law_odd"]) (sc := defScope s_law) (by decide +kernel)) (fun _ _ _ _ _ => (pg_name (i := 10) sc_law.nd rfl (.inl rfl))) (fun _ _ _ _ _ => pts_nil) (fun _ _ _ _ _ => (pe_tup (pa_cons (pe_ix (show IxR _ (rIxT K) from ix_tup) (pv 10) pe_int (fun _ _ => rfl)) (pa_cons (pe_makeE T.m_Conditions D_cd (hr.mono (by decide)) T.g_Conditions pxq (pa_cons (pe_lst (pa_cons (pe_ix (show IxR _ (rIxT K) from ix_tup) (pv 10) pe_int (fun _ _ => rfl)) pa_nil)) pa_nil)) pa_nil)))))
      (pss_cons (ps_for PassesOwn.never rfl (pi_list (pe_lst (pa_cons pe_non (pa_cons pe_int (pa_cons (pe_tup pa_nil) (pa_cons (pe_callTy call_tuple_of (by rfl) T.z_tuple (by decide +kernel) (pa_cons (pv 13) pa_nil)) (pa_cons pe_dnewK (pa_cons (pe_op op_rep (pe_lst (pa_cons (pe_tup (pa_cons pe_str (pa_cons (pe_makeE T.m_Conditions D_cd (hr.mono (by decide)) T.g_Conditions pxq (pa_cons (lit_l (lits_cons (lit_t (lits_cons lit_s (lits_cons (lit_t (lits_cons lit_s (lits_cons lit_i lits_nil))) (lits_cons (lit_t (lits_cons lit_s (lits_cons lit_i lits_nil))) lits_nil)))) lits_nil)) pa_nil)) pa_nil))) pa_nil)) pe_int) pa_nil)))))))) (pg_name (i := 14) sc_law.nd rfl (.inl rfl))
      (pss_one (ps_if (pt_cmpR (op_neD hr.units) (cl D__law_asked (hr.mono (by decide)) (pa_cons (pv 5) (pa_cons (pv 14) (pa_cons (pe_tup pa_nil) pa_nil)))) (pe_lst (pa_cons (pe_un un_neg pe_int) (pa_cons (pe_un un_neg pe_int) (pa_cons (pe_un un_neg pe_int) pa_nil)))) (nomark _)) (pss_one (ps_ret pe_bl)) pss_nil)))
      (pss_one (ps_ret (cl D__law_good (hr.mono (by decide)) (pa_cons (pv 1) (pa_cons (pv 2) (pa_cons (pv 5) (pa_cons (pv 6) pa_nil))))))))))))))), ?_⟩
    refine ⟨_, rfl, a, ns, rfl, hS, fun p l H1 np nl s1 S1 => ?_⟩
    refine ⟨(by show 0 ≤ sizeLine; decide), fun fo nfo => ?_⟩
    generalize eH2 : upd H1 fo _ = H2
    have s2 : Same H1 H2 := eH2 ▸ same_upd nfo
    have u2 : H2 fo = some _ := eH2 ▸ upd_same
    have nfp := src_ne S1 nfo
    have nfl : l ≠ fo := fun z => by obtain ⟨xs, e⟩ := S1.lst2; rw [z, nfo] at e; cases e
    have S2 := S1.same s2
    refine ⟨fun σ H' => ∃ fs o3 o4, σ = [some (.ref a), some (.ref p), some (.ref fo), o3, o4, none, none, none, none, none, none, none, none, none, none] ∧ Src H' p l ∧ FoAt K [p] H' fo fs ∧ FsOk fs, ?_, ?_⟩
    · refine ⟨(by show 2 ≤ sizeLine; decide), fun L nL => ?_⟩
      generalize eH3 : upd H2 L _ = H3
      have s3 : Same H2 H3 := eH3 ▸ same_upd nL
      have u3 : H3 L = some _ := eH3 ▸ upd_same
      have nLp := src_ne S2 nL
      have nLf : L ≠ fo := Ne.symm (ne_of_none u2 nL)
      refine ⟨L, rfl, ⟨_, SqL.of u3⟩, for_list (K := K) (a := L) (xs := [.str "t", .str "u"]) (fun i σ H' => ∃ fs vs o3 o4, σ = [some (.ref a), some (.ref p), some (.ref fo), o3, o4, none, none, none, none, none, none, none, none, none, none] ∧ Src H' p l ∧ Md [fo, p] H3 H' ∧ fs.map Prod.fst = [("t" : Str), ("u" : Str)].take i ∧ FsP fs ∧ H' fo = some (.lst vs) ∧ vs.length = fs.length ∧ ∀ (j : Nat) v f, vs[j]? = some v → fs[j]? = some f → FoE K [fo, p] H' v f)
        ⟨[], [], none, none, rfl, S2.same s3, .refl _ _, rfl, ⟨fun f h => (by cases h), fun f h => (by cases h), fun f h => (by cases h), fun f h => (by cases h), fun f h => (by cases h), fun f h => (by cases h)⟩, s3 _ _ u2, rfl, fun j v f h => (by cases h)⟩ (fun i σ H' _ ⟨_, _, _, _, _, _, m, _⟩ => SqL.of (m.out _ _ u3 (not2 nLf nLp))) ?_ ?_⟩
      · rintro i xv σ H4 ey ⟨fs, vs, o3, o4, rfl, S4, m4, hnm, hP', e4, lv, hE⟩
        obtain ⟨z, hz, rfl⟩ := getM (show ([("t" : Str), ("u" : Str)].map V.str)[i]? = some xv from ey)
        have hi : i < 2 := (List.getElem?_eq_some_iff.mp hz).1
        refine ⟨_, rfl, p, l, 3, rfl, by decide, by decide, S4, fun n H5 n0 n1 S5 b5 => ?_⟩
        have m45 := src_md S4 b5
        obtain ⟨n, rfl⟩ := Int.eq_ofNat_of_zero_le n0
        refine ⟨_, _, rfl, rfl, ?_⟩
        have e5 := m45.out _ _ e4 (not1 (Ne.symm nfp.symm))
        have hc : (1 : Int) + (n : Nat) = ((1 + n : Nat) : Int) := by omega
        refine ⟨_, rfl, .inl ⟨rfl, _, SqL.of e5⟩, _, rfl, _, rfl, _, rfl, _, rfl, p, l, 1 + n, rfl, by omega, by omega, S5, fun R ws as H6 m6 S6 nR eR dR nd hok hfi hle => ?_⟩
        refine ⟨(by show 3 ≤ sizeLine; decide), fun t nt => ?_⟩
        generalize eH7 : upd H6 t _ = H7
        have s7 : Same H6 H7 := eH7 ▸ same_upd nt
        have u7 : H7 t = some _ := eH7 ▸ upd_same
        have e7 := s7 _ _ (m6.out _ _ e5 (not1 (Ne.symm nfp.symm)))
        have lvl : vs.length ≤ 2 := by
          rw [lv]
          have := congrArg List.length hnm
          rw [List.length_map, List.length_take] at this
          omega
        refine ⟨fo, vs, _, rfl, rfl, e7, Nat.lt_of_le_of_lt lvl (by decide), ?_⟩
        have mu : Md [fo] H7 (upd H7 fo (.lst (vs ++ [.ref t]))) := Md.upd e7 rfl (by simp)
        have m47 : Md [p] H4 H7 := m45.trans (m6.trans (Md.of s7))
        have m48 : Md [fo, p] H4 (upd H7 fo (.lst (vs ++ [.ref t]))) := (m47.mono (by simp)).trans (mu.mono (by simp))
        have nRf : R ∉ [fo, p] := not2 (Ne.symm (ne_of_none e5 nR)) (src_ne S5 nR)
        refine ⟨fs ++ [(z, 1 + n, as)], vs ++ [.ref t], _, _, rfl, Src.md (S6.same s7) mu (not1 nfp.symm) (not1 nfl), m4.trans m48, ?_, hP'.snoc (by show 1 ≤ 1 + n; omega) (by show 1 + n ≤ 3; omega) nd hok hfi hle, upd_same, (by rw [List.length_append, List.length_append, lv]; rfl), fun j v f h1 h2 => ?_⟩
        · rw [List.map_append, hnm, tk1 hz]
          rfl
        · by_cases c : j < vs.length
          · rw [List.getElem?_append_left c] at h1
            rw [List.getElem?_append_left (by omega)] at h2
            exact (hE j v f h1 h2).md m48 (fun b hb => hb)
          · have hj : j = vs.length := by
              have := (List.getElem?_eq_some_iff.mp h1).1
              rw [List.length_append] at this
              have : j < vs.length + 1 := this
              omega
            subst hj
            rw [List.getElem?_append_right (Nat.le_refl _), Nat.sub_self] at h1
            rw [lv, List.getElem?_append_right (Nat.le_refl _), Nat.sub_self] at h2
            cases h1
            cases h2
            exact ⟨t, R, ws, rfl, mu.sqT (SqT.of u7), mu.out _ _ (s7 _ _ eR) (not1 (Ne.symm (ne_of_none e5 nR))), nRf, mu.dpAll (nl_ats _) (DpAll.same s7 dR)⟩
      · rintro σ H4 ⟨fs, vs, o3, o4, rfl, S4, m4, hnm, hP', e4, lv, hE⟩
        have sub : ∀ b ∈ [p], b ∈ [fo, p] := fun b hb => by rw [List.mem_singleton.mp hb]; simp
        refine ⟨fs, o3, o4, rfl, S4, ⟨not1 nfp, vs, e4, lv, fun j v f h h' => (hE j v f h h').re fun b hb _ z => hb (sub b z)⟩, ⟨hnm, hP'.n1, hP'.n3, hP'.nd, hP'.ok, hP'.fi, hP'.le⟩⟩
    · rintro σ H3 ⟨fs, o3, o4, rfl, S3, FO3, okF⟩
      have alp : EL.Al [p] H3 := al1 (Classical.choose_spec S3.lst)
      refine ⟨_, rfl, fo, [p], [p], fs, rfl, FO3, okF, alp, fun A H4 s4 nw QA hk h1 => ?_⟩
      have fr := fresh2 (M := [p]) nw.1 nw.2
      have npq := src_ne S3 nw.1
      have nps := src_ne S3 nw.2
      have S4 := S3.same s4
      have FO4 := (FO3.re fr).same s4
      have nlM : l ∉ [A.q, A.st, p] := fun z => by
        obtain ⟨xs, e⟩ := S3.lst2
        simp only [List.mem_cons, List.not_mem_nil, or_false] at z
        rcases z with z | z | z
        · exact ne_of_none e nw.1 z
        · exact ne_of_none e nw.2 z
        · exact S3.ne z
      have al4 : EL.Al [A.q, A.st, p] H4 := Al.cons' (Al.cons' (alp.same s4) QA.hs) QA.hq
      refine ⟨fun σ H' => ∃ o3 o4 ia its, σ = [some (.ref a), some (.ref p), some (.ref fo), o3, o4, some (.ref A.q), some (.ref ia), none, none, none, none, none, none, none, none] ∧ Sit K p l fo ia A fs its H', ?_, ?_⟩
      · refine ⟨_, rfl, p, l, 6, rfl, by decide, by decide, S4, fun n H5 n0 n1 S5 b5 => ?_⟩
        have m45 := src_md S4 b5
        have sub : ∀ b ∈ [p], b ∈ [A.q, A.st, p] := fun b hb => by rw [List.mem_singleton.mp hb]; simp
        refine ⟨n, rfl, by omega, by omega, fun D nD => ?_⟩
        have sD : Same H5 (upd H5 D (.lst [])) := same_upd nD
        have nDp := src_ne S5 nD
        have nDl : l ≠ D := fun z => by obtain ⟨xs, e⟩ := S5.lst2; rw [z, nD] at e; cases e
        have al5 : EL.Al [A.q, A.st, p] H5 := al4.md m45 (al1 (Classical.choose_spec S5.lst))
        have nDM : D ∉ [A.q, A.st, p] := al5.out nD
        have FO5 := FO4.md m45 sub
        have FOD := (FO5.re (fresh1 nD)).same sD
        have QA5 := QA.md m45 sub (not1 npq) (not1 nps)
        have subD : ∀ b ∈ [p, D], b ∈ D :: [A.q, A.st, p] := fun b hb => by
          simp only [List.mem_cons, List.not_mem_nil, or_false] at hb
          rcases hb with rfl | rfl <;> simp
        refine lc_it (walk_range (lo := 0) (n := n.toNat)) (fun i H' => ∃ (vs : List V) (its : List (Str × At)), H' D = some (.lst vs) ∧ DpAll K H' vs (its.map itD) ∧ its.length = i ∧ (∀ x ∈ its, ItOk fs x) ∧ Md [p, D] (upd H5 D (.lst [])) H' ∧ Src H' p l) ⟨[], [], upd_same, .nil, rfl, fun x h => (by cases h), .refl _ _, S5.same sD⟩ (fun i H' _ h => trivial) ?_ ?_
        · rintro i xv H6' H6 hi ⟨vs, its, e6, d6, lit, hio, m6, S6⟩ ⟨rfl, rfl⟩
          refine ⟨rfl, tYes_of ?_⟩
          refine ⟨_, rfl, _, rfl, p, l, fo, D :: [A.q, A.st, p], fs, rfl, S6, by simp, FOD.md m6 subD, okF, fun qq x H7 m7 S7 d7 ok7 => ?_⟩
          have e7 := m7.out _ _ e6 (not1 nDp)
          have lvs : vs.length = i := by rw [DpAll.length d6, List.length_map, lit]
          have mu : Md [D] H7 (upd H7 D (.lst (vs ++ [.ref qq]))) := Md.upd e7 rfl (by simp)
          refine ⟨vs, e7, Nat.lt_of_le_of_lt (show vs.length ≤ 100 by omega) (by decide), vs ++ [.ref qq], its ++ [x], upd_same, ?_, (by rw [List.length_append, lit]; rfl), fun y hy => ?_, m6.trans ((m7.mono (by simp)).trans (mu.mono (by simp))), Src.md S7 mu (not1 nDp.symm) (not1 nDl)⟩
          · rw [List.map_append]
            exact DpAll.snoc (mu.dp (show noL (itD x) = true by show (true && (noL x.2.d && true)) = true; rw [nl_at]; rfl) d7) (mu.dpAll (nl_its _) (m7.dpAll (nl_its _) d6))
          · rcases List.mem_append.mp hy with h | h
            · exact hio y h
            · cases List.mem_singleton.mp h
              exact ok7
        · rintro H6 ⟨vs, its, e6, d6, lit, hio, m6, S6⟩
          have m56 : Md [p] H5 H6 := Md.new1 (S := [p]) (m6.mono (by simp)) sD nD
          refine ⟨o3, o4, D, its, rfl, S6, nlM, al5.md m56 (al1 (Classical.choose_spec S6.lst)), QA5.md m56 sub (not1 npq) (not1 nps), npq.symm, nps.symm, FO5.md m56 sub, okF, ⟨⟨vs, e6, d6⟩, nDM, by omega, hio⟩, hk, h1⟩
      · rintro σ H5 ⟨o3, o4, ia, its, rfl, Z⟩
        refine ⟨fun σ H' => ∃ o3 o4 o7 o8 o9 o11 o12, σ = [some (.ref a), some (.ref p), some (.ref fo), o3, o4, some (.ref A.q), some (.ref ia), o7, o8, o9, none, o11, o12, none, none] ∧ Sit K p l fo ia A fs its H', ?_, ?_⟩
        · refine ⟨3, rfl, by decide, by decide, for_range (n := 3) (fun i σ H' => ∃ o3 o4 o7 o8 o9 o11 o12, σ = [some (.ref a), some (.ref p), some (.ref fo), o3, o4, some (.ref A.q), some (.ref ia), o7, o8, o9, none, o11, o12, none, none] ∧ Sit K p l fo ia A fs its H') ⟨_, _, _, _, _, _, _, rfl, Z⟩ ?_ ?_⟩
          · rintro i σ H6 hi ⟨o3, o4, o7, o8, o9, o11, o12, rfl, Z6⟩
            obtain ⟨vi, evi, dvi⟩ := Z6.il.ex
            have lvi : vi.length = its.length := by rw [DpAll.length dvi, List.length_map]
            have l5 := Z6.il.le
            refine ⟨_, rfl, _, _, rfl, .inl (SqL.of evi), ?_⟩
            refine ⟨fun σ H' => ∃ D us o3 o4 o7 o11 o12, σ = [some (.ref a), some (.ref p), some (.ref fo), o3, o4, some (.ref A.q), some (.ref ia), o7, some (.int (its.length : Nat)), some (.ref D), none, o11, o12, none, none] ∧ H6 D = none ∧ H' D = some (.lst us) ∧ us.length = its.length ∧ StkP K (D :: [A.q, A.st, p]) H' us its ∧ Same H6 H', ?_, ?_⟩
            · refine ⟨_, rfl, ia, rfl, ⟨_, SqL.of evi⟩, fun D nD => ?_⟩
              have subD : ∀ b ∈ [D], b ∈ D :: [A.q, A.st, p] := fun b hb => by rw [List.mem_singleton.mp hb]; exact List.mem_cons_self ..
              have sD : Same H6 (upd H6 D (.lst [])) := same_upd nD
              refine lc_it (walk_list (xs := vi)) (fun i H' => ∃ us, H' D = some (.lst us) ∧ us.length = i ∧ StkP K (D :: [A.q, A.st, p]) H' us its ∧ Md [D] (upd H6 D (.lst [])) H') ⟨[], upd_same, rfl, fun j u x h => (by cases h), .refl _ _⟩ (fun i H' _ h => ?_) ?_ ?_
              · obtain ⟨us, _, _, _, m⟩ := h
                exact SqL.of ((Md.new1 (S := []) m sD nD).same _ _ evi)
              · rintro i xv H1' H1 hi ⟨us, eD, lus, SP, m1⟩ ⟨rfl, hx⟩
                have S1 : Same H6 H1 := (Md.new1 (S := []) m1 sD nD).same
                obtain ⟨d, hd, hdp⟩ := DpAll.get dvi hx
                obtain ⟨x, hx', rfl⟩ := getM hd
                obtain ⟨q, v1, rfl, hq, hv⟩ := it_inv (Dp.same S1 hdp)
                have hxo := Z6.il.ok x (List.mem_of_getElem? hx')
                refine ⟨rfl, tYes_of ?_⟩
                refine ⟨_, rfl, _, _, 0, _, rfl, rfl, hq, atI_nat (j := 0) rfl, _, rfl, _, _, 1, _, rfl, rfl, hq, atI_nat (j := 1) rfl, (by show 1 ≤ sizeLine; decide), fun z nz => ?_⟩
                generalize eH2 : upd H1 z _ = H2
                have s2 : Same H1 H2 := eH2 ▸ same_upd nz
                have u2 : H2 z = some _ := eH2 ▸ upd_same
                refine mkCd (as := [x.2]) (.inl (SqL.of u2)) (.cons (Dp.same s2 hv) .nil) (fun a h => by cases List.mem_singleton.mp h; exact hxo.1) (by show 1 ≤ 1000; decide) fun y dy n H3 s3 ny nn _ CY => ?_
                refine ⟨(by show 2 ≤ sizeLine; decide), fun t nt => ?_⟩
                generalize eH4 : upd H3 t _ = H4
                have s4 : Same H3 H4 := eH4 ▸ same_upd nt
                have u4 : H4 t = some _ := eH4 ▸ upd_same
                have S14 := s2.trans (s3.trans s4)
                have eD4 := S14 _ _ eD
                have al2 : EL.Al (D :: [A.q, A.st, p]) H2 := (Al.cons' (Z6.al.same S1) eD).same s2
                refine ⟨us, eD4, ?_, us ++ [.ref t], upd_same, (by rw [List.length_append, lus]; rfl), ?_, m1.trans ((Md.of S14).trans (Md.upd eD4 rfl (by simp)))⟩
                · rw [lus]
                  exact Nat.lt_of_lt_of_le (show i < 1000 by omega) (by decide)
                · have mu : Md [D] H4 (upd H4 D (.lst (us ++ [.ref t]))) := Md.upd eD4 rfl (by simp)
                  exact (StkP.snoc (SP.md (.of (S := []) S14) (by simp)) (by rw [lus]; exact hx') ⟨t, _, _, rfl, SqT.of u4, .str _, ⟨y, dy, n, rfl, CY.same s4, al2.out ny, al2.out nn⟩, (by show 1 ≤ 1000; decide)⟩).md mu subD
              · rintro H1 ⟨us, eD, lus, SP, m1⟩
                exact ⟨D, us, o3, o4, some (.int (0 + (i : Int))), o11, o12, by rw [← lvi]; rfl, nD, eD, by rw [lus, lvi], SP, (Md.new1 (S := []) m1 sD nD).same⟩
            · rintro σ H7 ⟨D, us, o3, o4, o7, o11, o12, rfl, nD, eD, lus, SP, s67⟩
              have nDp := src_ne Z6.sr nD
              have nDl : l ≠ D := fun z => by obtain ⟨xs, e⟩ := Z6.sr.lst2; rw [z, nD] at e; cases e
              have nDM : D ∉ [A.q, A.st, p] := Z6.al.out nD
              have S7 := Z6.sr.same s67
              have subp : ∀ b ∈ [p], b ∈ D :: [A.q, A.st, p] := fun b hb => by rw [List.mem_singleton.mp hb]; simp
              have subD : ∀ b ∈ [D], b ∈ D :: [A.q, A.st, p] := fun b hb => by rw [List.mem_singleton.mp hb]; simp
              have ZM : ∀ {H'}, Md [D, p] H7 H' → Src H' p l → Sit K p l fo ia A fs its H' := fun m S' => Z6.md (Md.new1 (S := [p]) m s67 nD) S'
              refine ⟨fun σ H' => ∃ us l' due o11 o12, σ = [some (.ref a), some (.ref p), some (.ref fo), o3, o4, some (.ref A.q), some (.ref ia), o7, some (.int (due : Nat)), some (.ref D), none, o11, o12, none, none] ∧ Md [D, p] H7 H' ∧ Src H' p l ∧ H' D = some (.lst us) ∧ us.length = its.length ∧ StkI K (D :: [A.q, A.st, p]) H' us l' ∧ Due fs its l' due ∧ (its ≠ [] → due < its.length), ?_, ?_⟩
              · refine ⟨_, rfl, p, l, 2, rfl, by decide, by decide, S7, fun n H8 n0 n1 S8 b8 => ?_⟩
                have m78 := src_md S7 b8
                have SI7 : StkI K (D :: [A.q, A.st, p]) H7 us (its.map itI) := fun j u it h1 h2 => by
                  obtain ⟨x, hx, rfl⟩ := getM h2
                  exact SP j u x h1 hx
                refine ⟨_, _, rfl, rfl, 1 + n, rfl, by omega, by omega, for_range (n := (1 + n).toNat) (fun i σ H' => ∃ us l' due o11 o12, σ = [some (.ref a), some (.ref p), some (.ref fo), o3, o4, some (.ref A.q), some (.ref ia), o7, some (.int (due : Nat)), some (.ref D), none, o11, o12, none, none] ∧ Md [D, p] H7 H' ∧ Src H' p l ∧ H' D = some (.lst us) ∧ us.length = its.length ∧ StkI K (D :: [A.q, A.st, p]) H' us l' ∧ Due fs its l' due ∧ (1 ≤ i → its ≠ [] → due < its.length)) ⟨us, its.map itI, its.length, o11, o12, rfl, m78.mono (by simp), S8, m78.out _ _ eD (not1 nDp), lus, SI7.md m78 subp, due_init, fun h => by omega⟩ ?_ ?_⟩
                · rintro j σ H9 hj ⟨us, l', due, o11, o12, rfl, m9, S9, eD9, lus, SI, DU, _⟩
                  have Z9 := ZM m9 S9
                  obtain ⟨vi9, evi9, dvi9⟩ := Z9.il.ex
                  refine ⟨_, rfl, (by show 0 ≤ sizeLine; decide), fun z nz => ?_⟩
                  generalize eH10 : upd H9 z _ = H10
                  have s10 : Same H9 H10 := eH10 ▸ same_upd nz
                  have u10 : H10 z = some _ := eH10 ▸ upd_same
                  have m10 : Md [D, p] H7 H10 := m9.trans (Md.of s10)
                  refine ⟨.list (its.map itD), .list [], .lst (SqL.of (s10 _ _ evi9)) (DpAll.same s10 dvi9), .lst (SqL.of u10) .nil, its_sh okF Z9.il.ok, (by decide +kernel), ?_⟩
                  rw [its_eqv]
                  by_cases hne : its = []
                  · rw [decide_eq_true hne]
                    exact ⟨_, rfl, iteF ⟨us, l', due, _, o12, rfl, m10, S9.same s10, s10 _ _ eD9, lus, SI.md (.of (S := []) s10) (by simp), DU, fun _ h => absurd hne h⟩⟩
                  · rw [decide_eq_false hne]
                    refine ⟨_, rfl, iteT ?_⟩
                    have lpos : 0 < its.length := List.length_pos_iff.mpr hne
                    have lv9 : vi9.length = its.length := by rw [DpAll.length dvi9, List.length_map]
                    refine ⟨_, rfl, p, l, 60, rfl, by decide, by decide, S9.same s10, fun k H11 k0 k1 S11 b11 => ?_⟩
                    have m1011 := src_md (S9.same s10) b11
                    have m11 : Md [D, p] H7 H11 := m10.trans (m1011.mono (by simp))
                    have Z11 := ZM m11 S11
                    obtain ⟨vi11, evi11, dvi11⟩ := Z11.il.ex
                    have lv11 : vi11.length = its.length := by rw [DpAll.length dvi11, List.length_map]
                    obtain ⟨k, rfl⟩ := Int.eq_ofNat_of_zero_le k0
                    refine ⟨_, rfl, _, _, rfl, .inl (SqL.of evi11), _, _, rfl, rfl, (by show (0 : Int) < (vi11.length : Nat); omega), ?_⟩
                    have hmod : k % vi11.length < its.length := by rw [lv11]; exact Nat.mod_lt _ lpos
                    have hv : vi11[k % vi11.length]? = some (vi11[k % vi11.length]'(by omega)) := List.getElem?_eq_getElem (by omega)
                    generalize vi11[k % vi11.length]'(by omega) = xv at hv
                    obtain ⟨d, hd, hdp⟩ := DpAll.get dvi11 hv
                    obtain ⟨x, hx', rfl⟩ := getM hd
                    obtain ⟨iq, v1, rfl, _, _⟩ := it_inv hdp
                    have hxo := Z11.il.ok x (List.mem_of_getElem? hx')
                    have subDp : ∀ b ∈ [D, p], b ∈ D :: [A.q, A.st, p] := fun b hb => by
                      simp only [List.mem_cons, List.not_mem_nil, or_false] at hb
                      rcases hb with rfl | rfl <;> simp
                    have FOD := ((Z6.fo.re (fresh1 nD)).same s67).md m11 subDp
                    have eD11 := m1011.out _ _ (s10 _ _ eD9) (not1 nDp)
                    have alD : EL.Al (D :: [A.q, A.st, p]) H11 := Al.cons' Z11.al eD11
                    have SI11 := (SI.md (.of (S := []) s10) (by simp)).md m1011 subp
                    refine ⟨_, rfl, _, rfl, _, rfl, _, _, ((k % vi11.length : Nat) : Int), _, rfl, rfl, SqL.of evi11, atI_nat hv, _, rfl, p, l, iq, fo, D :: [A.q, A.st, p], x, fs, rfl, S11, by simp, alD, hdp, hxo.1, FOD, okF, fun v it H12 m12 S12 X12 bad => ?_⟩
                    have eD12 := m12.out _ _ eD11 (not1 nDp)
                    have m1112 : Md [D, p] H7 H12 := m11.trans (m12.mono (by simp))
                    refine ⟨_, rfl, _, rfl, D, us, ((k % vi11.length : Nat) : Int), k % vi11.length, rfl, rfl, eD12, ?_, ?_⟩
                    · exact ixN_nt (by omega)
                    · have mu : Md [D] H12 (upd H12 D (.lst (us.set (k % vi11.length) v))) := Md.upd eD12 rfl (by simp)
                      have eD13 : (upd H12 D (.lst (us.set (k % vi11.length) v))) D = some (.lst (us.set (k % vi11.length) v)) := upd_same
                      generalize upd H12 D (.lst (us.set (k % vi11.length) v)) = H13 at mu eD13 ⊢
                      have m13 : Md [D, p] H7 H13 := m1112.trans (mu.mono (by simp))
                      have S13 : Src H13 p l := Src.md S12 mu (not1 nDp.symm) (not1 nDl)
                      have SI13 := (StkI.set (i := k % vi11.length) (SI11.md m12 subp) X12).md mu subD
                      have DU' := due_set DU hmod bad
                      have lus13 : (us.set (k % vi11.length) v).length = its.length := by rw [List.length_set]; exact lus
                      refine ⟨_, rfl, _, rfl, _, _, rfl, rfl, _, rfl, ie (fun h => ?_) (fun h => ?_)⟩
                      · have h2 : k % vi11.length < due := Int.ofNat_lt.mp (of_decide_eq_true h)
                        rw [if_pos h2] at DU'
                        exact ⟨_, rfl, _, _, k % vi11.length, _, _, rfl, m13, S13, eD13, lus13, SI13, DU', fun _ _ => hmod⟩
                      · have h2 : ¬ k % vi11.length < due := fun c => of_decide_eq_false h (Int.ofNat_lt.mpr c)
                        rw [if_neg h2] at DU'
                        exact ⟨_, _, due, _, _, rfl, m13, S13, eD13, lus13, SI13, DU', fun _ _ => by omega⟩
                · rintro σ H9 ⟨us, l', due, o11, o12, rfl, m9, S9, eD9, lus, SI, DU, hd⟩
                  exact ⟨us, l', due, o11, o12, rfl, m9, S9, eD9, lus, SI, DU, hd (by omega)⟩
              · rintro σ H8 ⟨us, l', due, o11, o12, rfl, m8, S8, eD8, lus, SI, DU, hd⟩
                have Z8 := ZM m8 S8
                obtain ⟨vi8, evi8, dvi8⟩ := Z8.il.ex
                refine ⟨_, rfl, (by show 0 ≤ sizeLine; decide), fun z nz => ?_⟩
                generalize eH9 : upd H8 z _ = H9
                have s9 : Same H8 H9 := eH9 ▸ same_upd nz
                have u9 : H9 z = some _ := eH9 ▸ upd_same
                have Z9 := Z8.same s9
                refine ⟨.list (its.map itD), .list [], .lst (SqL.of (s9 _ _ evi8)) (DpAll.same s9 dvi8), .lst (SqL.of u9) .nil, its_sh okF Z8.il.ok, (by decide +kernel), ?_⟩
                rw [its_eqv]
                by_cases hne : its = []
                · rw [decide_eq_true hne]
                  exact ⟨_, rfl, iteF (iteF ⟨_, _, _, _, _, _, _, rfl, Z9⟩)⟩
                · rw [decide_eq_false hne]
                  refine ⟨_, rfl, iteT ?_⟩
                  have hk9 : (A.rs.map keyS).map nnK = fs.map nnK := by rw [Z9.hk]
                  have l150 : ∀ s ∈ A.rs, s.as.length ≤ 150 := fun s hs => by
                    have h2 : s.as.length ≤ 2 := okF.le (keyS s) (Z9.hk ▸ List.mem_map_of_mem hs)
                    omega
                  have SX := (SI.stk eD8 nDM (by rw [lus, DU.ln]) (by rw [DU.ln]; exact l5)).same s9
                  refine ⟨_, rfl, _, rfl, fun _ => r51, _, A, .ref D, some l', .non, .none, ((due : Nat) : Int), rfl, Z9.qa, Z9.al, SX, .non, (fun ds e => by cases e), l150, look_due okF hk9 Z9.il.ok DU (hd hne), fun LL H10 s10 eLL => ?_⟩
                  refine ⟨_, rfl, _, rfl, _, rfl, (by show 3 ≤ sizeLine; decide), fun z2 nz2 => ?_⟩
                  generalize eH11 : upd H10 z2 _ = H11
                  have s11 : Same H10 H11 := eH11 ▸ same_upd nz2
                  have u11 : H11 z2 = some _ := eH11 ▸ upd_same
                  have d3 : ∀ H', DpAll K H' [.int ((due : Nat) : Int), .int ((due : Nat) : Int), .int ((due : Nat) : Int)] [.int ((due : Nat) : Int), .int ((due : Nat) : Int), .int ((due : Nat) : Int)] := fun H' => .cons (.int _) (.cons (.int _) (.cons (.int _) .nil))
                  refine ⟨.list [.int ((due : Nat) : Int), .int ((due : Nat) : Int), .int ((due : Nat) : Int)], .list [.int ((due : Nat) : Int), .int ((due : Nat) : Int), .int ((due : Nat) : Int)], .lst (SqL.of (s11 _ _ eLL)) (d3 _), .lst (SqL.of u11) (d3 _), rfl, rfl, ?_⟩
                  rw [eqv3]
                  exact ⟨_, rfl, iteF ⟨_, _, _, _, _, _, _, rfl, Z9.same (s10.trans s11)⟩⟩
          · rintro σ H6 ⟨o3, o4, o7, o8, o9, o11, o12, rfl, Z6⟩
            exact ⟨_, _, _, _, _, _, _, rfl, Z6⟩
        · rintro σ H6 ⟨o3, o4, o7, o8, o9, o11, o12, rfl, Z6⟩
          obtain ⟨vi, evi, dvi⟩ := Z6.il.ex
          have lvi : vi.length = its.length := by rw [DpAll.length dvi, List.length_map]
          have l5 := Z6.il.le
          refine ⟨fun σ H' => ∃ D us, σ = [some (.ref a), some (.ref p), some (.ref fo), o3, o4, some (.ref A.q), some (.ref ia), o7, o8, o9, none, o11, o12, some (.ref D), none] ∧ H6 D = none ∧ H' D = some (.lst us) ∧ us.length = its.length ∧ Same H6 H', ?_, ?_⟩
          · refine ⟨_, rfl, ia, rfl, ⟨_, SqL.of evi⟩, fun D nD => ?_⟩
            have subD : ∀ b ∈ [D], b ∈ D :: [A.q, A.st, p] := fun b hb => by rw [List.mem_singleton.mp hb]; exact List.mem_cons_self ..
            have sD : Same H6 (upd H6 D (.lst [])) := same_upd nD
            refine lc_it (walk_list (xs := vi)) (fun i H' => ∃ us, H' D = some (.lst us) ∧ us.length = i ∧ StkP K (D :: [A.q, A.st, p]) H' us its ∧ Md [D] (upd H6 D (.lst [])) H') ⟨[], upd_same, rfl, fun j u x h => (by cases h), .refl _ _⟩ (fun i H' _ h => ?_) ?_ ?_
            · obtain ⟨us, _, _, _, m⟩ := h
              exact SqL.of ((Md.new1 (S := []) m sD nD).same _ _ evi)
            · rintro i xv H1' H1 hi ⟨us, eD, lus, SP, m1⟩ ⟨rfl, hx⟩
              have S1 : Same H6 H1 := (Md.new1 (S := []) m1 sD nD).same
              obtain ⟨d, hd, hdp⟩ := DpAll.get dvi hx
              obtain ⟨x, hx', rfl⟩ := getM hd
              obtain ⟨q, v1, rfl, hq, hv⟩ := it_inv (Dp.same S1 hdp)
              have hxo := Z6.il.ok x (List.mem_of_getElem? hx')
              refine ⟨rfl, tYes_of ?_⟩
              refine ⟨_, rfl, _, _, 0, _, rfl, rfl, hq, atI_nat (j := 0) rfl, _, rfl, _, _, 1, _, rfl, rfl, hq, atI_nat (j := 1) rfl, (by show 1 ≤ sizeLine; decide), fun z nz => ?_⟩
              generalize eH2 : upd H1 z _ = H2
              have s2 : Same H1 H2 := eH2 ▸ same_upd nz
              have u2 : H2 z = some _ := eH2 ▸ upd_same
              refine mkCd (as := [x.2]) (.inl (SqL.of u2)) (.cons (Dp.same s2 hv) .nil) (fun a h => by cases List.mem_singleton.mp h; exact hxo.1) (by show 1 ≤ 1000; decide) fun y dy n H3 s3 ny nn _ CY => ?_
              refine ⟨(by show 2 ≤ sizeLine; decide), fun t nt => ?_⟩
              generalize eH4 : upd H3 t _ = H4
              have s4 : Same H3 H4 := eH4 ▸ same_upd nt
              have u4 : H4 t = some _ := eH4 ▸ upd_same
              have S14 := s2.trans (s3.trans s4)
              have eD4 := S14 _ _ eD
              have al2 : EL.Al (D :: [A.q, A.st, p]) H2 := (Al.cons' (Z6.al.same S1) eD).same s2
              refine ⟨us, eD4, ?_, us ++ [.ref t], upd_same, (by rw [List.length_append, lus]; rfl), ?_, m1.trans ((Md.of S14).trans (Md.upd eD4 rfl (by simp)))⟩
              · rw [lus]
                exact Nat.lt_of_lt_of_le (show i < 1000 by omega) (by decide)
              · have mu : Md [D] H4 (upd H4 D (.lst (us ++ [.ref t]))) := Md.upd eD4 rfl (by simp)
                exact (StkP.snoc (SP.md (.of (S := []) S14) (by simp)) (by rw [lus]; exact hx') ⟨t, _, _, rfl, SqT.of u4, .str _, ⟨y, dy, n, rfl, CY.same s4, al2.out ny, al2.out nn⟩, (by show 1 ≤ 1000; decide)⟩).md mu subD
            · rintro H1 ⟨us, eD, lus, SP, m1⟩
              exact ⟨D, us, rfl, nD, eD, by rw [lus, lvi], (Md.new1 (S := []) m1 sD nD).same⟩
          · rintro σ H7 ⟨D, us, rfl, nD, eD, lus, s67⟩
            have Z7 := Z6.same s67
            refine ⟨(by show 0 ≤ sizeLine; decide), fun t0 nt0 => ?_⟩
            generalize eH8 : upd H7 t0 _ = H8
            have s8 : Same H7 H8 := eH8 ▸ same_upd nt0
            have u8 : H8 t0 = some _ := eH8 ▸ upd_same
            refine ⟨_, rfl, _, _, rfl, .inl ⟨SqL.of (s8 _ _ eD), fun t1 nt1 => ?_⟩⟩
            generalize eH9 : upd H8 t1 _ = H9
            have s9 : Same H8 H9 := eH9 ▸ same_upd nt1
            have u9 : H9 t1 = some _ := eH9 ▸ upd_same
            intro t2 nt2
            generalize eH10 : upd H9 t2 _ = H10
            have s10 : Same H9 H10 := eH10 ▸ same_upd nt2
            have u10 : H10 t2 = some _ := eH10 ▸ upd_same
            intro v11 H11 s11 hL11
            obtain ⟨a11, xs11, rfl, e11, _, d11⟩ := (hL11 [] al_nil).lst_inv
            refine mkCd (as := [atG]) (.inl (SqL.of e11)) d11.dp (fun a h => by cases List.mem_singleton.mp h; exact ⟨by show 0 < 3; decide, by show 0 < 3; decide⟩) (by show 1 ≤ 1000; decide) fun y dy n H12 s12 ny nn _ CY => ?_
            refine ⟨(by show 2 ≤ sizeLine; decide), fun t3 nt3 => ?_⟩
            generalize eH13 : upd H12 t3 _ = H13
            have s13 : Same H12 H13 := eH13 ▸ same_upd nt3
            have u13 : H13 t3 = some _ := eH13 ▸ upd_same
            refine ⟨(by show 1 ≤ sizeLine; decide), fun t4 nt4 => ?_⟩
            generalize eH14 : upd H13 t4 _ = H14
            have s14 : Same H13 H14 := eH14 ▸ same_upd nt4
            have u14 : H14 t4 = some _ := eH14 ▸ upd_same
            refine ⟨t4, 6, _, rfl, rfl, u14, by decide, by decide, (by show 1 * 6 ≤ sizeLine; decide), fun t5 nt5 => ?_⟩
            generalize eH15 : upd H14 t5 _ = H15
            have s15 : Same H14 H15 := eH15 ▸ same_upd nt5
            have u15 : H15 t5 = some _ := eH15 ▸ upd_same
            refine ⟨(by show 6 ≤ sizeLine; decide), fun L nL => ?_⟩
            generalize eH16 : upd H15 L _ = H16
            have s16 : Same H15 H16 := eH16 ▸ same_upd nL
            have u16 : H16 L = some _ := eH16 ▸ upd_same
            have q15 := s16
            have q14 := s15.trans q15
            have q13 := s14.trans q14
            have q12 := s13.trans q13
            have q11 := s12.trans q12
            have q10 := s11.trans q11
            have q9 := s10.trans q10
            have q8 := s9.trans q9
            have q7 := s8.trans q8
            have al9 := Z7.al.same (s8.trans s9)
            have al14 := al9.same (s10.trans (s11.trans (s12.trans (s13.trans s14))))
            have l150 : ∀ s ∈ A.rs, s.as.length ≤ 150 := fun s hs => by
              have h2 : s.as.length ≤ 2 := okF.le (keyS s) (hk ▸ List.mem_map_of_mem hs)
              omega
            refine ⟨L, rfl, ⟨_, SqL.of u16⟩, for_list (K := K) (a := L) (xs := [.non, .int 3, .ref t0, .ref t1, .ref t2, .ref t5]) (fun i σ H' => Same H16 H' ∧ ∃ o14, σ = [some (.ref a), some (.ref p), some (.ref fo), o3, o4, some (.ref A.q), some (.ref ia), o7, o8, o9, none, o11, o12, some (.ref D), o14]) ⟨.refl _, none, rfl⟩ (fun i σ H' _ h => h.1.seq (SqL.of u16)) ?_ ?_⟩
            · rintro i xv σ H17 ey ⟨s17, o14, rfl⟩
              have SX : StkX K [A.q, A.st, p] H16 xv none := by
                have hm := List.mem_of_getElem? ey
                simp only [List.mem_cons, List.not_mem_nil, or_false] at hm
                rcases hm with rfl | rfl | rfl | rfl | rfl | rfl
                · exact .inl (.inl rfl)
                · exact .inl (.inr (.inl rfl))
                · exact .inl (.inr (.inr (.inl ⟨t0, _, rfl, SqT.of (q8 _ _ u8)⟩)))
                · exact .inl (.inr (.inr (.inl ⟨t1, _, rfl, SqT.of (q9 _ _ u9)⟩)))
                · exact .inl (.inr (.inr (.inr ⟨t2, rfl, q10 _ _ u10, al9.out nt2⟩)))
                · exact .inr ⟨t5, _, rfl, q15 _ _ u15, al14.out nt5, (by show 5 < 6; decide), (by show 6 ≤ 1000; decide)⟩
              have Z17 := Z7.same (q7.trans s17)
              refine ⟨_, rfl, _, rfl, (by show 0 ≤ sizeLine; decide), fun t nt => ?_⟩
              generalize eH18 : upd H17 t _ = H18
              have s18 : Same H17 H18 := eH18 ▸ same_upd nt
              have u18 : H18 t = some _ := eH18 ▸ upd_same
              have Z18 := Z17.same s18
              refine ⟨fun _ => r51, _, A, xv, none, .ref t, .tuple [], -1, rfl, Z18.qa, Z18.al, SX.same (s17.trans s18), .tup (SqT.of u18) .nil, (fun ds e => by cases e; decide), l150, rfl, fun LL H19 s19 eLL => ?_⟩
              refine ⟨_, rfl, _, rfl, _, rfl, (by show 3 ≤ sizeLine; decide), fun z2 nz2 => ?_⟩
              generalize eH20 : upd H19 z2 _ = H20
              have s20 : Same H19 H20 := eH20 ▸ same_upd nz2
              have u20 : H20 z2 = some _ := eH20 ▸ upd_same
              have d3 : ∀ H', DpAll K H' [.int (-1), .int (-1), .int (-1)] [.int (-1), .int (-1), .int (-1)] := fun H' => .cons (.int _) (.cons (.int _) (.cons (.int _) .nil))
              refine ⟨.list [.int (-1), .int (-1), .int (-1)], .list [.int (-1), .int (-1), .int (-1)], .lst (SqL.of (s20 _ _ eLL)) (d3 _), .lst (SqL.of u20) (d3 _), rfl, rfl, ?_⟩
              rw [eqv3]
              exact ⟨_, rfl, iteF ⟨s17.trans (s18.trans (s19.trans s20)), _, rfl⟩⟩
            · rintro σ H17 ⟨s17, o14, rfl⟩
              have Z17 := Z7.same (q7.trans s17)
              exact ⟨_, rfl, _, rfl, _, rfl, _, rfl, p, l, fo, ia, fun _ => r51, _, A, fs, its, rfl, Z17.sr, by simp, Z17.lM, by simp, Z17.al, Z17.qa, Z17.pq, Z17.ps, Z17.fo, okF, Z17.il, hk, h1, fun H' => q H'⟩
end
end K51
namespace K51
open PySem PySem.Spec PyProof.Rows L2 He TL EL
theorem facts {P : Program} {w : World} {K : PySem.W.Frag} {mg : Str → Option Value} {f : Addr} (hP : PF P "/claim/cut.py") (T : Txt K mg) (hfa : mg ("law" : Str) = some (.ref f)) :
    ∃ fd : FuncData, (∀ (s : Shared) (v : Value), BindsTo s fd ⟨[v], []⟩ [("_law_script", v)]) ∧ ∀ base : Heap, FnOk P w K mg base CX0 14 f fd ["_law_script"] (spLaw K) := by
  obtain ⟨fd, F⟩ := T.f_law
  have e := hfa.symm.trans T.g_law
  cases e
  have b := FunD.bindsA (ps := ["_law_script"]) F (fun _ _ _ _ _ _ us hl => match us, hl with | [_], _ => rfl)
  exact ⟨fd, fun s v => b s [v] rfl, fun base => ok_law hP T F⟩
end K51
open PySem PySem.W PySem.Calls PyProof.Rows
set_option maxHeartbeats 0 in
theorem PySem.Challenge.cw_endlessasks_k51_stocks_chosen_holds : PySem.Challenge.rw_endlessasks_k51_stocks_chosen.Holds := by
  w_on; o_law
  refine HandSHeadRun.head_any (r := OpenLaw.row PySem.Challenge.rw_endlessasks_k51_stocks_chosen) (q := view (OpenLaw.row PySem.Challenge.rw_endlessasks_k51_stocks_chosen).prog [120]) (H := K51.hk) (ob := K51.ob) (M := 14000) (loose := K51.loose) (d := HandSHeadRun.topDef (OpenLaw.row PySem.Challenge.rw_endlessasks_k51_stocks_chosen).prog 120) (kwd := []) K51.ob_eq
    (by kernel_rfl) (fun s => by kernel_rfl) K51.run (by kernel_rfl) (by kernel_rfl) (by kernel_rfl) (by rfl) (by first | assumption | decide +kernel) (by decide +kernel) ⟨rfl, rfl, rfl, rfl, rfl, by decide +kernel⟩ ?hw ?hc
  case hw => w_witness2
  case hc =>
    refine L2.walk_ofE (l := PySem.Challenge.rw_endlessasks_k51_stocks_chosen) (n := 63) (k := 14) (x := "_law_script") (CX := L2.CX0) rfl (by decide) (by kernel_rfl) ⟨rfl, by decide, by decide⟩ ?F (fun _ _ _ _ z => z)
    intro w mg fa h Y G hmg0
    obtain ⟨K, KX, c⟩ := Y
    have hmg : mg ("law" : PySem.Str) = some (.ref fa) := by
      have e : (HandSHeadRun.topDef (OpenLaw.row PySem.Challenge.rw_endlessasks_k51_stocks_chosen).prog 120).name = ("law" : PySem.Str) := by kernel_rfl
      rw [← e]
      exact hmg0
    obtain ⟨fd, hb, hF⟩ := K51.facts (P := (PySem.Challenge.rw_endlessasks_k51_stocks_chosen).prog) (w := w) ⟨by kernel_rfl, by kernel_rfl⟩ (K51.txt_of KX G c.x) hmg
    exact ⟨K, fd, K51.spLaw K, KX, hb, fun H a ns hl _ hS => ⟨a, ns, rfl, hS, hl, fun _ => rfl⟩, fun base _ _ => hF base⟩
