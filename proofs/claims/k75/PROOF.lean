import PyProof.Rows.All
import Wide.All
import OpenK.AllK
import Wide.FinOn
import KE.KStateDown
import HandS.ForMost
import HandS.Exc
import HandS.HeadHook1
import HandS.HeadHook2
import HandS.HeadHook3
import HandS.HeadHook4
import HandS.Head0
import HandS.Head1
import HandS.Head2
import HandS.HeadEnd
import HandS.ExcInit
import HandS.ExcIs
import HandS.ExcField
import HandS.IsInst
import HandS.Codes
import HandS.Defaults
import HandS.MakeKwOnly
import KE.KExcInit
import HandS.AnyAll
import KE.KSuper
import KE.KOpsOwn
import OpenK.KOps
import PySem.Challenge.RW_arccursors_k75_errors_of_conditions
import HandS.Flow
import HandS.ExcOwn
import HandS.CallSlots
import HandS.SortInts
import HandS.Property
import KE.DataCmp
import PyProof.ReprReads
import HandS.Sort
import HandS.More
import HandS.DictComp
import HandS.TryMany
import PyProof.ReprRoads
import PyProof.CallFns
import HandS.Ends
import PyProof.Rows.Chain
import HandS.Nested
import HandS.ClsMeth
import PyProof.ReprNest
import HandS.GenBody
import HandS.HotCalls
import HandS.FStr
import HandS.GenList
import KE.GoesRaise
set_option Elab.async false
set_option linter.all false
set_option maxRecDepth 100000
set_option maxHeartbeats 4000001
namespace Zd
open PySem PySem.Spec PyProof.Rows L2

/-! ### values -/
inductive W where
  | non | bl (b : Bool) | int (i : Int) | str (x : Str) | ref (n : Nat) | glo (n : Nat) | ty (t : String)
  deriving DecidableEq


/-- where a def stands -/
inductive Loc where
  | glo (x : Str) | mth (C m : Str) | prp (C m : Str)
def prpOf (K : PySem.W.Frag) (p : Addr) : Addr := match PySem.W.recIn K p "property" with
  | some (.ref g :: _) => g
  | _ => 0
def Loc.ad (K : PySem.W.Frag) : Loc → Addr
  | .glo x => He.ga K x
  | .mth C m => He.ma K (He.ga K C) m
  | .prp C m => prpOf K (He.ma K (He.ga K C) m)
structure Df where
  loc : Loc
  name : Str
  qual : Str
  st : Stmt
  dfl : List He.Dv := []
  kwd : List (Str × He.Dv) := []
  sup : Bool := false
def wOf (K : PySem.W.Frag) (a : Addr) : He.FnW := match K.lookup a with
  | some ⟨_, _, .func z, _⟩ => some (z.name, z.qualname, z.params, z.body, z.scope, z.globals, z.closure.map fun p => (p.1, (0 : Addr)), z.builtins)
  | _ => none
def Df.want (d : Df) : He.FnW := some (d.name, d.qual, defArgs d.st, .stmts (defBody d.st), defScope d.st, mainGlobals, (match d.sup with
  | true => [(("__class__" : Str), (0 : Addr))]
  | false => []), builtinsNs)
def Df.dvs (K : PySem.W.Frag) (d : Df) : List V := d.dfl.map (He.Dv.v K)
def Df.kws (K : PySem.W.Frag) (d : Df) : List (Str × V) := d.kwd.map fun q => (q.1, q.2.v K)
def Df.chk (K : PySem.W.Frag) (d : Df) : Bool := match K.lookup (d.loc.ad K) with
  | some ⟨_, _, .func z, _⟩ => PySem.W.keepIn K (.ref (d.loc.ad K)) && PySem.W.codeIn K z.code d.qual && He.dflB K z.defaults (d.dvs K) && He.kwdB K z.kwdefaults (d.kws K)
  | _ => false
abbrev Df.Is (K : PySem.W.Frag) (d : Df) (fd : FuncData) : Prop := FunD K d.name d.qual (defArgs d.st) (defBody d.st) (defScope d.st) (d.dvs K) (d.kws K) (d.loc.ad K) fd
/-- a def of the top, or one that closes over its class -/
structure Df.Fn (K : PySem.W.Frag) (d : Df) (cl : List (Str × Addr)) (fd : FuncData) : Prop where
  ex : ∃ (oc : Value) (od : Option Addr) (osl : Array (Option Value)) (dV kV doc pm : Value) (an : Option Addr) (cdv ct : Value), fd = PySem.W.fnX d.name d.qual (defArgs d.st) (defBody d.st) (defScope d.st) cl dV kV doc pm an cdv ct ∧ K.lookup (d.loc.ad K) = some (⟨oc, od, .func fd, osl⟩ : Obj) ∧ PySem.W.codeIn K cdv d.qual = true ∧ DflV K dV (d.dvs K) ∧ KwdV K kV (d.kws K)
  kp : PySem.W.keepIn K (.ref (d.loc.ad K)) = true
  cl : cl.map (fun p => (p.1, (0 : Addr))) = (match d.sup with
    | true => [(("__class__" : Str), (0 : Addr))]
    | false => [])
theorem Df.fn_ok {K : PySem.W.Frag} {d : Df} (e : wOf K (d.loc.ad K) = d.want) (c : d.chk K = true) : ∃ cl fd, d.Fn K cl fd := by
  unfold Df.chk at c
  unfold wOf at e
  cases q : K.lookup (d.loc.ad K) with
  | none => simp only [q] at c; cases c
  | some o =>
    obtain ⟨o1, o2, o3, o4⟩ := o
    cases o3 with
    | func z =>
      simp only [q] at c e
      obtain ⟨z1, z2, z3, z4, z5, z6, z7, z8, z9, z10, z11, z12, z13, z14, z15⟩ := z
      rw [Bool.and_eq_true, Bool.and_eq_true, Bool.and_eq_true] at c
      obtain ⟨⟨⟨c1, c2⟩, c3⟩, c4⟩ := c
      have e := Option.some.inj e
      simp only [Prod.mk.injEq] at e
      obtain ⟨e1, e2, e3, e4, e5, e6, e7, e8⟩ := e
      subst e1 e2 e3 e4 e5 e6 e8
      exact ⟨z7, _, ⟨⟨o1, o2, o4, z8, z9, z10, z11, z12, z13, z14, rfl, q, c2, He.dflB_ok c3, He.kwdB_ok c4⟩, c1, e7⟩⟩
    | _ => simp only [q] at c; cases c
theorem Df.is {K : PySem.W.Frag} {d : Df} (e : wOf K (d.loc.ad K) = d.want) (c : d.chk K = true) (hs : d.sup = false) : ∃ fd, d.Is K fd := by
  obtain ⟨cl, fd, F⟩ := Df.fn_ok e c
  obtain ⟨o1, o2, o4, z8, z9, z10, z11, z12, z13, z14, rfl, q, c2, c3, c4⟩ := F.ex
  have e := F.cl
  rw [hs] at e
  have e := List.map_eq_nil_iff.mp e
  subst e
  exact ⟨_, ⟨o1, o2, z8, z9, z10, z11, z12, z13, z14, o4, rfl, q, c2, c3, c4⟩, F.kp⟩
theorem Df.sup_ok {K : PySem.W.Frag} {d : Df} (e : wOf K (d.loc.ad K) = d.want) (c : d.chk K = true) (hs : d.sup = true) : ∃ cc fd, d.Fn K [(("__class__" : Str), cc)] fd := by
  obtain ⟨cl, fd, F⟩ := Df.fn_ok e c
  have e := F.cl
  rw [hs] at e
  match cl, F, e with
  | [(x, cc)], F, e =>
    have e1 : ((x, (0 : Addr)) : Str × Addr) = (("__class__" : Str), (0 : Addr)) := (List.cons.inj e).1
    have e2 : x = ("__class__" : Str) := congrArg Prod.fst e1
    rw [e2] at F
    exact ⟨cc, fd, F⟩
  | [], _, e => exact nomatch e
  | _ :: _ :: _, _, e => exact nomatch (List.cons.inj e).2

/-- a table of the top with text keys: its keys' hashes are the world's -/
abbrev ZTab : Type := (PySem.W.Frag → Addr) × List Str
abbrev Al : Type := (Bool × List He.FnW) × List (Option (List (Option (Str × Int))))
abbrev Chk : Type := PySem.W.Frag → Bool
def obsK (cs : List Chk) (ds : List Df) (ts : List ZTab) (K : PySem.W.Frag) : Al := ((cs.all (fun c => c K) && ds.all fun d => d.chk K, ds.map fun d => wOf K (d.loc.ad K)), ts.map fun t => He.dicW K (t.1 K))
def valK (ds : List Df) (ts : List ZTab) (w : World) : Al := ((true, ds.map Df.want), ts.map fun t => some (He.keysIn w.params t.2))
def Says (cs : List Chk) (ds : List Df) (ts : List ZTab) (w : World) (K : PySem.W.Frag) : Prop := obsK cs ds ts K = valK ds ts w
/-- the objects that the facts look at: level by level from the module's names, nothing twice looked for -/
def refsZ (ms : List Str) (o : Obj) : List Addr := match o.data with
  | .dict es _ => es.toList.flatMap fun e => match He.refV e.val with
    | [] => []
    | l => (match e.key with
      | .str y _ => (match ms.any fun m => decide (y = m) with
        | true => l
        | false => [])
      | _ => [])
  | .func fd => He.refV fd.code ++ (He.refV fd.defaults ++ (He.refV fd.kwdefaults ++ fd.closure.map (·.2)))
  | .cls cd => [cd.ns]
  | .fields vs => (match o.cls with
    | .type t => (match decide (t = "property") with
      | true => vs.toList.flatMap He.refV
      | false => [])
    | _ => [])
  | .cell (some v) => He.refV v
  | _ => []
def lvlZ (g : Addr → Option Obj) (ms : List Str) : Nat → List Addr → List Addr
  | 0, as => as
  | n + 1, as => as ++ lvlZ g ms n (as.flatMap fun a => match g a with
    | some o => refsZ ms o
    | none => [])
/-- of the module's names those that are asked for, in their order -/
def pickZ : List DictEntry → List Str → List Addr
  | [], _ => []
  | _, [] => []
  | e :: es, x :: xs => match e.key with
    | .str y _ => (match decide (y = x) with
      | true => He.refV e.val ++ pickZ es xs
      | false => pickZ es (x :: xs))
    | _ => pickZ es (x :: xs)
def asZ (g : Addr → Option Obj) (gs ms : List Str) (n : Nat) : List Addr := mainGlobals :: cStatics :: lvlZ g ms n (match g mainGlobals with
  | some o => (match o.data with
    | .dict es _ => pickZ es.toList gs
    | _ => [])
  | none => [])
def obsH (n : Nat) (gs ms : List Str) (cs : List Chk) (ds : List Df) (ts : List ZTab) (g : Addr → Option Obj) : Al := obsK cs ds ts (He.frG g (asZ g gs ms n))
def hookZ (n : Nat) (gs ms : List Str) (cs : List Chk) (ds : List Df) (ts : List ZTab) : PySem.W.Hook where
  α := Al
  obs := fun s => obsH n gs ms cs ds ts s.heap.get?
  val := fun w => valK ds ts w
  says := fun w h => ∃ K : PySem.W.Frag, K.In h ∧ Says cs ds ts w K
  of := fun _ _ e => ⟨_, He.frG_in, e⟩
  keeps := fun _ _ _ ⟨K, hK, c⟩ k => ⟨K, PySem.W.Frag.In.keeps hK k, c⟩
theorem obsH_eq {n : Nat} {gs ms : List Str} {cs : List Chk} {ds : List Df} {ts : List ZTab} {g : Addr → Option Obj} {s : Shared} (h : ∀ a, g a = s.heap.get? a) : obsH n gs ms cs ds ts g = (hookZ n gs ms cs ds ts).obs s := by
  have e : g = s.heap.get? := funext h
  rw [e]; rfl
section
variable {cs : List Chk} {ds : List Df} {ts : List ZTab} {w : World} {K : PySem.W.Frag}
theorem Says.one (c : Says cs ds ts w K) : (cs.all (fun c => c K) && ds.all fun d => d.chk K) = true := congrArg (fun z : Al => z.1.1) c
theorem Says.fact (c : Says cs ds ts w K) (i : Nat) {f : Chk} (h : cs[i]? = some f) : f K = true :=
  List.all_eq_true.mp (Bool.and_eq_true_iff.mp c.one).1 f (List.mem_iff_getElem?.mpr ⟨i, h⟩)
theorem Says.dat (c : Says cs ds ts w K) (i : Nat) {d : Df} (h : ds[i]? = some d) : wOf K (d.loc.ad K) = d.want ∧ d.chk K = true := by
  have e : (ds.map fun d => wOf K (d.loc.ad K)) = ds.map Df.want := congrArg (fun z : Al => z.1.2) c
  have e2 := congrArg (fun l => l[i]?) e
  simp only [List.getElem?_map, h, Option.map_some] at e2
  exact ⟨Option.some.inj e2, List.all_eq_true.mp (Bool.and_eq_true_iff.mp c.one).2 d (List.mem_iff_getElem?.mpr ⟨i, h⟩)⟩
theorem Says.def_ (c : Says cs ds ts w K) (i : Nat) {d : Df} (h : ds[i]? = some d) (hs : d.sup = false := by rfl) : ∃ fd, d.Is K fd := Df.is (c.dat i h).1 (c.dat i h).2 hs
theorem Says.sup_ (c : Says cs ds ts w K) (i : Nat) {d : Df} (h : ds[i]? = some d) (hs : d.sup = true := by rfl) : ∃ cc fd, d.Fn K [(("__class__" : Str), cc)] fd := Df.sup_ok (c.dat i h).1 (c.dat i h).2 hs
theorem Says.tab (c : Says cs ds ts w K) (i : Nat) {t : ZTab} (h : ts[i]? = some t) : ∃ es n, KDict K w (t.1 K) es n := by
  have e : (ts.map fun t => He.dicW K (t.1 K)) = ts.map fun t => some (He.keysIn w.params t.2) := congrArg (fun z : Al => z.2) c
  have e2 := congrArg (fun l => l[i]?) e
  simp only [List.getElem?_map, h, Option.map_some] at e2
  exact He.dicW_ok (Option.some.inj e2)
end

/-! ### the facts -/
abbrev cGlo (x : Str) : Chk := (He.Fa.glo x).ok
def fa (f : He.Fa) : Chk := fun K => f.ok K
/-- an exception's class with an __init__ of its own, over ValueError -/
def oexB (x : Str) : Chk := fun K => (match K.lookup (He.ga K x) with
  | some ⟨.type t, _, .cls cd, sl⟩ => (match cd.mro, sl.toList with
    | .ref D :: bm, [_, _, _, _, some (.builtin n), _] => decide (t = "type") && D == He.ga K x && n == "ValueError.__new__" && !cd.hasDel && cd.hasDict && PySem.HandSPX.refsVE bm
    | _, _ => false)
  | _ => false) && decide (PySem.W.findIn K (.ref (He.ga K x)) "__setattr__" = some (some (.builtin "object.__setattr__"))) && decide (PySem.W.subIn K (.ref (He.ga K x)) (.type "BaseException") = some true) && decide (PySem.W.typeIn K (.ref (He.ga K x)) = some (.type "type")) && PySem.W.keepIn K (.ref (He.ga K x))
theorem oexB_ok {K : PySem.W.Frag} {x : Str} (h : oexB x K = true) : OexC K (He.ga K x) := by
  unfold oexB at h
  rw [Bool.and_eq_true, Bool.and_eq_true, Bool.and_eq_true, Bool.and_eq_true] at h
  obtain ⟨⟨⟨⟨h1, h2⟩, h3⟩, h4⟩, h5⟩ := h
  refine ⟨?_, of_decide_eq_true h2, of_decide_eq_true h3, of_decide_eq_true h4, h5⟩
  split at h1
  · rename_i tt od cc ls look
    split at h1
    · rename_i D more a0 a1 a2 a3 nw a5 e1 e2
      simp only [Bool.and_eq_true, beq_iff_eq, Bool.not_eq_true', decide_eq_true_eq] at h1
      obtain ⟨⟨⟨⟨⟨g1, g2⟩, g3⟩, g4⟩, g5⟩, g6⟩ := h1
      obtain ⟨b1, b2, b3, b4, b5, b6, b7, b8, b9, b10, b11⟩ := cc
      dsimp only at e1 g4 g5
      have e3 : ls = #[a0, a1, a2, a3, some (.builtin nw), a5] := by
        cases ls with
        | mk l => exact congrArg Array.mk e2
      subst g1 g2 g3 g4 g5 e1 e3
      exact ⟨_, _, _, _, _, _, _, _, _, _, _, _, _, _, _, look, g6⟩
    · cases h1
  · cases h1
abbrev tyNames : List String := ["NoneType", "bool", "int", "str", "list", "tuple", "dict"]
def isiB (x : Str) : Chk := fun K => (tyNames.all fun t => decide (PySem.W.kitOne K (.type t) (.ref (He.ga K x)) = some false)) && decide (PySem.W.kitOne K (.ref (He.ga K x)) (.ref (He.ga K x)) = some true)
def tycB (x : Str) : Chk := fun K => (He.Fa.cls x).ok K && decide (PySem.W.findIn K (.ref (He.ga K x)) "__class__" = some (some (.builtin "object.__class__"))) &&
  decide (PySem.W.specialIn K (.builtin "object.__class__") "__get__" = some (some (.builtin "getset_descriptor.__get__"))) && decide (PySem.W.takesIn K (.builtin "object.__class__") = some true) && decide (PySem.W.mroIn K (He.ga K x) (.type "object") = some true)
def prpB (x m : Str) : Chk := fun K => decide (PySem.W.findIn K (.ref (He.ga K x)) m = some (some (.ref (He.ma K (He.ga K x) m)))) && decide (PySem.W.specialIn K (.ref (He.ma K (He.ga K x) m)) "__get__" = some (some (.builtin "property.__get__"))) &&
  decide (PySem.W.takesIn K (.ref (He.ma K (He.ga K x) m)) = some true) && (match PySem.W.recIn K (He.ma K (He.ga K x) m) "property" with
    | some (.ref _ :: _) => true
    | _ => false)
def iniB (x : Str) : Chk := fun K => decide (PySem.W.findIn K (.ref (He.ga K x)) "__init__" = some (some (.ref (He.ma K (He.ga K x) "__init__")))) && decide (PySem.W.typeIn K (.ref (He.ma K (He.ga K x) "__init__")) = some (.type "function"))
def excB (x : Str) : Chk := fun K => xfB K (He.ga K x) && decide (PySem.W.findIn K (.ref (He.ga K x)) "__class__" = some (some (.builtin "object.__class__"))) &&
  decide (PySem.W.specialIn K (.builtin "object.__class__") "__get__" = some (some (.builtin "getset_descriptor.__get__"))) && decide (PySem.W.takesIn K (.builtin "object.__class__") = some true) && decide (PySem.W.mroIn K (He.ga K x) (.type "object") = some true)
def kitF (x : Str) (u : Value) (b : Bool) : Chk := fun K => decide (PySem.W.kitOne K (.ref (He.ga K x)) u = some b)
def noF (x f : Str) : Chk := fun K => decide (PySem.W.findIn K (.ref (He.ga K x)) f = some none)
def exmF (x y : Str) (b : Bool) : Chk := fun K => decide (PySem.W.exmOne K (.ref (He.ga K x)) (.ref (He.ga K y)) = some b)
def kvB (x : Str) (tab : List (Str × W)) : Chk := fun K => tab.all fun p => match PySem.W.nsIn K (He.ga K x) p.1, p.2 with
  | some (some (.int i _)), .int j => decide (i = j)
  | some none, .non => true
  | _, _ => false
/-- a def of C that closes over C, in the file -/
def supB (file C m : Str) : Chk := fun K => (match K.lookup (He.ma K (He.ga K C) m) with
  | some ⟨_, _, .func z, _⟩ => (match z.closure, z.code with
    | [(_, cc)], .ref ca => (match K.lookup cc with
      | some ⟨_, _, .cell (some (.ref D)), _⟩ => D == He.ga K C
      | _ => false) && (match K.lookup ca with
      | some ⟨_, _, .fields vs, _⟩ => (match (vs[2]? : Option Value) with
        | some (.str fl _) => decide (fl = file)
        | _ => false)
      | _ => false)
    | _, _ => false)
  | _ => false) && (PySem.W.clsIn K (He.ga K C)).isSome && decide (PySem.W.nsIn K cStatics "thirdparty.any" = some none)
/-- super() of C, asked by an instance of C, finds B's m -/
def supC (C B m : Str) : Chk := fun K => decide (PySem.W.mroIn K (He.ga K C) (.ref (He.ga K C)) = some true) && decide (PySem.W.ks_superIn K (He.ga K C) (He.ga K C) m = some (some (.ref (He.ma K (He.ga K B) m)))) &&
  decide (PySem.W.typeIn K (.ref (He.ma K (He.ga K B) m)) = some (.type "function")) && PySem.W.fnIn K (He.ma K (He.ga K B) m)
/-- an exception's class with an __init__ of its own, over OverflowError -/
def ovB (x : Str) : Chk := fun K => (match K.lookup (He.ga K x) with
  | some ⟨.type t, _, .cls cd, sl⟩ => (match cd.mro, sl.toList with
    | [.ref D, .type t1, .type t2, .type t3, .type t4, .type t5], [_, _, _, _, some (.builtin n), _] => decide (t = "type") && D == He.ga K x && decide ([t1, t2, t3, t4, t5] = ["OverflowError", "ArithmeticError", "Exception", "BaseException", "object"]) && n == "OverflowError.__new__" && !cd.hasDel && cd.hasDict
    | _, _ => false)
  | _ => false) && decide (PySem.W.findIn K (.ref (He.ga K x)) "__setattr__" = some (some (.builtin "object.__setattr__"))) && decide (PySem.W.subIn K (.ref (He.ga K x)) (.type "BaseException") = some true) && decide (PySem.W.typeIn K (.ref (He.ga K x)) = some (.type "type")) && PySem.W.keepIn K (.ref (He.ga K x))
/-- x op y, both of own classes -/
def b2B (nm : String) (x y : Str) : Chk := fun K => PySem.W.selfFirst K (He.ga K x) && PySem.W.selfFirst K (He.ga K y) && decide (PySem.W.findIn K (.ref (He.ga K x)) (PySem.dunderR nm) = some none) && decide (PySem.W.findIn K (.ref (He.ga K y)) (PySem.dunderR nm) = some none) &&
  (match PySem.W.findIn K (.ref (He.ga K y)) (PySem.dunder nm) with
  | some (some (.ref _)) => true
  | _ => false) && (He.ga K x == He.ga K y || decide (PySem.W.subIn K (.ref (He.ga K y)) (.ref (He.ga K x)) = some false))
def nstB (x : Str) : Chk := fun K => decide (PySem.W.subIn K (.ref (He.ga K x)) (.type "StopIteration") = some false)
/-- x is a class under y -/
def kicB (x y : Str) : Chk := fun K => decide (PySem.W.kitOne K (.ref (He.ga K x)) (.ref (He.ga K y)) = some true)
/-- x has m from y -/
def eqmB (x y m : Str) : Chk := fun K => He.ma K (He.ga K x) m == He.ma K (He.ga K y) m
end Zd

namespace Zx
open PySem PySem.Spec PyProof.Rows L2 Zd
def top (i : Nat) : Stmt := PySem.Challenge.pw_arccursors_k75_errors_of_conditions.main.body.getD i (.Pass ⟨0, 0, 0, 0⟩)
def bodyOf : Stmt → List Stmt
  | .ClassDef _ _ _ b _ _ _ _ _ _ _ => b
  | _ => []
def mem (i j : Nat) : Stmt := (bodyOf (top i)).getD j (.Pass ⟨0, 0, 0, 0⟩)
def d__law_told : Df := ⟨.glo "_law_told", "_law_told", "_law_told", top 111, [], [], false⟩
def d__law_call : Df := ⟨.glo "_law_call", "_law_call", "_law_call", top 110, [], [], false⟩
def d_Begins_init : Df := ⟨.mth "Begins" "__init__", "__init__", "Begins.__init__", mem 86 0, [], [], true⟩
def d_Condition_init : Df := ⟨.mth "Condition" "__init__", "__init__", "Condition.__init__", mem 84 0, [], [], false⟩
def d_InvalidText_init : Df := ⟨.mth "InvalidText" "__init__", "__init__", "InvalidText.__init__", mem 18 0, [], [], false⟩
def d_Length_init : Df := ⟨.mth "Length" "__init__", "__init__", "Length.__init__", mem 87 0, [], [], true⟩
def d_check_number : Df := ⟨.glo "check_number", "check_number", "check_number", top 31, [], [], false⟩
def d_in_range : Df := ⟨.glo "in_range", "in_range", "in_range", top 30, [], [], false⟩
def d_is_integer : Df := ⟨.glo "is_integer", "is_integer", "is_integer", top 29, [], [], false⟩
def d_InvalidNumber_init : Df := ⟨.mth "InvalidNumber" "__init__", "__init__", "InvalidNumber.__init__", mem 2 0, [], [], false⟩
def d_InvalidRange_init : Df := ⟨.mth "InvalidRange" "__init__", "__init__", "InvalidRange.__init__", mem 19 0, [], [], false⟩
def d_Value_init : Df := ⟨.mth "Value" "__init__", "__init__", "Value.__init__", mem 88 0, [], [], true⟩
def d_Condition___call__ : Df := ⟨.mth "Condition" "__call__", "__call__", "Condition.__call__", mem 84 2, [], [], false⟩
def d_check_key : Df := ⟨.glo "check_key", "check_key", "check_key", top 34, [], [], false⟩
def d_is_key : Df := ⟨.glo "is_key", "is_key", "is_key", top 33, [], [], false⟩
def d_InvalidKey_init : Df := ⟨.mth "InvalidKey" "__init__", "__init__", "InvalidKey.__init__", mem 3 0, [], [], false⟩
def d_check_value : Df := ⟨.glo "check_value", "check_value", "check_value", top 59, [], [], false⟩
def d_some_row : Df := ⟨.glo "some_row", "some_row", "some_row", top 97, [], [], false⟩
def d_check_condition : Df := ⟨.glo "check_condition", "check_condition", "check_condition", top 92, [], [], false⟩
def d_InvalidCondition_init : Df := ⟨.mth "InvalidCondition" "__init__", "__init__", "InvalidCondition.__init__", mem 20 0, [], [], false⟩
def d_implies : Df := ⟨.glo "implies", "implies", "implies", top 98, [], [], false⟩
def d_are_alike : Df := ⟨.glo "are_alike", "are_alike", "are_alike", top 99, [], [], false⟩
def d_matches : Df := ⟨.glo "matches", "matches", "matches", top 100, [], [("at", .non)], false⟩
def d_format_condition : Df := ⟨.glo "format_condition", "format_condition", "format_condition", top 105, [], [], false⟩
def d_Begins___repr__ : Df := ⟨.mth "Begins" "__repr__", "__repr__", "Begins.__repr__", mem 86 2, [], [], false⟩
def d__law_limits_right : Df := ⟨.glo "_law_limits_right", "_law_limits_right", "_law_limits_right", top 113, [], [], false⟩
def d_Condition___and__ : Df := ⟨.mth "Condition" "__and__", "__and__", "Condition.__and__", mem 84 4, [], [], false⟩
def d_check_simple : Df := ⟨.glo "check_simple", "check_simple", "check_simple", top 85, [], [], false⟩
def d_Condition___len__ : Df := ⟨.mth "Condition" "__len__", "__len__", "Condition.__len__", mem 84 7, [], [], false⟩
def d_LimitExceeded_init : Df := ⟨.mth "LimitExceeded" "__init__", "__init__", "LimitExceeded.__init__", mem 21 0, [], [], false⟩
def d_Both_init : Df := ⟨.mth "Both" "__init__", "__init__", "Both.__init__", mem 89 0, [], [], true⟩
def d_Condition___or__ : Df := ⟨.mth "Condition" "__or__", "__or__", "Condition.__or__", mem 84 5, [], [], false⟩
def d_Either_init : Df := ⟨.mth "Either" "__init__", "__init__", "Either.__init__", mem 90 0, [], [], true⟩
def d_Condition___invert__ : Df := ⟨.mth "Condition" "__invert__", "__invert__", "Condition.__invert__", mem 84 6, [], [], false⟩
def d_Opposite_init : Df := ⟨.mth "Opposite" "__init__", "__init__", "Opposite.__init__", mem 91 0, [], [], true⟩
def d__law_joined : Df := ⟨.glo "_law_joined", "_law_joined", "_law_joined", top 112, [], [], false⟩
def d_law : Df := ⟨.glo "law", "law", "law", top 114, [], [], false⟩
def d__law_hand : Df := ⟨.glo "_law_hand", "_law_hand", "_law_hand", top 108, [], [], false⟩
def d__law_draw : Df := ⟨.glo "_law_draw", "_law_draw", "_law_draw", top 109, [], [], false⟩
def cs : List Chk := [
  fa (.cls "Value"),
  fa (.noat "Value" "own_shape"),
  fa (.cls "Opposite"),
  fa (.noat "Opposite" "own_shape"),
  fa (.cls "Length"),
  fa (.noat "Length" "own_shape"),
  fa (.cls "Either"),
  fa (.noat "Either" "own_shape"),
  fa (.cls "Both"),
  fa (.noat "Both" "own_shape"),
  fa (.cls "Begins"),
  fa (.noat "Begins" "own_shape"),
  fa (.noat "Value" "own_simple"),
  fa (.noat "Opposite" "own_simple"),
  fa (.noat "Length" "own_simple"),
  fa (.noat "Either" "own_simple"),
  fa (.noat "Both" "own_simple"),
  fa (.noat "Begins" "own_simple"),
  fa (.free "isinstance"),
  fa (.free "str"),
  fa (.free "len"),
  fa (.int "MAX_LENGTH" 20),
  fa (.str "CHARACTERS" "abcdefghijklmnopqrstuvwxyz0123456789"),
  fa (.free "all"),
  noF "InvalidText" "value",
  oexB "InvalidText",
  iniB "InvalidText",
  fa (.glo "InvalidText"),
  supC "Begins" "Condition" "__init__",
  fa (.free "super"),
  supB "/claim/cut.py" "Begins" "__init__",
  fa (.mkr "Begins"),
  fa (.glo "Begins"),
  fa (.free "int"),
  fa (.free "bool"),
  fa (.glo "is_integer"),
  fa (.glo "in_range"),
  noF "InvalidNumber" "value",
  oexB "InvalidNumber",
  iniB "InvalidNumber",
  fa (.glo "InvalidNumber"),
  fa (.glo "check_number"),
  noF "InvalidRange" "least",
  noF "InvalidRange" "most",
  oexB "InvalidRange",
  iniB "InvalidRange",
  fa (.glo "InvalidRange"),
  supC "Length" "Condition" "__init__",
  supB "/claim/cut.py" "Length" "__init__",
  fa (.mkr "Length"),
  fa (.glo "Length"),
  supC "Value" "Condition" "__init__",
  supB "/claim/cut.py" "Value" "__init__",
  fa (.mkr "Value"),
  fa (.glo "Value"),
  fa (.glo "is_key"),
  noF "InvalidKey" "value",
  oexB "InvalidKey",
  iniB "InvalidKey",
  fa (.glo "InvalidKey"),
  fa (.glo "check_key"),
  fa (.glo "check_value"),
  fa (.meth "Begins" "__call__"),
  eqmB "Begins" "Condition" "__call__",
  kicB "Begins" "Condition",
  tycB "Begins",
  fa (.glo "Condition"),
  isiB "Condition",
  noF "InvalidCondition" "value",
  oexB "InvalidCondition",
  iniB "InvalidCondition",
  fa (.glo "InvalidCondition"),
  fa (.glo "check_condition"),
  fa (.glo "some_row"),
  fa (.glo "implies"),
  fa (.glo "are_alike"),
  nstB "LimitExceeded",
  nstB "InvalidText",
  nstB "InvalidRange",
  nstB "InvalidNumber",
  nstB "InvalidKey",
  nstB "InvalidCondition",
  fa (.glo "matches"),
  fa (.glo "format_condition"),
  fa (.glo "_law_call"),
  fa (.meth "Begins" "__repr__"),
  fa (.free "repr"),
  excB "InvalidText",
  fa (.free "ValueError"),
  kitF "InvalidText" (.type "ValueError") true,
  excB "InvalidNumber",
  kitF "InvalidNumber" (.type "ValueError") true,
  excB "InvalidRange",
  kitF "InvalidRange" (.type "ValueError") true,
  excB "InvalidKey",
  kitF "InvalidKey" (.type "ValueError") true,
  excB "InvalidCondition",
  kitF "InvalidCondition" (.type "ValueError") true,
  exmF "LimitExceeded" "InvalidCondition" false,
  exmF "InvalidText" "InvalidCondition" false,
  exmF "InvalidRange" "InvalidCondition" false,
  exmF "InvalidNumber" "InvalidCondition" false,
  exmF "InvalidKey" "InvalidCondition" false,
  exmF "InvalidCondition" "InvalidCondition" true,
  exmF "LimitExceeded" "InvalidKey" false,
  exmF "InvalidText" "InvalidKey" false,
  exmF "InvalidRange" "InvalidKey" false,
  exmF "InvalidNumber" "InvalidKey" false,
  exmF "InvalidKey" "InvalidKey" true,
  exmF "InvalidCondition" "InvalidKey" false,
  exmF "LimitExceeded" "InvalidRange" false,
  exmF "InvalidText" "InvalidRange" false,
  exmF "InvalidRange" "InvalidRange" true,
  exmF "InvalidNumber" "InvalidRange" false,
  exmF "InvalidKey" "InvalidRange" false,
  exmF "InvalidCondition" "InvalidRange" false,
  exmF "LimitExceeded" "InvalidNumber" false,
  exmF "InvalidText" "InvalidNumber" false,
  exmF "InvalidRange" "InvalidNumber" false,
  exmF "InvalidNumber" "InvalidNumber" true,
  exmF "InvalidKey" "InvalidNumber" false,
  exmF "InvalidCondition" "InvalidNumber" false,
  exmF "LimitExceeded" "InvalidText" false,
  exmF "InvalidText" "InvalidText" true,
  exmF "InvalidRange" "InvalidText" false,
  exmF "InvalidNumber" "InvalidText" false,
  exmF "InvalidKey" "InvalidText" false,
  exmF "InvalidCondition" "InvalidText" false,
  fa (.free "range"),
  kicB "Value" "Condition",
  tycB "Value",
  kicB "Opposite" "Condition",
  tycB "Opposite",
  fa (.meth "Either" "__len__"),
  eqmB "Either" "Condition" "__len__",
  fa (.meth "Both" "__len__"),
  eqmB "Both" "Condition" "__len__",
  fa (.meth "Begins" "__len__"),
  eqmB "Begins" "Condition" "__len__",
  fa (.meth "Value" "__len__"),
  eqmB "Value" "Condition" "__len__",
  fa (.meth "Opposite" "__len__"),
  eqmB "Opposite" "Condition" "__len__",
  fa (.int "MOST_SIMPLE" 30),
  noF "LimitExceeded" "limit",
  ovB "LimitExceeded",
  iniB "LimitExceeded",
  fa (.glo "LimitExceeded"),
  fa (.glo "check_simple"),
  supC "Both" "Condition" "__init__",
  supB "/claim/cut.py" "Both" "__init__",
  fa (.mkr "Both"),
  fa (.glo "Both"),
  fa (.meth "Either" "__and__"),
  eqmB "Either" "Condition" "__and__",
  fa (.meth "Both" "__and__"),
  eqmB "Both" "Condition" "__and__",
  fa (.meth "Begins" "__and__"),
  eqmB "Begins" "Condition" "__and__",
  b2B "and" "Either" "Value",
  b2B "and" "Both" "Value",
  b2B "and" "Begins" "Value",
  supC "Either" "Condition" "__init__",
  supB "/claim/cut.py" "Either" "__init__",
  fa (.mkr "Either"),
  fa (.glo "Either"),
  fa (.meth "Either" "__or__"),
  eqmB "Either" "Condition" "__or__",
  fa (.meth "Both" "__or__"),
  eqmB "Both" "Condition" "__or__",
  fa (.meth "Begins" "__or__"),
  eqmB "Begins" "Condition" "__or__",
  b2B "or" "Either" "Opposite",
  b2B "or" "Both" "Opposite",
  b2B "or" "Begins" "Opposite",
  supC "Opposite" "Condition" "__init__",
  supB "/claim/cut.py" "Opposite" "__init__",
  fa (.mkr "Opposite"),
  fa (.glo "Opposite"),
  fa (.meth "Length" "__invert__"),
  eqmB "Length" "Condition" "__invert__",
  fa (.meth "Both" "__invert__"),
  eqmB "Both" "Condition" "__invert__",
  b2B "and" "Both" "Opposite",
  b2B "and" "Both" "Begins",
  b2B "and" "Begins" "Opposite",
  b2B "and" "Begins" "Begins",
  b2B "or" "Both" "Begins",
  b2B "or" "Begins" "Begins",
  excB "LimitExceeded",
  fa (.free "OverflowError"),
  kitF "LimitExceeded" (.type "OverflowError") true,
  exmF "LimitExceeded" "LimitExceeded" true,
  exmF "InvalidText" "LimitExceeded" false,
  exmF "InvalidRange" "LimitExceeded" false,
  exmF "InvalidNumber" "LimitExceeded" false,
  exmF "InvalidKey" "LimitExceeded" false,
  exmF "InvalidCondition" "LimitExceeded" false,
  fa (.glo "_law_joined"),
  fa (.free "max"),
  fa (.free "min"),
  fa (.glo "_law_hand"),
  fa (.glo "_law_limits_right"),
  fa (.glo "_law_told"),
  fa (.glo "_law_draw"),
  fa (.glo "law")]
def gs0 : List Str := ["InvalidNumber", "InvalidKey", "InvalidText", "InvalidRange", "InvalidCondition", "LimitExceeded", "is_integer", "in_range", "check_number", "is_key", "check_key", "check_value"]
def gs1 : List Str := ["Condition", "check_simple", "Begins", "Length", "Value", "Both", "Either", "Opposite", "check_condition", "some_row", "implies", "are_alike"]
def gs2 : List Str := ["matches", "format_condition", "_law_hand", "_law_draw", "_law_call", "_law_told", "_law_joined", "_law_limits_right", "law"]
def gs : List Str := gs0 ++ (gs1 ++ (gs2))
def ms : List Str := ["__and__", "__call__", "__init__", "__invert__", "__len__", "__or__", "__repr__"]
def ds : List Df := [d__law_told, d__law_call, d_Begins_init, d_Condition_init, d_InvalidText_init, d_Length_init, d_check_number, d_in_range, d_is_integer, d_InvalidNumber_init, d_InvalidRange_init, d_Value_init, d_Condition___call__, d_check_key, d_is_key, d_InvalidKey_init, d_check_value, d_some_row, d_check_condition, d_InvalidCondition_init, d_implies, d_are_alike, d_matches, d_format_condition, d_Begins___repr__, d__law_limits_right, d_Condition___and__, d_check_simple, d_Condition___len__, d_LimitExceeded_init, d_Both_init, d_Condition___or__, d_Either_init, d_Condition___invert__, d_Opposite_init, d__law_joined, d_law, d__law_hand, d__law_draw]
def ts : List ZTab := []
end Zx

namespace Zx
open PySem PySem.Spec PyProof.Rows L2 Zd
abbrev Rw : PySem.W.OpenRow := PySem.W.OpenLaw.row PySem.Challenge.rw_arccursors_k75_errors_of_conditions
abbrev hk : PySem.W.Hook := hookZ 6 gs ms cs ds ts
abbrev ob (s : PySem.W.SharedT) : Al := obsH 6 gs ms cs ds ts (HandSHeadRun.getT s)
theorem ob_eq (s : PySem.W.SharedT) : ob s = hk.obs s.abs := obsH_eq (HandSHeadRun.getT_eq s)
def lo0 : List Str := ["_wall", "InvalidNumber", "InvalidKey", "InvalidMixing", "InvalidPoint", "InvalidArc", "InvalidHosts", "InvalidHost", "InvalidStore", "InvalidCursor", "MissingKey", "UnknownShard"]
def lo1 : List Str := ["Forgotten", "Busy", "NotMoving", "Unavailable", "InvalidReader", "InvalidText", "InvalidRange", "InvalidCondition", "LimitExceeded", "MAX_BASE", "MAX_BITS", "MAX_NUMBER"]
def lo2 : List Str := ["MAX_LENGTH", "BEHIND", "CHARACTERS", "is_integer", "in_range", "check_number", "check_least", "is_key", "check_key", "mix_of", "Mixing", "check_mixing"]
def lo3 : List Str := ["place_of", "is_point", "check_point", "behind", "Arc", "split_at", "check_arc", "whole_line", "BETWEEN", "COLON", "FIGURES", "number_in"]
def lo4 : List Str := ["point_in", "cursor_of", "arc_in", "arc_of", "Receipt", "Page", "MAX_BOUND", "check_value", "Table", "ChangeLog", "log_with", "table_with"]
def lo5 : List Str := ["undone", "Host", "MAX_HOSTS", "MAX_NAME", "LETTERS", "is_name", "check_hosts", "Shard", "Store", "check_store", "check_on_line", "routing"]
def lo6 : List Str := ["routing_routing", "Reader", "pages", "MOST_SIMPLE", "Condition", "check_simple", "Begins", "Length", "Value", "Both", "Either", "Opposite"]
def lo7 : List Str := ["check_condition", "extended", "some_names", "some_values", "example", "some_row", "implies", "are_alike", "matches", "ANY", "is_short", "bound_text"]
def lo8 : List Str := ["format_condition", "condition_text", "_law_hand", "_law_draw", "_law_call", "_law_told", "_law_joined", "_law_limits_right"]
def loose : List Str := lo0 ++ (lo1 ++ (lo2 ++ (lo3 ++ (lo4 ++ (lo5 ++ (lo6 ++ (lo7 ++ (lo8))))))))
section
open HandSHeadRun PySem.W
abbrev kz (n : Nat) (gs ms : List Str) (s : SharedT) : Frag := He.frG (getT s) (asZ (getT s) gs ms n)
noncomputable abbrev topE (r : OpenRow) (M : Nat) (w : World) (os : OsState) : Option SharedT := endF (stepQ (denQ tabQ) r.prog w) M r.prog w os
def LkL (r : OpenRow) (M : Nat) (w : World) (os : OsState) : Prop := (topE r M w os).map (fun s => looksF r.prog (boot_heap w.params) s.abs) = some true
def LkS (r : OpenRow) (q : Program) (loose : List Str) (M : Nat) (w : World) (os : OsState) : Prop := (topE r M w os).map (fun s => seenQ q loose (PySem.importedModules r.prog.main.body) (fun s => xlAt q [] s && recOk r.toRowW.records s) s.abs) = some (openGood q loose)
def LkH (n : Nat) (gs ms : List Str) (cs : List Chk) (ds : List Df) (ts : List ZTab) (r : OpenRow) (M : Nat) (w : World) (os : OsState) : Prop := (topE r M w os).map (fun s => obsH n gs ms cs ds ts (getT s)) = some (valK ds ts w)
theorem three {α β γ : Type} {o : Option SharedT} {f : SharedT → α} {g : SharedT → β} {h : SharedT → γ} {a : α} {b : β} {c : γ} (h1 : o.map f = some a) (h2 : o.map g = some b) (h3 : o.map h = some c) : o.map (fun s => (f s, g s, h s)) = some (a, b, c) := by
  cases o with
  | none => cases h1
  | some s =>
    have e1 : f s = a := Option.some.inj h1
    have e2 : g s = b := Option.some.inj h2
    have e3 : h s = c := Option.some.inj h3
    show some (f s, g s, h s) = _
    rw [e1, e2, e3]
theorem threeR {n : Nat} {gs ms : List Str} {cs : List Chk} {ds : List Df} {ts : List ZTab} {r : OpenRow} {q : Program} {loose : List Str} {M : Nat} {w : World} (h1 : ∀ os, LkL r M w os) (h2 : ∀ os, LkS r q loose M w os) (h3 : ∀ os, LkH n gs ms cs ds ts r M w os) :
    RunEq r q (hookZ n gs ms cs ds ts) (fun s => obsH n gs ms cs ds ts (getT s)) M loose w := fun os => three (h1 os) (h2 os) (h3 os)
end

set_option maxHeartbeats 0 in
theorem runLA (w : World) (os : OsState) : LkL Rw 20000 (w.withFollow "special-get-raises" false) os := by
  unfold LkL
  kernel_rfl
set_option maxHeartbeats 0 in
theorem runSA (w : World) (os : OsState) : LkS Rw (PySem.W.view Rw.prog [114]) loose 20000 (w.withFollow "special-get-raises" false) os := by
  unfold LkS
  kernel_rfl
set_option maxHeartbeats 0 in
theorem runHA (w : World) (os : OsState) : LkH 6 gs ms cs ds ts Rw 20000 (w.withFollow "special-get-raises" false) os := by
  unfold LkH
  kernel_rfl
set_option maxHeartbeats 0 in
theorem runLB (w : World) (os : OsState) : LkL Rw 20000 (w.withFollow "special-get-raises" true) os := by
  unfold LkL
  kernel_rfl
set_option maxHeartbeats 0 in
theorem runSB (w : World) (os : OsState) : LkS Rw (PySem.W.view Rw.prog [114]) loose 20000 (w.withFollow "special-get-raises" true) os := by
  unfold LkS
  kernel_rfl
set_option maxHeartbeats 0 in
theorem runHB (w : World) (os : OsState) : LkH 6 gs ms cs ds ts Rw 20000 (w.withFollow "special-get-raises" true) os := by
  unfold LkH
  kernel_rfl
theorem runA (w : World) : HandSHeadRun.RunEq Rw (PySem.W.view Rw.prog [114]) hk ob 20000 loose (w.withFollow "special-get-raises" false) :=
  threeR (fun os => runLA w os) (fun os => runSA w os) (fun os => runHA w os)
theorem runB (w : World) : HandSHeadRun.RunEq Rw (PySem.W.view Rw.prog [114]) hk ob 20000 loose (w.withFollow "special-get-raises" true) :=
  threeR (fun os => runLB w os) (fun os => runSB w os) (fun os => runHB w os)
theorem run (w : World) : HandSHeadRun.RunEq Rw (PySem.W.view Rw.prog [114]) hk ob 20000 loose w := by
  exact PySem.W.byRow2 "special-get-raises" (P := fun w => HandSHeadRun.RunEq Rw (PySem.W.view Rw.prog [114]) hk ob 20000 loose w) runA runB w
end Zx

namespace Zd
open PySem PySem.Spec PyProof.Rows L2

/-! ### values, objects, the heap -/
inductive Ob where
  | lst (xs : List W) | tup (xs : List W) | dic (kvs : List (Key × W)) | ins (c : Nat) (fs : List (Nat × W)) | xd (fs : List (Nat × W)) | sq (xs : List W)
    | dlk (kvs : List (Key × W)) | orc (ds : List (Int × Int))
  deriving DecidableEq

def W.wf (n : Nat) : W → Bool
  | .ref i => Nat.blt i n
  | _ => true
def wfs (n : Nat) (xs : List W) : Bool := xs.all (W.wf n)
def Ob.wf (n : Nat) : Ob → Bool
  | .lst xs => wfs n xs
  | .tup xs => wfs n xs
  | .dic kvs => kvs.all fun p => p.2.wf n
  | .ins _ fs => fs.all fun p => p.2.wf n
  | .xd fs => fs.all fun p => p.2.wf n
  | .sq xs => wfs n xs
  | .dlk kvs => kvs.all fun p => p.2.wf n
  | .orc _ => true

/-- the newest object first -/
structure VH where
  n : Nat
  l : List Ob
def VH.get (h : VH) (i : Nat) : Option Ob := if i < h.n then h.l[h.n - 1 - i]? else none
def VH.push (h : VH) (o : Ob) : VH := ⟨h.n + 1, o :: h.l⟩
def VH.set (h : VH) (i : Nat) (o : Ob) : VH := ⟨h.n, h.l.set (h.n - 1 - i) o⟩

theorem VH.get_lt {h : VH} {i : Nat} {o : Ob} (e : h.get i = some o) : i < h.n := by
  unfold VH.get at e
  by_cases q : i < h.n
  · exact q
  · rw [if_neg q] at e; cases e
theorem VH.get_push_new (h : VH) (o : Ob) : (h.push o).get h.n = some o := by
  unfold VH.get VH.push
  simp
theorem VH.get_push_old {h : VH} {o : Ob} {i : Nat} (q : i < h.n) : (h.push o).get i = h.get i := by
  unfold VH.get VH.push
  have e : h.n + 1 - 1 - i = (h.n - 1 - i) + 1 := by omega
  simp only [e, List.getElem?_cons_succ]
  rw [if_pos (by omega), if_pos q]
theorem VH.get_set_same {h : VH} {o o' : Ob} {i : Nat} (e : h.get i = some o') : (h.set i o).get i = some o := by
  have q := VH.get_lt e
  unfold VH.get at e
  rw [if_pos q] at e
  unfold VH.get VH.set
  rw [if_pos q]
  have hl := (List.getElem?_eq_some_iff.mp e).1
  exact List.getElem?_set_self hl
theorem VH.get_set_ne {h : VH} {o : Ob} {i j : Nat} (hi : i < h.n) (ne : j ≠ i) : (h.set i o).get j = h.get j := by
  unfold VH.get VH.set
  by_cases q : j < h.n
  · show (if j < h.n then (h.l.set (h.n - 1 - i) o)[h.n - 1 - j]? else none) = (if j < h.n then h.l[h.n - 1 - j]? else none)
    rw [if_pos q, if_pos q]
    exact List.getElem?_set_ne (by omega)
  · show (if j < h.n then (h.l.set (h.n - 1 - i) o)[h.n - 1 - j]? else none) = (if j < h.n then h.l[h.n - 1 - j]? else none)
    rw [if_neg q, if_neg q]

/-- the names of the program: addresses of the module's objects, attribute names -/
structure Gm where
  ga : Nat → Addr
  nm : Nat → Str
  inj : ∀ i j, nm i = nm j → i = j
  lk : Obj := { cls := .none, data := .fields #[] }

abbrev Rho := Nat → Addr
def W.v (G : Gm) (r : Rho) : W → V
  | .non => .non
  | .bl b => .bl b
  | .int i => .int i
  | .str x => .str x
  | .ref n => .ref (r n)
  | .glo n => .ref (G.ga n)
  | .ty t => .ty t
def fsV (G : Gm) (r : Rho) (fs : List (Nat × W)) : List (Str × V) := fs.map fun p => (G.nm p.1, p.2.v G r)
def kvV (G : Gm) (r : Rho) (kvs : List (Key × W)) : List (Key × V) := kvs.map fun p => (p.1, p.2.v G r)
abbrev vsV (G : Gm) (r : Rho) (xs : List W) : List V := xs.map (W.v G r)

/-- what the law's pool [x, y] draws: the size that is asked, what comes -/
def drawZ (x y sz : Int) : Int × Int × Int := if 0 < x then (x % sz, x / sz, y) else ((y * 48271 + 11) % 2147483647 * ((y * 48271 + 11) % 2147483647) % 2147483629 / 64 % sz, x, (y * 48271 + 11) % 2147483647)
def Drw : Int → Int → List (Int × Int) → Prop
  | _, _, [] => True
  | x, y, (sz, v) :: r => v = (drawZ x y sz).1 ∧ Drw (drawZ x y sz).2.1 (drawZ x y sz).2.2 r
/-- the object stands at a in H -/
def Ob.at_ (G : Gm) (r : Rho) (a : Addr) (H : Hp) : Ob → Prop
  | .lst xs => H a = some (.lst (vsV G r xs))
  | .tup xs => H a = some (.tup (vsV G r xs))
  | .dic kvs => H a = some (.dK (kvV G r kvs))
  | .ins c fs => ∃ dx, H a = some (.ins (G.ga c) dx (fsV G r fs))
  | .xd fs => H a = some (.xd (fsV G r fs))
  | .sq xs => Rd H a (.lst (vsV G r xs))
  | .dlk kvs => H a = some (.frz G.lk (.dK (kvV G r kvs)))
  | .orc ds => ∃ x y : Int, H a = some (.lst [.int x, .int y]) ∧ Drw x y ds ∧ 0 ≤ y ∧ y < 2147483648

theorem Ob.at_some {G : Gm} {r : Rho} {a : Addr} {H : Hp} {o : Ob} (e : o.at_ G r a H) : ∃ u, H a = some u := by
  cases o with
  | lst xs => exact ⟨_, e⟩
  | tup xs => exact ⟨_, e⟩
  | dic xs => exact ⟨_, e⟩
  | ins c fs => obtain ⟨dx, e⟩ := e; exact ⟨_, e⟩
  | xd fs => exact ⟨_, e⟩
  | sq xs => rcases e with e | ⟨o, e⟩ <;> exact ⟨_, e⟩
  | dlk xs => exact ⟨_, e⟩
  | orc ds => obtain ⟨x, y, e, _⟩ := e; exact ⟨_, e⟩
theorem Ob.at_keep {G : Gm} {r : Rho} {a : Addr} {H H' : Hp} {o : Ob} (e : o.at_ G r a H) (k : H' a = H a) : o.at_ G r a H' := by
  cases o with
  | lst xs => exact k.trans e
  | tup xs => exact k.trans e
  | dic xs => exact k.trans e
  | ins c fs => obtain ⟨dx, e⟩ := e; exact ⟨dx, k.trans e⟩
  | xd fs => exact k.trans e
  | sq xs => rcases e with e | ⟨o, e⟩
             · exact .inl (k.trans e)
             · exact .inr ⟨o, k.trans e⟩
  | dlk xs => exact k.trans e
  | orc ds => obtain ⟨x, y, e, d⟩ := e; exact ⟨x, y, k.trans e, d⟩

structure HRel (G : Gm) (r : Rho) (h : VH) (H : Hp) : Prop where
  inj : ∀ i j, i < h.n → j < h.n → r i = r j → i = j
  tot : ∀ i, i < h.n → ∃ u, H (r i) = some u
  at_ : ∀ i o, h.get i = some o → o.at_ G r (r i) H
  wf : ∀ i o, h.get i = some o → o.wf h.n = true

/-- later: the same objects and more; what is not ours stands -/
structure Ext (G : Gm) (r : Rho) (h : VH) (H : Hp) (r' : Rho) (h' : VH) (H' : Hp) : Prop where
  rel : HRel G r' h' H'
  le : h.n ≤ h'.n
  agr : ∀ i, i < h.n → r' i = r i
  fr : ∀ a o, H a = some o → (∀ i, i < h.n → r i ≠ a) → H' a = some o
  nw : ∀ i, h.n ≤ i → i < h'.n → H (r' i) = none

theorem Ext.refl {G : Gm} {r : Rho} {h : VH} {H : Hp} (x : HRel G r h H) : Ext G r h H r h H :=
  ⟨x, Nat.le_refl _, fun _ _ => rfl, fun _ _ e _ => e, fun i a b => absurd (Nat.lt_of_lt_of_le b a) (Nat.lt_irrefl _)⟩
theorem Ext.trans {G : Gm} {r r1 r2 : Rho} {h h1 h2 : VH} {H H1 H2 : Hp} (a : Ext G r h H r1 h1 H1) (b : Ext G r1 h1 H1 r2 h2 H2) : Ext G r h H r2 h2 H2 where
  rel := b.rel
  le := Nat.le_trans a.le b.le
  agr := fun i q => (b.agr i (Nat.lt_of_lt_of_le q a.le)).trans (a.agr i q)
  fr := fun x o e q => b.fr x o (a.fr x o e q) fun i hi z => by
    by_cases hn : i < h.n
    · exact q i hn ((a.agr i hn).symm.trans z)
    · have := a.nw i (Nat.le_of_not_lt hn) hi
      rw [z, e] at this; cases this
  nw := fun i q1 q2 => by
    by_cases hn : i < h1.n
    · rw [b.agr i hn]; exact a.nw i q1 hn
    · have z := b.nw i (Nat.le_of_not_lt hn) q2
      cases e : H (r2 i) with
      | none => rfl
      | some o =>
        by_cases hk : ∀ j, j < h.n → r j ≠ r2 i
        · rw [a.fr _ o e hk] at z; cases z
        · have ⟨j, hj⟩ := Classical.not_forall.mp hk
          have ⟨hj, e2⟩ := Classical.not_imp.mp hj
          have e2 := Classical.not_not.mp e2
          obtain ⟨u, hu⟩ := a.rel.tot j (Nat.lt_of_lt_of_le hj a.le)
          rw [a.agr j hj, e2, z] at hu; cases hu

theorem W.wf_le {w : W} {n m : Nat} (e : w.wf n = true) (h : n ≤ m) : w.wf m = true := by
  cases w with
  | ref i =>
    have q : i < n := by simpa [W.wf] using e
    simpa [W.wf] using Nat.lt_of_lt_of_le q h
  | _ => rfl
theorem W.v_agr {G : Gm} {r r' : Rho} {n : Nat} {w : W} (e : w.wf n = true) (h : ∀ i, i < n → r' i = r i) : w.v G r' = w.v G r := by
  cases w with
  | ref i =>
    have q : i < n := by simpa [W.wf] using e
    show V.ref (r' i) = V.ref (r i)
    rw [h i q]
  | _ => rfl
theorem wfs_le {xs : List W} {n m : Nat} (e : wfs n xs = true) (h : n ≤ m) : wfs m xs = true := by
  unfold wfs at *
  rw [List.all_eq_true] at *
  exact fun w hw => W.wf_le (e w hw) h
theorem vsV_agr {G : Gm} {r r' : Rho} {n : Nat} {xs : List W} (e : wfs n xs = true) (h : ∀ i, i < n → r' i = r i) : vsV G r' xs = vsV G r xs := by
  unfold wfs at e
  rw [List.all_eq_true] at e
  exact List.map_congr_left fun w hw => W.v_agr (e w hw) h
theorem fsV_agr {G : Gm} {r r' : Rho} {n : Nat} {fs : List (Nat × W)} (e : (fs.all fun p => p.2.wf n) = true) (h : ∀ i, i < n → r' i = r i) : fsV G r' fs = fsV G r fs := by
  rw [List.all_eq_true] at e
  exact List.map_congr_left fun p hp => by rw [W.v_agr (e p hp) h]
theorem kvV_agr {G : Gm} {r r' : Rho} {n : Nat} {kvs : List (Key × W)} (e : (kvs.all fun p => p.2.wf n) = true) (h : ∀ i, i < n → r' i = r i) : kvV G r' kvs = kvV G r kvs := by
  rw [List.all_eq_true] at e
  exact List.map_congr_left fun p hp => by rw [W.v_agr (e p hp) h]
theorem Ob.wf_le {o : Ob} {n m : Nat} (e : o.wf n = true) (h : n ≤ m) : o.wf m = true := by
  cases o with
  | lst xs => exact wfs_le (xs := xs) e h
  | tup xs => exact wfs_le (xs := xs) e h
  | sq xs => exact wfs_le (xs := xs) e h
  | dic xs =>
    have e : (xs.all fun p => p.2.wf n) = true := e
    show (xs.all fun p => p.2.wf m) = true
    rw [List.all_eq_true] at *
    exact fun p hp => W.wf_le (e p hp) h
  | dlk xs =>
    have e : (xs.all fun p => p.2.wf n) = true := e
    show (xs.all fun p => p.2.wf m) = true
    rw [List.all_eq_true] at *
    exact fun p hp => W.wf_le (e p hp) h
  | orc ds => rfl
  | ins c fs =>
    have e : (fs.all fun p => p.2.wf n) = true := e
    show (fs.all fun p => p.2.wf m) = true
    rw [List.all_eq_true] at *
    exact fun p hp => W.wf_le (e p hp) h
  | xd fs =>
    have e : (fs.all fun p => p.2.wf n) = true := e
    show (fs.all fun p => p.2.wf m) = true
    rw [List.all_eq_true] at *
    exact fun p hp => W.wf_le (e p hp) h
theorem Ob.at_agr {G : Gm} {r r' : Rho} {n : Nat} {a : Addr} {H : Hp} {o : Ob} (w : o.wf n = true) (h : ∀ i, i < n → r' i = r i) (e : o.at_ G r a H) : o.at_ G r' a H := by
  cases o with
  | lst xs => show H a = some (.lst (vsV G r' xs)); rw [vsV_agr (n := n) w h]; exact e
  | tup xs => show H a = some (.tup (vsV G r' xs)); rw [vsV_agr (n := n) w h]; exact e
  | sq xs => show Rd H a (.lst (vsV G r' xs)); rw [vsV_agr (n := n) w h]; exact e
  | dic xs => show H a = some (.dK (kvV G r' xs)); rw [kvV_agr (n := n) w h]; exact e
  | dlk xs => show H a = some (.frz G.lk (.dK (kvV G r' xs))); rw [kvV_agr (n := n) w h]; exact e
  | orc ds => exact e
  | ins c fs => show ∃ dx, H a = some (.ins (G.ga c) dx (fsV G r' fs)); rw [fsV_agr (n := n) w h]; exact e
  | xd fs => show H a = some (.xd (fsV G r' fs)); rw [fsV_agr (n := n) w h]; exact e

def setR (r : Rho) (n : Nat) (p : Addr) : Rho := fun i => if i = n then p else r i
theorem setR_same {r : Rho} {n : Nat} {p : Addr} : setR r n p n = p := if_pos rfl
theorem setR_lt {r : Rho} {n : Nat} {p : Addr} {i : Nat} (h : i < n) : setR r n p i = r i := if_neg (Nat.ne_of_lt h)

/-- a new object; H' is H with it (and perhaps more that is not ours) -/
theorem Ext.new {G : Gm} {r : Rho} {h : VH} {H H' : Hp} {p : Addr} {o : Ob} (x : HRel G r h H) (hp : H p = none) (ho : o.wf (h.n + 1) = true)
    (k : ∀ a u, H a = some u → H' a = some u) (at_ : o.at_ G (setR r h.n p) p H') : Ext G r h H (setR r h.n p) (h.push o) H' := by
  have np : ∀ i, i < h.n → r i ≠ p := fun i hi e => by
    obtain ⟨u, hu⟩ := x.tot i hi
    rw [e, hp] at hu; cases hu
  refine ⟨⟨fun i j hi hj e => ?_, fun i hi => ?_, fun i u e => ?_, fun i u e => ?_⟩, Nat.le_succ _, fun i q => setR_lt q, fun a u e _ => k a u e, fun i q1 q2 => ?_⟩
  · have hi' : i < h.n + 1 := hi
    have hj' : j < h.n + 1 := hj
    by_cases a : i = h.n
    · by_cases b : j = h.n
      · rw [a, b]
      · have jl : j < h.n := by omega
        rw [a, setR_same, setR_lt jl] at e
        exact absurd e.symm (np j jl)
    · have il : i < h.n := by omega
      by_cases b : j = h.n
      · rw [b, setR_same, setR_lt il] at e
        exact absurd e (np i il)
      · have jl : j < h.n := by omega
        rw [setR_lt il, setR_lt jl] at e
        exact x.inj i j il jl e
  · have hi' : i < h.n + 1 := hi
    by_cases a : i = h.n
    · rw [a, setR_same]; exact Ob.at_some at_
    · have il : i < h.n := by omega
      rw [setR_lt il]
      obtain ⟨u, hu⟩ := x.tot i il
      exact ⟨u, k _ _ hu⟩
  · by_cases a : i = h.n
    · rw [a, VH.get_push_new] at e
      cases e
      rw [a, setR_same]; exact at_
    · have il : i < h.n := by have := VH.get_lt e; have : i < h.n + 1 := this; omega
      rw [VH.get_push_old il] at e
      rw [setR_lt il]
      refine Ob.at_keep (Ob.at_agr (x.wf i u e) (fun j hj => setR_lt hj) (x.at_ i u e)) ?_
      obtain ⟨z, hz⟩ := x.tot i il
      rw [hz, k _ _ hz]
  · by_cases a : i = h.n
    · rw [a, VH.get_push_new] at e
      cases e; exact ho
    · have il : i < h.n := by have := VH.get_lt e; have : i < h.n + 1 := this; omega
      rw [VH.get_push_old il] at e
      exact Ob.wf_le (x.wf i u e) (Nat.le_succ _)
  · have q3 : i < h.n + 1 := q2
    have : i = h.n := by omega
    rw [this, setR_same]; exact hp

/-- an object of ours is changed -/
theorem Ext.set {G : Gm} {r : Rho} {h : VH} {H : Hp} {i : Nat} {o o' : Ob} {u : HO} (x : HRel G r h H) (e : h.get i = some o') (ho : o.wf h.n = true)
    (at_ : o.at_ G r (r i) (upd H (r i) u)) : Ext G r h H r (h.set i o) (upd H (r i) u) := by
  have il := VH.get_lt e
  refine ⟨⟨fun a b ha hb => x.inj a b ha hb, fun j hj => ?_, fun j v ej => ?_, fun j v ej => ?_⟩, Nat.le_refl _, fun _ _ => rfl, fun a v ev q => ?_, fun j a b => absurd (Nat.lt_of_lt_of_le b a) (Nat.lt_irrefl _)⟩
  · by_cases a : j = i
    · rw [a]; exact ⟨u, upd_same⟩
    · rw [upd_ne (fun z => a (x.inj _ _ hj il z))]; exact x.tot j hj
  · by_cases a : j = i
    · rw [a, VH.get_set_same e] at ej
      cases ej; rw [a]; exact at_
    · rw [VH.get_set_ne il a] at ej
      exact Ob.at_keep (x.at_ j v ej) (upd_ne (fun z => a (x.inj _ _ (VH.get_lt ej) il z)))
  · by_cases a : j = i
    · rw [a, VH.get_set_same e] at ej
      cases ej; exact ho
    · rw [VH.get_set_ne il a] at ej
      exact x.wf j v ej
  · rw [upd_ne (fun z => q i il z.symm)]; exact ev

/-! ### results -/
inductive R (α : Type) where
  | ok (a : α) (h : VH) | ex (c : Nat) (d : Nat) (h : VH) | no
abbrev ZSt := List (Option W)
abbrev ZE := ZSt → VH → R W
abbrev ZA := ZSt → VH → R (List W)
abbrev ZT := ZSt → VH → R Bool
inductive RS where
  | nx (s : ZSt) (h : VH) | rt (w : W) (h : VH) | bk (s : ZSt) (h : VH) | ct (s : ZSt) (h : VH) | ex (c : Nat) (d : Nat) (s : ZSt) (h : VH) | no
abbrev ZS := ZSt → VH → RS

structure SRel (G : Gm) (r : Rho) (n : Nat) (s : ZSt) (σ : L2.St) : Prop where
  len : s.length = σ.length
  at_ : ∀ (i : Nat) (w : W), s[i]? = some (some w) → w.wf n = true ∧ σ[i]? = some (some (w.v G r))
theorem SRel.later {G : Gm} {r r' : Rho} {n n' : Nat} {s : ZSt} {σ : L2.St} (x : SRel G r n s σ) (hn : n ≤ n') (h : ∀ i, i < n → r' i = r i) : SRel G r' n' s σ :=
  ⟨x.len, fun i w e => let ⟨a, b⟩ := x.at_ i w e; ⟨W.wf_le a hn, by rw [W.v_agr a h]; exact b⟩⟩
theorem SRel.ext {G : Gm} {r r' : Rho} {h h' : VH} {H H' : Hp} {s : ZSt} {σ : L2.St} (x : SRel G r h.n s σ) (e : Ext G r h H r' h' H') : SRel G r' h'.n s σ := x.later e.le e.agr
theorem SRel.set {G : Gm} {r : Rho} {n : Nat} {s : ZSt} {σ : L2.St} {w : W} (x : SRel G r n s σ) (hw : w.wf n = true) (i : Nat) : SRel G r n (s.set i (some w)) (σ.set i (some (w.v G r))) := by
  refine ⟨by simpa using x.len, fun j u e => ?_⟩
  by_cases a : j = i
  · subst a
    have hl : j < s.length := by
      have := (List.getElem?_eq_some_iff.mp e).1
      simpa using this
    rw [List.getElem?_set_self hl] at e
    cases e
    exact ⟨hw, List.getElem?_set_self (by rw [← x.len]; exact hl)⟩
  · rw [List.getElem?_set_ne (Ne.symm a)] at e ⊢
    exact x.at_ j u e
theorem SRel.unset {G : Gm} {r : Rho} {n : Nat} {s : ZSt} {σ : L2.St} {o : Option V} (x : SRel G r n s σ) (i : Nat) : SRel G r n (s.set i none) (σ.set i o) := by
  refine ⟨by simpa using x.len, fun j u e => ?_⟩
  by_cases a : j = i
  · subst a
    by_cases hl : j < s.length
    · rw [List.getElem?_set_self hl] at e; cases e
    · have : (s.set j none)[j]? = none := List.getElem?_eq_none_iff.mpr (by simpa using Nat.le_of_not_lt hl)
      rw [this] at e; cases e
  · rw [List.getElem?_set_ne (Ne.symm a)] at e ⊢
    exact x.at_ j u e

/-- what a result must give -/
def RZ (G : Gm) (Wx : WX) (r : Rho) (h : VH) (H : Hp) (σ : L2.St) (Q : V → Hp → Prop) : R W → Prop
  | .ok w h' => ∀ r' H', Ext G r h H r' h' H' → w.wf h'.n = true → Q (w.v G r') H'
  | .ex c d h' => ∀ r' H', Ext G r h H r' h' H' → d < h'.n → Wx (.ref (G.ga c)) (some (r' d)) σ H'
  | .no => False
def RZB (G : Gm) (Wx : WX) (r : Rho) (h : VH) (H : Hp) (σ : L2.St) (Q : Bool → Hp → Prop) : R Bool → Prop
  | .ok b h' => ∀ r' H', Ext G r h H r' h' H' → Q b H'
  | .ex c d h' => ∀ r' H', Ext G r h H r' h' H' → d < h'.n → Wx (.ref (G.ga c)) (some (r' d)) σ H'
  | .no => False
def RZL (G : Gm) (Wx : WX) (r : Rho) (h : VH) (H : Hp) (σ : L2.St) (Q : List V → Hp → Prop) : R (List W) → Prop
  | .ok ws h' => ∀ r' H', Ext G r h H r' h' H' → wfs h'.n ws = true → Q (vsV G r' ws) H'
  | .ex c d h' => ∀ r' H', Ext G r h H r' h' H' → d < h'.n → Wx (.ref (G.ga c)) (some (r' d)) σ H'
  | .no => False
def RZS (G : Gm) (Wx : WX) (r : Rho) (h : VH) (H : Hp) (D : Ends) : RS → Prop
  | .nx s h' => ∀ r' H' σ', Ext G r h H r' h' H' → SRel G r' h'.n s σ' → D.nx σ' H'
  | .rt w h' => ∀ r' H', Ext G r h H r' h' H' → w.wf h'.n = true → D.rt (w.v G r') H'
  | .bk s h' => ∀ r' H' σ', Ext G r h H r' h' H' → SRel G r' h'.n s σ' → D.bk σ' H'
  | .ct s h' => ∀ r' H' σ', Ext G r h H r' h' H' → SRel G r' h'.n s σ' → D.ct σ' H'
  | .ex c d s h' => ∀ r' H' σ', Ext G r h H r' h' H' → d < h'.n → SRel G r' h'.n s σ' → Wx (.ref (G.ga c)) (some (r' d)) σ' H'
  | .no => False

def tz (G : Gm) (Wx : WX) (f : ZE) : TE := fun σ H Q => ∃ r s h, SRel G r h.n s σ ∧ HRel G r h H ∧ RZ G Wx r h H σ Q (f s h)
def tzT (G : Gm) (Wx : WX) (f : ZT) : TT := fun σ H Q => ∃ r s h, SRel G r h.n s σ ∧ HRel G r h H ∧ RZB G Wx r h H σ Q (f s h)
def tzA (G : Gm) (Wx : WX) (f : ZA) : TA := fun σ H Q => ∃ r s h, SRel G r h.n s σ ∧ HRel G r h H ∧ RZL G Wx r h H σ Q (f s h)
def tzS (G : Gm) (Wx : WX) (f : ZS) : TS := fun D σ H => ∃ r s h, SRel G r h.n s σ ∧ HRel G r h H ∧ RZS G Wx r h H D (f s h)

section
variable {G : Gm} {Wx : WX} {r r1 : Rho} {h h1 : VH} {H H1 : Hp} {σ : L2.St}
theorem RZ.seq {Q : V → Hp → Prop} {x : R W} (e : Ext G r h H r1 h1 H1) (z : RZ G Wx r h H σ Q x) : RZ G Wx r1 h1 H1 σ Q x := by
  cases x with
  | ok w h' => exact fun r' H' e' hw => z r' H' (e.trans e') hw
  | ex c d h' => exact fun r' H' e' hd => z r' H' (e.trans e') hd
  | no => exact z
theorem RZB.seq {Q : Bool → Hp → Prop} {x : R Bool} (e : Ext G r h H r1 h1 H1) (z : RZB G Wx r h H σ Q x) : RZB G Wx r1 h1 H1 σ Q x := by
  cases x with
  | ok w h' => exact fun r' H' e' => z r' H' (e.trans e')
  | ex c d h' => exact fun r' H' e' hd => z r' H' (e.trans e') hd
  | no => exact z
theorem RZL.seq {Q : List V → Hp → Prop} {x : R (List W)} (e : Ext G r h H r1 h1 H1) (z : RZL G Wx r h H σ Q x) : RZL G Wx r1 h1 H1 σ Q x := by
  cases x with
  | ok w h' => exact fun r' H' e' hw => z r' H' (e.trans e') hw
  | ex c d h' => exact fun r' H' e' hd => z r' H' (e.trans e') hd
  | no => exact z
theorem RZS.seq {D : Ends} {x : RS} (e : Ext G r h H r1 h1 H1) (z : RZS G Wx r h H D x) : RZS G Wx r1 h1 H1 D x := by
  cases x with
  | nx s h' => exact fun r' H' σ' e' hs => z r' H' σ' (e.trans e') hs
  | rt w h' => exact fun r' H' e' hw => z r' H' (e.trans e') hw
  | bk s h' => exact fun r' H' σ' e' hs => z r' H' σ' (e.trans e') hs
  | ct s h' => exact fun r' H' σ' e' hs => z r' H' σ' (e.trans e') hs
  | ex c d s h' => exact fun r' H' σ' e' hd hs => z r' H' σ' (e.trans e') hd hs
  | no => exact z
end

/-- a stronger reading -/
theorem PE.imp {X : Cx} {e : PySem.Expr} {t t' : TE} (p : PE X e t) (i : ∀ σ H Q, t' σ H Q → t σ H Q) : PE X e t' := ⟨fun pins s σ H Q I q => p.run pins s σ H Q I (i σ H Q q)⟩
theorem PT.imp {X : Cx} {e : PySem.Expr} {t t' : TT} (p : PT X e t) (i : ∀ σ H Q, t' σ H Q → t σ H Q) : PT X e t' := ⟨fun pins s σ H Q I q => p.run pins s σ H Q I (i σ H Q q)⟩
theorem PA.imp {X : Cx} {e : List PySem.Expr} {t t' : TA} (p : PA X e t) (i : ∀ σ H Q, t' σ H Q → t σ H Q) : PA X e t' := ⟨fun pos pins s σ H Q I q => p.run pos pins s σ H Q I (i σ H Q q)⟩
theorem PS.imp {X : Cx} {e : Stmt} {t t' : TS} (p : PS X e t) (i : ∀ D σ H, t' D σ H → t D σ H) : PS X e t' := ⟨fun pins s σ H D I q => p.run pins s σ H D I (i D σ H q)⟩
theorem PSs.imp {X : Cx} {e : List Stmt} {t t' : TS} (p : PSs X e t) (i : ∀ D σ H, t' D σ H → t D σ H) : PSs X e t' := ⟨fun pins s σ H D I q => p.run pins s σ H D I (i D σ H q)⟩

/-! ### names, constants -/
def zVar (i : Nat) : ZE := fun s h => match s[i]? with
  | some (some w) => .ok w h
  | _ => .no
def zCon (w : W) : ZE := fun _ h => match w with
  | .ref _ => .no
  | w => .ok w h
section
variable {X : Cx} {G : Gm} {Wx : WX}
theorem z_var {i : Nat} {x : Str} {pos : Pos} (p : PE X (.Name x pos) (tVar i)) : PE X (.Name x pos) (tz G Wx (zVar i)) := by
  refine PE.imp p fun σ H Q q => ?_
  obtain ⟨r, s, h, S, HR, z⟩ := q
  unfold zVar at z
  split at z
  · rename_i w e
    obtain ⟨a, b⟩ := S.at_ i w e
    exact ⟨_, b, z r H (Ext.refl HR) a⟩
  · exact z.elim
theorem z_con {e : PySem.Expr} {w : W} {v : V} (p : PE X e (tC v)) (hv : ∀ r, w.v G r = v) : PE X e (tz G Wx (zCon w)) := by
  refine PE.imp p fun σ H Q q => ?_
  obtain ⟨r, s, h, S, HR, z⟩ := q
  unfold zCon at z
  cases w with
  | ref n => exact z.elim
  | _ =>
    have q := z r H (Ext.refl HR) rfl
    rw [hv] at q
    exact q
end

/-! ### two places -/
abbrev Op2 := W → W → VH → R W
def zBin (op : Op2) (f g : ZE) : ZE := fun s h => match f s h with
  | .ok a h1 => (match g s h1 with
    | .ok b h2 => op a b h2
    | .ex c d h2 => .ex c d h2
    | .no => .no)
  | .ex c d h1 => .ex c d h1
  | .no => .no
/-- op does what r asks -/
def OpZ (G : Gm) (op : Op2) (rd : R2) : Prop := ∀ (Wx : WX) (r : Rho) (h : VH) (H : Hp) (σ : L2.St) (x y : W) (Q : VK), HRel G r h H → x.wf h.n = true → y.wf h.n = true → RZ G Wx r h H σ Q (op x y h) → rd (x.v G r) (y.v G r) H Q
section
variable {X : Cx} {G : Gm} {Wx : WX}
theorem tz_bin {op : Op2} {rd : R2} {f g : ZE} (ho : OpZ G op rd) : ∀ σ H Q, tz G Wx (zBin op f g) σ H Q → tOp rd (tz G Wx f) (tz G Wx g) σ H Q := by
  intro σ H Q q
  obtain ⟨r, s, h, S, HR, z⟩ := q
  refine ⟨r, s, h, S, HR, ?_⟩
  unfold zBin at z
  cases e1 : f s h with
  | no => rw [e1] at z; exact z
  | ex c d h1 => rw [e1] at z; exact z
  | ok a h1 =>
    rw [e1] at z
    intro r1 H1 E1 w1
    refine ⟨r1, s, h1, S.ext E1, E1.rel, ?_⟩
    cases e2 : g s h1 with
    | no => simp only [e2] at z; exact z
    | ex c d h2 =>
      simp only [e2] at z
      exact fun r2 H2 E2 hd => z r2 H2 (E1.trans E2) hd
    | ok b h2 =>
      simp only [e2] at z
      intro r2 H2 E2 w2
      rw [← W.v_agr w1 E2.agr]
      exact ho Wx r2 h2 H2 σ a b Q E2.rel (W.wf_le w1 E2.le) w2 (RZ.seq (E1.trans E2) z)
theorem z_bin {a b : PySem.Expr} {pos : Pos} {o : Operator} {op : Op2} {rd : R2} {f g : ZE} (hr : OpR X (binaryOp o) rd) (ho : OpZ G op rd) (ha : PE X a (tz G Wx f)) (hb : PE X b (tz G Wx g)) :
    PE X (.BinOp a o b pos) (tz G Wx (zBin op f g)) := PE.imp (pe_op hr ha hb) (tz_bin ho)
theorem z_cmp {a b : PySem.Expr} {pos : Pos} {o : CmpOp} {op : Op2} {rd : R2} {f g : ZE} (hr : OpR X (compareOp o) rd) (ho : OpZ G op rd) (ha : PE X a (tz G Wx f)) (hb : PE X b (tz G Wx g)) (hm : behindInMarks o b = false) :
    PE X (.Compare a [o] [b] pos) (tz G Wx (zBin op f g)) := PE.imp (pe_cmpR hr ha hb hm) (tz_bin ho)
end
end Zd

namespace Zd
open PySem PySem.Spec PyProof.Rows L2

/-! ### new objects -/
section
variable {G : Gm} {Wx : WX} {r : Rho} {h : VH} {H : Hp} {σ : L2.St} {Q : VK}
theorem blt_self (n : Nat) : Nat.blt n (n + 1) = true := by simp [Nat.blt]
theorem upd_keep {p : Addr} {u : HO} (hp : H p = none) : ∀ a o, H a = some o → upd H p u a = some o := fun a o e => by
  rw [upd_ne (ne_of_none e hp)]; exact e
theorem new_ob {o : Ob} {u : Rho → HO} (HR : HRel G r h H) (hw : o.wf h.n = true) (ha : ∀ r' p H', H' p = some (u r') → o.at_ G r' p H') (hu : ∀ p, u (setR r h.n p) = u r)
    (z : RZ G Wx r h H σ Q (.ok (.ref h.n) (h.push o))) : ∀ p, H p = none → Q (.ref p) (upd H p (u r)) := by
  intro p hp
  have E : Ext G r h H (setR r h.n p) (h.push o) (upd H p (u r)) := Ext.new HR hp (Ob.wf_le hw (Nat.le_succ _)) (upd_keep hp) (ha _ _ _ (by rw [hu]; exact upd_same))
  have q := z _ _ E (blt_self h.n)
  have e : (W.ref h.n).v G (setR r h.n p) = .ref p := by show V.ref (setR r h.n p h.n) = V.ref p; rw [setR_same]
  rw [e] at q
  exact q
theorem new_lst {ws : List W} (HR : HRel G r h H) (hw : wfs h.n ws = true) (z : RZ G Wx r h H σ Q (.ok (.ref h.n) (h.push (.lst ws)))) : ∀ p, H p = none → Q (.ref p) (upd H p (.lst (vsV G r ws))) :=
  new_ob (o := .lst ws) (u := fun r => .lst (vsV G r ws)) HR hw (fun _ _ _ e => e) (fun p => by show HO.lst _ = HO.lst _; rw [vsV_agr hw fun i q => setR_lt q]) z
theorem new_tup {ws : List W} (HR : HRel G r h H) (hw : wfs h.n ws = true) (z : RZ G Wx r h H σ Q (.ok (.ref h.n) (h.push (.tup ws)))) : ∀ p, H p = none → Q (.ref p) (upd H p (.tup (vsV G r ws))) :=
  new_ob (o := .tup ws) (u := fun r => .tup (vsV G r ws)) HR hw (fun _ _ _ e => e) (fun p => by show HO.tup _ = HO.tup _; rw [vsV_agr hw fun i q => setR_lt q]) z
theorem new_dic {ws : List (Key × W)} (HR : HRel G r h H) (hw : (Ob.dic ws).wf h.n = true) (z : RZ G Wx r h H σ Q (.ok (.ref h.n) (h.push (.dic ws)))) : ∀ p, H p = none → Q (.ref p) (upd H p (.dK (kvV G r ws))) :=
  new_ob (o := .dic ws) (u := fun r => .dK (kvV G r ws)) HR hw (fun _ _ _ e => e) (fun p => by show HO.dK _ = HO.dK _; rw [kvV_agr (n := h.n) hw fun i q => setR_lt q]) z
end
def line : Nat := 100000
theorem line_le {n : Nat} (h : n ≤ line) : n ≤ sizeLine := Nat.le_trans h (by unfold line; decide)
theorem line_lt {n : Nat} (h : n < line) : n < sizeLine := Nat.lt_of_lt_of_le h (by unfold line; decide)

/-! ### reading sequences -/
/-- a list or tuple that is there -/
def lstOf (h : VH) : W → Option (List W)
  | .ref i => match h.get i with
    | some (.lst xs) => some xs
    | some (.sq xs) => some xs
    | _ => none
  | _ => none
def tupOf (h : VH) : W → Option (List W)
  | .ref i => match h.get i with
    | some (.tup xs) => some xs
    | _ => none
  | _ => none
def seqOf (h : VH) (w : W) : Option (List W) := match lstOf h w with
  | some xs => some xs
  | none => tupOf h w
section
variable {G : Gm} {K : PySem.W.Frag} {r : Rho} {h : VH} {H : Hp} {w : W} {xs : List W}
theorem lstOf_ok (HR : HRel G r h H) (e : lstOf h w = some xs) : ∃ p, w.v G r = .ref p ∧ SqL K H p (vsV G r xs) ∧ wfs h.n xs = true := by
  cases w with
  | ref i =>
    have e1 : (match h.get i with
      | some (.lst xs) => some xs
      | some (.sq xs) => some xs
      | _ => none) = some xs := e
    cases q : h.get i with
    | none => rw [q] at e1; cases e1
    | some o =>
      rw [q] at e1
      cases o with
      | lst ys => cases e1; exact ⟨_, rfl, .inl (.inl (HR.at_ i _ q)), HR.wf i _ q⟩
      | sq ys => cases e1; exact ⟨_, rfl, .inl (HR.at_ i _ q), HR.wf i _ q⟩
      | _ => cases e1
  | _ => cases e
theorem tupOf_ok (HR : HRel G r h H) (e : tupOf h w = some xs) : ∃ p, w.v G r = .ref p ∧ SqT K H p (vsV G r xs) ∧ wfs h.n xs = true := by
  cases w with
  | ref i =>
    have e1 : (match h.get i with
      | some (.tup xs) => some xs
      | _ => none) = some xs := e
    cases q : h.get i with
    | none => rw [q] at e1; cases e1
    | some o =>
      rw [q] at e1
      cases o with
      | tup ys => cases e1; exact ⟨_, rfl, .inl (.inl (HR.at_ i _ q)), HR.wf i _ q⟩
      | _ => cases e1
  | _ => cases e
theorem seqOf_ok (HR : HRel G r h H) (e : seqOf h w = some xs) : ∃ p, w.v G r = .ref p ∧ (SqL K H p (vsV G r xs) ∨ SqT K H p (vsV G r xs)) ∧ wfs h.n xs = true := by
  unfold seqOf at e
  cases q : lstOf h w with
  | some ys =>
    rw [q] at e; cases e
    obtain ⟨p, a, b, c⟩ := lstOf_ok (K := K) HR q
    exact ⟨p, a, .inl b, c⟩
  | none =>
    rw [q] at e
    obtain ⟨p, a, b, c⟩ := tupOf_ok (K := K) HR e
    exact ⟨p, a, .inr b, c⟩
end

/-! ### operators -/
def opAdd : Op2 := fun a b h => match a, b with
  | .int i, .int j => .ok (.int (i + j)) h
  | .str x, .str y => if x.length + y.length ≤ line then .ok (.str (x ++ y)) h else .no
  | .ref p, .ref q => match h.get p, h.get q with
    | some (.lst xs), some (.lst ys) => if xs.length + ys.length ≤ line then .ok (.ref h.n) (h.push (.lst (xs ++ ys))) else .no
    | _, _ => .no
  | _, _ => .no
abbrev rAddS : R2 := fun x y H Q => ∃ i j, x = .str i ∧ y = .str j ∧ i.length + j.length ≤ sizeLine ∧ Q (.str (i ++ j)) H
theorem wfs_append {n : Nat} {xs ys : List W} (a : wfs n xs = true) (b : wfs n ys = true) : wfs n (xs ++ ys) = true := by
  unfold wfs at *
  rw [List.all_append, a, b]; rfl
section
variable {X : Cx} {G : Gm}
theorem or_add : OpR X (binaryOp .Add) (fun x y H Q => (rI0 fun i j => .int (i + j)) x y H Q ∨ (rAddS x y H Q ∨ rCat x y H Q)) := op_add.or (op_add_str.or op_cat)
theorem oz_add : OpZ G opAdd (fun x y H Q => (rI0 fun i j => .int (i + j)) x y H Q ∨ (rAddS x y H Q ∨ rCat x y H Q)) := by
  intro Wx r h H σ x y Q HR wx wy z
  unfold opAdd at z
  split at z
  · exact .inl ⟨_, _, rfl, rfl, z r H (Ext.refl HR) rfl⟩
  · split at z
    · rename_i q
      exact .inr (.inl ⟨_, _, rfl, rfl, line_le q, z r H (Ext.refl HR) rfl⟩)
    · exact z.elim
  · split at z
    · rename_i p q _ _ xs ys e1 e2
      split at z
      · rename_i hl
        refine .inr (.inr ⟨r p, r q, vsV G r xs, vsV G r ys, rfl, rfl, HR.at_ _ _ e1, HR.at_ _ _ e2, by simpa using line_le hl, ?_⟩)
        have w := wfs_append (HR.wf _ _ e1) (HR.wf _ _ e2)
        have k := new_lst HR w z
        intro p' hp
        have k2 := k p' hp
        rw [vsV, List.map_append] at k2
        exact k2
      · exact z.elim
    · exact z.elim
  · exact z.elim
def opI (f : Int → Int → W) (C : Int → Int → Bool) : Op2 := fun a b h => match a, b with
  | .int i, .int j => if C i j then .ok (f i j) h else .no
  | _, _ => .no
theorem oz_i {f : Int → Int → W} {g : Int → Int → V} {C : Int → Int → Bool} {P : Int → Int → Prop} (hw : ∀ i j n, (f i j).wf n = true) (hv : ∀ i j r, (f i j).v G r = g i j) (hc : ∀ i j, C i j = true → P i j) : OpZ G (opI f C) (rI P g) := by
  intro Wx r h H σ x y Q HR wx wy z
  unfold opI at z
  split at z
  · split at z
    · rename_i i j q
      refine ⟨_, _, rfl, rfl, hc _ _ q, ?_⟩
      have k := z r H (Ext.refl HR) (hw _ _ _)
      rw [hv] at k
      exact k
    · exact z.elim
  · exact z.elim
theorem oz_i0 {f : Int → Int → W} {g : Int → Int → V} (hw : ∀ i j n, (f i j).wf n = true) (hv : ∀ i j r, (f i j).v G r = g i j) : OpZ G (opI f fun _ _ => true) (rI0 g) := by
  intro Wx r h H σ x y Q HR wx wy z
  unfold opI at z
  split at z
  · rename_i i j
    rw [if_pos rfl] at z
    refine ⟨_, _, rfl, rfl, ?_⟩
    have k := z r H (Ext.refl HR) (hw _ _ _)
    rw [hv] at k
    exact k
  · exact z.elim
abbrev opSub : Op2 := opI (fun i j => .int (i - j)) fun _ _ => true
theorem oz_sub : OpZ G opSub (rI0 fun i j => .int (i - j)) := oz_i0 (fun _ _ _ => rfl) (fun _ _ _ => rfl)
def mulOk (i : Int) : Bool := decide (-(2 ^ 64) < i) && decide (i < 2 ^ 64)
def opMul : Op2 := fun a b h => match a, b with
  | .int i, .int j => if mulOk i || mulOk j then .ok (.int (i * j)) h else .no
  | .ref p, .int k => match h.get p with
    | some (.lst xs) => if 0 ≤ k && decide (xs.length * k.toNat ≤ line) && decide (k < 1000) then .ok (.ref h.n) (h.push (.lst (List.replicate k.toNat xs).flatten)) else .no
    | _ => .no
  | _, _ => .no
theorem mulOk_ok {i j : Int} (h : (mulOk i || mulOk j) = true) : CMul i j := by
  unfold mulOk at h
  simp only [Bool.or_eq_true, Bool.and_eq_true, decide_eq_true_eq] at h
  exact h
theorem vsV_flatten {r : Rho} {xs : List W} (k : Nat) : vsV G r (List.replicate k xs).flatten = (List.replicate k (vsV G r xs)).flatten := by
  unfold vsV
  rw [List.map_flatten, List.map_replicate]
theorem wfs_flatten {n : Nat} {xs : List W} (k : Nat) (h : wfs n xs = true) : wfs n (List.replicate k xs).flatten = true := by
  induction k with
  | zero => rfl
  | succ k ih =>
    rw [List.replicate_succ, List.flatten_cons]
    exact wfs_append h ih
theorem oz_mul : OpZ G opMul (fun x y H Q => (rI CMul fun i j => .int (i * j)) x y H Q ∨ rRep x y H Q) := by
  intro Wx r h H σ x y Q HR wx wy z
  unfold opMul at z
  split at z
  · split at z
    · rename_i q
      exact .inl ⟨_, _, rfl, rfl, mulOk_ok q, z r H (Ext.refl HR) rfl⟩
    · exact z.elim
  · split at z
    · rename_i p k _ xs e1
      split at z
      · rename_i q
        simp only [Bool.and_eq_true, decide_eq_true_eq] at q
        obtain ⟨⟨q1, q2⟩, q3⟩ := q
        refine .inr ⟨r p, k, vsV G r xs, rfl, rfl, HR.at_ _ _ e1, by omega, by omega, by simpa using line_le q2, ?_⟩
        have kk := new_lst HR (wfs_flatten k.toNat (HR.wf _ _ e1)) z
        intro p' hp
        have k2 := kk p' hp
        rw [vsV_flatten] at k2
        exact k2
      · exact z.elim
    · exact z.elim
  · exact z.elim
theorem or_mul : OpR X (binaryOp .Mult) (fun x y H Q => (rI CMul fun i j => .int (i * j)) x y H Q ∨ rRep x y H Q) := op_mul.or op_rep
abbrev opFDiv : Op2 := opI (fun i j => .int (i / j)) fun _ j => decide (0 < j) && decide (j < 1073741824)
theorem oz_fdiv : OpZ G opFDiv (rI CDiv fun i j => .int (i / j)) := oz_i (fun _ _ _ => rfl) (fun _ _ _ => rfl) fun i j h => by
  simp only [Bool.and_eq_true, decide_eq_true_eq] at h; exact h
abbrev opMod : Op2 := opI (fun i j => .int (i % j)) fun _ j => decide (0 < j)
theorem oz_mod : OpZ G opMod (rI (fun _ j => 0 < j) fun i j => .int (i % j)) := oz_i (fun _ _ _ => rfl) (fun _ _ _ => rfl) fun i j h => by
  simp only [decide_eq_true_eq] at h; exact h
def powOk (i j : Int) : Bool := decide (0 ≤ j) && decide (j ≤ 1000000) && decide (i.natAbs < 2 ^ 64)
theorem powOk_ok {i j : Int} (h : powOk i j = true) : CPow i j := by
  unfold powOk at h
  simp only [Bool.and_eq_true, decide_eq_true_eq] at h
  exact ⟨h.1.1, h.1.2, h.2⟩
abbrev opPow : Op2 := opI (fun i j => .int (i ^ j.toNat)) powOk
theorem oz_pow : OpZ G opPow (rI CPow fun i j => .int (i ^ j.toNat)) := oz_i (fun _ _ _ => rfl) (fun _ _ _ => rfl) fun i j h => powOk_ok h
abbrev opShl : Op2 := opI (fun i j => .int (i * 2 ^ j.toNat)) powOk
theorem oz_shl : OpZ G opShl (rI CPow fun i j => .int (i * 2 ^ j.toNat)) := oz_i (fun _ _ _ => rfl) (fun _ _ _ => rfl) fun i j h => powOk_ok h
abbrev opLt : Op2 := opI (fun i j => .bl (decide (i < j))) fun _ _ => true
theorem oz_lt : OpZ G opLt (rI0 fun i j => .bl (decide (i < j))) := oz_i0 (fun _ _ _ => rfl) (fun _ _ _ => rfl)
abbrev opLe : Op2 := opI (fun i j => .bl (decide (i ≤ j))) fun _ _ => true
theorem oz_le : OpZ G opLe (rI0 fun i j => .bl (decide (i ≤ j))) := oz_i0 (fun _ _ _ => rfl) (fun _ _ _ => rfl)
abbrev opGt : Op2 := opI (fun i j => .bl (decide (j < i))) fun _ _ => true
theorem oz_gt : OpZ G opGt (rI0 fun i j => .bl (decide (j < i))) := oz_i0 (fun _ _ _ => rfl) (fun _ _ _ => rfl)
abbrev opGe : Op2 := opI (fun i j => .bl (decide (j ≤ i))) fun _ _ => true
theorem oz_ge : OpZ G opGe (rI0 fun i j => .bl (decide (j ≤ i))) := oz_i0 (fun _ _ _ => rfl) (fun _ _ _ => rfl)

/-! ### == of data -/
def datL (f : W → Option PyData) : List W → Option (List PyData)
  | [] => some []
  | w :: r => match f w with
    | some d => (match datL f r with
      | some ds => some (d :: ds)
      | none => none)
    | none => none
def dat : Nat → VH → W → Option PyData
  | 0, _, _ => none
  | n + 1, h, w => match w with
    | .non => some .none
    | .bl b => some (.bool b)
    | .int i => some (.int i)
    | .str x => some (.str x)
    | .ref i => (match h.get i with
      | some (.lst xs) => (datL (dat n h) xs).map .list
      | some (.sq xs) => (datL (dat n h) xs).map .list
      | some (.tup xs) => (datL (dat n h) xs).map .tuple
      | _ => none)
    | _ => none
theorem datL_ok {G : Gm} {K : PySem.W.Frag} {r : Rho} {H : Hp} {f : W → Option PyData} (hf : ∀ w d, f w = some d → Dp K H (w.v G r) d) : ∀ {xs : List W} {ds : List PyData}, datL f xs = some ds → DpAll K H (vsV G r xs) ds
  | [], ds, e => by cases e; exact .nil
  | w :: xs, ds, e => by
    have e1 : (match f w with
      | some d => (match datL f xs with
        | some ds => some (d :: ds)
        | none => none)
      | none => none) = some ds := e
    cases q : f w with
    | none => rw [q] at e1; cases e1
    | some d =>
      rw [q] at e1
      cases q2 : datL f xs with
      | none => simp only [q2] at e1; cases e1
      | some es =>
        simp only [q2] at e1
        cases e1
        exact .cons (hf w d q) (datL_ok hf q2)
theorem dat_ok {K : PySem.W.Frag} {r : Rho} {h : VH} {H : Hp} (HR : HRel G r h H) : ∀ (n : Nat) (w : W) (d : PyData), dat n h w = some d → Dp K H (w.v G r) d
  | 0, _, _, e => by cases e
  | n + 1, w, d, e => by
    cases w with
    | non => cases e; exact .non
    | bl b => cases e; exact .bl b
    | int b => cases e; exact .int b
    | str b => cases e; exact .str b
    | glo b => cases e
    | ty b => cases e
    | ref i =>
      have e1 : (match h.get i with
        | some (.lst xs) => (datL (dat n h) xs).map .list
        | some (.sq xs) => (datL (dat n h) xs).map .list
        | some (.tup xs) => (datL (dat n h) xs).map .tuple
        | _ => none) = some d := e
      cases q : h.get i with
      | none => rw [q] at e1; cases e1
      | some o =>
        rw [q] at e1
        have at_ := HR.at_ i o q
        cases o with
        | lst xs =>
          cases q2 : datL (dat n h) xs with
          | none => simp only [q2] at e1; cases e1
          | some ds =>
            simp only [q2] at e1; cases e1
            exact .lst (.inl (.inl at_)) (datL_ok (fun w d => dat_ok HR n w d) q2)
        | sq xs =>
          cases q2 : datL (dat n h) xs with
          | none => simp only [q2] at e1; cases e1
          | some ds =>
            simp only [q2] at e1; cases e1
            exact .lst (.inl at_) (datL_ok (fun w d => dat_ok HR n w d) q2)
        | tup xs =>
          cases q2 : datL (dat n h) xs with
          | none => simp only [q2] at e1; cases e1
          | some ds =>
            simp only [q2] at e1; cases e1
            exact .tup (.inl (.inl at_)) (datL_ok (fun w d => dat_ok HR n w d) q2)
        | _ => cases e1
/-- == and != (neg) of data -/
def opEq (neg : Bool) : Op2 := fun a b h => match dat 12 h a, dat 12 h b with
  | some d, some e => if SeqAt.shaped d && SeqAt.shaped e then .ok (.bl (if neg then !PyData.eqv d e else PyData.eqv d e)) h else .no
  | _, _ => .no
theorem opEq_ok {K : PySem.W.Frag} {neg : Bool} {Wx : WX} {r : Rho} {h : VH} {H : Hp} {σ : L2.St} {x y : W} {Q : VK} (HR : HRel G r h H) (z : RZ G Wx r h H σ Q (opEq neg x y h)) :
    ∃ d e, Dp K H (x.v G r) d ∧ Dp K H (y.v G r) e ∧ SeqAt.shaped d = true ∧ SeqAt.shaped e = true ∧ Q (.bl (if neg then !PyData.eqv d e else PyData.eqv d e)) H := by
  unfold opEq at z
  split at z
  · rename_i d e q1 q2
    split at z
    · rename_i q
      rw [Bool.and_eq_true] at q
      exact ⟨d, e, dat_ok HR 12 x d q1, dat_ok HR 12 y e q2, q.1, q.2, z r H (Ext.refl HR) rfl⟩
    · exact z.elim
  · exact z.elim
theorem oz_eq {K : PySem.W.Frag} : OpZ G (opEq false) (rEqD K) := fun Wx r h H σ x y Q HR _ _ z => opEq_ok (neg := false) HR z
theorem oz_ne {K : PySem.W.Frag} : OpZ G (opEq true) (rNeD K) := fun Wx r h H σ x y Q HR _ _ z => opEq_ok (neg := true) HR z

/-! ### is None -/
def opIsN (neg : Bool) : Op2 := fun a b h => match b with
  | .non => .ok (.bl (if neg then !decide (a = .non) else decide (a = .non))) h
  | _ => .no
theorem v_non {r : Rho} {w : W} : decide (w.v G r = .non) = decide (w = .non) := by
  cases w <;> simp [W.v]
theorem oz_isN : OpZ G (opIsN false) (fun x y H Q => y = .non ∧ Q (.bl (decide (x = .non))) H) := by
  intro Wx r h H σ x y Q HR wx wy z
  unfold opIsN at z
  split at z
  · exact ⟨rfl, by rw [v_non]; exact z r H (Ext.refl HR) rfl⟩
  · exact z.elim
theorem oz_notN : OpZ G (opIsN true) (fun x y H Q => y = .non ∧ Q (.bl (!decide (x = .non))) H) := by
  intro Wx r h H σ x y Q HR wx wy z
  unfold opIsN at z
  split at z
  · exact ⟨rfl, by rw [v_non]; exact z r H (Ext.refl HR) rfl⟩
  · exact z.elim

/-! ### in, not in -/
def W.v0 : W → V
  | .non => .non
  | .bl b => .bl b
  | .int i => .int i
  | .str x => .str x
  | .ref n => .ref n
  | .glo n => .ref n
  | .ty t => .ty t
theorem v_flat {r : Rho} {w : W} (h : flatV w.v0 = true) : w.v G r = w.v0 := by
  cases w with
  | ref n => cases h
  | glo n => cases h
  | _ => rfl
theorem vs_flat {r : Rho} : ∀ {ws : List W}, (ws.map W.v0).all flatV = true → vsV G r ws = ws.map W.v0
  | [], _ => rfl
  | w :: ws, h => by
    have h1 : (flatV w.v0 && (ws.map W.v0).all flatV) = true := h
    rw [Bool.and_eq_true] at h1
    show w.v G r :: vsV G r ws = w.v0 :: ws.map W.v0
    rw [v_flat h1.1, vs_flat h1.2]
def opIn (neg : Bool) : Op2 := fun a b h => match seqOf h b with
  | some xs => if flatV a.v0 && (xs.map W.v0).all flatV then .ok (.bl (if neg then !inV a.v0 (xs.map W.v0) else inV a.v0 (xs.map W.v0))) h else .no
  | none => (match a, b with
    | .str x, .str y => .ok (.bl (if neg then !(!(Builtin.Str.occurrences y x 0 y.length 1).isEmpty) else !(Builtin.Str.occurrences y x 0 y.length 1).isEmpty)) h
    | _, _ => .no)
abbrev rInS (neg : Bool) : R2 := fun x y H Q => ∃ i j, x = .str i ∧ y = .str j ∧ Q (.bl (if neg then !(!(Builtin.Str.occurrences j i 0 j.length 1).isEmpty) else !(Builtin.Str.occurrences j i 0 j.length 1).isEmpty)) H
theorem oz_in {K : PySem.W.Frag} {neg : Bool} : OpZ G (opIn neg) (fun x y H Q => rIn K neg x y H Q ∨ rInS neg x y H Q) := by
  intro Wx r h H σ x y Q HR wx wy z
  unfold opIn at z
  split at z
  · rename_i xs e
    obtain ⟨p, e1, e2, e3⟩ := seqOf_ok (K := K) HR e
    split at z
    · rename_i q
      rw [Bool.and_eq_true] at q
      have k := z r H (Ext.refl HR) rfl
      refine .inl ⟨p, vsV G r xs, e1, e2, by rw [v_flat q.1]; exact q.1, by rw [vs_flat q.2]; exact q.2, ?_⟩
      rw [v_flat q.1, vs_flat q.2]
      exact k
    · exact z.elim
  · split at z
    · exact .inr ⟨_, _, rfl, rfl, z r H (Ext.refl HR) rfl⟩
    · exact z.elim
theorem or_in : OpR X (compareOp .In) (fun x y H Q => rIn X.K false x y H Q ∨ rInS false x y H Q) := op_in_seq.or op_in_str
theorem or_notIn : OpR X (compareOp .NotIn) (fun x y H Q => rIn X.K true x y H Q ∨ rInS true x y H Q) := op_notIn_seq.or op_notin_str
end

/-! ### truth, and, or, not -/
/-- a value's truth -/
def truZ (h : VH) : W → Option Bool
  | .non => some false
  | .bl b => some b
  | .int i => some (i != 0)
  | .str y => if y.length ≤ line then some ((y.length : Int) != 0) else none
  | .ref i => match h.get i with
    | some (.lst xs) => some (!xs.isEmpty)
    | some (.sq xs) => some (!xs.isEmpty)
    | some (.tup xs) => some (!xs.isEmpty)
    | some (.dic kvs) => some (!kvs.isEmpty)
    | _ => none
  | _ => none
theorem isEmpty_map {α β : Type} (f : α → β) (xs : List α) : (xs.map f).isEmpty = xs.isEmpty := by cases xs <;> rfl
theorem truZ_ok {G : Gm} {K : PySem.W.Frag} {r : Rho} {h : VH} {H : Hp} {w : W} {b : Bool} (HR : HRel G r h H) (e : truZ h w = some b) : TruV K (w.v G r) H b := by
  cases w with
  | non => cases e; rfl
  | bl b => cases e; rfl
  | int b => cases e; rfl
  | str y =>
    have e1 : (if y.length ≤ line then some ((y.length : Int) != 0) else none) = some b := e
    split at e1
    · rename_i q
      cases e1
      exact ⟨line_le q, rfl⟩
    · cases e1
  | glo n => cases e
  | ty n => cases e
  | ref i =>
    have e1 : (match h.get i with
      | some (.lst xs) => some (!xs.isEmpty)
      | some (.sq xs) => some (!xs.isEmpty)
      | some (.tup xs) => some (!xs.isEmpty)
      | some (.dic kvs) => some (!kvs.isEmpty)
      | _ => none) = some b := e
    cases q : h.get i with
    | none => rw [q] at e1; cases e1
    | some o =>
      rw [q] at e1
      have at_ := HR.at_ i o q
      cases o with
      | lst xs => cases e1; exact .inl ⟨_, .inl (.inl at_), by rw [isEmpty_map]⟩
      | sq xs => cases e1; exact .inl ⟨_, .inl at_, by rw [isEmpty_map]⟩
      | tup xs => cases e1; exact .inr (.inl ⟨_, .inl (.inl at_), by rw [isEmpty_map]⟩)
      | dic xs => cases e1; exact .inr (.inr ⟨_, at_, by unfold kvV; rw [isEmpty_map]⟩)
      | _ => cases e1
/-- e's truth -/
def zTru (f : ZE) : ZT := fun s h => match f s h with
  | .ok w h1 => (match truZ h1 w with
    | some b => .ok b h1
    | none => .no)
  | .ex c d h1 => .ex c d h1
  | .no => .no
def zNot (f : ZT) : ZT := fun s h => match f s h with
  | .ok b h1 => .ok (!b) h1
  | .ex c d h1 => .ex c d h1
  | .no => .no
def zAndT (f g : ZT) : ZT := fun s h => match f s h with
  | .ok true h1 => g s h1
  | .ok false h1 => .ok false h1
  | .ex c d h1 => .ex c d h1
  | .no => .no
def zOrT (f g : ZT) : ZT := fun s h => match f s h with
  | .ok true h1 => .ok true h1
  | .ok false h1 => g s h1
  | .ex c d h1 => .ex c d h1
  | .no => .no
/-- and, or as values -/
def zAnd (f g : ZE) : ZE := fun s h => match f s h with
  | .ok w h1 => (match truZ h1 w with
    | some true => g s h1
    | some false => .ok w h1
    | none => .no)
  | .ex c d h1 => .ex c d h1
  | .no => .no
def zOr (f g : ZE) : ZE := fun s h => match f s h with
  | .ok w h1 => (match truZ h1 w with
    | some true => .ok w h1
    | some false => g s h1
    | none => .no)
  | .ex c d h1 => .ex c d h1
  | .no => .no
def zNotV (f : ZE) : ZE := fun s h => match f s h with
  | .ok w h1 => (match truZ h1 w with
    | some b => .ok (.bl (!b)) h1
    | none => .no)
  | .ex c d h1 => .ex c d h1
  | .no => .no
def zIf (t : ZT) (f g : ZE) : ZE := fun s h => match t s h with
  | .ok true h1 => f s h1
  | .ok false h1 => g s h1
  | .ex c d h1 => .ex c d h1
  | .no => .no
/-- a value that is a bool -/
def zBl (f : ZE) : ZT := fun s h => match f s h with
  | .ok (.bl b) h1 => .ok b h1
  | .ok _ _ => .no
  | .ex c d h1 => .ex c d h1
  | .no => .no
theorem tz_bl {G : Gm} {Wx : WX} {f : ZE} {σ : L2.St} {H : Hp} {Q : Bool → Hp → Prop} (q : tzT G Wx (zBl f) σ H Q) : tz G Wx f σ H (fun x H' => ∃ k, x = .bl k ∧ Q k H') := by
  obtain ⟨r, s, h, S, HR, z⟩ := q
  refine ⟨r, s, h, S, HR, ?_⟩
  unfold zBl at z
  cases e : f s h with
  | no => rw [e] at z; exact z
  | ex c d h1 => rw [e] at z; exact z
  | ok w h1 =>
    rw [e] at z
    intro r1 H1 E1 w1
    cases w with
    | bl b => exact ⟨b, rfl, z r1 H1 E1⟩
    | _ => exact z.elim
section
variable {X : Cx} {G : Gm} {Wx : WX} {a b c : PySem.Expr} {pos : Pos} {f g : ZE} {t u : ZT} {rest : List PySem.Expr}
theorem z_tru (ha : PE X a (tz G Wx f)) (he : ∀ whole, isTrue a X.env whole = (do let v ← whole; standAt a.pos; holding [v] (truthy v))) : PT X a (tzT G Wx (zTru f)) := by
  refine PT.imp (pt_truth ha he) fun σ H Q q => ?_
  obtain ⟨r, s, h, S, HR, z⟩ := q
  refine ⟨r, s, h, S, HR, ?_⟩
  unfold zTru at z
  cases e : f s h with
  | no => rw [e] at z; exact z
  | ex c d h1 => rw [e] at z; exact z
  | ok w h1 =>
    simp only [e] at z
    intro r1 H1 E1 w1
    cases e2 : truZ h1 w with
    | none => simp only [e2] at z; exact z.elim
    | some b =>
      simp only [e2] at z
      exact ⟨b, truZ_ok E1.rel e2, z r1 H1 E1⟩
/-- a comparison as a test -/
theorem z_cmpT {o : CmpOp} {op : Op2} {rd : R2} (hr : OpR X (compareOp o) rd) (ho : OpZ G op rd) (ha : PE X a (tz G Wx f)) (hb : PE X b (tz G Wx g)) (hm : behindInMarks o b = false) :
    PT X (.Compare a [o] [b] pos) (tzT G Wx (zBl (zBin op f g))) := by
  refine PT.imp (pt_cmpR hr ha hb hm) fun σ H Q q => ?_
  refine tz_bin (Wx := Wx) ho σ H (fun x H' => ∃ k, x = .bl k ∧ Q k H') ?_
  exact tz_bl q
theorem z_notT (ha : PT X a (tzT G Wx t)) : PT X (.UnaryOp .Not a pos) (tzT G Wx (zNot t)) := by
  refine PT.imp (pt_not ha) fun σ H Q q => ?_
  obtain ⟨r, s, h, S, HR, z⟩ := q
  refine ⟨r, s, h, S, HR, ?_⟩
  unfold zNot at z
  cases e : t s h with
  | no => rw [e] at z; exact z
  | ex c d h1 => rw [e] at z; exact z
  | ok w h1 => rw [e] at z; exact z
theorem PW.imp {t t' : TT} (p : PW X a t) (i : ∀ σ H Q, t' σ H Q → t σ H Q) : PW X a t' := ⟨fun wh pins s σ H Q I q => p.run wh pins s σ H Q I (i σ H Q q)⟩
theorem z_and1 (ha : PT X a (tzT G Wx t)) : PW X (.BoolOp .And [a] pos) (tzT G Wx t) := pw_and1 ha
theorem z_or1 (ha : PT X a (tzT G Wx t)) : PW X (.BoolOp .Or [a] pos) (tzT G Wx t) := pw_or1 ha
theorem z_andT (ha : PT X a (tzT G Wx t)) (hb : PW X (.BoolOp .And (b :: rest) pos) (tzT G Wx u)) : PW X (.BoolOp .And (a :: b :: rest) pos) (tzT G Wx (zAndT t u)) := by
  refine PW.imp (pw_and ha hb) fun σ H Q q => ?_
  obtain ⟨r, s, h, S, HR, z⟩ := q
  refine ⟨r, s, h, S, HR, ?_⟩
  unfold zAndT at z
  cases e : t s h with
  | no => rw [e] at z; exact z
  | ex c d h1 => rw [e] at z; exact z
  | ok b h1 =>
    rw [e] at z
    intro r1 H1 E1
    cases b with
    | true =>
      rw [if_pos rfl]
      exact ⟨r1, s, h1, S.ext E1, E1.rel, RZB.seq E1 z⟩
    | false =>
      rw [if_neg Bool.false_ne_true]
      exact z r1 H1 E1
theorem z_orT (ha : PT X a (tzT G Wx t)) (hb : PW X (.BoolOp .Or (b :: rest) pos) (tzT G Wx u)) : PW X (.BoolOp .Or (a :: b :: rest) pos) (tzT G Wx (zOrT t u)) := by
  refine PW.imp (pw_or ha hb) fun σ H Q q => ?_
  obtain ⟨r, s, h, S, HR, z⟩ := q
  refine ⟨r, s, h, S, HR, ?_⟩
  unfold zOrT at z
  cases e : t s h with
  | no => rw [e] at z; exact z
  | ex c d h1 => rw [e] at z; exact z
  | ok b h1 =>
    rw [e] at z
    intro r1 H1 E1
    cases b with
    | false =>
      rw [if_neg Bool.false_ne_true]
      exact ⟨r1, s, h1, S.ext E1, E1.rel, RZB.seq E1 z⟩
    | true =>
      rw [if_pos rfl]
      exact z r1 H1 E1
theorem z_and (ha : PE X a (tz G Wx f)) (hb : PE X (.BoolOp .And (b :: rest) pos) (tz G Wx g)) : PE X (.BoolOp .And (a :: b :: rest) pos) (tz G Wx (zAnd f g)) := by
  refine PE.imp (pe_andT ha hb) fun σ H Q q => ?_
  obtain ⟨r, s, h, S, HR, z⟩ := q
  refine ⟨r, s, h, S, HR, ?_⟩
  unfold zAnd at z
  cases e : f s h with
  | no => rw [e] at z; exact z
  | ex c d h1 => rw [e] at z; exact z
  | ok w h1 =>
    simp only [e] at z
    intro r1 H1 E1 w1
    cases e2 : truZ h1 w with
    | none => simp only [e2] at z; exact z.elim
    | some k =>
      refine ⟨k, truZ_ok E1.rel e2, ?_⟩
      cases k with
      | true =>
        simp only [e2] at z
        rw [if_pos rfl]
        exact ⟨r1, s, h1, S.ext E1, E1.rel, RZ.seq E1 z⟩
      | false =>
        simp only [e2] at z
        rw [if_neg Bool.false_ne_true]
        exact z r1 H1 E1 w1
theorem z_or (ha : PE X a (tz G Wx f)) (hb : PE X (.BoolOp .Or (b :: rest) pos) (tz G Wx g)) : PE X (.BoolOp .Or (a :: b :: rest) pos) (tz G Wx (zOr f g)) := by
  refine PE.imp (pe_orT ha hb) fun σ H Q q => ?_
  obtain ⟨r, s, h, S, HR, z⟩ := q
  refine ⟨r, s, h, S, HR, ?_⟩
  unfold zOr at z
  cases e : f s h with
  | no => rw [e] at z; exact z
  | ex c d h1 => rw [e] at z; exact z
  | ok w h1 =>
    simp only [e] at z
    intro r1 H1 E1 w1
    cases e2 : truZ h1 w with
    | none => simp only [e2] at z; exact z.elim
    | some k =>
      refine ⟨k, truZ_ok E1.rel e2, ?_⟩
      cases k with
      | false =>
        simp only [e2] at z
        rw [if_neg Bool.false_ne_true]
        exact ⟨r1, s, h1, S.ext E1, E1.rel, RZ.seq E1 z⟩
      | true =>
        simp only [e2] at z
        rw [if_pos rfl]
        exact z r1 H1 E1 w1
theorem z_one {op} (ha : PE X a (tz G Wx f)) : PE X (.BoolOp op [a] pos) (tz G Wx f) := pe_one ha
theorem z_not (ha : PE X a (tz G Wx f)) : PE X (.UnaryOp .Not a pos) (tz G Wx (zNotV f)) := by
  refine PE.imp (pe_notT ha) fun σ H Q q => ?_
  obtain ⟨r, s, h, S, HR, z⟩ := q
  refine ⟨r, s, h, S, HR, ?_⟩
  unfold zNotV at z
  cases e : f s h with
  | no => rw [e] at z; exact z
  | ex c d h1 => rw [e] at z; exact z
  | ok w h1 =>
    simp only [e] at z
    intro r1 H1 E1 w1
    cases e2 : truZ h1 w with
    | none => simp only [e2] at z; exact z.elim
    | some k =>
      simp only [e2] at z
      exact ⟨k, truZ_ok E1.rel e2, z r1 H1 E1 rfl⟩
theorem z_if (hc : PT X c (tzT G Wx t)) (ha : PE X a (tz G Wx f)) (hb : PE X b (tz G Wx g)) : PE X (.IfExp c a b pos) (tz G Wx (zIf t f g)) := by
  refine PE.imp (pe_ifExp hc ha hb) fun σ H Q q => ?_
  obtain ⟨r, s, h, S, HR, z⟩ := q
  refine ⟨r, s, h, S, HR, ?_⟩
  unfold zIf at z
  cases e : t s h with
  | no => rw [e] at z; exact z
  | ex c d h1 => rw [e] at z; exact z
  | ok b h1 =>
    rw [e] at z
    intro r1 H1 E1
    cases b with
    | false =>
      rw [if_neg Bool.false_ne_true]
      exact ⟨r1, s, h1, S.ext E1, E1.rel, RZ.seq E1 z⟩
    | true =>
      rw [if_pos rfl]
      exact ⟨r1, s, h1, S.ext E1, E1.rel, RZ.seq E1 z⟩
/-- a <= b <= c -/
def zChain (op op' : Op2) (f g k : ZE) : ZE := fun s h => match f s h with
  | .ok x h1 => (match g s h1 with
    | .ok y h2 => (match op x y h2 with
      | .ok (.bl true) h3 => (match k s h3 with
        | .ok w h4 => op' y w h4
        | .ex c d h4 => .ex c d h4
        | .no => .no)
      | .ok (.bl false) h3 => .ok (.bl false) h3
      | .ok _ _ => .no
      | .ex c d h3 => .ex c d h3
      | .no => .no)
    | .ex c d h2 => .ex c d h2
    | .no => .no)
  | .ex c d h1 => .ex c d h1
  | .no => .no
theorem tz_chain {op op' : Op2} {rd rd' : R2} {k : ZE} (ho : OpZ G op rd) (ho' : OpZ G op' rd') : ∀ σ H Q, tz G Wx (zChain op op' f g k) σ H Q → tChain rd rd' (tz G Wx f) (tz G Wx g) (tz G Wx k) σ H Q := by
  intro σ H Q q
  obtain ⟨r, s, h, S, HR, z⟩ := q
  refine ⟨r, s, h, S, HR, ?_⟩
  unfold zChain at z
  cases e1 : f s h with
  | no => rw [e1] at z; exact z
  | ex c d h1 => rw [e1] at z; exact z
  | ok x h1 =>
    simp only [e1] at z
    intro r1 H1 E1 w1
    refine ⟨r1, s, h1, S.ext E1, E1.rel, ?_⟩
    cases e2 : g s h1 with
    | no => simp only [e2] at z; exact z
    | ex c d h2 =>
      simp only [e2] at z
      exact fun r2 H2 E2 hd => z r2 H2 (E1.trans E2) hd
    | ok y h2 =>
      simp only [e2] at z
      intro r2 H2 E2 w2
      rw [← W.v_agr w1 E2.agr]
      refine ho Wx r2 h2 H2 σ x y _ E2.rel (W.wf_le w1 E2.le) w2 ?_
      cases e3 : op x y h2 with
      | no => simp only [e3] at z; exact z
      | ex c d h3 =>
        simp only [e3] at z
        exact fun r3 H3 E3 hd => z r3 H3 ((E1.trans E2).trans E3) hd
      | ok b h3 =>
        simp only [e3] at z
        intro r3 H3 E3 w3
        cases b with
        | bl b =>
          refine ⟨b, rfl, ?_⟩
          cases b with
          | false =>
            rw [if_neg Bool.false_ne_true]
            exact z r3 H3 ((E1.trans E2).trans E3) rfl
          | true =>
            rw [if_pos rfl]
            refine ⟨r3, s, h3, S.ext ((E1.trans E2).trans E3), E3.rel, ?_⟩
            cases e4 : k s h3 with
            | no => simp only [e4] at z; exact z
            | ex c d h4 =>
              simp only [e4] at z
              exact fun r4 H4 E4 hd => z r4 H4 (((E1.trans E2).trans E3).trans E4) hd
            | ok w h4 =>
              simp only [e4] at z
              intro r4 H4 E4 w4
              have ey : y.v G r2 = y.v G r4 := by rw [← W.v_agr w2 (E3.trans E4).agr]
              rw [ey]
              exact ho' Wx r4 h4 H4 σ y w Q E4.rel (W.wf_le w2 (E3.trans E4).le) w4 (RZ.seq (((E1.trans E2).trans E3).trans E4) z)
        | _ => exact z.elim
theorem z_chain {o o' : CmpOp} {op op' : Op2} {rd rd' : R2} {k : ZE} (hr : OpR X (compareOp o) rd) (ho : OpZ G op rd) (hr' : OpR X (compareOp o') rd') (ho' : OpZ G op' rd') (ha : PE X a (tz G Wx f)) (hb : PE X b (tz G Wx g)) (hc : PE X c (tz G Wx k))
    (hm : lastMarks [o, o'] [b, c] = false) : PE X (.Compare a [o, o'] [b, c] pos) (tz G Wx (zChain op op' f g k)) := PE.imp (pe_chain hr hr' ha hb hc hm) (tz_chain ho ho')
theorem z_chainT {o o' : CmpOp} {op op' : Op2} {rd rd' : R2} {k : ZE} (hr : OpR X (compareOp o) rd) (ho : OpZ G op rd) (hr' : OpR X (compareOp o') rd') (ho' : OpZ G op' rd') (ha : PE X a (tz G Wx f)) (hb : PE X b (tz G Wx g)) (hc : PE X c (tz G Wx k))
    (hm : lastMarks [o, o'] [b, c] = false) : PT X (.Compare a [o, o'] [b, c] pos) (tzT G Wx (zBl (zChain op op' f g k))) :=
  PT.imp (pt_chain hr hr' ha hb hc hm) fun σ H Q q => tz_chain ho ho' σ H _ (tz_bl q)

/-! ### arguments, displays -/
def zNil : ZA := fun _ h => .ok [] h
def zCons (f : ZE) (g : ZA) : ZA := fun s h => match f s h with
  | .ok w h1 => (match g s h1 with
    | .ok ws h2 => .ok (w :: ws) h2
    | .ex c d h2 => .ex c d h2
    | .no => .no)
  | .ex c d h1 => .ex c d h1
  | .no => .no
theorem z_nil : PA X [] (tzA G Wx zNil) := by
  refine PA.imp pa_nil fun σ H Q q => ?_
  obtain ⟨r, s, h, S, HR, z⟩ := q
  exact z r H (Ext.refl HR) rfl
theorem z_cons {e : PySem.Expr} {es : List PySem.Expr} {k : ZA} (he : PE X e (tz G Wx f)) (h : PA X es (tzA G Wx k)) (hs : starEach (e :: es) X.env = (false, eval e X.env) :: starEach es X.env) :
    PA X (e :: es) (tzA G Wx (zCons f k)) := by
  refine PA.imp (pa_cons he h hs) fun σ H Q q => ?_
  obtain ⟨r, s, h, S, HR, z⟩ := q
  refine ⟨r, s, h, S, HR, ?_⟩
  unfold zCons at z
  cases e1 : f s h with
  | no => rw [e1] at z; exact z
  | ex c d h1 => rw [e1] at z; exact z
  | ok w h1 =>
    simp only [e1] at z
    intro r1 H1 E1 w1
    refine ⟨r1, s, h1, S.ext E1, E1.rel, ?_⟩
    cases e2 : k s h1 with
    | no => simp only [e2] at z; exact z
    | ex c d h2 =>
      simp only [e2] at z
      exact fun r2 H2 E2 hd => z r2 H2 (E1.trans E2) hd
    | ok ws h2 =>
      simp only [e2] at z
      intro r2 H2 E2 w2
      have hw : wfs h2.n (w :: ws) = true := by
        show (w.wf h2.n && wfs h2.n ws) = true
        rw [W.wf_le w1 E2.le, w2]; rfl
      have k2 := z r2 H2 (E1.trans E2) hw
      have e3 : vsV G r2 (w :: ws) = w.v G r1 :: vsV G r2 ws := by show w.v G r2 :: _ = _; rw [W.v_agr w1 E2.agr]
      rw [e3] at k2
      exact k2
def zLst (f : ZA) : ZE := fun s h => match f s h with
  | .ok ws h1 => if ws.length ≤ line then .ok (.ref h1.n) (h1.push (.lst ws)) else .no
  | .ex c d h1 => .ex c d h1
  | .no => .no
def zTup (f : ZA) : ZE := fun s h => match f s h with
  | .ok ws h1 => if ws.length ≤ line then .ok (.ref h1.n) (h1.push (.tup ws)) else .no
  | .ex c d h1 => .ex c d h1
  | .no => .no
theorem z_lst {es : List PySem.Expr} {k : ZA} (h : PA X es (tzA G Wx k)) : PE X (.List es pos) (tz G Wx (zLst k)) := by
  refine PE.imp (pe_lst h) fun σ H Q q => ?_
  obtain ⟨r, s, h, S, HR, z⟩ := q
  refine ⟨r, s, h, S, HR, ?_⟩
  unfold zLst at z
  cases e1 : k s h with
  | no => rw [e1] at z; exact z
  | ex c d h1 => rw [e1] at z; exact z
  | ok ws h1 =>
    simp only [e1] at z
    intro r1 H1 E1 w1
    split at z
    · rename_i q
      exact ⟨by simpa using line_le q, new_lst E1.rel w1 (RZ.seq E1 z)⟩
    · exact z.elim
theorem z_tup {es : List PySem.Expr} {x1 : Nat} {k : ZA} (h : PA X es (tzA G Wx k)) : PE X (.Tuple es x1 pos) (tz G Wx (zTup k)) := by
  refine PE.imp (pe_tup h) fun σ H Q q => ?_
  obtain ⟨r, s, h, S, HR, z⟩ := q
  refine ⟨r, s, h, S, HR, ?_⟩
  unfold zTup at z
  cases e1 : k s h with
  | no => rw [e1] at z; exact z
  | ex c d h1 => rw [e1] at z; exact z
  | ok ws h1 =>
    simp only [e1] at z
    intro r1 H1 E1 w1
    split at z
    · rename_i q
      exact ⟨by simpa using line_le q, new_tup E1.rel w1 (RZ.seq E1 z)⟩
    · exact z.elim
end
end Zd

namespace Zd
open PySem PySem.Spec PyProof.Rows L2

/-! ### built-ins on values -/
abbrev OpL := List W → VH → R W
def zCall (op : OpL) (f : ZA) : ZE := fun s h => match f s h with
  | .ok ws h1 => op ws h1
  | .ex c d h1 => .ex c d h1
  | .no => .no
def CallZ (G : Gm) (op : OpL) (rd : List V → Hp → VK → Prop) : Prop := ∀ (Wx : WX) (r : Rho) (h : VH) (H : Hp) (σ : L2.St) (xs : List W) (Q : VK), HRel G r h H → wfs h.n xs = true → RZ G Wx r h H σ Q (op xs h) → rd (vsV G r xs) H Q
section
variable {X : Cx} {G : Gm} {Wx : WX} {ex : PySem.Expr} {f g : ZE} {k : ZA}
theorem tz_cb {op : OpL} {rd : List V → Hp → VK → Prop} (ho : CallZ G op rd) : ∀ σ H Q, tz G Wx (zCall op k) σ H Q → tCB rd (tzA G Wx k) σ H Q := by
  intro σ H Q q
  obtain ⟨r, s, h, S, HR, z⟩ := q
  refine ⟨r, s, h, S, HR, ?_⟩
  unfold zCall at z
  cases e1 : k s h with
  | no => rw [e1] at z; exact z
  | ex c d h1 => rw [e1] at z; exact z
  | ok ws h1 =>
    simp only [e1] at z
    intro r1 H1 E1 w1
    exact ho Wx r1 h1 H1 σ ws Q E1.rel w1 (RZ.seq E1 z)
theorem z_cb {op : OpL} {rd : List V → Hp → VK → Prop} (p : PE X ex (tCB rd (tzA G Wx k))) (ho : CallZ G op rd) : PE X ex (tz G Wx (zCall op k)) := PE.imp p (tz_cb ho)
/-- any expression of two parts -/
theorem z_op {op : Op2} {rd : R2} (p : PE X ex (tOp rd (tz G Wx f) (tz G Wx g))) (ho : OpZ G op rd) : PE X ex (tz G Wx (zBin op f g)) := PE.imp p (tz_bin ho)

/-! ### a method of a built-in type -/
abbrev OpM := W → List W → VH → R W
def zBm (op : OpM) (f : ZE) (k : ZA) : ZE := fun s h => match f s h with
  | .ok w h1 => (match k s h1 with
    | .ok ws h2 => op w ws h2
    | .ex c d h2 => .ex c d h2
    | .no => .no)
  | .ex c d h1 => .ex c d h1
  | .no => .no
def MthZ (G : Gm) (op : OpM) (rd : V → List V → Hp → VK → Prop) : Prop := ∀ (Wx : WX) (r : Rho) (h : VH) (H : Hp) (σ : L2.St) (x : W) (xs : List W) (Q : VK), HRel G r h H → x.wf h.n = true → wfs h.n xs = true → RZ G Wx r h H σ Q (op x xs h) → rd (x.v G r) (vsV G r xs) H Q
/-- a list, dict of ours (ahead of the arguments) -/
def isLst (h : VH) : W → Bool
  | .ref i => match h.get i with
    | some (.lst _) => true
    | _ => false
  | _ => false
def isStr : W → Bool
  | .str _ => true
  | _ => false
def zBmL (op : OpM) (f : ZE) (k : ZA) : ZE := fun s h => match f s h with
  | .ok w h1 => if isLst h1 w then (match k s h1 with
    | .ok ws h2 => op w ws h2
    | .ex c d h2 => .ex c d h2
    | .no => .no) else .no
  | .ex c d h1 => .ex c d h1
  | .no => .no
theorem isLst_ok {K : PySem.W.Frag} {r : Rho} {h : VH} {H : Hp} {w : W} (HR : HRel G r h H) (e : isLst h w = true) : tyV K "list" (w.v G r) H := by
  cases w with
  | ref i =>
    have e1 : (match h.get i with
      | some (.lst _) => true
      | _ => false) = true := e
    cases q : h.get i with
    | none => rw [q] at e1; cases e1
    | some o =>
      rw [q] at e1
      cases o with
      | lst xs => exact .inl ⟨rfl, _, .inl (.inl (HR.at_ i _ q))⟩
      | _ => cases e1
  | _ => cases e
theorem z_bmL {op : OpM} {rd : V → List V → Hp → VK → Prop} (p : PE X ex (tBM X.K "list" rd (tz G Wx f) (tzA G Wx k))) (ho : MthZ G op rd) : PE X ex (tz G Wx (zBmL op f k)) := by
  refine PE.imp p fun σ H Q q => ?_
  obtain ⟨r, s, h, S, HR, z⟩ := q
  refine ⟨r, s, h, S, HR, ?_⟩
  unfold zBmL at z
  cases e1 : f s h with
  | no => rw [e1] at z; exact z
  | ex c d h1 => rw [e1] at z; exact z
  | ok w h1 =>
    simp only [e1] at z
    intro r1 H1 E1 w1
    split at z
    · rename_i hl
      refine ⟨isLst_ok E1.rel hl, r1, s, h1, S.ext E1, E1.rel, ?_⟩
      cases e2 : k s h1 with
      | no => simp only [e2] at z; exact z
      | ex c d h2 =>
        simp only [e2] at z
        exact fun r2 H2 E2 hd => z r2 H2 (E1.trans E2) hd
      | ok ws h2 =>
        simp only [e2] at z
        intro r2 H2 E2 w2
        rw [← W.v_agr w1 E2.agr]
        exact ho Wx r2 h2 H2 σ w ws Q E2.rel (W.wf_le w1 E2.le) w2 (RZ.seq (E1.trans E2) z)
    · exact z.elim
theorem z_bm0L {op : OpM} {rd : V → List V → Hp → VK → Prop} (p : PE X ex (tBM0 X.K "list" rd (tz G Wx f))) (ho : MthZ G op rd) : PE X ex (tz G Wx (zBmL op f zNil)) := by
  refine PE.imp p fun σ H Q q => ?_
  obtain ⟨r, s, h, S, HR, z⟩ := q
  refine ⟨r, s, h, S, HR, ?_⟩
  unfold zBmL at z
  cases e1 : f s h with
  | no => rw [e1] at z; exact z
  | ex c d h1 => rw [e1] at z; exact z
  | ok w h1 =>
    simp only [e1] at z
    intro r1 H1 E1 w1
    split at z
    · rename_i hl
      exact ⟨isLst_ok E1.rel hl, ho Wx r1 h1 H1 σ w [] Q E1.rel w1 rfl (RZ.seq E1 z)⟩
    · exact z.elim
def opAppend : OpM := fun w ws h => match w, ws with
  | .ref i, [y] => (match h.get i with
    | some (.lst xs) => if xs.length < line then .ok .non (h.set i (.lst (xs ++ [y]))) else .no
    | _ => .no)
  | _, _ => .no
theorem wfs_one {n : Nat} {w : W} (h : w.wf n = true) : wfs n [w] = true := by
  show (w.wf n && true) = true
  rw [h]; rfl
theorem mz_append : MthZ G opAppend rAppend := by
  intro Wx r h H σ x xs Q HR wx ws z
  unfold opAppend at z
  split at z
  · rename_i i y
    split at z
    · rename_i ys e
      split at z
      · rename_i hl
        have wy : y.wf h.n = true := by
          have h1 : (y.wf h.n && true) = true := ws
          simpa using h1
        refine ⟨r i, vsV G r ys, y.v G r, rfl, rfl, HR.at_ i _ e, by simpa using line_lt hl, ?_⟩
        have E := Ext.set (u := .lst (vsV G r ys ++ [y.v G r])) (o := .lst (ys ++ [y])) HR e (wfs_append (HR.wf i _ e) (wfs_one wy)) (by
          show upd H (r i) _ (r i) = some (.lst (vsV G r (ys ++ [y])))
          rw [upd_same]; unfold vsV; rw [List.map_append]; rfl)
        exact z r _ E rfl
      · exact z.elim
    · exact z.elim
  · exact z.elim
def opPop : OpM := fun w ws h => match w, ws with
  | .ref i, [] => (match h.get i with
    | some (.lst xs) => (match xs[xs.length - 1]? with
      | some y => .ok y (h.set i (.lst xs.dropLast))
      | none => .no)
    | _ => .no)
  | _, _ => .no
theorem wfs_get {n : Nat} {xs : List W} {i : Nat} {w : W} (h : wfs n xs = true) (e : xs[i]? = some w) : w.wf n = true := by
  unfold wfs at h
  rw [List.all_eq_true] at h
  exact h w (List.mem_of_getElem? e)
theorem wfs_sub {n : Nat} {xs ys : List W} (h : wfs n xs = true) (s : ∀ w ∈ ys, w ∈ xs) : wfs n ys = true := by
  unfold wfs at *
  rw [List.all_eq_true] at *
  exact fun w hw => h w (s w hw)
theorem mz_pop : MthZ G opPop rPop := by
  intro Wx r h H σ x xs Q HR wx ws z
  unfold opPop at z
  split at z
  · rename_i i
    split at z
    · rename_i ys e
      split at z
      · rename_i y ey
        refine ⟨r i, vsV G r ys, y.v G r, rfl, rfl, HR.at_ i _ e, ?_, ?_⟩
        · rw [vsV, List.length_map, List.getElem?_map, ey]; rfl
        · have E := Ext.set (u := .lst (vsV G r ys).dropLast) (o := .lst ys.dropLast) HR e (wfs_sub (HR.wf i _ e) fun w hw => List.dropLast_subset _ hw) (by
            show upd H (r i) _ (r i) = some (.lst (vsV G r ys.dropLast))
            rw [upd_same, vsV, vsV, List.map_dropLast])
          exact z r _ E (wfs_get (HR.wf i _ e) ey)
      · exact z.elim
    · exact z.elim
  · exact z.elim

/-! ### len, int, list, tuple -/
def opLen : OpL := fun ws h => match ws with
  | [.str y] => if y.length ≤ line then .ok (.int y.length) h else .no
  | [w] => (match seqOf h w with
    | some xs => .ok (.int xs.length) h
    | none => .no)
  | _ => .no
theorem cz_len {K : PySem.W.Frag} : CallZ G opLen (fun xs H Q => ∃ x n, xs = [x] ∧ LenV K x H n ∧ Q (.int n) H) := by
  intro Wx r h H σ xs Q HR wx z
  unfold opLen at z
  split at z
  · split at z
    · rename_i y hl
      exact ⟨.str y, y.length, rfl, ⟨line_le hl, rfl⟩, z r H (Ext.refl HR) rfl⟩
    · exact z.elim
  · rename_i w _
    split at z
    · rename_i ys e
      obtain ⟨p, e1, e2, e3⟩ := seqOf_ok (K := K) HR e
      refine ⟨w.v G r, ys.length, rfl, ?_, z r H (Ext.refl HR) rfl⟩
      rw [e1]
      rcases e2 with e2 | e2
      · exact .inl ⟨_, e2, by simp⟩
      · exact .inr ⟨_, e2, by simp⟩
    · exact z.elim
  · exact z.elim
def opInt : OpL := fun ws h => match ws with
  | [.int i] => .ok (.int i) h
  | [.bl b] => .ok (.int (if b then 1 else 0)) h
  | _ => .no
theorem cz_int : CallZ G opInt (fun xs H Q => (∃ i, xs = [.int i] ∧ Q (.int i) H) ∨ ∃ k, xs = [.bl k] ∧ Q (.int (if k then 1 else 0)) H) := by
  intro Wx r h H σ xs Q HR wx z
  unfold opInt at z
  split at z
  · exact .inl ⟨_, rfl, z r H (Ext.refl HR) rfl⟩
  · exact .inr ⟨_, rfl, z r H (Ext.refl HR) rfl⟩
  · exact z.elim
def opOrd : OpL := fun ws h => match ws with
  | [.str x] => if x.length = 1 then .ok (.int (x.cps.getD 0 0 : Nat)) h else .no
  | _ => .no
theorem cz_ord : CallZ G opOrd (fun xs H Q => ∃ x, xs = [.str x] ∧ x.length = 1 ∧ Q (.int (x.cps.getD 0 0 : Nat)) H) := by
  intro Wx r h H σ xs Q HR wx z
  unfold opOrd at z
  split at z
  · split at z
    · rename_i q
      exact ⟨_, rfl, q, z r H (Ext.refl HR) rfl⟩
    · exact z.elim
  · exact z.elim
def opList : OpL := fun ws h => match ws with
  | [w] => (match seqOf h w with
    | some xs => .ok (.ref h.n) (h.push (.lst xs))
    | none => .no)
  | _ => .no
theorem cz_list {K : PySem.W.Frag} : CallZ G opList (fun xs H Q => ∃ p ys, xs = [.ref p] ∧ (SqL K H p ys ∨ SqT K H p ys) ∧ ∀ l, H l = none → Q (.ref l) (upd H l (.lst ys))) := by
  intro Wx r h H σ xs Q HR wx z
  unfold opList at z
  split at z
  · rename_i w
    split at z
    · rename_i ys e
      obtain ⟨p, e1, e2, e3⟩ := seqOf_ok (K := K) HR e
      refine ⟨p, vsV G r ys, by show [w.v G r] = _; rw [e1], e2, new_lst HR e3 z⟩
    · exact z.elim
  · exact z.elim
def opTuple : OpL := fun ws h => match ws with
  | [w] => (match lstOf h w with
    | some xs => .ok (.ref h.n) (h.push (.tup xs))
    | none => (match tupOf h w with
      | some _ => .ok w h
      | none => .no))
  | _ => .no
theorem cz_tuple {K : PySem.W.Frag} : CallZ G opTuple (fun xs H Q => ∃ p ys, xs = [.ref p] ∧ ((SqL K H p ys ∧ ∀ l, H l = none → Q (.ref l) (upd H l (.tup ys))) ∨ (SqT K H p ys ∧ Q (.ref p) H))) := by
  intro Wx r h H σ xs Q HR wx z
  unfold opTuple at z
  split at z
  · rename_i w
    split at z
    · rename_i ys e
      obtain ⟨p, e1, e2, e3⟩ := lstOf_ok (K := K) HR e
      exact ⟨p, vsV G r ys, by show [w.v G r] = _; rw [e1], .inl ⟨e2, new_tup HR e3 z⟩⟩
    · split at z
      · rename_i ys e
        obtain ⟨p, e1, e2, e3⟩ := tupOf_ok (K := K) HR e
        refine ⟨p, vsV G r ys, by show [w.v G r] = _; rw [e1], .inr ⟨e2, ?_⟩⟩
        have k := z r H (Ext.refl HR) (by
          have h1 : (w.wf h.n && true) = true := wx
          simpa using h1)
        rw [e1] at k
        exact k
      · exact z.elim
  · exact z.elim

/-! ### subscripts -/
theorem atI_map {r : Rho} {xs : List W} {i : Int} {w : W} (e : atI xs i = some w) : atI (vsV G r xs) i = some (w.v G r) := by
  unfold atI at *
  rw [vsV, List.length_map]
  cases q : ixN xs.length i with
  | none => rw [q] at e; cases e
  | some j =>
    rw [q] at e
    have e1 : xs[j]? = some w := e
    show (xs.map (W.v G r))[j]? = _
    rw [List.getElem?_map, e1]; rfl
theorem atI_mem {xs : List W} {i : Int} {w : W} (e : atI xs i = some w) : w ∈ xs := by
  unfold atI at e
  cases q : ixN xs.length i with
  | none => rw [q] at e; cases e
  | some j =>
    rw [q] at e
    exact List.mem_of_getElem? (show xs[j]? = some w from e)
def opIx : Op2 := fun a b h => match b with
  | .int i => (match a with
    | .str z => if z.length ≤ line then (match atI z.cps.toList i with
      | some c => .ok (.str ⟨#[c]⟩) h
      | none => .no) else .no
    | a => (match seqOf h a with
      | some xs => (match atI xs i with
        | some w => .ok w h
        | none => .no)
      | none => .no))
  | _ => .no
theorem oz_ix {K : PySem.W.Frag} : OpZ G opIx (rIx K) := by
  intro Wx r h H σ x y Q HR wx wy z
  unfold opIx at z
  split at z
  · rename_i i
    split at z
    · rename_i zz
      split at z
      · rename_i hl
        split at z
        · rename_i c e
          exact .inr (.inr ⟨zz, i, c, rfl, rfl, line_le hl, e, z r H (Ext.refl HR) rfl⟩)
        · exact z.elim
      · exact z.elim
    · split at z
      · rename_i ys e
        split at z
        · rename_i w ew
          obtain ⟨p, e1, e2, e3⟩ := seqOf_ok (K := K) HR e
          have k := z r H (Ext.refl HR) (by
            unfold wfs at e3
            rw [List.all_eq_true] at e3
            exact e3 w (atI_mem ew))
          rcases e2 with e2 | e2
          · exact .inl ⟨p, _, i, _, e1, rfl, e2, atI_map ew, k⟩
          · exact .inr (.inl ⟨p, _, i, _, e1, rfl, e2, atI_map ew, k⟩)
        · exact z.elim
      · exact z.elim
  · exact z.elim
/-- a dict's entry -/
def dicOf (h : VH) : W → Option (List (Key × W))
  | .ref i => match h.get i with
    | some (.dic kvs) => some kvs
    | _ => none
  | _ => none
def keyW : W → Option Key
  | .int i => some (.inl i)
  | .str x => some (.inr x)
  | _ => none
def findW (k : Key) : List (Key × W) → Option W
  | [] => none
  | p :: r => if decide (p.1 = k) then some p.2 else findW k r
theorem keyW_ok {r : Rho} {w : W} {k : Key} (e : keyW w = some k) : w.v G r = kV k := by
  cases w with
  | int i => cases e; rfl
  | str i => cases e; rfl
  | _ => cases e
theorem findW_ok {r : Rho} {k : Key} : ∀ {kvs : List (Key × W)}, valV (kvV G r kvs) k = (findW k kvs).map (W.v G r)
  | [] => rfl
  | p :: kvs => by
    unfold valV kvV findW
    rw [List.map_cons, List.find?_cons]
    by_cases e : p.1 = k
    · rw [decide_eq_true (show (p.1, p.2.v G r).1 = k from e)]; rfl
    · rw [decide_eq_false (show ¬ (p.1, p.2.v G r).1 = k from e)]
      exact findW_ok (kvs := kvs)
theorem findW_wf {n : Nat} {k : Key} {w : W} : ∀ {kvs : List (Key × W)}, (kvs.all fun p => p.2.wf n) = true → findW k kvs = some w → w.wf n = true
  | [], _, e => by cases e
  | p :: kvs, h, e => by
    have h1 : (p.2.wf n && kvs.all fun p => p.2.wf n) = true := h
    rw [Bool.and_eq_true] at h1
    unfold findW at e
    split at e
    · cases e; exact h1.1
    · exact findW_wf h1.2 e
theorem dicOf_ok {r : Rho} {h : VH} {H : Hp} {w : W} {kvs : List (Key × W)} (HR : HRel G r h H) (e : dicOf h w = some kvs) : ∃ i, w = .ref i ∧ h.get i = some (.dic kvs) ∧ H (r i) = some (.dK (kvV G r kvs)) ∧ (kvs.all fun p => p.2.wf h.n) = true := by
  cases w with
  | ref i =>
    have e1 : (match h.get i with
      | some (.dic kvs) => some kvs
      | _ => none) = some kvs := e
    cases q : h.get i with
    | none => rw [q] at e1; cases e1
    | some o =>
      rw [q] at e1
      cases o with
      | dic ys => cases e1; exact ⟨i, rfl, q, HR.at_ i _ q, HR.wf i _ q⟩
      | _ => cases e1
  | _ => cases e
def opDget : Op2 := fun a b h => match dicOf h a, keyW b with
  | some kvs, some k => (match findW k kvs with
    | some w => .ok w h
    | none => .no)
  | _, _ => .no
theorem oz_dget : OpZ G opDget (fun x y H Q => ∃ a v, x = .ref a ∧ DGet H a y (some v) ∧ Q v H) := by
  intro Wx r h H σ x y Q HR wx wy z
  unfold opDget at z
  split at z
  · rename_i kvs k e1 e2
    split at z
    · rename_i w e3
      obtain ⟨i, rfl, g, a, wf⟩ := dicOf_ok HR e1
      refine ⟨r i, w.v G r, rfl, ?_, z r H (Ext.refl HR) (findW_wf wf e3)⟩
      rw [keyW_ok e2]
      have q := DGet.k (k := k) a
      rw [findW_ok, e3] at q
      exact q
    · exact z.elim
  · exact z.elim
/-- d[k] of a dict, or an item of a sequence -/
def opItem : Op2 := fun a b h => match dicOf h a with
  | some _ => opDget a b h
  | none => opIx a b h
theorem z_sub (p1 : PE X ex (tOp (rIx X.K) (tz G Wx f) (tz G Wx g))) (p2 : PE X ex (tDGet (tz G Wx f) (tz G Wx g))) : PE X ex (tz G Wx (zBin opItem f g)) := by
  have q1 := PE.imp p1 (tz_bin (Wx := Wx) (f := f) (g := g) oz_ix)
  have q2 := PE.imp p2 (t' := tz G Wx (zBin opDget f g)) (fun σ H Q => tz_bin (Wx := Wx) (f := f) (g := g) oz_dget σ H Q)
  refine ⟨fun pins s σ H Q I q => ?_⟩
  obtain ⟨r, vs, h, S, HR, z⟩ := q
  have go : ∀ {op : Op2}, (∀ a b h2, f vs h = .ok a h2 → ∀ h3, g vs h2 = .ok b h3 → opItem a b h3 = op a b h3) → RZ G Wx r h H σ Q (zBin op f g vs h) := by
    intro op hq
    unfold zBin at z ⊢
    cases e1 : f vs h with
    | no => rw [e1] at z; exact z
    | ex c d h1 => rw [e1] at z; exact z
    | ok a h1 =>
      simp only [e1] at z ⊢
      cases e2 : g vs h1 with
      | no => simp only [e2] at z; exact z
      | ex c d h2 => simp only [e2] at z ⊢; exact z
      | ok b h2 =>
        simp only [e2] at z ⊢
        rw [← hq a b h1 e1 h2 e2]
        exact z
  cases e1 : f vs h with
  | no =>
    refine q1.run pins s σ H Q I ⟨r, vs, h, S, HR, go (op := opIx) fun a b h2 q => ?_⟩
    rw [e1] at q; cases q
  | ex c d h1 =>
    refine q1.run pins s σ H Q I ⟨r, vs, h, S, HR, go (op := opIx) fun a b h2 q => ?_⟩
    rw [e1] at q; cases q
  | ok a h1 =>
    cases e2 : g vs h1 with
    | no =>
      refine q1.run pins s σ H Q I ⟨r, vs, h, S, HR, go (op := opIx) fun a b h2 q h3 q2 => ?_⟩
      rw [e1] at q; cases q
      rw [e2] at q2; cases q2
    | ex c d h2 =>
      refine q1.run pins s σ H Q I ⟨r, vs, h, S, HR, go (op := opIx) fun a b h2 q h3 q2 => ?_⟩
      rw [e1] at q; cases q
      rw [e2] at q2; cases q2
    | ok b h2 =>
      cases e3 : dicOf h2 a with
      | none =>
        refine q1.run pins s σ H Q I ⟨r, vs, h, S, HR, go (op := opIx) fun a' b' h2' q h3 q2 => ?_⟩
        rw [e1] at q; cases q
        rw [e2] at q2; cases q2
        unfold opItem; rw [e3]
      | some kvs =>
        refine q2.run pins s σ H Q I ⟨r, vs, h, S, HR, go (op := opDget) fun a' b' h2' q h3 q2 => ?_⟩
        rw [e1] at q; cases q
        rw [e2] at q2; cases q2
        unfold opItem; rw [e3]
end
end Zd

namespace Zd
open PySem PySem.Spec PyProof.Rows L2

theorem blt_of {a b : Nat} (h : a < b) : Nat.blt a b = true := by
  show Nat.ble (a + 1) b = true
  exact Nat.ble_eq_true_of_le h
theorem of_blt {a b : Nat} (h : Nat.blt a b = true) : a < b := Nat.le_of_ble_eq_true h
/-! ### attributes -/
def lookF (m : Nat) : List (Nat × W) → Option W
  | [] => none
  | p :: r => if Nat.beq p.1 m then some p.2 else lookF m r
def putW (m : Nat) (w : W) : List (Nat × W) → List (Nat × W)
  | [] => [(m, w)]
  | p :: r => if Nat.beq p.1 m then (p.1, w) :: r else p :: putW m w r
section
variable {G : Gm} {r : Rho} {n m : Nat} {w : W}
theorem beq_nm {i j : Nat} : (G.nm i == G.nm j) = Nat.beq i j := by
  cases e : Nat.beq i j with
  | true => rw [Nat.eq_of_beq_eq_true e]; simp
  | false =>
    have ne : i ≠ j := fun z => by rw [z, Nat.beq_refl] at e; cases e
    have : ¬ G.nm i = G.nm j := fun z => ne (G.inj _ _ z)
    simpa using this
theorem beq_sw (i j : Nat) : Nat.beq i j = Nat.beq j i := by
  cases e : Nat.beq i j with
  | true => rw [Nat.eq_of_beq_eq_true e, Nat.beq_refl]
  | false =>
    cases e2 : Nat.beq j i with
    | false => rfl
    | true => rw [Nat.eq_of_beq_eq_true e2, Nat.beq_refl] at e; cases e
theorem lookF_ok : ∀ {fs : List (Nat × W)}, (fsV G r fs).lookup (G.nm m) = (lookF m fs).map (W.v G r)
  | [] => rfl
  | p :: fs => by
    unfold fsV lookF
    rw [List.map_cons, List.lookup_cons]
    rw [show (G.nm m == (G.nm p.1, p.2.v G r).1) = Nat.beq p.1 m from by rw [show (G.nm p.1, p.2.v G r).1 = G.nm p.1 from rfl, beq_nm, beq_sw]]
    cases Nat.beq p.1 m with
    | true => rfl
    | false => exact lookF_ok (fs := fs)
theorem lookF_wf {w : W} : ∀ {fs : List (Nat × W)}, (fs.all fun p => p.2.wf n) = true → lookF m fs = some w → w.wf n = true
  | [], _, e => by cases e
  | p :: fs, h, e => by
    have h1 : (p.2.wf n && fs.all fun p => p.2.wf n) = true := h
    rw [Bool.and_eq_true] at h1
    unfold lookF at e
    split at e
    · cases e; exact h1.1
    · exact lookF_wf h1.2 e
theorem putW_ok : ∀ {fs : List (Nat × W)}, fsV G r (putW m w fs) = putF (G.nm m) (w.v G r) (fsV G r fs)
  | [] => rfl
  | p :: fs => by
    show fsV G r (if Nat.beq p.1 m then (p.1, w) :: fs else p :: putW m w fs) = (if G.nm p.1 = G.nm m then (G.nm p.1, w.v G r) :: fsV G r fs else (G.nm p.1, p.2.v G r) :: putF (G.nm m) (w.v G r) (fsV G r fs))
    cases e : Nat.beq p.1 m with
    | true =>
      rw [if_pos rfl, if_pos (by rw [Nat.eq_of_beq_eq_true e])]; rfl
    | false =>
      have ne : ¬ G.nm p.1 = G.nm m := fun z => by rw [G.inj _ _ z, Nat.beq_refl] at e; cases e
      rw [if_neg Bool.false_ne_true, if_neg ne, ← putW_ok (fs := fs)]; rfl
theorem putW_wf (hw : w.wf n = true) : ∀ {fs : List (Nat × W)}, (fs.all fun p => p.2.wf n) = true → ((putW m w fs).all fun p => p.2.wf n) = true
  | [], _ => by show (w.wf n && true) = true; rw [hw]; rfl
  | p :: fs, h => by
    have h1 : (p.2.wf n && fs.all fun p => p.2.wf n) = true := h
    rw [Bool.and_eq_true] at h1
    unfold putW
    split
    · show (w.wf n && fs.all fun p => p.2.wf n) = true
      rw [hw, h1.2]; rfl
    · show (p.2.wf n && (putW m w fs).all fun p => p.2.wf n) = true
      rw [h1.1, putW_wf hw h1.2]; rfl
theorem putW_len : ∀ {fs : List (Nat × W)}, (putW m w fs).length ≤ fs.length + 1
  | [] => Nat.le_refl _
  | p :: fs => by
    unfold putW
    split
    · show fs.length + 1 ≤ fs.length + 1 + 1; omega
    · show (putW m w fs).length + 1 ≤ fs.length + 1 + 1
      have := putW_len (fs := fs); omega
end
/-- an instance of ours -/
def insOf (h : VH) : W → Option (Nat × List (Nat × W))
  | .ref i => match h.get i with
    | some (.ins c fs) => some (c, fs)
    | _ => none
  | _ => none
section
variable {X : Cx} {G : Gm} {Wx : WX} {ex : PySem.Expr} {f g fo : ZE} {k : ZA} {m n : Nat}
theorem insOf_ok {r : Rho} {h : VH} {H : Hp} {w : W} {c : Nat} {fs : List (Nat × W)} (HR : HRel G r h H) (e : insOf h w = some (c, fs)) :
    ∃ i dx, w = .ref i ∧ h.get i = some (.ins c fs) ∧ H (r i) = some (.ins (G.ga c) dx (fsV G r fs)) ∧ (fs.all fun p => p.2.wf h.n) = true := by
  cases w with
  | ref i =>
    have e1 : (match h.get i with
      | some (.ins c fs) => some (c, fs)
      | _ => none) = some (c, fs) := e
    cases q : h.get i with
    | none => rw [q] at e1; cases e1
    | some o =>
      rw [q] at e1
      cases o with
      | ins c2 ys =>
        cases e1
        obtain ⟨dx, a⟩ := HR.at_ i _ q
        exact ⟨i, dx, rfl, q, a, HR.wf i _ q⟩
      | _ => cases e1
  | _ => cases e
/-- e.m, a field; ok: the classes that have it -/
def zFld (ok : Nat → Bool) (m : Nat) (f : ZE) : ZE := fun s h => match f s h with
  | .ok w h1 => (match insOf h1 w with
    | some (c, fs) => if ok c then (match lookF m fs with
      | some v => .ok v h1
      | none => .no) else .no
    | none => .no)
  | .ex c d h1 => .ex c d h1
  | .no => .no
theorem z_fld {ok : Nat → Bool} (hc : ∀ c, ok c = true → Cls X.K (G.ga c) ∧ NoAttr X.K (G.ga c) (G.nm m)) (p : PE X ex (tFld X.K (tz G Wx f) (G.nm m))) : PE X ex (tz G Wx (zFld ok m f)) := by
  refine PE.imp p fun σ H Q q => ?_
  obtain ⟨r, s, h, S, HR, z⟩ := q
  refine ⟨r, s, h, S, HR, ?_⟩
  unfold zFld at z
  cases e1 : f s h with
  | no => rw [e1] at z; exact z
  | ex c d h1 => rw [e1] at z; exact z
  | ok w h1 =>
    simp only [e1] at z
    intro r1 H1 E1 w1
    cases e2 : insOf h1 w with
    | none => simp only [e2] at z; exact z.elim
    | some cf =>
      obtain ⟨c, fs⟩ := cf
      simp only [e2] at z
      obtain ⟨i, dx, rfl, g, a, wf⟩ := insOf_ok E1.rel e2
      split at z
      · rename_i hok
        cases e3 : lookF m fs with
        | none => simp only [e3] at z; exact z.elim
        | some v =>
          simp only [e3] at z
          obtain ⟨k1, k2⟩ := hc c hok
          exact ⟨r1 i, G.ga c, dx, _, v.v G r1, rfl, a, k1, k2, by rw [lookF_ok, e3]; rfl, z r1 H1 E1 (lookF_wf wf e3)⟩
      · exact z.elim

/-! ### what a def does -/
abbrev Fn := List W → VH → R W
/-- its promise: n arguments -/
def spz (G : Gm) (n : Nat) (f : Fn) : Sp := fun vs H Q E => ∃ r ws h, vs = vsV G r ws ∧ ws.length = n ∧ wfs h.n ws = true ∧ HRel G r h H ∧ RZ G (fun c d _ H => E c d H) r h H [] Q (f ws h)
theorem spz_len {f : Fn} : ∀ vs H Q E, spz G n f vs H Q E → vs.length = n := fun vs H Q E h => by
  obtain ⟨r, ws, hh, rfl, e, _⟩ := h
  rw [vsV, List.length_map, e]
theorem RZ.re {r : Rho} {h : VH} {H : Hp} {σ τ : L2.St} {Q : VK} {W1 W2 : WX} {x : R W} (hw : ∀ c d H, W1 c d σ H → W2 c d τ H) (z : RZ G W1 r h H σ Q x) : RZ G W2 r h H τ Q x := by
  cases x with
  | ok w h' => exact z
  | ex c d h' => exact fun r' H' e hd => hw _ _ _ (z r' H' e hd)
  | no => exact z
def zFn (n : Nat) (f : Fn) (ds : List W) (k : ZA) : ZE := fun s h => match k s h with
  | .ok ws h1 => if (ws ++ ds).length = n then f (ws ++ ds) h1 else .no
  | .ex c d h1 => .ex c d h1
  | .no => .no
theorem app_nil {α : Type} (l : List α) : l ++ [] = l := List.append_nil l
/-- f(a, b): the text's def -/
theorem z_fn {fn : Fn} (p : PE X ex (tCallS (spz G n fn) (WE Wx) (tzA G Wx k))) : PE X ex (tz G Wx (zFn n fn [] k)) := by
  refine PE.imp p fun σ H Q q => ?_
  obtain ⟨r, s, h, S, HR, z⟩ := q
  refine ⟨r, s, h, S, HR, ?_⟩
  unfold zFn at z
  cases e1 : k s h with
  | no => rw [e1] at z; exact z
  | ex c d h1 => rw [e1] at z; exact z
  | ok ws h1 =>
    simp only [e1, app_nil] at z
    intro r1 H1 E1 w1
    split at z
    · rename_i hn
      exact ⟨r1, ws, h1, rfl, hn, w1, E1.rel, RZ.re (fun _ _ _ z => z) (RZ.seq E1 z)⟩
    · exact z.elim
/-- constants as defaults -/
def consts (ds : List W) : Bool := ds.all fun w => match w with
  | .ref _ => false
  | _ => true
theorem consts_wf {ds : List W} (n : Nat) (h : consts ds = true) : wfs n ds = true := by
  unfold consts at h
  unfold wfs
  rw [List.all_eq_true] at *
  intro w hw
  have := h w hw
  cases w with
  | ref i => cases this
  | _ => rfl
theorem z_fnD {fn : Fn} {ds : List W} {dvs : List V} (p : PE X ex (tCallSD (spz G n fn) dvs (WE Wx) (tzA G Wx k))) (hd : ∀ r, vsV G r ds = dvs) (hc : consts ds = true) : PE X ex (tz G Wx (zFn n fn ds k)) := by
  refine PE.imp p fun σ H Q q => ?_
  obtain ⟨r, s, h, S, HR, z⟩ := q
  refine ⟨r, s, h, S, HR, ?_⟩
  unfold zFn at z
  cases e1 : k s h with
  | no => rw [e1] at z; exact z
  | ex c d h1 => rw [e1] at z; exact z
  | ok ws h1 =>
    simp only [e1] at z
    intro r1 H1 E1 w1
    split at z
    · rename_i hn
      exact ⟨r1, ws ++ ds, h1, by
        have q : vsV G r1 (ws ++ ds) = vsV G r1 ws ++ vsV G r1 ds := List.map_append
        rw [q, hd], hn, wfs_append w1 (consts_wf _ hc), E1.rel, RZ.re (fun _ _ _ z => z) (RZ.seq E1 z)⟩
    · exact z.elim
/-- f() -/
theorem z_fn0 {fn : Fn} {E : XK} (hW : ∀ c d σ H, Wx c d σ H → E c d H) (p : PE X ex (tCall (spz G n fn) [] E tNil)) : PE X ex (tz G Wx (zFn n fn [] zNil)) := by
  refine PE.imp p fun σ H Q q => ?_
  obtain ⟨r, s, h, S, HR, z⟩ := q
  have z : RZ G Wx r h H σ Q (if 0 = n then fn [] h else .no) := z
  split at z
  · rename_i hn
    exact ⟨r, [], h, rfl, hn, rfl, HR, RZ.re (fun _ _ _ z => hW _ _ _ _ z) z⟩
  · exact z.elim

/-! ### a new instance -/
def zMk (c n : Nat) (f : Fn) (k : ZA) : ZE := fun s h => match k s h with
  | .ok ws h1 => if ws.length + 1 = n then (match f (.ref h1.n :: ws) (h1.push (.ins c [])) with
    | .ok .non h2 => .ok (.ref h1.n) h2
    | .ok _ _ => .no
    | .ex c d h2 => .ex c d h2
    | .no => .no) else .no
  | .ex c d h1 => .ex c d h1
  | .no => .no
theorem z_mk {c : Nat} {fn : Fn} {E : XK} (hW : ∀ c d σ H, Wx c d σ H → E c d H) (p : PE X ex (tMake (G.ga c) (spz G n fn) [] E (tzA G Wx k))) : PE X ex (tz G Wx (zMk c n fn k)) := by
  refine PE.imp p fun σ H Q q => ?_
  obtain ⟨r, s, h, S, HR, z⟩ := q
  refine ⟨r, s, h, S, HR, ?_⟩
  unfold zMk at z
  cases e1 : k s h with
  | no => rw [e1] at z; exact z
  | ex c d h1 => rw [e1] at z; exact z
  | ok ws h1 =>
    simp only [e1] at z
    intro r1 H1 E1 w1 x dx hx hdx ne
    split at z
    · rename_i hn
      have E2 : Ext G r1 h1 H1 (setR r1 h1.n x) (h1.push (.ins c [])) (upd (upd H1 dx (.own x)) x (.ins (G.ga c) dx [])) := Ext.new E1.rel hx rfl (fun a u e => by
        rw [upd_ne (ne_of_none e hx), upd_ne (ne_of_none e hdx)]; exact e) ⟨dx, upd_same⟩
      have wn : wfs (h1.push (.ins c [])).n (.ref h1.n :: ws) = true := by
        show (Nat.blt h1.n (h1.n + 1) && wfs (h1.n + 1) ws) = true
        rw [blt_self, wfs_le w1 (Nat.le_succ _)]; rfl
      refine ⟨setR r1 h1.n x, .ref h1.n :: ws, _, ?_, by simpa using hn, wn, E2.rel, ?_⟩
      · show V.ref x :: (vsV G r1 ws ++ []) = V.ref (setR r1 h1.n x h1.n) :: vsV G (setR r1 h1.n x) ws
        rw [setR_same, app_nil, vsV_agr w1 fun i q => setR_lt q]
      · cases e2 : fn (.ref h1.n :: ws) (h1.push (.ins c [])) with
        | no => simp only [e2] at z; exact z
        | ex c d h2 =>
          simp only [e2] at z
          exact fun r3 H3 E3 hd => hW _ _ _ _ (z r3 H3 (E1.trans (E2.trans E3)) hd)
        | ok w h2 =>
          simp only [e2] at z
          intro r3 H3 E3 w3
          cases w with
          | non =>
            refine ⟨rfl, ?_⟩
            have lt : h1.n < (h1.push (.ins c [])).n := Nat.lt_succ_self _
            have k3 := z r3 H3 (E1.trans (E2.trans E3)) (by
              show Nat.blt h1.n h2.n = true
              exact blt_of (Nat.lt_of_lt_of_le lt E3.le))
            have e4 : (W.ref h1.n).v G r3 = .ref x := by show V.ref (r3 h1.n) = _; rw [E3.agr _ lt, setR_same]
            rw [e4] at k3
            exact k3
          | _ => exact z.elim
    · exact z.elim

/-! ### methods, properties -/
/-- o.m(..): cs tells each class's def -/
def zMeth (cs : Nat → Option Fn) (m n : Nat) (fo : ZE) (k : ZA) : ZE := fun s h => match fo s h with
  | .ok w h1 => (match insOf h1 w with
    | some (c, fs) => (match cs c, lookF m fs with
      | some fn, none => (match k s h1 with
        | .ok ws h2 => if ws.length + 1 = n then fn (w :: ws) h2 else .no
        | .ex c d h2 => .ex c d h2
        | .no => .no)
      | _, _ => .no)
    | none => .no)
  | .ex c d h1 => .ex c d h1
  | .no => .no
theorem z_meth {cs : Nat → Option Fn} {E : XK} {c0 : Nat} {f0 : Fn} (hW : ∀ c d σ H, Wx c d σ H → E c d H) (h0 : cs c0 = some f0)
    (p : ∀ c fn, cs c = some fn → PE X ex (tMeth (G.ga c) (G.nm m) (spz G n fn) [] E (tz G Wx fo) (tzA G Wx k))) : PE X ex (tz G Wx (zMeth cs m n fo k)) := by
  refine ⟨fun pins s σ H Q I q => ?_⟩
  obtain ⟨r, vs, h, S, HR, z⟩ := q
  unfold zMeth at z
  cases e1 : fo vs h with
  | no => rw [e1] at z; exact z.elim
  | ex c d h1 =>
    rw [e1] at z
    refine (p c0 f0 h0).run pins s σ H Q I ⟨r, vs, h, S, HR, ?_⟩
    rw [e1]; exact z
  | ok w h1 =>
    simp only [e1] at z
    cases e2 : insOf h1 w with
    | none => simp only [e2] at z; exact z.elim
    | some cf =>
      obtain ⟨c, fs⟩ := cf
      simp only [e2] at z
      cases e3 : cs c with
      | none => simp only [e3] at z; exact z.elim
      | some fn =>
        simp only [e3] at z
        cases e4 : lookF m fs with
        | some v => simp only [e4] at z; exact z.elim
        | none =>
          simp only [e4] at z
          refine (p c fn e3).run pins s σ H Q I ⟨r, vs, h, S, HR, ?_⟩
          rw [e1]
          intro r1 H1 E1 w1
          obtain ⟨i, dx, rfl, g, a, wf⟩ := insOf_ok E1.rel e2
          refine ⟨r1 i, dx, _, rfl, a, by rw [lookF_ok, e4]; rfl, r1, vs, h1, S.ext E1, E1.rel, ?_⟩
          cases e5 : k vs h1 with
          | no => simp only [e5] at z; exact z
          | ex c d h2 =>
            simp only [e5] at z
            exact fun r2 H2 E2 hd => z r2 H2 (E1.trans E2) hd
          | ok ws h2 =>
            simp only [e5] at z
            intro r2 H2 E2 w2
            split at z
            · rename_i hn
              have wn : wfs h2.n (.ref i :: ws) = true := by
                show ((W.ref i).wf h2.n && wfs h2.n ws) = true
                rw [W.wf_le w1 E2.le, w2]; rfl
              refine ⟨r2, .ref i :: ws, h2, ?_, by simpa using hn, wn, E2.rel, RZ.re (fun _ _ _ z => hW _ _ _ _ z) (RZ.seq (E1.trans E2) z)⟩
              rw [app_nil]
              show V.ref (r1 i) :: vsV G r2 ws = V.ref (r2 i) :: vsV G r2 ws
              rw [E2.agr i (of_blt w1)]
            · exact z.elim
/-- o.m(), no argument -/
theorem tMeth_nil {C : Addr} {mm : Str} {sp : Sp} {E : XK} {ta : TE} (p : PE X ex (tMeth C mm sp [] E ta tNil)) (hm : ∀ σ H (Q Q' : VK), (∀ v H', Q v H' → Q' v H') → ta σ H Q → ta σ H Q') : PE X ex (tMeth C mm sp [] E ta (tzA G Wx zNil)) := by
  refine PE.imp p fun σ H Q q => hm σ H _ _ (fun v H1 q1 => ?_) q
  obtain ⟨a, dx, fs, e1, e2, e3, r, s, h, S, HR, z⟩ := q1
  exact ⟨a, dx, fs, e1, e2, e3, z r H1 (Ext.refl HR) rfl⟩
theorem tz_mono {f : ZE} : ∀ σ H (Q Q' : VK), (∀ v H', Q v H' → Q' v H') → tz G Wx f σ H Q → tz G Wx f σ H Q' := by
  intro σ H Q Q' hq q
  obtain ⟨r, s, h, S, HR, z⟩ := q
  refine ⟨r, s, h, S, HR, ?_⟩
  cases e : f s h with
  | no => rw [e] at z; exact z
  | ex c d h1 => rw [e] at z; exact z
  | ok w h1 =>
    rw [e] at z
    exact fun r' H' E hw => hq _ _ (z r' H' E hw)
/-- e.p, a property -/
def zProp (cs : Nat → Option Fn) (fo : ZE) : ZE := fun s h => match fo s h with
  | .ok w h1 => (match insOf h1 w with
    | some (c, _) => (match cs c with
      | some fn => (match fn [w] h1 with
        | .ok v h2 => .ok v h2
        | _ => .no)
      | none => .no)
    | none => .no)
  | .ex c d h1 => .ex c d h1
  | .no => .no
theorem z_prop {cs : Nat → Option Fn} {c0 : Nat} {f0 : Fn} (h0 : cs c0 = some f0) (p : ∀ c fn, cs c = some fn → PE X ex (tProp (G.ga c) (spz G 1 fn) [] E0 (tz G Wx fo))) : PE X ex (tz G Wx (zProp cs fo)) := by
  refine ⟨fun pins s σ H Q I q => ?_⟩
  obtain ⟨r, vs, h, S, HR, z⟩ := q
  unfold zProp at z
  cases e1 : fo vs h with
  | no => rw [e1] at z; exact z.elim
  | ex c d h1 =>
    rw [e1] at z
    refine (p c0 f0 h0).run pins s σ H Q I ⟨r, vs, h, S, HR, ?_⟩
    rw [e1]; exact z
  | ok w h1 =>
    simp only [e1] at z
    cases e2 : insOf h1 w with
    | none => simp only [e2] at z; exact z.elim
    | some cf =>
      obtain ⟨c, fs⟩ := cf
      simp only [e2] at z
      cases e3 : cs c with
      | none => simp only [e3] at z; exact z.elim
      | some fn =>
        simp only [e3] at z
        refine (p c fn e3).run pins s σ H Q I ⟨r, vs, h, S, HR, ?_⟩
        rw [e1]
        intro r1 H1 E1 w1
        obtain ⟨i, dx, rfl, g, a, wf⟩ := insOf_ok E1.rel e2
        refine ⟨r1 i, dx, _, rfl, a, r1, [.ref i], h1, rfl, rfl, wfs_one w1, E1.rel, ?_⟩
        cases e4 : fn [.ref i] h1 with
        | no => simp only [e4] at z; exact z
        | ex c d h2 => simp only [e4] at z; exact z.elim
        | ok v h2 =>
          simp only [e4] at z
          exact RZ.seq E1 (x := .ok v h2) z
end
end Zd

namespace Zd
open PySem PySem.Spec PyProof.Rows L2

/-! ### small statements -/
def zSeq (a b : ZS) : ZS := fun s h => match a s h with
  | .nx s1 h1 => b s1 h1
  | .rt w h1 => .rt w h1
  | .bk s1 h1 => .bk s1 h1
  | .ct s1 h1 => .ct s1 h1
  | .ex c d s1 h1 => .ex c d s1 h1
  | .no => .no
def zNext : ZS := fun s h => .nx s h
def zBreak : ZS := fun s h => .bk s h
def zCont : ZS := fun s h => .ct s h
def zNever : ZS := fun _ _ => .no
def zRet (f : ZE) : ZS := fun s h => match f s h with
  | .ok w h1 => .rt w h1
  | .ex c d h1 => .ex c d s h1
  | .no => .no
def zRetN : ZS := fun _ h => .rt .non h
def zExpr (f : ZE) : ZS := fun s h => match f s h with
  | .ok _ h1 => .nx s h1
  | .ex c d h1 => .ex c d s h1
  | .no => .no
def zIfS (t : ZT) (a b : ZS) : ZS := fun s h => match t s h with
  | .ok true h1 => a s h1
  | .ok false h1 => b s h1
  | .ex c d h1 => .ex c d s h1
  | .no => .no
section
variable {X : Cx} {G : Gm} {Wx : WX} {st : Stmt} {sts : List Stmt} {a b : ZS} {f g : ZE} {t : ZT} {pos : Pos} {e : PySem.Expr}
theorem zs_nil : PSs X [] (tzS G Wx zNext) := by
  refine PSs.imp pss_nil fun D σ H q => ?_
  obtain ⟨r, s, h, S, HR, z⟩ := q
  exact z r H σ (Ext.refl HR) S
theorem zs_cons (h1 : PS X st (tzS G Wx a)) (h2 : PSs X sts (tzS G Wx b)) : PSs X (st :: sts) (tzS G Wx (zSeq a b)) := by
  refine PSs.imp (pss_cons h1 h2) fun D σ H q => ?_
  obtain ⟨r, s, h, S, HR, z⟩ := q
  refine ⟨r, s, h, S, HR, ?_⟩
  unfold zSeq at z
  cases e1 : a s h with
  | nx s1 h1 =>
    rw [e1] at z
    exact fun r1 H1 σ1 E1 S1 => ⟨r1, s1, h1, S1, E1.rel, RZS.seq E1 z⟩
  | rt w h1 => rw [e1] at z; exact z
  | bk s1 h1 => rw [e1] at z; exact z
  | ct s1 h1 => rw [e1] at z; exact z
  | ex c d s1 h1 => rw [e1] at z; exact z
  | no => rw [e1] at z; exact z
theorem zs_one (h1 : PS X st (tzS G Wx a)) : PSs X [st] (tzS G Wx a) := pss_one h1
theorem zs_pass : PS X (.Pass pos) (tzS G Wx zNext) := by
  refine PS.imp ps_pass fun D σ H q => ?_
  obtain ⟨r, s, h, S, HR, z⟩ := q
  exact z r H σ (Ext.refl HR) S
theorem zs_break : PS X (.Break pos) (tzS G Wx zBreak) := by
  refine PS.imp ps_break fun D σ H q => ?_
  obtain ⟨r, s, h, S, HR, z⟩ := q
  exact z r H σ (Ext.refl HR) S
theorem zs_cont : PS X (.Continue pos) (tzS G Wx zCont) := by
  refine PS.imp ps_continue fun D σ H q => ?_
  obtain ⟨r, s, h, S, HR, z⟩ := q
  exact z r H σ (Ext.refl HR) S
theorem zs_never : PS X st (tzS G Wx zNever) := PS.imp ps_never fun D σ H q => by
  obtain ⟨r, s, h, S, HR, z⟩ := q
  exact z
theorem zss_never : PSs X sts (tzS G Wx zNever) := PSs.imp pss_never fun D σ H q => by
  obtain ⟨r, s, h, S, HR, z⟩ := q
  exact z
theorem zs_ret (he : PE X e (tz G Wx f)) : PS X (.Return (some e) pos) (tzS G Wx (zRet f)) := by
  refine PS.imp (ps_ret he) fun D σ H q => ?_
  obtain ⟨r, s, h, S, HR, z⟩ := q
  refine ⟨r, s, h, S, HR, ?_⟩
  unfold zRet at z
  cases e1 : f s h with
  | no => rw [e1] at z; exact z
  | ex c d h1 => rw [e1] at z; exact fun r1 H1 E1 hd => z r1 H1 σ E1 hd (S.ext E1)
  | ok w h1 => rw [e1] at z; exact z
theorem zs_retN : PS X (.Return none pos) (tzS G Wx zRetN) := by
  refine PS.imp ps_retN fun D σ H q => ?_
  obtain ⟨r, s, h, S, HR, z⟩ := q
  exact z r H (Ext.refl HR) rfl
theorem zs_expr (he : PE X e (tz G Wx f)) (hs : swapsWith e none pos.line X.env = pure false) : PS X (.Expr e pos) (tzS G Wx (zExpr f)) := by
  refine PS.imp (ps_expr he hs) fun D σ H q => ?_
  obtain ⟨r, s, h, S, HR, z⟩ := q
  refine ⟨r, s, h, S, HR, ?_⟩
  unfold zExpr at z
  cases e1 : f s h with
  | no => rw [e1] at z; exact z
  | ex c d h1 => rw [e1] at z; exact fun r1 H1 E1 hd => z r1 H1 σ E1 hd (S.ext E1)
  | ok w h1 => rw [e1] at z; exact fun r1 H1 E1 hw => z r1 H1 σ E1 (S.ext E1)
theorem zs_if {c : PySem.Expr} {as bs : List Stmt} (hc : PT X c (tzT G Wx t)) (ha : PSs X as (tzS G Wx a)) (hb : PSs X bs (tzS G Wx b)) : PS X (.If c as bs pos) (tzS G Wx (zIfS t a b)) := by
  refine PS.imp (ps_if hc ha hb) fun D σ H q => ?_
  obtain ⟨r, s, h, S, HR, z⟩ := q
  refine ⟨r, s, h, S, HR, ?_⟩
  unfold zIfS at z
  cases e1 : t s h with
  | no => rw [e1] at z; exact z
  | ex c d h1 => rw [e1] at z; exact fun r1 H1 E1 hd => z r1 H1 σ E1 hd (S.ext E1)
  | ok v h1 =>
    rw [e1] at z
    intro r1 H1 E1
    cases v with
    | true => rw [if_pos rfl]; exact ⟨r1, s, h1, S.ext E1, E1.rel, RZS.seq E1 z⟩
    | false => rw [if_neg Bool.false_ne_true]; exact ⟨r1, s, h1, S.ext E1, E1.rel, RZS.seq E1 z⟩
end

/-! ### targets: what is stored where -/
abbrev ZG := W → VH → Option (List (Nat × W))
def setAll (s : ZSt) : List (Nat × W) → ZSt
  | [] => s
  | p :: r => setAll (s.set p.1 (some p.2)) r
def setAllV (G : Gm) (r : Rho) (σ : L2.St) : List (Nat × W) → L2.St
  | [] => σ
  | p :: l => setAllV G r (σ.set p.1 (some (p.2.v G r))) l
theorem SRel.puts {G : Gm} {r : Rho} {n : Nat} : ∀ {l : List (Nat × W)} {s : ZSt} {σ : L2.St}, SRel G r n s σ → (l.all fun p => p.2.wf n) = true → SRel G r n (setAll s l) (setAllV G r σ l)
  | [], _, _, x, _ => x
  | p :: l, s, σ, x, h => by
    have h1 : (p.2.wf n && l.all fun p => p.2.wf n) = true := h
    rw [Bool.and_eq_true] at h1
    exact SRel.puts (l := l) (s := s.set p.1 (some p.2)) (σ := σ.set p.1 (some (p.2.v G r))) (x.set h1.1 p.1) h1.2
/-- the reading of a target -/
def tzG (G : Gm) (g : ZG) : TG := fun v σ H Q => ∃ r h w, v = w.v G r ∧ w.wf h.n = true ∧ HRel G r h H ∧ ∃ l, g w h = some l ∧ ((l.all fun p => p.2.wf h.n) = true → Q (setAllV G r σ l) H)
def gNm (i : Nat) : ZG := fun w _ => some [(i, w)]
/-- a, b, ..: a tuple's (or list's) items, one after another -/
def gTp : List ZG → List W → VH → Option (List (Nat × W))
  | [], [], _ => some []
  | g :: gs, w :: ws, h => (match g w h with
    | some l => (match gTp gs ws h with
      | some k => some (l ++ k)
      | none => none)
    | none => none)
  | _, _, _ => none
def gTu (gs : List ZG) : ZG := fun w h => match tupOf h w with
  | some xs => gTp gs xs h
  | none => none
section
variable {X : Cx} {G : Gm} {Wx : WX} {pos : Pos}
theorem PG.imp {tg : PySem.Expr} {t t' : TG} (p : PG X tg t) (i : ∀ v σ H Q, t' v σ H Q → t v σ H Q) : PG X tg t' := ⟨fun pins s σ H v u Q I rv q => p.run pins s σ H v u Q I rv (i v σ H Q q)⟩
theorem PGs.imp {tg : List PySem.Expr} {t t' : TGs} (p : PGs X tg t) (i : ∀ v σ H Q, t' v σ H Q → t v σ H Q) : PGs X tg t' := ⟨fun pins s σ H v u Q I rv q => p.run pins s σ H v u Q I rv (i v σ H Q q)⟩
theorem g_nm {i : Nat} {tg : PySem.Expr} (p : PG X tg (gName i)) : PG X tg (tzG G (gNm i)) := by
  refine PG.imp p fun v σ H Q q => ?_
  obtain ⟨r, h, w, rfl, hw, HR, l, e, z⟩ := q
  cases e
  exact z (by show (w.wf h.n && true) = true; rw [hw]; rfl)
def tzGs (G : Gm) (gs : List ZG) : TGs := fun vs σ H Q => ∃ r h ws, vs = vsV G r ws ∧ wfs h.n ws = true ∧ HRel G r h H ∧ ∃ l, gTp gs ws h = some l ∧ ((l.all fun p => p.2.wf h.n) = true → Q (setAllV G r σ l) H)
theorem g_nil : PGs X [] (tzGs G []) := by
  refine PGs.imp pgs_nil fun v σ H Q q => ?_
  obtain ⟨r, h, ws, rfl, hw, HR, l, e, z⟩ := q
  cases ws with
  | nil => cases e; exact ⟨rfl, z rfl⟩
  | cons w ws => cases e
theorem setAllV_app {r : Rho} : ∀ {l k : List (Nat × W)} {σ : L2.St}, setAllV G r σ (l ++ k) = setAllV G r (setAllV G r σ l) k
  | [], _, _ => rfl
  | p :: l, k, σ => setAllV_app (l := l)
/-- the values that a target stores are sound -/
def GWf (g : ZG) : Prop := ∀ (G : Gm) (r : Rho) (H : Hp) w h l, HRel G r h H → w.wf h.n = true → g w h = some l → (l.all fun p => p.2.wf h.n) = true
theorem gNm_wf {i : Nat} : GWf (gNm i) := fun G r H w h l HR hw e => by
  cases e
  show (w.wf h.n && true) = true
  rw [hw]; rfl
theorem gTp_wf : ∀ {gs : List ZG}, (∀ g ∈ gs, GWf g) → ∀ (G : Gm) (r : Rho) (H : Hp) ws h l, HRel G r h H → wfs h.n ws = true → gTp gs ws h = some l → (l.all fun p => p.2.wf h.n) = true
  | [], hg, G, r, H, ws, h, l, HR, hw, e => by
    cases ws with
    | nil => cases e; rfl
    | cons w ws => cases e
  | g :: gs, hg, G, r, H, ws, h, l, HR, hw, e => by
    cases ws with
    | nil => cases e
    | cons w ws =>
      have e1 : (match g w h with
        | some l => (match gTp gs ws h with
          | some k => some (l ++ k)
          | none => none)
        | none => none) = some l := e
      have h1 : (w.wf h.n && wfs h.n ws) = true := hw
      rw [Bool.and_eq_true] at h1
      cases q : g w h with
      | none => rw [q] at e1; cases e1
      | some l1 =>
        rw [q] at e1
        cases q2 : gTp gs ws h with
        | none => simp only [q2] at e1; cases e1
        | some k =>
          simp only [q2] at e1; cases e1
          rw [List.all_append, hg g List.mem_cons_self G r H w h l1 HR h1.1 q, gTp_wf (fun g' hg' => hg g' (List.mem_cons_of_mem _ hg')) G r H ws h k HR h1.2 q2]; rfl
theorem gTu_wf {gs : List ZG} (hg : ∀ g ∈ gs, GWf g) : GWf (gTu gs) := fun G r H w h l HR hw e => by
  unfold gTu at e
  split at e
  · rename_i xs q
    cases w with
    | ref i =>
      have e1 : (match h.get i with
        | some (.tup xs) => some xs
        | _ => none) = some xs := q
      cases q2 : h.get i with
      | none => rw [q2] at e1; cases e1
      | some o =>
        rw [q2] at e1
        cases o with
        | tup ys => cases e1; exact gTp_wf hg G r H _ h l HR (HR.wf i _ q2) e
        | _ => cases e1
    | _ => cases q
  · cases e
theorem g_cons {tg : PySem.Expr} {tgs : List PySem.Expr} {g : ZG} {gs : List ZG} (hg : GWf g) (h1 : PG X tg (tzG G g)) (h2 : PGs X tgs (tzGs G gs))
    (hs : (assignEach (tg :: tgs) X.env).map (·.2) = assign tg X.env :: (assignEach tgs X.env).map (·.2)) : PGs X (tg :: tgs) (tzGs G (g :: gs)) := by
  refine PGs.imp (pgs_cons h1 h2 hs) fun v σ H Q q => ?_
  obtain ⟨r, h, ws, rfl, hw, HR, l, e, z⟩ := q
  cases ws with
  | nil => cases e
  | cons w ws =>
    have e1 : (match g w h with
      | some l => (match gTp gs ws h with
        | some k => some (l ++ k)
        | none => none)
      | none => none) = some l := e
    have hw1 : (w.wf h.n && wfs h.n ws) = true := hw
    rw [Bool.and_eq_true] at hw1
    cases q : g w h with
    | none => rw [q] at e1; cases e1
    | some l1 =>
      rw [q] at e1
      cases q2 : gTp gs ws h with
      | none => simp only [q2] at e1; cases e1
      | some k =>
        simp only [q2] at e1; cases e1
        have a1 := hg G r H w h l1 HR hw1.1 q
        refine ⟨w.v G r, vsV G r ws, rfl, r, h, w, rfl, hw1.1, HR, l1, q, fun _ => ⟨r, h, ws, rfl, hw1.2, HR, k, q2, fun a2 => ?_⟩⟩
        rw [setAllV_app] at z
        exact z (by rw [List.all_append, a1, a2]; rfl)
theorem g_tu {tgs : List PySem.Expr} {gs : List ZG} {kk : Nat} (hc : X.calm = true) (h : PGs X tgs (tzGs G gs)) (hn : (assignEach tgs X.env).length = gs.length) (hst : (assignEach tgs X.env).findIdx? (·.1) = none) : PG X (.Tuple tgs kk pos) (tzG G (gTu gs)) := by
  refine PG.imp (pg_tup (n := gs.length) hc h hn hst) fun v σ H Q q => ?_
  obtain ⟨r, h, w, rfl, hw, HR, l, e, z⟩ := q
  unfold gTu at e
  split at e
  · rename_i xs q
    obtain ⟨p, e1, e2, e3⟩ := tupOf_ok (K := X.K) HR q
    refine ⟨p, _, e1, e2, ?_, r, h, xs, rfl, e3, HR, l, e, z⟩
    have : ∀ {gs : List ZG} {xs : List W} {l : List (Nat × W)}, gTp gs xs h = some l → xs.length = gs.length := by
      intro gs
      induction gs with
      | nil =>
        intro xs l e
        cases xs with
        | nil => rfl
        | cons a b => cases e
      | cons g gs ih =>
        intro xs l e
        cases xs with
        | nil => cases e
        | cons x xs =>
          have e1 : (match g x h with
            | some l => (match gTp gs xs h with
              | some k => some (l ++ k)
              | none => none)
            | none => none) = some l := e
          cases q : g x h with
          | none => rw [q] at e1; cases e1
          | some l1 =>
            rw [q] at e1
            cases q2 : gTp gs xs h with
            | none => simp only [q2] at e1; cases e1
            | some k => rw [List.length_cons, List.length_cons, ih q2]
    rw [vsV, List.length_map, this e]
  · cases e

/-- target = value -/
def zAsg (f : ZE) (g : ZG) : ZS := fun s h => match f s h with
  | .ok w h1 => (match g w h1 with
    | some l => .nx (setAll s l) h1
    | none => .no)
  | .ex c d h1 => .ex c d s h1
  | .no => .no
theorem zs_asg {st : Stmt} {f : ZE} {g : ZG} (hg : GWf g) (p : PS X st (tAsg (tz G Wx f) (tzG G g))) : PS X st (tzS G Wx (zAsg f g)) := by
  refine PS.imp p fun D σ H q => ?_
  obtain ⟨r, s, h, S, HR, z⟩ := q
  refine ⟨r, s, h, S, HR, ?_⟩
  unfold zAsg at z
  cases e1 : f s h with
  | no => rw [e1] at z; exact z
  | ex c d h1 => rw [e1] at z; exact fun r1 H1 E1 hd => z r1 H1 σ E1 hd (S.ext E1)
  | ok w h1 =>
    simp only [e1] at z
    intro r1 H1 E1 w1
    cases e2 : g w h1 with
    | none => simp only [e2] at z; exact z.elim
    | some l =>
      simp only [e2] at z
      exact ⟨r1, h1, w, rfl, w1, E1.rel, l, e2, fun a => z r1 H1 _ E1 (SRel.puts (S.ext E1) a)⟩
/-- x = e -/
theorem zs_set {st : Stmt} {f : ZE} {i : Nat} (p : PS X st (tAsg (tz G Wx f) (gName i))) : PS X st (tzS G Wx (zAsg f (gNm i))) := by
  refine PS.imp p fun D σ H q => ?_
  obtain ⟨r, s, h, S, HR, z⟩ := q
  refine ⟨r, s, h, S, HR, ?_⟩
  unfold zAsg gNm at z
  cases e1 : f s h with
  | no => rw [e1] at z; exact z
  | ex c d h1 => rw [e1] at z; exact fun r1 H1 E1 hd => z r1 H1 σ E1 hd (S.ext E1)
  | ok w h1 =>
    simp only [e1] at z
    intro r1 H1 E1 w1
    exact z r1 H1 _ E1 (SRel.puts (S.ext E1) (by show (w.wf h1.n && true) = true; rw [w1]; rfl))
/-- a, b = x, y, two local names: no tuple is made -/
def zPar (i j : Nat) (k : ZA) : ZS := fun s h => match k s h with
  | .ok [v, w] h1 => .nx ((s.set i (some v)).set j (some w)) h1
  | .ok _ _ => .no
  | .ex c d h1 => .ex c d s h1
  | .no => .no
theorem zs_par {st : Stmt} {k : ZA} {i j : Nat} (p : PS X st (tPar i j (tzA G Wx k))) : PS X st (tzS G Wx (zPar i j k)) := by
  refine PS.imp p fun D σ H q => ?_
  obtain ⟨r, s, h, S, HR, z⟩ := q
  refine ⟨r, s, h, S, HR, ?_⟩
  unfold zPar at z
  cases e1 : k s h with
  | no => rw [e1] at z; exact z
  | ex c d h1 => rw [e1] at z; exact fun r1 H1 E1 hd => z r1 H1 σ E1 hd (S.ext E1)
  | ok ws h1 =>
    rw [e1] at z
    intro r1 H1 E1 w1
    match ws, w1, z with
    | [v, w], w1, z =>
      have h2 : (v.wf h1.n && (w.wf h1.n && true)) = true := w1
      rw [Bool.and_true, Bool.and_eq_true] at h2
      exact ⟨_, _, rfl, z r1 H1 _ E1 (((S.ext E1).set h2.1 i).set h2.2 j)⟩
    | [], _, z => exact z.elim
    | [_], _, z => exact z.elim
    | _ :: _ :: _ :: _, _, z => exact z.elim

/-- o.m = e -/
def zSetF (ok : Nat → Bool) (m : Nat) (fo f : ZE) : ZS := fun s h => match f s h with
  | .ok v h1 => (match fo s h1 with
    | .ok w h2 => (match insOf h2 w, w with
      | some (c, fs), .ref i => if ok c && decide (fs.length < 900) then .nx s (h2.set i (.ins c (putW m v fs))) else .no
      | _, _ => .no)
    | .ex c d h2 => .ex c d s h2
    | .no => .no)
  | .ex c d h1 => .ex c d s h1
  | .no => .no
theorem zs_setF {st : Stmt} {ok : Nat → Bool} {m : Nat} {fo f : ZE} (hc : ∀ c, ok c = true → Cls X.K (G.ga c) ∧ NoAttr X.K (G.ga c) (G.nm m)) (p : PS X st (sFld X.K (tz G Wx fo) (tz G Wx f) (G.nm m))) : PS X st (tzS G Wx (zSetF ok m fo f)) := by
  refine PS.imp p fun D σ H q => ?_
  obtain ⟨r, s, h, S, HR, z⟩ := q
  refine ⟨r, s, h, S, HR, ?_⟩
  unfold zSetF at z
  cases e1 : f s h with
  | no => rw [e1] at z; exact z
  | ex c d h1 => rw [e1] at z; exact fun r1 H1 E1 hd => z r1 H1 σ E1 hd (S.ext E1)
  | ok v h1 =>
    simp only [e1] at z
    intro r1 H1 E1 w1
    refine ⟨r1, s, h1, S.ext E1, E1.rel, ?_⟩
    cases e2 : fo s h1 with
    | no => simp only [e2] at z; exact z
    | ex c d h2 =>
      simp only [e2] at z
      exact fun r2 H2 E2 hd => z r2 H2 σ (E1.trans E2) hd (S.ext (E1.trans E2))
    | ok w h2 =>
      simp only [e2] at z
      intro r2 H2 E2 w2
      cases e3 : insOf h2 w with
      | none => simp only [e3] at z; exact z.elim
      | some cf =>
        obtain ⟨c, fs⟩ := cf
        obtain ⟨i, dx, rfl, g, a, wf⟩ := insOf_ok E2.rel e3
        simp only [e3] at z
        split at z
        · rename_i hk
          rw [Bool.and_eq_true] at hk
          have hl := of_decide_eq_true hk.2
          obtain ⟨k1, k2⟩ := hc c hk.1
          refine ⟨r2 i, G.ga c, dx, _, rfl, a, k1, k2, by unfold fsV; rw [List.length_map]; omega, ?_⟩
          have wv : v.wf h2.n = true := W.wf_le w1 E2.le
          have E3 := Ext.set (u := .ins (G.ga c) dx (putF (G.nm m) (v.v G r2) (fsV G r2 fs))) (o := .ins c (putW m v fs)) E2.rel g (putW_wf wv wf) ⟨dx, by rw [upd_same, putW_ok]⟩
          rw [← W.v_agr w1 E2.agr]
          exact z r2 _ σ ((E1.trans E2).trans E3) (S.ext ((E1.trans E2).trans E3))
        · exact z.elim
/-- o.m += e -/
def zAugF (ok : Nat → Bool) (m : Nat) (fo f : ZE) : ZS := fun s h => match fo s h with
  | .ok w h1 => (match insOf h1 w, w with
    | some (c, fs), .ref i => if ok c then (match lookF m fs with
      | some (.int x) => (match f s h1 with
        | .ok (.int y) h2 => (match insOf h2 (.ref i) with
          | some (c2, fs2) => if Nat.beq c2 c && decide (fs2.length < 900) then .nx s (h2.set i (.ins c2 (putW m (.int (x + y)) fs2))) else .no
          | none => .no)
        | .ok _ _ => .no
        | .ex c d h2 => .ex c d s h2
        | .no => .no)
      | _ => .no) else .no
    | _, _ => .no)
  | .ex c d h1 => .ex c d s h1
  | .no => .no
theorem zs_augF {st : Stmt} {ok : Nat → Bool} {m : Nat} {fo f : ZE} (hc : ∀ c, ok c = true → Cls X.K (G.ga c) ∧ NoAttr X.K (G.ga c) (G.nm m)) (p : PS X st (sFldAug X.K (tz G Wx fo) (tz G Wx f) L2.rAdd (G.nm m))) : PS X st (tzS G Wx (zAugF ok m fo f)) := by
  refine PS.imp p fun D σ H q => ?_
  obtain ⟨r, s, h, S, HR, z⟩ := q
  refine ⟨r, s, h, S, HR, ?_⟩
  unfold zAugF at z
  cases e1 : fo s h with
  | no => rw [e1] at z; exact z
  | ex c d h1 => rw [e1] at z; exact fun r1 H1 E1 hd => z r1 H1 σ E1 hd (S.ext E1)
  | ok w h1 =>
    simp only [e1] at z
    intro r1 H1 E1 w1
    cases e2 : insOf h1 w with
    | none => simp only [e2] at z; exact z.elim
    | some cf =>
      obtain ⟨c, fs⟩ := cf
      obtain ⟨i, dx, rfl, g, a, wf⟩ := insOf_ok E1.rel e2
      simp only [e2] at z
      split at z
      · rename_i hk
        obtain ⟨k1, k2⟩ := hc c hk
        split at z
        · rename_i x e3
          refine ⟨r1 i, G.ga c, dx, _, .int x, rfl, a, k1, k2, by rw [lookF_ok, e3]; rfl, r1, s, h1, S.ext E1, E1.rel, ?_⟩
          cases e4 : f s h1 with
          | no => rw [e4] at z; exact z
          | ex c d h2 =>
            rw [e4] at z
            exact fun r2 H2 E2 hd => z r2 H2 σ (E1.trans E2) hd (S.ext (E1.trans E2))
          | ok v h2 =>
            rw [e4] at z
            intro r2 H2 E2 w2
            cases v with
            | int y =>
              have z : RZS G Wx r h H D (match insOf h2 (.ref i) with
                | some (c2, fs2) => if Nat.beq c2 c && decide (fs2.length < 900) then .nx s (h2.set i (.ins c2 (putW m (.int (x + y)) fs2))) else .no
                | none => .no) := z
              cases e5 : insOf h2 (.ref i) with
              | none => rw [e5] at z; exact z.elim
              | some cf2 =>
                obtain ⟨c2, fs2⟩ := cf2
                simp only [e5] at z
                have z : RZS G Wx r h H D (if Nat.beq c2 c && decide (fs2.length < 900) then .nx s (h2.set i (.ins c2 (putW m (.int (x + y)) fs2))) else .no) := z
                by_cases hk2 : (Nat.beq c2 c && decide (fs2.length < 900)) = true
                · have z9 := z
                  rw [if_pos hk2] at z9
                  rw [Bool.and_eq_true] at hk2
                  have hl := of_decide_eq_true hk2.2
                  have ec := Nat.eq_of_beq_eq_true hk2.1
                  subst ec
                  obtain ⟨j, dx2, ej, g2, a2, wf2⟩ := insOf_ok E2.rel e5
                  cases ej
                  have er : r2 i = r1 i := E2.agr i (of_blt w1)
                  rw [er] at a2
                  refine ⟨x, y, rfl, rfl, dx2, _, a2, by unfold fsV; rw [List.length_map]; omega, ?_⟩
                  have E3 := Ext.set (u := .ins (G.ga c2) dx2 (putF (G.nm m) (.int (x + y)) (fsV G r2 fs2))) (o := .ins c2 (putW m (.int (x + y)) fs2)) E2.rel g2 (putW_wf rfl wf2) ⟨dx2, by rw [upd_same, putW_ok]; rfl⟩
                  rw [er] at E3
                  exact z9 r2 _ σ ((E1.trans E2).trans E3) (S.ext ((E1.trans E2).trans E3))
                · rw [if_neg hk2] at z; exact z.elim
            | _ => exact z.elim
        · exact z.elim
      · exact z.elim
/-- d[k] = v, l[i] = v -/
def putD (k : Key) (w : W) : List (Key × W) → List (Key × W)
  | [] => [(k, w)]
  | p :: r => if decide (p.1 = k) then (p.1, w) :: r else p :: putD k w r
end
end Zd

namespace Zd
open PySem PySem.Spec PyProof.Rows L2

/-! ### what is walked -/
inductive ZSrc where
  | lst (i : Nat) | tup (i : Nat) | rng (lo : Int) (n : Nat) | str (x : Str) | enu (i : Nat)
  | keys (i : Nat) (kvs : List (Key × W)) | vals (i : Nat) (kvs : List (Key × W)) | itms (i : Nat) (kvs : List (Key × W))
def ZSrc.wf (n : Nat) : ZSrc → Prop
  | .lst i => i < n
  | .tup i => i < n
  | .enu i => i < n
  | .keys i kvs => i < n ∧ (kvs.all fun p => p.2.wf n) = true
  | .vals i kvs => i < n ∧ (kvs.all fun p => p.2.wf n) = true
  | .itms i kvs => i < n ∧ (kvs.all fun p => p.2.wf n) = true
  | _ => True
def ZSrc.it (G : Gm) (K : PySem.W.Frag) (r : Rho) : ZSrc → It
  | .lst i => Itl K (r i)
  | .tup i => Itt K (r i)
  | .rng lo n => Itr lo n
  | .str x => Its x
  | .enu i => Ite K (r i)
  | .keys i kvs => Itk (r i) G.lk (kvV G r kvs)
  | .vals i kvs => Itd (r i) G.lk (kvV G r kvs)
  | .itms i kvs => Iti (r i) G.lk (kvV G r kvs)
/-- a dict that is locked -/
def lkdOf (h : VH) (i : Nat) : Option (List (Key × W)) := match h.get i with
  | some (.dlk kvs) => some kvs
  | _ => none
def keyBack : Key → W
  | .inl i => .int i
  | .inr x => .str x
/-- the k-th thing: none: it does not go; some none: the end -/
def zStep (src : ZSrc) (k : Nat) (h : VH) : Option (Option (W × VH)) := match src with
  | .lst i => (match lstOf h (.ref i) with
    | some xs => (match xs[k]? with
      | some x => some (some (x, h))
      | none => some none)
    | none => none)
  | .tup i => (match tupOf h (.ref i) with
    | some xs => (match xs[k]? with
      | some x => some (some (x, h))
      | none => some none)
    | none => none)
  | .rng lo n => if Nat.blt k n then some (some (.int (lo + k), h)) else some none
  | .str x => (match x.cps[k]? with
    | some c => some (some (.str ⟨#[c]⟩, h))
    | none => some none)
  | .enu i => (match lstOf h (.ref i) with
    | some xs => (match xs[k]? with
      | some x => some (some (.ref h.n, h.push (.tup [.int k, x])))
      | none => some none)
    | none => none)
  | .keys i kvs => (match lkdOf h i with
    | some ys => if decide (ys = kvs) then (match kvs[k]? with
      | some p => some (some (keyBack p.1, h))
      | none => some none) else none
    | none => none)
  | .vals i kvs => (match lkdOf h i with
    | some ys => if decide (ys = kvs) then (match kvs[k]? with
      | some p => some (some (p.2, h))
      | none => some none) else none
    | none => none)
  | .itms i kvs => (match lkdOf h i with
    | some ys => if decide (ys = kvs) then (match kvs[k]? with
      | some p => some (some (.ref h.n, h.push (.tup [keyBack p.1, p.2])))
      | none => some none) else none
    | none => none)
theorem ZSrc.agr {G : Gm} {K : PySem.W.Frag} {r r' : Rho} {n : Nat} {src : ZSrc} (w : src.wf n) (h : ∀ i, i < n → r' i = r i) : src.it G K r' = src.it G K r := by
  cases src with
  | lst i => show Itl K (r' i) = Itl K (r i); rw [h i w]
  | tup i => show Itt K (r' i) = Itt K (r i); rw [h i w]
  | enu i => show Ite K (r' i) = Ite K (r i); rw [h i w]
  | keys i kvs => show Itk (r' i) G.lk (kvV G r' kvs) = _; rw [h i w.1, kvV_agr w.2 h]; rfl
  | vals i kvs => show Itd (r' i) G.lk (kvV G r' kvs) = _; rw [h i w.1, kvV_agr w.2 h]; rfl
  | itms i kvs => show Iti (r' i) G.lk (kvV G r' kvs) = _; rw [h i w.1, kvV_agr w.2 h]; rfl
  | _ => rfl
theorem ZSrc.wf_le {n m : Nat} {src : ZSrc} (w : src.wf n) (h : n ≤ m) : src.wf m := by
  cases src with
  | lst i => exact Nat.lt_of_lt_of_le w h
  | tup i => exact Nat.lt_of_lt_of_le w h
  | enu i => exact Nat.lt_of_lt_of_le w h
  | keys i kvs => exact ⟨Nat.lt_of_lt_of_le w.1 h, (Ob.wf_le (o := .dic kvs) w.2 h : (kvs.all fun p => p.2.wf m) = true)⟩
  | vals i kvs => exact ⟨Nat.lt_of_lt_of_le w.1 h, (Ob.wf_le (o := .dic kvs) w.2 h : (kvs.all fun p => p.2.wf m) = true)⟩
  | itms i kvs => exact ⟨Nat.lt_of_lt_of_le w.1 h, (Ob.wf_le (o := .dic kvs) w.2 h : (kvs.all fun p => p.2.wf m) = true)⟩
  | _ => trivial
section
variable {K : PySem.W.Frag} {G : Gm} {r : Rho} {h : VH} {H : Hp} {k : Nat} {src : ZSrc}
theorem get_vs {xs : List W} {w : W} (e : xs[k]? = some w) : (vsV G r xs)[k]? = some (w.v G r) := by
  rw [vsV, List.getElem?_map, e]; rfl
theorem len_vs {xs : List W} (e : xs[k]? = none) : (vsV G r xs).length ≤ k := by
  rw [vsV, List.length_map]
  exact List.getElem?_eq_none_iff.mp e
theorem lstOf_ref {i : Nat} {xs : List W} (HR : HRel G r h H) (e : lstOf h (.ref i) = some xs) : SqL K H (r i) (vsV G r xs) ∧ wfs h.n xs = true := by
  obtain ⟨p, e1, e2, e3⟩ := lstOf_ok (K := K) HR e
  cases e1
  exact ⟨e2, e3⟩
theorem tupOf_ref {i : Nat} {xs : List W} (HR : HRel G r h H) (e : tupOf h (.ref i) = some xs) : SqT K H (r i) (vsV G r xs) ∧ wfs h.n xs = true := by
  obtain ⟨p, e1, e2, e3⟩ := tupOf_ok (K := K) HR e
  cases e1
  exact ⟨e2, e3⟩
theorem lkd_ok {i : Nat} {ys : List (Key × W)} (HR : HRel G r h H) (e : lkdOf h i = some ys) : H (r i) = some (.frz G.lk (.dK (kvV G r ys))) ∧ (ys.all fun p => p.2.wf h.n) = true := by
  unfold lkdOf at e
  split at e
  · rename_i q
    cases e
    exact ⟨HR.at_ i _ q, HR.wf i _ q⟩
  · cases e
/-- a step over a locked dict -/
theorem lkd_step {α : Type} {i : Nat} {kvs : List (Key × W)} {f : Key × W → α} {o : Option α} (e : (match lkdOf h i with
    | some ys => if decide (ys = kvs) then (match kvs[k]? with
      | some p => some (some (f p))
      | none => some none) else none
    | none => none) = some o) : lkdOf h i = some kvs ∧ o = (kvs[k]?).map f := by
  cases q : lkdOf h i with
  | none => rw [q] at e; cases e
  | some ys =>
    rw [q] at e
    by_cases hk : ys = kvs
    · subst hk
      simp only [decide_true, if_true] at e
      refine ⟨rfl, ?_⟩
      cases q2 : ys[k]? with
      | none => rw [q2] at e; cases e; rfl
      | some p => rw [q2] at e; cases e; rfl
    · simp only [hk, decide_false] at e
      cases e
theorem kv_get {kvs : List (Key × W)} {p : Key × W} (e : kvs[k]? = some p) : (kvV G r kvs)[k]? = some (p.1, p.2.v G r) := by
  rw [kvV, List.getElem?_map, e]; rfl
theorem kv_end {kvs : List (Key × W)} (e : kvs[k]? = none) : (kvV G r kvs).length ≤ k := by
  rw [kvV, List.length_map]
  exact List.getElem?_eq_none_iff.mp e
theorem kv_wf {n : Nat} {kvs : List (Key × W)} {p : Key × W} (w : (kvs.all fun p => p.2.wf n) = true) (e : kvs[k]? = some p) : p.2.wf n = true := List.all_eq_true.mp w p (List.mem_of_getElem? e)
theorem keyBack_v {p : Key} : (keyBack p).v G r = kV p := by cases p <;> rfl
theorem keyBack_wf {p : Key} {n : Nat} : (keyBack p).wf n = true := by cases p <;> rfl
/-- the end -/
theorem step_stop (HR : HRel G r h H) (e : zStep src k h = some none) : (src.it G K r).stop k H := by
  cases src with
  | lst i =>
    have e : (match lstOf h (.ref i) with
      | some xs => (match xs[k]? with
        | some x => some (some (x, h))
        | none => some none)
      | none => none) = some none := e
    cases q : lstOf h (.ref i) with
    | none => rw [q] at e; cases e
    | some xs =>
      rw [q] at e
      cases q2 : xs[k]? with
      | some x => simp only [q2] at e; cases e
      | none => exact ⟨_, (lstOf_ref (K := K) HR q).1, len_vs q2⟩
  | tup i =>
    have e : (match tupOf h (.ref i) with
      | some xs => (match xs[k]? with
        | some x => some (some (x, h))
        | none => some none)
      | none => none) = some none := e
    cases q : tupOf h (.ref i) with
    | none => rw [q] at e; cases e
    | some xs =>
      rw [q] at e
      cases q2 : xs[k]? with
      | some x => simp only [q2] at e; cases e
      | none => exact ⟨_, (tupOf_ref (K := K) HR q).1, len_vs q2⟩
  | enu i =>
    have e : (match lstOf h (.ref i) with
      | some xs => (match xs[k]? with
        | some x => some (some (W.ref h.n, h.push (.tup [.int k, x])))
        | none => some none)
      | none => none) = some none := e
    cases q : lstOf h (.ref i) with
    | none => rw [q] at e; cases e
    | some xs =>
      rw [q] at e
      cases q2 : xs[k]? with
      | some x => simp only [q2] at e; cases e
      | none => exact ⟨_, (lstOf_ref (K := K) HR q).1, len_vs q2⟩
  | keys i kvs =>
    obtain ⟨e1, e2⟩ := lkd_step (f := fun p => (keyBack p.1, h)) e
    cases q : kvs[k]? with
    | some p => rw [q] at e2; cases e2
    | none => exact ⟨(lkd_ok HR e1).1, kv_end q⟩
  | vals i kvs =>
    obtain ⟨e1, e2⟩ := lkd_step (f := fun p => (p.2, h)) e
    cases q : kvs[k]? with
    | some p => rw [q] at e2; cases e2
    | none => exact ⟨(lkd_ok HR e1).1, kv_end q⟩
  | itms i kvs =>
    obtain ⟨e1, e2⟩ := lkd_step (f := fun p => (W.ref h.n, h.push (.tup [keyBack p.1, p.2]))) e
    cases q : kvs[k]? with
    | some p => rw [q] at e2; cases e2
    | none => exact ⟨(lkd_ok HR e1).1, kv_end q⟩
  | rng lo n =>
    have e : (if Nat.blt k n then some (some (W.int (lo + k), h)) else some none) = some none := e
    show n ≤ k
    cases q : Nat.blt k n with
    | true => rw [q, if_pos rfl] at e; cases e
    | false =>
      refine Nat.le_of_not_lt fun z => ?_
      rw [blt_of z] at q; cases q
  | str x =>
    have e : (match x.cps[k]? with
      | some c => some (some (W.str ⟨#[c]⟩, h))
      | none => some none) = some none := e
    show x.cps.size ≤ k
    cases q : x.cps[k]? with
    | some c => rw [q] at e; cases e
    | none => exact Array.getElem?_eq_none_iff.mp q
/-- the next thing -/
theorem step_go {w : W} {h' : VH} (HR : HRel G r h H) (e : zStep src k h = some (some (w, h'))) : (src.it G K r).go k H ∧ ∀ x H', (src.it G K r).yld k H x H' → ∃ r', Ext G r h H r' h' H' ∧ x = w.v G r' ∧ w.wf h'.n = true := by
  cases src with
  | lst i =>
    have e : (match lstOf h (.ref i) with
      | some xs => (match xs[k]? with
        | some x => some (some (x, h))
        | none => some none)
      | none => none) = some (some (w, h')) := e
    cases q : lstOf h (.ref i) with
    | none => rw [q] at e; cases e
    | some xs =>
      rw [q] at e
      cases q2 : xs[k]? with
      | none => simp only [q2] at e; cases e
      | some x =>
        simp only [q2] at e
        cases e
        obtain ⟨a, b⟩ := lstOf_ref (K := K) HR q
        refine ⟨⟨_, _, a, get_vs q2⟩, fun y H' z => ?_⟩
        obtain ⟨rfl, z⟩ := z
        exact ⟨r, Ext.refl HR, (Option.some.inj ((z _ a).symm.trans (get_vs q2))), wfs_get b q2⟩
  | tup i =>
    have e : (match tupOf h (.ref i) with
      | some xs => (match xs[k]? with
        | some x => some (some (x, h))
        | none => some none)
      | none => none) = some (some (w, h')) := e
    cases q : tupOf h (.ref i) with
    | none => rw [q] at e; cases e
    | some xs =>
      rw [q] at e
      cases q2 : xs[k]? with
      | none => simp only [q2] at e; cases e
      | some x =>
        simp only [q2] at e
        cases e
        obtain ⟨a, b⟩ := tupOf_ref (K := K) HR q
        refine ⟨⟨_, _, a, get_vs q2⟩, fun y H' z => ?_⟩
        obtain ⟨rfl, z⟩ := z
        exact ⟨r, Ext.refl HR, (Option.some.inj ((z _ a).symm.trans (get_vs q2))), wfs_get b q2⟩
  | enu i =>
    have e : (match lstOf h (.ref i) with
      | some xs => (match xs[k]? with
        | some x => some (some (W.ref h.n, h.push (.tup [.int k, x])))
        | none => some none)
      | none => none) = some (some (w, h')) := e
    cases q : lstOf h (.ref i) with
    | none => rw [q] at e; cases e
    | some xs =>
      rw [q] at e
      cases q2 : xs[k]? with
      | none => simp only [q2] at e; cases e
      | some x =>
        simp only [q2] at e
        cases e
        obtain ⟨a, b⟩ := lstOf_ref (K := K) HR q
        refine ⟨⟨_, _, a, get_vs q2⟩, fun y H' z => ?_⟩
        obtain ⟨T, x0, rfl, hT, rfl, z⟩ := z
        have ex : x0 = x.v G r := Option.some.inj ((z _ a).symm.trans (get_vs q2))
        subst ex
        have wx : wfs h.n [.int k, x] = true := by
          show (true && (x.wf h.n && true)) = true
          rw [wfs_get b q2]; rfl
        have wx' : wfs (h.n + 1) [.int k, x] = true := wfs_le wx (Nat.le_succ _)
        refine ⟨setR r h.n T, Ext.new (o := .tup [.int k, x]) HR hT wx' (upd_keep hT) ?_, ?_, blt_self _⟩
        · show upd H T _ T = some (.tup (vsV G (setR r h.n T) [.int k, x]))
          rw [upd_same, vsV_agr wx fun i q => setR_lt q]; rfl
        · show V.ref T = V.ref (setR r h.n T h.n)
          rw [setR_same]
  | keys i kvs =>
    obtain ⟨e1, e2⟩ := lkd_step (f := fun p => (keyBack p.1, h)) e
    cases q : kvs[k]? with
    | none => rw [q] at e2; cases e2
    | some p =>
      rw [q] at e2
      cases e2
      obtain ⟨a, b⟩ := lkd_ok HR e1
      refine ⟨⟨a, (List.getElem?_eq_some_iff.mp (kv_get (G := G) (r := r) q)).1⟩, fun y H' z => ?_⟩
      obtain ⟨rfl, kk, v, e3, rfl⟩ := z
      rw [kv_get q] at e3
      cases e3
      exact ⟨r, Ext.refl HR, keyBack_v.symm, keyBack_wf⟩
  | vals i kvs =>
    obtain ⟨e1, e2⟩ := lkd_step (f := fun p => (p.2, h)) e
    cases q : kvs[k]? with
    | none => rw [q] at e2; cases e2
    | some p =>
      rw [q] at e2
      cases e2
      obtain ⟨a, b⟩ := lkd_ok HR e1
      refine ⟨⟨a, (List.getElem?_eq_some_iff.mp (kv_get (G := G) (r := r) q)).1⟩, fun y H' z => ?_⟩
      obtain ⟨rfl, kk, e3⟩ := z
      rw [kv_get q] at e3
      cases e3
      exact ⟨r, Ext.refl HR, rfl, kv_wf b q⟩
  | itms i kvs =>
    obtain ⟨e1, e2⟩ := lkd_step (f := fun p => (W.ref h.n, h.push (.tup [keyBack p.1, p.2]))) e
    cases q : kvs[k]? with
    | none => rw [q] at e2; cases e2
    | some p =>
      rw [q] at e2
      cases e2
      obtain ⟨a, b⟩ := lkd_ok HR e1
      refine ⟨⟨a, (List.getElem?_eq_some_iff.mp (kv_get (G := G) (r := r) q)).1⟩, fun y H' z => ?_⟩
      obtain ⟨T, kk, v, e3, rfl, hT, rfl⟩ := z
      rw [kv_get q] at e3
      cases e3
      have wx : wfs h.n [keyBack p.1, p.2] = true := by
        show ((keyBack p.1).wf h.n && (p.2.wf h.n && true)) = true
        rw [keyBack_wf, kv_wf b q]; rfl
      refine ⟨setR r h.n T, Ext.new (o := .tup [keyBack p.1, p.2]) HR hT (wfs_le wx (Nat.le_succ _)) (upd_keep hT) ?_, ?_, blt_self _⟩
      · show upd H T _ T = some (.tup (vsV G (setR r h.n T) [keyBack p.1, p.2]))
        rw [upd_same, vsV_agr wx fun i q => setR_lt q]
        show some (HO.tup [kV p.1, p.2.v G r]) = some (.tup [(keyBack p.1).v G r, p.2.v G r])
        rw [keyBack_v]
      · show V.ref T = V.ref (setR r h.n T h.n)
        rw [setR_same]
  | rng lo n =>
    have e : (if Nat.blt k n then some (some (W.int (lo + k), h)) else some none) = some (some (w, h')) := e
    cases q : Nat.blt k n with
    | false => rw [q, if_neg Bool.false_ne_true] at e; cases e
    | true =>
      rw [q, if_pos rfl] at e
      cases e
      refine ⟨of_blt q, fun y H' z => ?_⟩
      obtain ⟨rfl, rfl⟩ := z
      exact ⟨r, Ext.refl HR, rfl, rfl⟩
  | str x =>
    have e : (match x.cps[k]? with
      | some c => some (some (W.str ⟨#[c]⟩, h))
      | none => some none) = some (some (w, h')) := e
    cases q : x.cps[k]? with
    | none => rw [q] at e; cases e
    | some c =>
      rw [q] at e
      cases e
      refine ⟨(Array.getElem?_eq_some_iff.mp q).1, fun y H' z => ?_⟩
      obtain ⟨rfl, c', e1, rfl⟩ := z
      rw [q] at e1
      cases e1
      exact ⟨r, Ext.refl HR, rfl, rfl⟩
end

/-! ### the source's reading -/
abbrev ZI := ZSt → VH → R ZSrc
def RZI (K : PySem.W.Frag) (G : Gm) (Wx : WX) (r : Rho) (h : VH) (H : Hp) (σ : L2.St) (Q : It → Hp → Prop) : R ZSrc → Prop
  | .ok src h' => ∀ r' H', Ext G r h H r' h' H' → src.wf h'.n → Q (src.it G K r') H'
  | .ex c d h' => ∀ r' H', Ext G r h H r' h' H' → d < h'.n → Wx (.ref (G.ga c)) (some (r' d)) σ H'
  | .no => False
def tzI (K : PySem.W.Frag) (G : Gm) (Wx : WX) (f : ZI) : TI := fun σ H Q => ∃ r s h, SRel G r h.n s σ ∧ HRel G r h H ∧ RZI K G Wx r h H σ Q (f s h)
theorem PI.imp {X : Cx} {tg e : PySem.Expr} {t t' : TI} (p : PI X tg e t) (i : ∀ σ H Q, t' σ H Q → t σ H Q) : PI X tg e t' := ⟨fun pins s σ H Q I q => p.run pins s σ H Q I (i σ H Q q)⟩
def zILst (f : ZE) : ZI := fun s h => match f s h with
  | .ok (.ref i) h1 => (match lstOf h1 (.ref i) with
    | some _ => .ok (.lst i) h1
    | none => .no)
  | .ok _ _ => .no
  | .ex c d h1 => .ex c d h1
  | .no => .no
def zITup (f : ZE) : ZI := fun s h => match f s h with
  | .ok (.ref i) h1 => (match tupOf h1 (.ref i) with
    | some _ => .ok (.tup i) h1
    | none => .no)
  | .ok _ _ => .no
  | .ex c d h1 => .ex c d h1
  | .no => .no
def zIStr (f : ZE) : ZI := fun s h => match f s h with
  | .ok (.str x) h1 => .ok (.str x) h1
  | .ok _ _ => .no
  | .ex c d h1 => .ex c d h1
  | .no => .no
def zIEnu (f : ZA) : ZI := fun s h => match f s h with
  | .ok [.ref i] h1 => (match lstOf h1 (.ref i) with
    | some _ => .ok (.enu i) h1
    | none => .no)
  | .ok _ _ => .no
  | .ex c d h1 => .ex c d h1
  | .no => .no
def smallZ (i : Int) : Bool := decide (-(2 ^ 62) ≤ i) && decide (i < 2 ^ 62)
def zIRng (f : ZA) : ZI := fun s h => match f s h with
  | .ok [.int j] h1 => if smallZ j then .ok (.rng 0 j.toNat) h1 else .no
  | .ok _ _ => .no
  | .ex c d h1 => .ex c d h1
  | .no => .no
section
variable {X : Cx} {G : Gm} {Wx : WX} {tg ex : PySem.Expr} {f : ZE} {k : ZA}
theorem zi_lst (p : PI X tg ex (iList X.K (tz G Wx f))) : PI X tg ex (tzI X.K G Wx (zILst f)) := by
  refine PI.imp p fun σ H Q q => ?_
  obtain ⟨r, s, h, S, HR, z⟩ := q
  refine ⟨r, s, h, S, HR, ?_⟩
  unfold zILst at z
  cases e1 : f s h with
  | no => rw [e1] at z; exact z
  | ex c d h1 => rw [e1] at z; exact z
  | ok w h1 =>
    rw [e1] at z
    intro r1 H1 E1 w1
    cases w with
    | ref i =>
      have z : RZI X.K G Wx r h H σ Q (match lstOf h1 (.ref i) with
        | some _ => .ok (.lst i) h1
        | none => .no) := z
      cases e2 : lstOf h1 (.ref i) with
      | none => rw [e2] at z; exact z.elim
      | some xs =>
        rw [e2] at z
        exact ⟨r1 i, rfl, ⟨_, (lstOf_ref E1.rel e2).1⟩, z r1 H1 E1 (of_blt w1)⟩
    | _ => exact z.elim
theorem zi_tup (p : PI X tg ex (iTup X.K (tz G Wx f))) : PI X tg ex (tzI X.K G Wx (zITup f)) := by
  refine PI.imp p fun σ H Q q => ?_
  obtain ⟨r, s, h, S, HR, z⟩ := q
  refine ⟨r, s, h, S, HR, ?_⟩
  unfold zITup at z
  cases e1 : f s h with
  | no => rw [e1] at z; exact z
  | ex c d h1 => rw [e1] at z; exact z
  | ok w h1 =>
    rw [e1] at z
    intro r1 H1 E1 w1
    cases w with
    | ref i =>
      have z : RZI X.K G Wx r h H σ Q (match tupOf h1 (.ref i) with
        | some _ => .ok (.tup i) h1
        | none => .no) := z
      cases e2 : tupOf h1 (.ref i) with
      | none => rw [e2] at z; exact z.elim
      | some xs =>
        rw [e2] at z
        exact ⟨r1 i, rfl, ⟨_, (tupOf_ref E1.rel e2).1⟩, z r1 H1 E1 (of_blt w1)⟩
    | _ => exact z.elim
theorem zi_str (p : PI X tg ex (iStr (tz G Wx f))) : PI X tg ex (tzI X.K G Wx (zIStr f)) := by
  refine PI.imp p fun σ H Q q => ?_
  obtain ⟨r, s, h, S, HR, z⟩ := q
  refine ⟨r, s, h, S, HR, ?_⟩
  unfold zIStr at z
  cases e1 : f s h with
  | no => rw [e1] at z; exact z
  | ex c d h1 => rw [e1] at z; exact z
  | ok w h1 =>
    rw [e1] at z
    intro r1 H1 E1 w1
    cases w with
    | str x => exact ⟨x, rfl, z r1 H1 E1 trivial⟩
    | _ => exact z.elim
theorem zi_enu (p : PI X tg ex (iEnum X.K (tzA G Wx k))) : PI X tg ex (tzI X.K G Wx (zIEnu k)) := by
  refine PI.imp p fun σ H Q q => ?_
  obtain ⟨r, s, h, S, HR, z⟩ := q
  refine ⟨r, s, h, S, HR, ?_⟩
  unfold zIEnu at z
  cases e1 : k s h with
  | no => rw [e1] at z; exact z
  | ex c d h1 => rw [e1] at z; exact z
  | ok ws h1 =>
    rw [e1] at z
    intro r1 H1 E1 w1
    match ws, w1, z with
    | [.ref i], w1, z =>
      have z : RZI X.K G Wx r h H σ Q (match lstOf h1 (.ref i) with
        | some _ => .ok (.enu i) h1
        | none => .no) := z
      cases e2 : lstOf h1 (.ref i) with
      | none => rw [e2] at z; exact z.elim
      | some xs =>
        rw [e2] at z
        have w2 : ((W.ref i).wf h1.n && true) = true := w1
        rw [Bool.and_true] at w2
        exact ⟨r1 i, _, rfl, (lstOf_ref E1.rel e2).1, z r1 H1 E1 (of_blt w2)⟩
    | [], _, z => exact z.elim
    | [.non], _, z => exact z.elim
    | [.bl _], _, z => exact z.elim
    | [.int _], _, z => exact z.elim
    | [.str _], _, z => exact z.elim
    | [.glo _], _, z => exact z.elim
    | [.ty _], _, z => exact z.elim
    | _ :: _ :: _, _, z =>
      unfold RZI at z
      split at z
      · rename_i q; simp at q
      · rename_i q; simp at q
      · exact z.elim
theorem zi_rng (p : PI X tg ex (iRng1 (tzA G Wx k))) : PI X tg ex (tzI X.K G Wx (zIRng k)) := by
  refine PI.imp p fun σ H Q q => ?_
  obtain ⟨r, s, h, S, HR, z⟩ := q
  refine ⟨r, s, h, S, HR, ?_⟩
  unfold zIRng at z
  cases e1 : k s h with
  | no => rw [e1] at z; exact z
  | ex c d h1 => rw [e1] at z; exact z
  | ok ws h1 =>
    rw [e1] at z
    intro r1 H1 E1 w1
    match ws, w1, z with
    | [.int j], w1, z =>
      have z : RZI X.K G Wx r h H σ Q (if smallZ j then .ok (.rng 0 j.toNat) h1 else .no) := z
      by_cases hj : smallZ j = true
      · rw [if_pos hj] at z
        unfold smallZ at hj
        rw [Bool.and_eq_true] at hj
        exact ⟨j, rfl, of_decide_eq_true hj.1, of_decide_eq_true hj.2, z r1 H1 E1 trivial⟩
      · rw [if_neg hj] at z; exact z.elim
    | [], _, z => exact z.elim
    | [.non], _, z => exact z.elim
    | [.bl _], _, z => exact z.elim
    | [.ref _], _, z => exact z.elim
    | [.str _], _, z => exact z.elim
    | [.glo _], _, z => exact z.elim
    | [.ty _], _, z => exact z.elim
    | _ :: _ :: _, _, z =>
      unfold RZI at z
      split at z
      · rename_i q; simp at q
      · rename_i q; simp at q
      · exact z.elim
end

/-! ### for -/
def forZ (src : ZSrc) (g : ZG) (body : ZS) : Nat → Nat → ZSt → VH → RS
  | 0, _, _, _ => .no
  | n + 1, k, s, h => match zStep src k h with
    | none => .no
    | some none => .nx s h
    | some (some (w, h1)) => (match g w h1 with
      | none => .no
      | some l => (match body (setAll s l) h1 with
        | .nx s' h' => forZ src g body n (k + 1) s' h'
        | .ct s' h' => forZ src g body n (k + 1) s' h'
        | .bk s' h' => .nx s' h'
        | .rt w h' => .rt w h'
        | .ex c d s' h' => .ex c d s' h'
        | .no => .no))
def zFor (f : ZI) (g : ZG) (body : ZS) : ZS := fun s h => match f s h with
  | .ok src h1 => forZ src g body 200 0 s h1
  | .ex c d h1 => .ex c d s h1
  | .no => .no
section
variable {X : Cx} {G : Gm} {Wx : WX} {st : Stmt}
theorem zs_for {f : ZI} {g : ZG} {body : ZS} (hg : GWf g) (p : PS X st (tFor (tzI X.K G Wx f) (tzG G g) (tzS G Wx body))) : PS X st (tzS G Wx (zFor f g body)) := by
  refine PS.imp p fun D σ H q => ?_
  obtain ⟨r, s, h, S, HR, z⟩ := q
  refine ⟨r, s, h, S, HR, ?_⟩
  unfold zFor at z
  cases e1 : f s h with
  | no => rw [e1] at z; exact z
  | ex c d h1 => rw [e1] at z; exact fun r1 H1 E1 hd => z r1 H1 σ E1 hd (S.ext E1)
  | ok src h1 =>
    simp only [e1] at z
    intro r1 H1 E1 w1
    refine ⟨fun i m σ' H' => ∃ r' s' h', Ext G r1 h1 H1 r' h' H' ∧ SRel G r' h'.n s' σ' ∧ RZS G Wx r' h' H' D (forZ src g body m i s' h'), ⟨200, r1, s, h1, Ext.refl E1.rel, S.ext E1, RZS.seq E1 z⟩, ?_⟩
    rintro i m σ' H' ⟨r', s', h', E', S', z'⟩
    have eit : src.it G X.K r' = src.it G X.K r1 := ZSrc.agr w1 E'.agr
    cases m with
    | zero => exact z'.elim
    | succ m =>
      unfold forZ at z'
      cases e2 : zStep src i h' with
      | none => rw [e2] at z'; exact z'.elim
      | some o =>
        rw [e2] at z'
        cases o with
        | none => exact .inl ⟨eit ▸ step_stop E'.rel e2, z' r' H' σ' (Ext.refl E'.rel) S'⟩
        | some wh =>
          obtain ⟨w, h2⟩ := wh
          obtain ⟨go, yl⟩ := step_go (K := X.K) E'.rel e2
          rw [eit] at go yl
          refine .inr ⟨go, fun σ2 H2 => ∃ r2 s2 h2, Ext G r1 h1 H1 r2 h2 H2 ∧ SRel G r2 h2.n s2 σ2 ∧ RZS G Wx r2 h2 H2 D (forZ src g body m (i + 1) s2 h2), fun σ2 H2 n2 => ⟨m, Nat.lt_succ_self _, n2⟩, fun x H2 y => ?_⟩
          obtain ⟨r2, E2, rfl, ww⟩ := yl x H2 y
          simp only at z'
          cases e3 : g w h2 with
          | none => simp only [e3] at z'; exact z'.elim
          | some l =>
            simp only [e3] at z'
            refine ⟨r2, h2, w, rfl, ww, E2.rel, l, e3, fun hl => ?_⟩
            refine ⟨r2, setAll s' l, h2, SRel.puts (S'.ext E2) hl, E2.rel, ?_⟩
            cases e4 : body (setAll s' l) h2 with
            | no => simp only [e4] at z'; exact z'
            | nx s3 h3 =>
              simp only [e4] at z'
              exact fun r3 H3 σ3 E3 S3 => ⟨r3, s3, h3, (E'.trans E2).trans E3, S3, RZS.seq (E2.trans E3) z'⟩
            | ct s3 h3 =>
              simp only [e4] at z'
              exact fun r3 H3 σ3 E3 S3 => ⟨r3, s3, h3, (E'.trans E2).trans E3, S3, RZS.seq (E2.trans E3) z'⟩
            | bk s3 h3 =>
              simp only [e4] at z'
              exact fun r3 H3 σ3 E3 S3 => z' r3 H3 σ3 (E2.trans E3) S3
            | rt v h3 =>
              simp only [e4] at z'
              exact fun r3 H3 E3 hw => z' r3 H3 (E2.trans E3) hw
            | ex c d s3 h3 =>
              simp only [e4] at z'
              exact fun r3 H3 σ3 E3 hd S3 => z' r3 H3 σ3 (E2.trans E3) hd S3
end

/-! ### while -/
def whileZ (t : ZT) (body : ZS) : Nat → ZSt → VH → RS
  | 0, _, _ => .no
  | n + 1, s, h => match t s h with
    | .ok true h1 => (match body s h1 with
        | .nx s' h' => whileZ t body n s' h'
        | .ct s' h' => whileZ t body n s' h'
        | .bk s' h' => .nx s' h'
        | .rt w h' => .rt w h'
        | .ex c d s' h' => .ex c d s' h'
        | .no => .no)
    | .ok false h1 => .nx s h1
    | .ex c d h1 => .ex c d s h1
    | .no => .no
def zWhile (t : ZT) (body : ZS) : ZS := whileZ t body 1000
section
variable {X : Cx} {G : Gm} {Wx : WX} {st : Stmt}
theorem zs_while {t : ZT} {body : ZS} (p : PS X st (tWhile (tzT G Wx t) (tzS G Wx body))) : PS X st (tzS G Wx (zWhile t body)) := by
  refine PS.imp p fun D σ H q => ?_
  obtain ⟨r, s, h, S, HR, z⟩ := q
  refine ⟨fun m σ' H' => ∃ r' s' h', Ext G r h H r' h' H' ∧ SRel G r' h'.n s' σ' ∧ RZS G Wx r' h' H' D (whileZ t body m s' h'), ⟨1000, r, s, h, Ext.refl HR, S, z⟩, ?_⟩
  rintro m σ' H' ⟨r', s', h', E', S', z'⟩
  cases m with
  | zero => exact z'.elim
  | succ m =>
    unfold whileZ at z'
    refine ⟨r', s', h', S', E'.rel, ?_⟩
    cases e1 : t s' h' with
    | no => rw [e1] at z'; exact z'
    | ex c d h1 => rw [e1] at z'; exact fun r1 H1 E1 hd => z' r1 H1 σ' E1 hd (S'.ext E1)
    | ok b h1 =>
      rw [e1] at z'
      intro r1 H1 E1
      cases b with
      | false => rw [if_neg Bool.false_ne_true]; exact z' r1 H1 σ' E1 (S'.ext E1)
      | true =>
        rw [if_pos rfl]
        refine ⟨fun σ2 H2 => ∃ r2 s2 h2, Ext G r h H r2 h2 H2 ∧ SRel G r2 h2.n s2 σ2 ∧ RZS G Wx r2 h2 H2 D (whileZ t body m s2 h2), fun σ2 H2 n2 => ⟨m, Nat.lt_succ_self _, n2⟩, r1, s', h1, S'.ext E1, E1.rel, ?_⟩
        simp only at z'
        cases e4 : body s' h1 with
        | no => simp only [e4] at z'; exact z'
        | nx s3 h3 =>
          simp only [e4] at z'
          exact fun r3 H3 σ3 E3 S3 => ⟨r3, s3, h3, (E'.trans E1).trans E3, S3, RZS.seq (E1.trans E3) z'⟩
        | ct s3 h3 =>
          simp only [e4] at z'
          exact fun r3 H3 σ3 E3 S3 => ⟨r3, s3, h3, (E'.trans E1).trans E3, S3, RZS.seq (E1.trans E3) z'⟩
        | bk s3 h3 =>
          simp only [e4] at z'
          exact fun r3 H3 σ3 E3 S3 => z' r3 H3 σ3 (E1.trans E3) S3
        | rt v h3 =>
          simp only [e4] at z'
          exact fun r3 H3 E3 hw => z' r3 H3 (E1.trans E3) hw
        | ex c d s3 h3 =>
          simp only [e4] at z'
          exact fun r3 H3 σ3 E3 hd S3 => z' r3 H3 σ3 (E1.trans E3) hd S3
end
end Zd

namespace Zd
open PySem PySem.Spec PyProof.Rows L2

/-! ### the slots of a comprehension -/
def wipeZ (s : ZSt) : List Nat → ZSt
  | [] => s
  | v :: vs => (wipeZ s vs).set v none
theorem SRel.wipe {G : Gm} {r : Rho} {n : Nat} {s : ZSt} {σ : L2.St} (x : SRel G r n s σ) : ∀ (vs : List Nat), SRel G r n (wipeZ s vs) (L2.wipe σ vs)
  | [] => x
  | v :: vs => SRel.unset (SRel.wipe x vs) v
theorem wipe_ix {σ : L2.St} : ∀ {vs : List Nat} {i : Nat}, (L2.wipe σ vs)[i]? = if i ∈ vs ∧ i < σ.length then some none else σ[i]?
  | [], i => by simp [L2.wipe]
  | v :: vs, i => by
    unfold L2.wipe
    by_cases hv : v = i
    · subst hv
      by_cases hl : v < σ.length
      · rw [List.getElem?_set_self (by rw [wipe_length]; exact hl), if_pos ⟨List.mem_cons_self, hl⟩]
      · rw [List.getElem?_eq_none (by rw [List.length_set, wipe_length]; exact Nat.le_of_not_lt hl), if_neg (fun z => hl z.2), List.getElem?_eq_none (Nat.le_of_not_lt hl)]
    · rw [List.getElem?_set_ne hv, wipe_ix]
      have : (i ∈ v :: vs) ↔ i ∈ vs := by
        rw [List.mem_cons]
        exact ⟨fun z => z.elim (fun e => absurd e.symm hv) id, .inr⟩
      simp only [this]
theorem setAllV_len {G : Gm} {r : Rho} : ∀ {l : List (Nat × W)} {σ : L2.St}, (setAllV G r σ l).length = σ.length
  | [], _ => rfl
  | p :: l, σ => by
    show (setAllV G r (σ.set p.1 (some (p.2.v G r))) l).length = _
    rw [setAllV_len, List.length_set]
theorem setAllV_ix {G : Gm} {r : Rho} {i : Nat} : ∀ {l : List (Nat × W)} {σ : L2.St}, (∀ p ∈ l, p.1 ≠ i) → (setAllV G r σ l)[i]? = σ[i]?
  | [], _, _ => rfl
  | p :: l, σ, h => by
    show (setAllV G r (σ.set p.1 (some (p.2.v G r))) l)[i]? = _
    rw [setAllV_ix fun q hq => h q (List.mem_cons_of_mem _ hq), List.getElem?_set_ne (h p List.mem_cons_self)]
theorem wipe_back {G : Gm} {r : Rho} {vs : List Nat} {l : List (Nat × W)} {σ : L2.St} (h : ∀ p ∈ l, p.1 ∈ vs) : L2.wipe (setAllV G r (L2.wipe σ vs) l) vs = L2.wipe σ vs := by
  refine List.ext_getElem? fun i => ?_
  rw [wipe_ix, setAllV_len, wipe_length]
  by_cases hi : i ∈ vs ∧ i < σ.length
  · rw [if_pos hi, wipe_ix, if_pos hi]
  · rw [if_neg hi]
    by_cases hv : i ∈ vs
    · have hl : ¬ i < σ.length := fun z => hi ⟨hv, z⟩
      rw [List.getElem?_eq_none (by rw [setAllV_len, wipe_length]; exact Nat.le_of_not_lt hl), List.getElem?_eq_none (by rw [wipe_length]; exact Nat.le_of_not_lt hl)]
    · exact setAllV_ix fun p hp e => hv (by rw [← e]; exact h p hp)
def inAll (vs : List Nat) (l : List (Nat × W)) : Bool := l.all fun p => vs.any fun v => Nat.beq p.1 v
theorem inAll_ok {vs : List Nat} {l : List (Nat × W)} (h : inAll vs l = true) : ∀ p ∈ l, p.1 ∈ vs := fun p hp => by
  unfold inAll at h
  rw [List.all_eq_true] at h
  obtain ⟨v, hv, e⟩ := List.any_eq_true.mp (h p hp)
  rw [Nat.eq_of_beq_eq_true e]; exact hv

/-! ### tests of a comprehension -/
abbrev W0 : WX := fun _ _ _ _ => False
def zYes : ZT := fun _ h => .ok true h
theorem PTs.imp {X : Cx} {ifs : List PySem.Expr} {t t' : TT} (p : PTs X ifs t) (i : ∀ σ H Q, t' σ H Q → t σ H Q) : PTs X ifs t' := ⟨fun pins s σ H Q I q => p.run pins s σ H Q I (i σ H Q q)⟩
theorem zts_nil {X : Cx} {G : Gm} {Wx : WX} : PTs X [] (tzT G Wx zYes) := PTs.imp pts_nil fun σ H Q q => by
  obtain ⟨r, s, h, S, HR, z⟩ := q
  exact z r H (Ext.refl HR)
theorem zts_one {X : Cx} {G : Gm} {Wx : WX} {c : PySem.Expr} {t : ZT} (h : PT X c (tzT G Wx t)) : PTs X [c] (tzT G Wx t) := pts_one h

/-! ### [e for target in iter if t] -/
def lcZ (src : ZSrc) (g : ZG) (t : ZT) (e : ZE) (d : Nat) (vs : List Nat) (sw : ZSt) : Nat → Nat → VH → R W
  | 0, _, _ => .no
  | n + 1, k, h => match zStep src k h with
    | none => .no
    | some none => .ok (.ref d) h
    | some (some (w, h1)) => (match g w h1 with
      | none => .no
      | some l => if inAll vs l then (match t (setAll sw l) h1 with
        | .ok true h2 => (match e (setAll sw l) h2 with
          | .ok y h3 => (match h3.get d with
            | some (.lst acc) => if Nat.blt acc.length line then lcZ src g t e d vs sw n (k + 1) (h3.set d (.lst (acc ++ [y]))) else .no
            | _ => .no)
          | _ => .no)
        | .ok false h2 => lcZ src g t e d vs sw n (k + 1) h2
        | _ => .no) else .no)
def zLc (f : ZI) (g : ZG) (t : ZT) (e : ZE) (vs : List Nat) : ZE := fun s h => match f s h with
  | .ok src h1 => lcZ src g t e h1.n vs (wipeZ s vs) 200 0 (h1.push (.lst []))
  | .ex c d h1 => .ex c d h1
  | .no => .no
section
variable {K : PySem.W.Frag} {X : Cx} {G : Gm} {Wx : WX} {ex : PySem.Expr}
theorem tz_lc {f : ZI} {g : ZG} {t : ZT} {e : ZE} {vs : List Nat} : ∀ σ H Q, tz G Wx (zLc f g t e vs) σ H Q → tLc (tzI K G Wx f) (tzG G g) (tzT G W0 t) (tz G W0 e) vs σ H Q := by
  intro σ H Q q
  obtain ⟨r, s, h, S, HR, z⟩ := q
  refine ⟨r, s, h, S, HR, ?_⟩
  unfold zLc at z
  cases e1 : f s h with
  | no => rw [e1] at z; exact z
  | ex c d h1 => rw [e1] at z; exact z
  | ok src h1 =>
    simp only [e1] at z
    intro r1 H1 E1 w1 D hD
    have E2 : Ext G r1 h1 H1 (setR r1 h1.n D) (h1.push (.lst [])) (upd H1 D (.lst [])) := Ext.new E1.rel hD rfl (upd_keep hD) upd_same
    refine ⟨fun i m H' => ∃ r' h', Ext G (setR r1 h1.n D) (h1.push (.lst [])) (upd H1 D (.lst [])) r' h' H' ∧ RZ G Wx r' h' H' σ Q (lcZ src g t e h1.n vs (wipeZ s vs) m i h'),
      ⟨200, _, _, Ext.refl E2.rel, RZ.seq (E1.trans E2) z⟩, ?_⟩
    rintro i m H' ⟨r', h', E', z'⟩
    have lt : h1.n < (h1.push (.lst [])).n := Nat.lt_succ_self _
    have ed : r' h1.n = D := (E'.agr _ lt).trans setR_same
    have agr1 : ∀ j, j < h1.n → r' j = r1 j := fun j hj => (E'.agr j (Nat.lt_succ_of_lt hj)).trans (setR_lt hj)
    have eit : src.it G K r' = src.it G K r1 := ZSrc.agr w1 agr1
    cases m with
    | zero => exact z'.elim
    | succ m =>
      unfold lcZ at z'
      cases e2 : zStep src i h' with
      | none => rw [e2] at z'; exact z'.elim
      | some o =>
        rw [e2] at z'
        cases o with
        | none =>
          refine .inl ⟨eit ▸ step_stop E'.rel e2, ?_⟩
          have := z' r' H' (Ext.refl E'.rel) (blt_of (Nat.lt_of_lt_of_le lt E'.le))
          rw [show (W.ref h1.n).v G r' = V.ref D from congrArg V.ref ed] at this
          exact this
        | some wh =>
          obtain ⟨w, h2⟩ := wh
          obtain ⟨go, yl⟩ := step_go (K := K) E'.rel e2
          rw [eit] at go yl
          refine .inr ⟨go, fun H2 => ∃ r2 h2, Ext G (setR r1 h1.n D) (h1.push (.lst [])) (upd H1 D (.lst [])) r2 h2 H2 ∧ RZ G Wx r2 h2 H2 σ Q (lcZ src g t e h1.n vs (wipeZ s vs) m (i + 1) h2), fun H2 n2 => ⟨m, Nat.lt_succ_self _, n2⟩, fun x H2 y => ?_⟩
          obtain ⟨r2, E2', rfl, ww⟩ := yl x H2 y
          simp only at z'
          cases e3 : g w h2 with
          | none => simp only [e3] at z'; exact z'.elim
          | some l =>
            simp only [e3] at z'
            by_cases hin : inAll vs l = true
            · rw [if_pos hin] at z'
              refine ⟨r2, h2, w, rfl, ww, E2'.rel, l, e3, fun hl => ⟨wipe_back (inAll_ok hin), ?_⟩⟩
              have S2 : SRel G r2 h2.n (setAll (wipeZ s vs) l) (setAllV G r2 (L2.wipe σ vs) l) := SRel.puts ((SRel.wipe (((S.ext E1).ext E2).ext E') vs).ext E2') hl
              refine ⟨r2, _, h2, S2, E2'.rel, ?_⟩
              cases e4 : t (setAll (wipeZ s vs) l) h2 with
              | no => simp only [e4] at z'; exact z'
              | ex c d h3 => simp only [e4] at z'; exact z'.elim
              | ok b h3 =>
                simp only [e4] at z'
                intro r3 H3 E3
                cases b with
                | false =>
                  rw [if_neg Bool.false_ne_true]
                  exact ⟨r3, h3, (E'.trans E2').trans E3, RZ.seq (E2'.trans E3) z'⟩
                | true =>
                  rw [if_pos rfl]
                  refine ⟨r3, _, h3, S2.ext E3, E3.rel, ?_⟩
                  simp only at z'
                  cases e5 : e (setAll (wipeZ s vs) l) h3 with
                  | no => simp only [e5] at z'; exact z'
                  | ex c d h4 => simp only [e5] at z'; exact z'.elim
                  | ok y h4 =>
                    simp only [e5] at z'
                    intro r4 H4 E4 wy
                    cases e6 : h4.get h1.n with
                    | none => simp only [e6] at z'; exact z'.elim
                    | some ob =>
                      simp only [e6] at z'
                      cases ob with
                      | lst acc =>
                        simp only at z'
                        have ed4 : r4 h1.n = D := (((E'.trans E2').trans E3).trans E4).agr _ lt |>.trans setR_same
                        have at4 : H4 D = some (.lst (vsV G r4 acc)) := by
                          have := E4.rel.at_ _ _ e6
                          rw [ed4] at this; exact this
                        by_cases hz : Nat.blt acc.length line = true
                        · rw [if_pos hz] at z'
                          have wacc : wfs h4.n acc = true := E4.rel.wf _ _ e6
                          have E5 := Ext.set (u := .lst (vsV G r4 acc ++ [y.v G r4])) (o := .lst (acc ++ [y])) E4.rel e6 (wfs_append wacc (wfs_one wy)) (by
                            show upd H4 (r4 h1.n) _ (r4 h1.n) = some (.lst (vsV G r4 (acc ++ [y])))
                            rw [upd_same, vsV, vsV, List.map_append]; rfl)
                          rw [ed4] at E5
                          exact ⟨_, at4, line_lt (by rw [vsV, List.length_map]; exact of_blt hz), r4, _, (((E'.trans E2').trans E3).trans E4).trans E5, RZ.seq (((E2'.trans E3).trans E4).trans E5) z'⟩
                        · rw [if_neg hz] at z'; exact z'.elim
                      | _ => exact z'.elim
            · rw [if_neg hin] at z'; exact z'.elim
theorem z_lc {f : ZI} {g : ZG} {t : ZT} {e : ZE} {vs : List Nat} (p : PE X ex (tLc (tzI X.K G Wx f) (tzG G g) (tzT G W0 t) (tz G W0 e) vs)) : PE X ex (tz G Wx (zLc f g t e vs)) := PE.imp p tz_lc
/-- name = [..] -/
theorem zs_setLc {st : Stmt} {f : ZI} {g : ZG} {t : ZT} {e : ZE} {vs : List Nat} {i : Nat} (p : PS X st (tAsg (tLc (tzI X.K G Wx f) (tzG G g) (tzT G W0 t) (tz G W0 e) vs) (gName i))) : PS X st (tzS G Wx (zAsg (zLc f g t e vs) (gNm i))) := by
  refine PS.imp p fun D σ H q => tz_lc σ H _ ?_
  obtain ⟨r, s, h, S, HR, z⟩ := q
  refine ⟨r, s, h, S, HR, ?_⟩
  unfold zAsg gNm at z
  cases e1 : zLc f g t e vs s h with
  | no => rw [e1] at z; exact z
  | ex c d h1 => rw [e1] at z; exact fun r1 H1 E1 hd => z r1 H1 σ E1 hd (S.ext E1)
  | ok w h1 =>
    simp only [e1] at z
    intro r1 H1 E1 w1
    exact z r1 H1 _ E1 (SRel.puts (S.ext E1) (by show (w.wf h1.n && true) = true; rw [w1]; rfl))
end

/-! ### dicts: what is put -/
def putQ (kvs : List (Key × W)) (k : Key) (w : W) : List (Key × W) :=
  if (kvs.any fun p => decide (p.1 = k)) = true then kvs.map (fun p => if p.1 = k then (p.1, w) else p) else kvs ++ [(k, w)]
section
variable {G : Gm} {r : Rho} {n : Nat}
theorem putQ_ok {kvs : List (Key × W)} {k : Key} {w : W} : kvV G r (putQ kvs k w) = putK (kvV G r kvs) k (w.v G r) := by
  have ea : ((kvV G r kvs).any fun kv => decide (kv.1 = k)) = kvs.any fun p => decide (p.1 = k) := by
    unfold kvV
    rw [List.any_map]; rfl
  unfold putK putQ
  rw [ea]
  by_cases h : (kvs.any fun p => decide (p.1 = k)) = true
  · rw [if_pos h, if_pos h]
    unfold kvV
    rw [List.map_map, List.map_map]
    refine List.map_congr_left fun p hp => ?_
    show ((if p.1 = k then (p.1, w) else p).1, (if p.1 = k then (p.1, w) else p).2.v G r) = if p.1 = k then (p.1, w.v G r) else (p.1, p.2.v G r)
    by_cases e : p.1 = k
    · rw [if_pos e, if_pos e]
    · rw [if_neg e, if_neg e]
  · rw [if_neg h, if_neg h]
    unfold kvV
    rw [List.map_append]; rfl
theorem putQ_wf {kvs : List (Key × W)} {k : Key} {w : W} (hw : w.wf n = true) (h : (kvs.all fun p => p.2.wf n) = true) : ((putQ kvs k w).all fun p => p.2.wf n) = true := by
  unfold putQ
  rw [List.all_eq_true] at h
  split
  · rw [List.all_eq_true]
    intro p hp
    obtain ⟨q, hq, rfl⟩ := List.mem_map.mp hp
    by_cases e : q.1 = k
    · rw [if_pos e]; exact hw
    · rw [if_neg e]; exact h q hq
  · rw [List.all_append, List.all_eq_true.mpr h]
    show (true && (w.wf n && true)) = true
    rw [hw]; rfl
end
end Zd

namespace Zd
end Zd

namespace Zd
open PySem PySem.Spec PyProof.Rows L2

/-- no reading at all: what is never come to -/
def zNo : ZE := fun _ _ => .no
theorem z_no {X : Cx} {G : Gm} {Wx : WX} {e : PySem.Expr} : PE X e (tz G Wx zNo) := ⟨fun _ _ _ _ _ _ q => by
  obtain ⟨r, s, h, S, HR, z⟩ := q
  exact z.elim⟩
def zNoT : ZT := fun _ _ => .no
theorem z_noT {X : Cx} {G : Gm} {Wx : WX} {e : PySem.Expr} : PT X e (tzT G Wx zNoT) := ⟨fun _ _ _ _ _ _ q => by
  obtain ⟨r, s, h, S, HR, z⟩ := q
  exact z.elim⟩
def zNoA : ZA := fun _ _ => .no
theorem z_noA {X : Cx} {G : Gm} {Wx : WX} {e : List PySem.Expr} : PA X e (tzA G Wx zNoA) := ⟨fun _ _ _ _ _ _ _ q => by
  obtain ⟨r, s, h, S, HR, z⟩ := q
  exact z.elim⟩

/-! ### the def -/
abbrev WofE (E : XK) : WX := fun c d _ H => E c d H
def startZ (n : Nat) (ws : List W) : ZSt := ws.map some ++ List.replicate (n - ws.length) none
def zDef (n : Nat) (z : ZS) : Fn := fun ws h => match z (startZ n ws) h with
  | .nx _ h1 => .ok .non h1
  | .rt w h1 => .ok w h1
  | .ex c d _ h1 => .ex c d h1
  | _ => .no
theorem start_rel {G : Gm} {r : Rho} {n : Nat} {ws : List W} {N : List Str} (h : wfs n ws = true) (hl : ws.length ≤ N.length) : SRel G r n (startZ N.length ws) (start N (vsV G r ws)) := by
  have ee : start N (vsV G r ws) = (vsV G r ws).map some ++ List.replicate (N.length - (vsV G r ws).length) none := rfl
  refine ⟨?_, fun i w e => ?_⟩
  · rw [ee]
    simp [startZ, vsV]
  · rw [ee]
    unfold startZ at e
    by_cases hi : i < ws.length
    · rw [List.getElem?_append_left (by simpa using hi), List.getElem?_map] at e
      rw [List.getElem?_append_left (by simpa [vsV] using hi), List.getElem?_map]
      cases q : ws[i]? with
      | none => rw [q] at e; cases e
      | some v =>
        rw [q] at e
        have e1 := Option.some.inj (Option.some.inj e)
        subst e1
        exact ⟨wfs_get h q, by rw [vsV, List.getElem?_map, q]; rfl⟩
    · rw [List.getElem?_append_right (by simpa using Nat.le_of_not_lt hi)] at e
      have := List.mem_replicate.mp (List.mem_of_getElem? e)
      cases this.2
/-- THE RULE of a def -/
theorem def_ok {P : Program} {w : World} {K : PySem.W.Frag} {mg : Str → Option Value} {base : Heap} {x qual : Str} {params : Arguments} {body : List Stmt} {scope : Scope} {dvs : List V} {kws : List (Str × V)} {f : Addr} {fd : FuncData} {N ps : List Str} {k : Nat} {G : Gm} {z : ZS}
    (F : FunD K x qual params body scope dvs kws f fd) (S : FnScope N ps scope) (hl : ps.length ≤ N.length)
    (hb : ∀ (cdv : Value) (A : Around) (outer : List Env) (s : Shared) (H : Hp) (E : XK), Room k (A.deeper (envOfC qual scope s.heap.objs.size f cdv)) → PSs (cxOf (L2.CX P w) P w K mg base N qual scope f cdv A outer s H E) body (tzS G (WofE E) z)) :
    FnOk P w K mg base (L2.CX P w) (k + 1) f fd ps (spz G ps.length (zDef N.length z)) := by
  refine F.ok S (fun vs H Q E h => spz_len vs H Q E h) fun cdv A outer s H vs Q E hr hsp => ⟨_, hb cdv A outer s H E hr, ?_⟩
  obtain ⟨r, ws, h, rfl, e, hw, HR, q⟩ := hsp
  refine ⟨r, startZ N.length ws, h, start_rel hw (by rw [e]; exact hl), HR, ?_⟩
  unfold zDef at q
  cases e1 : z (startZ N.length ws) h with
  | nx s1 h1 => rw [e1] at q; exact fun r1 H1 σ1 E1 S1 => q r1 H1 E1 rfl
  | rt v h1 => rw [e1] at q; exact q
  | bk s1 h1 => rw [e1] at q; exact q.elim
  | ct s1 h1 => rw [e1] at q; exact q.elim
  | ex c d s1 h1 => rw [e1] at q; exact fun r1 H1 σ1 E1 hd S1 => q r1 H1 E1 hd
  | no => rw [e1] at q; exact q.elim

/-! ### a def that is called -/
/-- the def at f does what fn says; how its arguments bind: bs -/
structure Cal (P : Program) (w : World) (K : PySem.W.Frag) (mg : Str → Option Value) (base : Heap) (G : Gm) (k : Nat) (f : Addr) (n : Nat) (fn : Fn) : Prop where
  ex : ∃ (fd : FuncData) (ps : List Str), FnOk P w K mg base (L2.CX P w) k f fd ps (spz G n fn) ∧ PySem.W.keepIn K (.ref f) = true ∧ Binds K fd ps []
/-- .. with keyword-only values given by name, ks, behind n positional ones -/
structure CalK (P : Program) (w : World) (K : PySem.W.Frag) (mg : Str → Option Value) (base : Heap) (G : Gm) (k : Nat) (f : Addr) (n : Nat) (np : Nat) (ks : List Str) (fn : Fn) : Prop where
  ex : ∃ (fd : FuncData) (ps : List Str) (g : List Value → List Value → List Value), FnOk P w K mg base (L2.CX P w) k f fd ps (spz G n fn) ∧ PySem.W.keepIn K (.ref f) = true ∧ KBn K fd ps np ks g (fun vs zs => vs ++ zs)
/-- .. with defaults ds that lack -/
structure CalD (P : Program) (w : World) (K : PySem.W.Frag) (mg : Str → Option Value) (base : Heap) (G : Gm) (k : Nat) (f : Addr) (n : Nat) (ds : List W) (fn : Fn) : Prop where
  ex : ∃ (fd : FuncData) (ps : List Str) (us : List Value) (dvs : List V), FnOk P w K mg base (L2.CX P w) k f fd ps (spz G n fn) ∧ PySem.W.keepIn K (.ref f) = true ∧ Binds K fd ps us ∧ Vals dvs us ∧ (∀ r, vsV G r ds = dvs) ∧ consts ds = true
section
variable {P : Program} {w : World} {K : PySem.W.Frag} {mg : Str → Option Value} {base : Heap} {G : Gm} {k j : Nat} {f : Addr} {n : Nat} {fn : Fn} {np : Nat} {ks : List Str} {ds : List W}
theorem Cal.mono (c : Cal P w K mg base G j f n fn) (h : j ≤ k) : Cal P w K mg base G k f n fn := by
  obtain ⟨fd, ps, F, r⟩ := c.ex
  exact ⟨fd, ps, F.mono h, r⟩
end
/-- how an exception of a callee goes on -/
structure Ps (X : Cx) (Wx : WX) : Prop where
  at_ : ∀ σ, PassesAt (L2.CX X.prog X.w) X σ (WE Wx σ)
structure PsE (X : Cx) (Wx : WX) (E : XK) : Prop where
  to : Passes (L2.CX X.prog X.w) X E
  im : ∀ c d σ H, Wx c d σ H → E c d H
theorem ps_takes {X : Cx} {Wx : WX} (tk : Takes X Wx) : Ps X Wx := ⟨fun σ => passAt tk σ⟩
theorem pse_takes {X : Cx} {E : XK} (tk : Takes X (WofE E)) : PsE X (WofE E) E := ⟨passes_call tk fun _ _ _ _ h => h, fun _ _ _ _ h => h⟩
theorem ps_none {X : Cx} : Ps X W0 := ⟨fun σ pins H s e s' I c => by
  obtain ⟨_, _, _, _, _, _, _, _, _, _, _, _, h⟩ := c
  exact h.elim⟩
theorem pse_none {X : Cx} : PsE X W0 (fun _ _ _ => False) := ⟨fun pins σ H s e s' I c => by
  obtain ⟨_, _, _, _, _, _, _, _, _, _, _, _, h⟩ := c
  exact h.elim, fun _ _ _ _ h => h⟩

/-- k, then kk -/
def zApp (k kk : ZA) : ZA := fun s h => match k s h with
  | .ok ws h1 => (match kk s h1 with
    | .ok us h2 => .ok (ws ++ us) h2
    | .ex c d h2 => .ex c d h2
    | .no => .no)
  | .ex c d h1 => .ex c d h1
  | .no => .no
section
variable {X : Cx} {G : Gm} {Wx : WX} {E : XK} {k kk : ZA} {e : PySem.Expr} {es : List PySem.Expr} {x : Str} {p pos : Pos} {j : Nat} {f C : Addr} {n np : Nat} {fn : Fn} {ks : List Str} {kws : List Keyword} {ds : List W} {c : Nat}
theorem PK.imp {t t' : TA} (p : PK X kws t) (i : ∀ σ H Q, t' σ H Q → t σ H Q) : PK X kws t' := ⟨fun pos pins s σ H Q I q => p.run pos pins s σ H Q I (i σ H Q q)⟩
theorem tz_app {σ : L2.St} {H : Hp} {Q : List V → Hp → Prop} {Q2 : List V → List V → Hp → Prop} (hq : ∀ (r1 : Rho) (ws us : List W) (h2 : VH) (H2 : Hp) (r2 : Rho), HRel G r2 h2 H2 → wfs h2.n ws = true → wfs h2.n us = true → (∀ v, v ∈ [()] → True) → Q (vsV G r2 (ws ++ us)) H2 → Q2 (vsV G r2 ws) (vsV G r2 us) H2)
    (q : tzA G Wx (zApp k kk) σ H Q) : tzA G Wx k σ H fun vs H1 => tzA G Wx kk σ H1 fun zs H2 => Q2 vs zs H2 := by
  obtain ⟨r, s, h, S, HR, z⟩ := q
  refine ⟨r, s, h, S, HR, ?_⟩
  unfold zApp at z
  cases e1 : k s h with
  | no => rw [e1] at z; exact z
  | ex c d h1 => rw [e1] at z; exact z
  | ok ws h1 =>
    simp only [e1] at z
    intro r1 H1 E1 w1
    refine ⟨r1, s, h1, S.ext E1, E1.rel, ?_⟩
    cases e2 : kk s h1 with
    | no => simp only [e2] at z; exact z
    | ex c d h2 => simp only [e2] at z; exact fun r2 H2 E2 hd => z r2 H2 (E1.trans E2) hd
    | ok us h2 =>
      simp only [e2] at z
      intro r2 H2 E2 w2
      have ww := wfs_le w1 E2.le
      rw [← vsV_agr w1 E2.agr]
      exact hq r2 ws us h2 H2 r2 E2.rel ww w2 (fun _ _ => trivial) (z r2 H2 (E1.trans E2) (wfs_append ww w2))
/-- f(a, ..) -/
theorem z_call (cl : Cal X.prog X.w X.K X.mg X.base G j f n fn) (hr : Room j X.A) (hp : Ps X Wx) (hg : Gl X x) (hm : X.mg x = some (.ref f)) (ha : PA X (e :: es) (tzA G Wx k)) (hdb : (x == ("__debug__" : Str)) = false)
    (he : starEach (e :: es) X.env = (false, eval e X.env) :: starEach es X.env) (hpl : (backTo pos (starEach es X.env)).any (·.1) = false) : PE X (.Call (.Name x p) (e :: es) [] pos) (tz G Wx (zFn n fn [] k)) := by
  obtain ⟨fd, ps, F, kp, hb⟩ := cl.ex
  exact z_fn (pe_callS F hr hg hm kp hb hp.at_ ha hdb he hpl)
/-- C(a, ..), a new instance -/
theorem z_new (cl : Cal X.prog X.w X.K X.mg X.base G j f n fn) (M : Mk X.K (G.ga c) f) (hr : Room (j + 1) X.A) (hp : PsE X Wx E) (hg : Gl X x) (hm : X.mg x = some (.ref (G.ga c))) (ha : PA X (e :: es) (tzA G Wx k)) (hdb : (x == ("__debug__" : Str)) = false)
    (he : starEach (e :: es) X.env = (false, eval e X.env) :: starEach es X.env) (hpl : (backTo pos (starEach es X.env)).any (·.1) = false) : PE X (.Call (.Name x p) (e :: es) [] pos) (tz G Wx (zMk c n fn k)) := by
  obtain ⟨fd, ps, F, kp, hb⟩ := cl.ex
  exact z_mk hp.im (pe_make M F hr hg hm hb .nil hp.to ha hdb he hpl)
/-- .. with defaults that lack -/
def zMkD (c n : Nat) (f : Fn) (ds : List W) (k : ZA) : ZE := fun s h => match k s h with
  | .ok ws h1 => if (ws ++ ds).length + 1 = n then (match f (.ref h1.n :: (ws ++ ds)) (h1.push (.ins c [])) with
    | .ok .non h2 => .ok (.ref h1.n) h2
    | .ok _ _ => .no
    | .ex c d h2 => .ex c d h2
    | .no => .no) else .no
  | .ex c d h1 => .ex c d h1
  | .no => .no
/-- what stands behind both: the instance is laid, __init__ runs -/
theorem made_of {Q : VK} {r r1 : Rho} {h h1 : VH} {H H1 : Hp} {σ : L2.St} {ws : List W} {sp : Sp} {gvs : Addr → List V} (hW : ∀ c d σ H, Wx c d σ H → E c d H) (hgv : ∀ a r', (∀ i, i < h1.n → r' i = r1 i) → r' h1.n = a → gvs a = vsV G r' (.ref h1.n :: ws)) (E1 : Ext G r h H r1 h1 H1) (w1 : wfs h1.n ws = true) (hs : ∀ vs H Q E, spz G n fn vs H Q E → sp vs H Q E)
    (z : RZ G Wx r h H σ Q (if ws.length + 1 = n then (match fn (.ref h1.n :: ws) (h1.push (.ins c [])) with
      | .ok .non h2 => .ok (.ref h1.n) h2
      | .ok _ _ => .no
      | .ex c d h2 => .ex c d h2
      | .no => .no) else .no)) :
    ∀ x dx, H1 x = none → H1 dx = none → dx ≠ x → sp (gvs x) (upd (upd H1 dx (.own x)) x (.ins (G.ga c) dx [])) (fun v H2 => v = .non ∧ Q (.ref x) H2) E := by
  intro x dx hx hdx ne
  by_cases hn : ws.length + 1 = n
  · rw [if_pos hn] at z
    have E2 : Ext G r1 h1 H1 (setR r1 h1.n x) (h1.push (.ins c [])) (upd (upd H1 dx (.own x)) x (.ins (G.ga c) dx [])) := Ext.new E1.rel hx rfl (fun a u e => by
      rw [upd_ne (ne_of_none e hx), upd_ne (ne_of_none e hdx)]; exact e) ⟨dx, upd_same⟩
    have wn : wfs (h1.push (.ins c [])).n (.ref h1.n :: ws) = true := by
      show (Nat.blt h1.n (h1.n + 1) && wfs (h1.n + 1) ws) = true
      rw [blt_self, wfs_le w1 (Nat.le_succ _)]; rfl
    refine hs _ _ _ _ ⟨setR r1 h1.n x, .ref h1.n :: ws, _, hgv x _ (fun i q => setR_lt q) setR_same, by simpa using hn, wn, E2.rel, ?_⟩
    cases e2 : fn (.ref h1.n :: ws) (h1.push (.ins c [])) with
    | no => simp only [e2] at z; exact z
    | ex c d h2 =>
      simp only [e2] at z
      exact fun r3 H3 E3 hd => hW _ _ _ _ (z r3 H3 (E1.trans (E2.trans E3)) hd)
    | ok w h2 =>
      simp only [e2] at z
      intro r3 H3 E3 w3
      cases w with
      | non =>
        refine ⟨rfl, ?_⟩
        have lt : h1.n < (h1.push (.ins c [])).n := Nat.lt_succ_self _
        have k3 := z r3 H3 (E1.trans (E2.trans E3)) (blt_of (Nat.lt_of_lt_of_le lt E3.le))
        have e4 : (W.ref h1.n).v G r3 = .ref x := by show V.ref (r3 h1.n) = _; rw [E3.agr _ lt, setR_same]
        rw [e4] at k3
        exact k3
      | _ => exact z.elim
  · rw [if_neg hn] at z; exact z.elim
theorem z_newD (cl : CalD X.prog X.w X.K X.mg X.base G j f n ds fn) (M : Mk X.K (G.ga c) f) (hr : Room (j + 1) X.A) (hp : PsE X Wx E) (hg : Gl X x) (hm : X.mg x = some (.ref (G.ga c))) (ha : PA X (e :: es) (tzA G Wx k)) (hdb : (x == ("__debug__" : Str)) = false)
    (he : starEach (e :: es) X.env = (false, eval e X.env) :: starEach es X.env) (hpl : (backTo pos (starEach es X.env)).any (·.1) = false) : PE X (.Call (.Name x p) (e :: es) [] pos) (tz G Wx (zMkD c n fn ds k)) := by
  obtain ⟨fd, ps, us, dvs, F, kp, hb, hv, hd, hc⟩ := cl.ex
  refine PE.imp (pe_make M F hr hg hm hb hv hp.to ha hdb he hpl) fun σ H Q q => ?_
  obtain ⟨r, s, h, S, HR, z⟩ := q
  refine ⟨r, s, h, S, HR, ?_⟩
  unfold zMkD at z
  cases e1 : k s h with
  | no => rw [e1] at z; exact z
  | ex c d h1 => rw [e1] at z; exact z
  | ok ws h1 =>
    simp only [e1] at z
    intro r1 H1 E1 w1
    have wd := consts_wf h1.n hc
    refine made_of (gvs := fun a => V.ref a :: (vsV G r1 ws ++ dvs)) hp.im (fun a r' h1' h2' => ?_) E1 (wfs_append w1 wd) (fun _ _ _ _ h => h) z
    show V.ref a :: (vsV G r1 ws ++ dvs) = V.ref (r' h1.n) :: vsV G r' (ws ++ ds)
    rw [h2', show vsV G r' (ws ++ ds) = vsV G r' ws ++ vsV G r' ds from List.map_append, hd r', vsV_agr w1 h1']
/-- C(a, .., k = v, ..) -/
theorem z_newK (cl : CalK X.prog X.w X.K X.mg X.base G j f n (np + 1) ks fn) (M : Mk X.K (G.ga c) f) (hr : Room (j + 1) X.A) (hp : PsE X Wx E) (hg : Gl X x) (hm : X.mg x = some (.ref (G.ga c))) (ha : PA X (e :: es) (tzA G Wx k)) (hkw : PK X kws (tzA G Wx kk)) (hn : n = np + ks.length + 1) (hnp : ∀ s h ws h1, k s h = .ok ws h1 → ws.length = np)
    (hall : (backToKw pos (keywordEach kws X.env)).all (·.1.isSome) = true) (hks : (backToKw pos (keywordEach kws X.env)).filterMap (·.1) = ks) (hdb : (x == ("__debug__" : Str)) = false)
    (he : starEach (e :: es) X.env = (false, eval e X.env) :: starEach es X.env) (hpl : ((backTo pos (starEach (e :: es) X.env)).any (·.1) || (backToKw pos (keywordEach kws X.env)).any (·.1.isNone)) = false) :
    PE X (.Call (.Name x p) (e :: es) kws pos) (tz G Wx (zMk c n fn (zApp k kk))) := by
  obtain ⟨fd, ps, g, F, kp, hb⟩ := cl.ex
  refine PE.imp (pe_makeK (n := np) M F hr hg hm hb hp.to ha hkw hall hks hdb he hpl) fun σ H Q q => ?_
  obtain ⟨r, s, h, S, HR, z⟩ := q
  refine ⟨r, s, h, S, HR, ?_⟩
  unfold zMk zApp at z
  cases e1 : k s h with
  | no => rw [e1] at z; exact z
  | ex c d h1 => rw [e1] at z; exact z
  | ok ws h1 =>
    simp only [e1] at z
    intro r1 H1 E1 w1
    refine ⟨r1, s, h1, S.ext E1, E1.rel, ?_⟩
    cases e2 : kk s h1 with
    | no => simp only [e2] at z; exact z
    | ex c d h2 => simp only [e2] at z; exact fun r2 H2 E2 hd => z r2 H2 (E1.trans E2) hd
    | ok us h2 =>
      simp only [e2] at z
      intro r2 H2 E2 w2
      have wl := hnp _ _ _ _ e1
      have ww := wfs_le w1 E2.le
      by_cases hl : (ws ++ us).length + 1 = n
      · refine ⟨by rw [vsV, List.length_map, wl], by rw [vsV, List.length_map]; rw [List.length_append] at hl; omega, ?_⟩
        refine made_of (gvs := fun a => (V.ref a :: vsV G r1 ws) ++ vsV G r2 us) hp.im (fun a r' h1' h2' => ?_) (E1.trans E2) (wfs_append ww w2) (fun _ _ _ _ h => h) z
        show (V.ref a :: vsV G r1 ws) ++ vsV G r2 us = V.ref (r' h2.n) :: vsV G r' (ws ++ us)
        rw [h2', show vsV G r' (ws ++ us) = vsV G r' ws ++ vsV G r' us from List.map_append, vsV_agr w2 h1', vsV_agr ww h1', vsV_agr w1 E2.agr]; rfl
      · rw [if_neg hl] at z; exact z.elim
/-- f(a, .., k = v, ..) -/
theorem z_callK (cl : CalK X.prog X.w X.K X.mg X.base G j f n np ks fn) (hr : Room j X.A) (hp : PsE X Wx E) (hg : Gl X x) (hm : X.mg x = some (.ref f)) (ha : PA X (e :: es) (tzA G Wx k)) (hkw : PK X kws (tzA G Wx kk)) (hn : n = np + ks.length) (hnp : ∀ s h ws h1, k s h = .ok ws h1 → ws.length = np)
    (hall : (backToKw pos (keywordEach kws X.env)).all (·.1.isSome) = true) (hks : (backToKw pos (keywordEach kws X.env)).filterMap (·.1) = ks) (hdb : (x == ("__debug__" : Str)) = false)
    (he : starEach (e :: es) X.env = (false, eval e X.env) :: starEach es X.env) (hpl : ((backTo pos (starEach (e :: es) X.env)).any (·.1) || (backToKw pos (keywordEach kws X.env)).any (·.1.isNone)) = false) :
    PE X (.Call (.Name x p) (e :: es) kws pos) (tz G Wx (zFn n fn [] (zApp k kk))) := by
  obtain ⟨fd, ps, g, F, kp, hb⟩ := cl.ex
  refine PE.imp (pe_callN F hr hg hm kp hb hp.to ha hkw hall hks hdb he hpl) fun σ H Q q => ?_
  obtain ⟨r, s, h, S, HR, z⟩ := q
  refine ⟨r, s, h, S, HR, ?_⟩
  unfold zFn zApp at z
  cases e1 : k s h with
  | no => rw [e1] at z; exact z
  | ex c d h1 => rw [e1] at z; exact z
  | ok ws h1 =>
    simp only [e1] at z
    intro r1 H1 E1 w1
    refine ⟨r1, s, h1, S.ext E1, E1.rel, ?_⟩
    cases e2 : kk s h1 with
    | no => simp only [e2] at z; exact z
    | ex c d h2 => simp only [e2] at z; exact fun r2 H2 E2 hd => z r2 H2 (E1.trans E2) hd
    | ok us h2 =>
      simp only [e2, app_nil] at z
      intro r2 H2 E2 w2
      have wl := hnp _ _ _ _ e1
      have ww := wfs_le w1 E2.le
      by_cases hl : (ws ++ us).length = n
      · rw [if_pos hl] at z
        refine ⟨by rw [vsV, List.length_map, wl], by rw [vsV, List.length_map]; rw [List.length_append] at hl; omega, r2, ws ++ us, h2, ?_, hl, wfs_append ww w2, E2.rel, RZ.re (fun _ _ _ z => hp.im _ _ _ _ z) (RZ.seq (E1.trans E2) z)⟩
        show vsV G r1 ws ++ vsV G r2 us = vsV G r2 (ws ++ us)
        rw [show vsV G r2 (ws ++ us) = vsV G r2 ws ++ vsV G r2 us from List.map_append, vsV_agr w1 E2.agr]
      · rw [if_neg hl] at z; exact z.elim
theorem zk_nil : PK X [] (tzA G Wx zNil) := PK.imp pk_nil fun σ H Q q => by
  obtain ⟨r, s, h, S, HR, z⟩ := q
  exact z r H (Ext.refl HR) rfl
end
end Zd

namespace Zd
open PySem PySem.Spec PyProof.Rows L2

/-! ### raise C(e), C an own exception whose __init__ stores its one argument -/
def spI (C : Addr) (m : Str) : Sp := fun vs H Q _ => ∃ a y, vs = [.ref a, y] ∧ H a = some (exo a C none) ∧ ∀ dx, H dx = none → dx ≠ a → Q .non (upd (upd H dx (exd dx [(m, y)])) a (exo a C (some dx)))
structure CalI (P : Program) (w : World) (K : PySem.W.Frag) (mg : Str → Option Value) (base : Heap) (k : Nat) (C : Addr) (m : Str) : Prop where
  ex : ∃ (f : Addr) (fd : FuncData) (ps : List Str), FnOk P w K mg base (L2.CX P w) k f fd ps (spI C m) ∧ Binds K fd ps [] ∧ PySem.W.findIn K (.ref C) "__init__" = some (some (.ref f)) ∧ PySem.W.typeIn K (.ref f) = some (.type "function")
  T : OexC K C
theorem init_ok {P : Program} {w : World} {K : PySem.W.Frag} {mg : Str → Option Value} {base : Heap} {x qual : Str} {params : Arguments} {body : List Stmt} {scope : Scope} {f C : Addr} {fd : FuncData} {N ps : List Str} {k : Nat} {m : Str}
    (F : FunD K x qual params body scope [] [] f fd) (S : FnScope N ps scope) (hps : ps.length = 2) (hN : N.length = 2) (T : OexC K C) (hno : PySem.W.findIn K (.ref C) m = some none)
    (hb : ∀ (cdv : Value) (A : Around) (outer : List Env) (s : Shared) (H : Hp) (E : XK), Room k (A.deeper (envOfC qual scope s.heap.objs.size f cdv)) → PSs (cxOf (L2.CX P w) P w K mg base N qual scope f cdv A outer s H E) body (tOst K m (tVar 0) (tVar 1))) :
    FnOk P w K mg base (L2.CX P w) (k + 1) f fd ps (spI C m) := by
  refine F.ok S (fun vs H Q E h => ?_) fun cdv A outer s H vs Q E hr hsp => ⟨_, hb cdv A outer s H E hr, ?_⟩
  · obtain ⟨a, y, rfl, _⟩ := h
    rw [hps]; rfl
  · obtain ⟨a, y, rfl, ha, hq⟩ := hsp
    match N, hN with
    | [_, _], _ => exact ⟨y, rfl, .ref a, rfl, a, C, rfl, T, hno, .inl ⟨ha, fun dx h1 h2 => hq dx h1 h2⟩⟩
/-- raise C(e) -/
def zRaise (c m : Nat) (k : ZA) : ZS := fun s h => match k s h with
  | .ok [w] h1 => .ex c h1.n s (h1.push (.xd [(m, w)]))
  | .ok _ _ => .no
  | .ex c d h1 => .ex c d s h1
  | .no => .no
section
variable {X : Cx} {G : Gm} {Wx : WX} {k : ZA} {e : PySem.Expr} {es : List PySem.Expr} {x : Str} {p pos pos' : Pos} {j c m : Nat}
theorem zs_raise (cl : CalI X.prog X.w X.K X.mg X.base j (G.ga c) (G.nm m)) (hr : Room (j + 1) X.A) (hc : X.calm = true) (tk : Takes X Wx) (hg : Gl X x) (hm : X.mg x = some (.ref (G.ga c))) (ha : PA X (e :: es) (tzA G Wx k)) (hdb : (x == ("__debug__" : Str)) = false)
    (he : starEach (e :: es) X.env = (false, eval e X.env) :: starEach es X.env) (hpl : (backTo pos (starEach es X.env)).any (·.1) = false) : PS X (.Raise (some (.Call (.Name x p) (e :: es) [] pos)) none pos') (tzS G Wx (zRaise c m k)) := by
  obtain ⟨f, fd, ps, F, hb, iC, tI⟩ := cl.ex
  refine PS.imp (ps_raise hc tk (pmk_oex cl.T iC tI F hr hb .nil (fun pins σ H s e s' I c => by
    obtain ⟨_, _, _, _, _, _, _, _, _, _, _, _, h⟩ := c
    exact h.elim) hg hm ha hdb he hpl)) fun D σ H q => ?_
  obtain ⟨r, s, h, S, HR, z⟩ := q
  refine ⟨r, s, h, S, HR, ?_⟩
  unfold zRaise at z
  cases e1 : k s h with
  | no => rw [e1] at z; exact z
  | ex c d h1 => rw [e1] at z; exact fun r1 H1 E1 hd => z r1 H1 σ E1 hd (S.ext E1)
  | ok ws h1 =>
    rw [e1] at z
    intro r1 H1 E1 w1
    match ws, w1, z with
    | [w], w1, z =>
      have hw : w.wf h1.n = true := by
        have : (w.wf h1.n && true) = true := w1
        rwa [Bool.and_true] at this
      refine ⟨by simp [vsV], fun a ha => ?_⟩
      refine ⟨a, w.v G r1, rfl, upd_same, fun dx n1 ne => ⟨rfl, dx, [(G.nm m, w.v G r1)], upd_same, ?_, ?_, ?_⟩⟩
      · rw [upd_ne ne, upd_same]
      · rw [upd_ne ne] at n1; exact n1
      · have nd : H1 dx = none := by rw [upd_ne ne] at n1; exact n1
        have eH : upd (del (upd (upd (upd H1 a (exo a (G.ga c) none)) dx (exd dx [(G.nm m, w.v G r1)])) a (exo a (G.ga c) (some dx))) a) dx (.xd [(G.nm m, w.v G r1)]) = upd H1 dx (.xd [(G.nm m, w.v G r1)]) := by
          funext b
          by_cases hb : b = dx
          · rw [hb, upd_same, upd_same]
          · rw [upd_ne hb, upd_ne hb]
            by_cases hba : b = a
            · rw [hba, del_same, ha]
            · rw [del_ne hba, upd_ne hba, upd_ne hb, upd_ne hba]
        rw [eH]
        have E2 : Ext G r1 h1 H1 (setR r1 h1.n dx) (h1.push (.xd [(m, w)])) (upd H1 dx (.xd [(G.nm m, w.v G r1)])) := Ext.new E1.rel nd (by
          show (w.wf (h1.n + 1) && true) = true
          rw [W.wf_le hw (Nat.le_succ _)]; rfl) (upd_keep nd) (by
          show upd H1 dx _ dx = some (.xd (fsV G (setR r1 h1.n dx) [(m, w)]))
          rw [upd_same]
          show some (HO.xd [(G.nm m, w.v G r1)]) = some (.xd [(G.nm m, w.v G (setR r1 h1.n dx))])
          rw [W.v_agr hw fun i q => setR_lt q])
        have q := z _ _ σ (E1.trans E2) (Nat.lt_succ_self _) (S.ext (E1.trans E2))
        rw [setR_same] at q
        exact q
    | [], _, z => exact z.elim
    | _ :: _ :: _, _, z =>
      unfold RZS at z
      split at z
      · rename_i q; simp at q
      · rename_i q; simp at q
      · rename_i q; simp at q
      · rename_i q; simp at q
      · rename_i q; simp at q
      · exact z.elim
end

/-! ### isinstance -/
inductive Tg where
  | non | bl | int | str | lst | tup | dic | ins (c : Nat)
def Tg.v (G : Gm) : Tg → Value
  | .non => .type "NoneType"
  | .bl => .type "bool"
  | .int => .type "int"
  | .str => .type "str"
  | .lst => .type "list"
  | .tup => .type "tuple"
  | .dic => .type "dict"
  | .ins c => .ref (G.ga c)
def tagOf (h : VH) : W → Option Tg
  | .non => some .non
  | .bl _ => some .bl
  | .int _ => some .int
  | .str _ => some .str
  | .ref i => (match h.get i with
    | some (.lst _) => some .lst
    | some (.tup _) => some .tup
    | some (.dic _) => some .dic
    | some (.dlk _) => some .dic
    | some (.ins c _) => some (.ins c)
    | _ => none)
  | _ => none
/-- what the class must say -/
structure TyC (K : PySem.W.Frag) (C : Addr) : Prop where
  cl : Cls K C
  ha : PySem.W.findIn K (.ref C) "__class__" = some (some (.builtin "object.__class__"))
  hn : PySem.W.specialIn K (.builtin "object.__class__") "__get__" = some (some (.builtin "getset_descriptor.__get__"))
  ht : PySem.W.takesIn K (.builtin "object.__class__") = some true
  hm : PySem.W.mroIn K C (.type "object") = some true
theorem tagOf_ok {K : PySem.W.Frag} {G : Gm} {r : Rho} {h : VH} {H : Hp} {w : W} {t : Tg} (HR : HRel G r h H) (e : tagOf h w = some t) (hi : ∀ c, t = .ins c → TyC K (G.ga c)) : TyX K H (w.v G r) (t.v G) := by
  cases w with
  | non => cases e; exact .base .non
  | bl b => cases e; exact .base (.bl b)
  | int b => cases e; exact .base (.int b)
  | str b => cases e; exact .base (.str b)
  | glo b => cases e
  | ty b => cases e
  | ref i =>
    have e1 : (match h.get i with
      | some (.lst _) => some Tg.lst
      | some (.tup _) => some Tg.tup
      | some (.dic _) => some Tg.dic
      | some (.dlk _) => some Tg.dic
      | some (.ins c _) => some (Tg.ins c)
      | _ => none) = some t := e
    cases q : h.get i with
    | none => rw [q] at e1; cases e1
    | some o =>
      rw [q] at e1
      have a := HR.at_ i o q
      cases o with
      | lst xs => cases e1; exact .base (.lst a)
      | tup xs => cases e1; exact .base (.tup a)
      | dic xs => cases e1; exact .base (.dK a)
      | dlk xs => cases e1; exact .fDict a
      | ins c fs =>
        cases e1
        obtain ⟨dx, a⟩ := a
        have T := hi c rfl
        exact .base (.ins a T.cl T.ha T.hn T.ht T.hm)
      | _ => cases e1
def zIsi (tb : Tg → Option Bool) (f : ZE) : ZE := fun s h => match f s h with
  | .ok w h1 => (match tagOf h1 w with
    | some t => (match tb t with
      | some b => .ok (.bl b) h1
      | none => .no)
    | none => .no)
  | .ex c d h1 => .ex c d h1
  | .no => .no
theorem z_isi {X : Cx} {G : Gm} {Wx : WX} {ex : PySem.Expr} {f : ZE} {tb : Tg → Option Bool} {v : V} {u : Value} (hv : ClsV v u) (ht : ∀ t b, tb t = some b → PySem.W.kitOne X.K (t.v G) u = some b) (hi : ∀ c b, tb (.ins c) = some b → TyC X.K (G.ga c))
    (p : PE X ex (tCB (rIsi X.K) (tCons (tz G Wx f) (tCons (tC v) tNil)))) : PE X ex (tz G Wx (zIsi tb f)) := by
  refine PE.imp p fun σ H Q q => ?_
  obtain ⟨r, s, h, S, HR, z⟩ := q
  refine ⟨r, s, h, S, HR, ?_⟩
  unfold zIsi at z
  cases e1 : f s h with
  | no => rw [e1] at z; exact z
  | ex c d h1 => rw [e1] at z; exact z
  | ok w h1 =>
    simp only [e1] at z
    intro r1 H1 E1 w1
    cases e2 : tagOf h1 w with
    | none => simp only [e2] at z; exact z.elim
    | some t =>
      simp only [e2] at z
      cases e3 : tb t with
      | none => simp only [e3] at z; exact z.elim
      | some b =>
        simp only [e3] at z
        exact ⟨_, _, _, _, b, rfl, hv, tagOf_ok E1.rel e2 fun c ec => hi c b (by rw [← ec]; exact e3), ht t b e3, z r1 H1 E1 rfl⟩
/-- the built-in types -/
def tbInt : Tg → Option Bool
  | .int => some true
  | .bl => some true
  | .ins _ => none
  | _ => some false
def tbBool : Tg → Option Bool
  | .bl => some true
  | .ins _ => none
  | _ => some false
def tbStr : Tg → Option Bool
  | .str => some true
  | .ins _ => none
  | _ => some false
def tbList : Tg → Option Bool
  | .lst => some true
  | .ins _ => none
  | _ => some false
def tbTup : Tg → Option Bool
  | .tup => some true
  | .ins _ => none
  | _ => some false
section
variable {K : PySem.W.Frag} {G : Gm}
theorem tb_int : ∀ t b, tbInt t = some b → PySem.W.kitOne K (t.v G) (.type "int") = some b := by
  intro t b e
  cases t <;> cases e <;> exact kit_ty (by decide +kernel)
theorem tb_bool : ∀ t b, tbBool t = some b → PySem.W.kitOne K (t.v G) (.type "bool") = some b := by
  intro t b e
  cases t <;> cases e <;> exact kit_ty (by decide +kernel)
theorem tb_str : ∀ t b, tbStr t = some b → PySem.W.kitOne K (t.v G) (.type "str") = some b := by
  intro t b e
  cases t <;> cases e <;> exact kit_ty (by decide +kernel)
theorem tb_list : ∀ t b, tbList t = some b → PySem.W.kitOne K (t.v G) (.type "list") = some b := by
  intro t b e
  cases t <;> cases e <;> exact kit_ty (by decide +kernel)
theorem tb_tup : ∀ t b, tbTup t = some b → PySem.W.kitOne K (t.v G) (.type "tuple") = some b := by
  intro t b e
  cases t <;> cases e <;> exact kit_ty (by decide +kernel)
theorem tb_no {tb : Tg → Option Bool} (h : ∀ c, tb (.ins c) = none) : ∀ c b, tb (.ins c) = some b → TyC K (G.ga c) := fun c b e => by rw [h c] at e; cases e
end

/-! ### slices -/
abbrev ZO := ZSt → VH → R (Option Int)
def RZO (G : Gm) (Wx : WX) (r : Rho) (h : VH) (H : Hp) (σ : L2.St) (Q : Option Int → Hp → Prop) : R (Option Int) → Prop
  | .ok b h' => ∀ r' H', Ext G r h H r' h' H' → Q b H'
  | .ex c d h' => ∀ r' H', Ext G r h H r' h' H' → d < h'.n → Wx (.ref (G.ga c)) (some (r' d)) σ H'
  | .no => False
def tzO (G : Gm) (Wx : WX) (f : ZO) : TO := fun σ H Q => ∃ r s h, SRel G r h.n s σ ∧ HRel G r h H ∧ RZO G Wx r h H σ Q (f s h)
theorem PO.imp {X : Cx} {e : Option PySem.Expr} {t t' : TO} (p : PO X e t) (i : ∀ σ H Q, t' σ H Q → t σ H Q) : PO X e t' := ⟨fun pins s σ H Q I q => p.run pins s σ H Q I (i σ H Q q)⟩
def zONone : ZO := fun _ h => .ok none h
def zOSome (f : ZE) : ZO := fun s h => match f s h with
  | .ok (.int i) h1 => .ok (some i) h1
  | .ok _ _ => .no
  | .ex c d h1 => .ex c d h1
  | .no => .no
def cutW (xs : List W) (lo hi : Option Int) : List W := (xs.drop (HT.sIx xs.length 0 lo)).take (HT.sIx xs.length xs.length hi - HT.sIx xs.length 0 lo)
def wholeW (n : Nat) (lo hi : Option Int) : Bool := Nat.beq (HT.sIx n 0 lo) 0 && Nat.beq (HT.sIx n n hi) n
def opSl : W → Option Int → Option Int → VH → R W := fun a lo hi h => match lstOf h a with
  | some xs => .ok (.ref h.n) (h.push (.lst (cutW xs lo hi)))
  | none => (match tupOf h a with
    | some xs => if wholeW xs.length lo hi then .no else .ok (.ref h.n) (h.push (.tup (cutW xs lo hi)))
    | none => (match a with
      | .str x => if x.length ≤ line then .ok (.str (cutS x lo hi)) h else .no
      | _ => .no))
def zSl (f : ZE) (lo hi : ZO) : ZE := fun s h => match f s h with
  | .ok w h1 => (match lo s h1 with
    | .ok l h2 => (match hi s h2 with
      | .ok u h3 => opSl w l u h3
      | .ex c d h3 => .ex c d h3
      | .no => .no)
    | .ex c d h2 => .ex c d h2
    | .no => .no)
  | .ex c d h1 => .ex c d h1
  | .no => .no
section
variable {X : Cx} {G : Gm} {Wx : WX} {e : PySem.Expr} {f : ZE} {lo hi : Option PySem.Expr} {l u : ZO} {pos p2 : Pos}
theorem zo_none : PO X none (tzO G Wx zONone) := PO.imp po_none fun σ H Q q => by
  obtain ⟨r, s, h, S, HR, z⟩ := q
  exact z r H (Ext.refl HR)
theorem zo_some (p : PE X e (tz G Wx f)) : PO X (some e) (tzO G Wx (zOSome f)) := by
  refine PO.imp (po_some p) fun σ H Q q => ?_
  obtain ⟨r, s, h, S, HR, z⟩ := q
  refine ⟨r, s, h, S, HR, ?_⟩
  unfold zOSome at z
  cases e1 : f s h with
  | no => rw [e1] at z; exact z
  | ex c d h1 => rw [e1] at z; exact z
  | ok w h1 =>
    rw [e1] at z
    intro r1 H1 E1 w1
    cases w with
    | int i => exact ⟨i, rfl, z r1 H1 E1⟩
    | _ => exact z.elim
theorem cut_map {r : Rho} {xs : List W} {a b : Option Int} : vsV G r (cutW xs a b) = cutV (vsV G r xs) a b := by
  unfold cutW cutV
  rw [vsV, List.map_take, List.map_drop, vsV, List.length_map]
theorem cut_wf {n : Nat} {xs : List W} {a b : Option Int} (h : wfs n xs = true) : wfs n (cutW xs a b) = true := wfs_sub h fun w hw => List.mem_of_mem_drop (List.mem_of_mem_take hw)
theorem z_sl (hr : SlR X fun x lo hi H Q => rSlL X.K x lo hi H Q ∨ (rSlT X.K x lo hi H Q ∨ rSlS x lo hi H Q)) (p : PE X e (tz G Wx f)) (h1 : PO X lo (tzO G Wx l)) (h2 : PO X hi (tzO G Wx u)) : PE X (.Subscript e (.Slice lo hi none p2) pos) (tz G Wx (zSl f l u)) := by
  refine PE.imp (pe_slice hr p h1 h2) fun σ H Q q => ?_
  obtain ⟨r, s, h, S, HR, z⟩ := q
  refine ⟨r, s, h, S, HR, ?_⟩
  unfold zSl at z
  cases e1 : f s h with
  | no => rw [e1] at z; exact z
  | ex c d h1 => rw [e1] at z; exact z
  | ok w h1 =>
    simp only [e1] at z
    intro r1 H1 E1 w1
    refine ⟨r1, s, h1, S.ext E1, E1.rel, ?_⟩
    cases e2 : l s h1 with
    | no => simp only [e2] at z; exact z
    | ex c d h2 => simp only [e2] at z; exact fun r2 H2 E2 hd => z r2 H2 (E1.trans E2) hd
    | ok a h2 =>
      simp only [e2] at z
      intro r2 H2 E2
      refine ⟨r2, s, h2, S.ext (E1.trans E2), E2.rel, ?_⟩
      cases e3 : u s h2 with
      | no => simp only [e3] at z; exact z
      | ex c d h3 => simp only [e3] at z; exact fun r3 H3 E3 hd => z r3 H3 ((E1.trans E2).trans E3) hd
      | ok b h3 =>
        simp only [e3] at z
        intro r3 H3 E3
        have ev : w.v G r1 = w.v G r3 := by rw [W.v_agr (W.wf_le w1 E2.le) E3.agr, W.v_agr w1 E2.agr]
        have z := RZ.seq ((E1.trans E2).trans E3) z
        rw [ev]
        unfold opSl at z
        cases q1 : lstOf h3 w with
        | some xs =>
          simp only [q1] at z
          obtain ⟨p, ep, sq, wf⟩ := lstOf_ok (K := X.K) E3.rel q1
          refine .inl ⟨p, _, ep, sq, fun d hd => ?_⟩
          have := new_lst E3.rel (cut_wf wf) z d hd
          rw [cut_map] at this
          exact this
        | none =>
          simp only [q1] at z
          cases q2 : tupOf h3 w with
          | some xs =>
            simp only [q2] at z
            by_cases hw : wholeW xs.length a b = true
            · rw [if_pos hw] at z; exact z.elim
            · rw [if_neg hw] at z
              obtain ⟨p, ep, sq, wf⟩ := tupOf_ok (K := X.K) E3.rel q2
              refine .inr (.inl ⟨p, _, ep, sq, fun hh => hw ?_, fun d hd => ?_⟩)
              · rw [vsV, List.length_map] at hh
                unfold wholeW
                rw [hh.1, hh.2]
                simp
              · have := new_tup E3.rel (cut_wf wf) z d hd
                rw [cut_map] at this
                exact this
          | none =>
            simp only [q2] at z
            cases w with
            | str x =>
              simp only at z
              by_cases hx : x.length ≤ line
              · rw [if_pos hx] at z
                exact .inr (.inr ⟨x, rfl, line_le hx, z r3 H3 (Ext.refl E3.rel) rfl⟩)
              · rw [if_neg hx] at z; exact z.elim
            | _ => exact z.elim
end
theorem sl_all {X : Cx} : SlR X fun x lo hi H Q => rSlL X.K x lo hi H Q ∨ (rSlT X.K x lo hi H Q ∨ rSlS x lo hi H Q) := L2.SlR.or sl_list (L2.SlR.or sl_tup sl_str)

/-! ### d[k] = v, {} -/
def zDPut (fo fk fv : ZE) : ZS := fun s h => match fv s h with
  | .ok v h1 => (match fo s h1 with
    | .ok w h2 => (match fk s h2 with
      | .ok y h3 => (match dicOf h3 w, keyW y, w with
        | some kvs, some k, .ref i => if Nat.blt kvs.length line then .nx s (h3.set i (.dic (putQ kvs k v))) else .no
        | _, _, _ => .no)
      | .ex c d h3 => .ex c d s h3
      | .no => .no)
    | .ex c d h2 => .ex c d s h2
    | .no => .no)
  | .ex c d h1 => .ex c d s h1
  | .no => .no
def zDNew : ZE := fun _ h => .ok (.ref h.n) (h.push (.dic []))
section
variable {X : Cx} {G : Gm} {Wx : WX} {ex : PySem.Expr} {st : Stmt} {fo fk fv : ZE}
theorem z_dnew (p : PE X ex tDNewK) : PE X ex (tz G Wx zDNew) := by
  refine PE.imp p fun σ H Q q => ?_
  obtain ⟨r, s, h, S, HR, z⟩ := q
  exact new_dic (ws := []) HR rfl z
theorem zs_dput (p : PS X st (sDPut (tz G Wx fo) (tz G Wx fk) (tz G Wx fv))) : PS X st (tzS G Wx (zDPut fo fk fv)) := by
  refine PS.imp p fun D σ H q => ?_
  obtain ⟨r, s, h, S, HR, z⟩ := q
  refine ⟨r, s, h, S, HR, ?_⟩
  unfold zDPut at z
  cases e1 : fv s h with
  | no => rw [e1] at z; exact z
  | ex c d h1 => rw [e1] at z; exact fun r1 H1 E1 hd => z r1 H1 σ E1 hd (S.ext E1)
  | ok v h1 =>
    simp only [e1] at z
    intro r1 H1 E1 w1
    refine ⟨r1, s, h1, S.ext E1, E1.rel, ?_⟩
    cases e2 : fo s h1 with
    | no => simp only [e2] at z; exact z
    | ex c d h2 => simp only [e2] at z; exact fun r2 H2 E2 hd => z r2 H2 σ (E1.trans E2) hd (S.ext (E1.trans E2))
    | ok w h2 =>
      simp only [e2] at z
      intro r2 H2 E2 w2
      refine ⟨r2, s, h2, S.ext (E1.trans E2), E2.rel, ?_⟩
      cases e3 : fk s h2 with
      | no => simp only [e3] at z; exact z
      | ex c d h3 => simp only [e3] at z; exact fun r3 H3 E3 hd => z r3 H3 σ ((E1.trans E2).trans E3) hd (S.ext ((E1.trans E2).trans E3))
      | ok y h3 =>
        simp only [e3] at z
        intro r3 H3 E3 w3
        cases q1 : dicOf h3 w with
        | none => simp only [q1] at z; exact z.elim
        | some kvs =>
          cases q2 : keyW y with
          | none => simp only [q1, q2] at z; exact z.elim
          | some kk =>
            obtain ⟨i, rfl, g, a, wf⟩ := dicOf_ok E3.rel q1
            simp only [q1, q2] at z
            by_cases hl : Nat.blt kvs.length line = true
            · rw [if_pos hl] at z
              have wv : v.wf h3.n = true := W.wf_le (W.wf_le w1 E2.le) E3.le
              have ev : v.v G r3 = v.v G r1 := by rw [W.v_agr (W.wf_le w1 E2.le) E3.agr, W.v_agr w1 E2.agr]
              have E4 := Ext.set (u := .dK (putK (kvV G r3 kvs) kk (v.v G r3))) (o := .dic (putQ kvs kk v)) E3.rel g (putQ_wf wv wf) (by
                show upd H3 (r3 i) _ (r3 i) = some (.dK (kvV G r3 (putQ kvs kk v)))
                rw [upd_same, putQ_ok])
              refine ⟨r3 i, upd H3 (r3 i) (.dK (putK (kvV G r3 kvs) kk (v.v G r3))), ?_, ?_, z r3 _ σ (((E1.trans E2).trans E3).trans E4) (S.ext (((E1.trans E2).trans E3).trans E4))⟩
              · show V.ref (r2 i) = V.ref (r3 i)
                rw [E3.agr i (of_blt w2)]
              · rw [keyW_ok q2, ← ev]
                exact DPut.k a (by rw [kvV, List.length_map]; exact line_lt (of_blt hl))
            · rw [if_neg hl] at z; exact z.elim
end

/-! ### all, any -/
def blsOf : List W → Option (List Bool)
  | [] => some []
  | .bl b :: r => (match blsOf r with
    | some bs => some (b :: bs)
    | none => none)
  | _ => none
theorem blsOf_ok {G : Gm} {r : Rho} : ∀ {ws : List W} {bs : List Bool}, blsOf ws = some bs → vsV G r ws = bs.map V.bl
  | [], bs, e => by cases e; rfl
  | .bl b :: ws, bs, e => by
    have e1 : (match blsOf ws with
      | some bs => some (b :: bs)
      | none => none) = some bs := e
    cases q : blsOf ws with
    | none => rw [q] at e1; cases e1
    | some cs =>
      rw [q] at e1
      cases e1
      show V.bl b :: vsV G r ws = V.bl b :: cs.map V.bl
      rw [blsOf_ok q]
  | .non :: _, _, e => by cases e
  | .int _ :: _, _, e => by cases e
  | .str _ :: _, _, e => by cases e
  | .ref _ :: _, _, e => by cases e
  | .glo _ :: _, _, e => by cases e
  | .ty _ :: _, _, e => by cases e
def opAll (any : Bool) : OpL := fun ws h => match ws with
  | [w] => (match lstOf h w with
    | some xs => (match blsOf xs with
      | some bs => .ok (.bl (if any then bs.any id else bs.all id)) h
      | none => .no)
    | none => .no)
  | _ => .no
section
variable {G : Gm} {K : PySem.W.Frag}
theorem opAll_ok {any : Bool} {Wx : WX} {r : Rho} {h : VH} {H : Hp} {σ : L2.St} {xs : List W} {Q : VK} (HR : HRel G r h H) (z : RZ G Wx r h H σ Q (opAll any xs h)) : ∃ (a : Addr) (bs : List Bool), vsV G r xs = [V.ref a] ∧ SqL K H a (bs.map V.bl) ∧ Q (.bl (if any then bs.any id else bs.all id)) H := by
  unfold opAll at z
  split at z
  · rename_i w
    cases q : lstOf h w with
    | none => simp only [q] at z; exact z.elim
    | some ys =>
      simp only [q] at z
      cases q2 : blsOf ys with
      | none => simp only [q2] at z; exact z.elim
      | some bs =>
        simp only [q2] at z
        obtain ⟨p, ep, sq, wf⟩ := lstOf_ok (K := K) HR q
        refine ⟨p, bs, by rw [← ep]; rfl, ?_, z r H (Ext.refl HR) rfl⟩
        rw [← blsOf_ok (G := G) (r := r) q2]; exact sq
  · exact z.elim
theorem cz_all : CallZ G (opAll false) (rAll K) := fun Wx r h H σ xs Q HR _ z => by
  obtain ⟨a, bs, e1, e2, e3⟩ := opAll_ok (K := K) HR z
  exact ⟨a, bs, e1, e2, by simpa using e3⟩
theorem cz_any : CallZ G (opAll true) (rAny K) := fun Wx r h H σ xs Q HR _ z => by
  obtain ⟨a, bs, e1, e2, e3⟩ := opAll_ok (K := K) HR z
  exact ⟨a, bs, e1, e2, by simpa using e3⟩
end
end Zd

namespace Zd
open PySem PySem.Spec PyProof.Rows L2

/-! ### < of data -/
def rLtD (K : PySem.W.Frag) (f : PyData → PyData → Bool) : R2 := fun x y H Q => ∃ d e, Dp K H x d ∧ Dp K H y e ∧ PySem.W.alike d e = true ∧ d ≠ .none ∧ d.depth ≤ 60 ∧ Q (.bl (f d e)) H
section
variable {X : Cx}
theorem dmin {d e : PyData} {u : Nat} (hu : u + 64 < cLine) (h : d.depth ≤ 60) : u + min d.depth e.depth < cLine := by
  have := Nat.min_le_left d.depth e.depth
  omega
theorem op_ltD (hu : X.A.units + 64 < cLine) : OpR X (compareOp .Lt) (rLtD X.K fun d e => PySem.W.dataLt d e) := by
  intro pins s σ H x y v u Q I rx ry h
  obtain ⟨d, e, hd, he, al, nn, dp, q⟩ := h
  obtain ⟨as, r1⟩ := Dp.reads I d x v hd rx
  obtain ⟨bs, r2⟩ := Dp.reads I e y u he ry
  exact PySem.W.lt_data r1 r2 al nn (dmin hu dp) ⟨.bl _, H, I, rfl, q⟩
theorem op_gtD (hu : X.A.units + 64 < cLine) : OpR X (compareOp .Gt) (rLtD X.K fun d e => PySem.W.dataLt e d) := by
  intro pins s σ H x y v u Q I rx ry h
  obtain ⟨d, e, hd, he, al, nn, dp, q⟩ := h
  obtain ⟨as, r1⟩ := Dp.reads I d x v hd rx
  obtain ⟨bs, r2⟩ := Dp.reads I e y u he ry
  exact PySem.W.gt_data r1 r2 al nn (dmin hu dp) ⟨.bl _, H, I, rfl, q⟩
theorem op_leD (hu : X.A.units + 64 < cLine) : OpR X (compareOp .LtE) (rLtD X.K fun d e => !PySem.W.dataLt e d) := by
  intro pins s σ H x y v u Q I rx ry h
  obtain ⟨d, e, hd, he, al, nn, dp, q⟩ := h
  obtain ⟨as, r1⟩ := Dp.reads I d x v hd rx
  obtain ⟨bs, r2⟩ := Dp.reads I e y u he ry
  exact PySem.W.le_data r1 r2 al nn (dmin hu dp) ⟨.bl _, H, I, rfl, q⟩
theorem op_geD (hu : X.A.units + 64 < cLine) : OpR X (compareOp .GtE) (rLtD X.K fun d e => !PySem.W.dataLt d e) := by
  intro pins s σ H x y v u Q I rx ry h
  obtain ⟨d, e, hd, he, al, nn, dp, q⟩ := h
  obtain ⟨as, r1⟩ := Dp.reads I d x v hd rx
  obtain ⟨bs, r2⟩ := Dp.reads I e y u he ry
  exact PySem.W.ge_data r1 r2 al nn (dmin hu dp) ⟨.bl _, H, I, rfl, q⟩
end
def isNon : PyData → Bool
  | .none => true
  | _ => false
theorem isNon_ok {d : PyData} (h : isNon d = false) : d ≠ .none := fun e => by rw [e] at h; cases h
def opOrd' (f : PyData → PyData → Bool) : Op2 := fun a b h => match dat 12 h a, dat 12 h b with
  | some d, some e => if PySem.W.alike d e && !isNon d && decide (d.depth ≤ 60) then .ok (.bl (f d e)) h else .no
  | _, _ => .no
theorem oz_ord {G : Gm} {K : PySem.W.Frag} {f : PyData → PyData → Bool} : OpZ G (opOrd' f) (rLtD K f) := by
  intro Wx r h H σ x y Q HR _ _ z
  unfold opOrd' at z
  split at z
  · rename_i d e q1 q2
    split at z
    · rename_i q
      rw [Bool.and_eq_true, Bool.and_eq_true, Bool.not_eq_true'] at q
      exact ⟨d, e, dat_ok HR 12 x d q1, dat_ok HR 12 y e q2, q.1.1, isNon_ok q.1.2, of_decide_eq_true q.2, z r H (Ext.refl HR) rfl⟩
    · exact z.elim
  · exact z.elim

/-! ### {k: v for target in iter if t} -/
def dcZ (src : ZSrc) (g : ZG) (t : ZT) (ek ev : ZE) (d : Nat) (vs : List Nat) (sw : ZSt) : Nat → Nat → VH → R W
  | 0, _, _ => .no
  | n + 1, k, h => match zStep src k h with
    | none => .no
    | some none => .ok (.ref d) h
    | some (some (w, h1)) => (match g w h1 with
      | none => .no
      | some l => if inAll vs l then (match t (setAll sw l) h1 with
        | .ok true h2 => (match ek (setAll sw l) h2 with
          | .ok y h3 => (match ev (setAll sw l) h3 with
            | .ok v h4 => (match h4.get d, keyW y with
              | some (.dic kvs), some kk => if Nat.blt kvs.length line then dcZ src g t ek ev d vs sw n (k + 1) (h4.set d (.dic (putQ kvs kk v))) else .no
              | _, _ => .no)
            | _ => .no)
          | _ => .no)
        | .ok false h2 => dcZ src g t ek ev d vs sw n (k + 1) h2
        | _ => .no) else .no)
def zDc (f : ZI) (g : ZG) (t : ZT) (ek ev : ZE) (vs : List Nat) : ZE := fun s h => match f s h with
  | .ok src h1 => dcZ src g t ek ev h1.n vs (wipeZ s vs) 200 0 (h1.push (.dic []))
  | .ex c d h1 => .ex c d h1
  | .no => .no
section
variable {K : PySem.W.Frag} {X : Cx} {G : Gm} {Wx : WX} {ex : PySem.Expr}
theorem tz_dc {f : ZI} {g : ZG} {t : ZT} {ek ev : ZE} {vs : List Nat} : ∀ σ H Q, tz G Wx (zDc f g t ek ev vs) σ H Q → tDc (tzI K G Wx f) (tzG G g) (tzT G W0 t) (tz G W0 ek) (tz G W0 ev) vs σ H Q := by
  intro σ H Q q
  obtain ⟨r, s, h, S, HR, z⟩ := q
  refine ⟨r, s, h, S, HR, ?_⟩
  unfold zDc at z
  cases e1 : f s h with
  | no => rw [e1] at z; exact z
  | ex c d h1 => rw [e1] at z; exact z
  | ok src h1 =>
    simp only [e1] at z
    intro r1 H1 E1 w1 D hD
    have E2 : Ext G r1 h1 H1 (setR r1 h1.n D) (h1.push (.dic [])) (upd H1 D (.dK [])) := Ext.new E1.rel hD rfl (upd_keep hD) upd_same
    refine ⟨fun i m H' => ∃ r' h', Ext G (setR r1 h1.n D) (h1.push (.dic [])) (upd H1 D (.dK [])) r' h' H' ∧ RZ G Wx r' h' H' σ Q (dcZ src g t ek ev h1.n vs (wipeZ s vs) m i h'),
      ⟨200, _, _, Ext.refl E2.rel, RZ.seq (E1.trans E2) z⟩, ?_⟩
    rintro i m H' ⟨r', h', E', z'⟩
    have lt : h1.n < (h1.push (.dic [])).n := Nat.lt_succ_self _
    have ed : r' h1.n = D := (E'.agr _ lt).trans setR_same
    have agr1 : ∀ j, j < h1.n → r' j = r1 j := fun j hj => (E'.agr j (Nat.lt_succ_of_lt hj)).trans (setR_lt hj)
    have eit : src.it G K r' = src.it G K r1 := ZSrc.agr w1 agr1
    cases m with
    | zero => exact z'.elim
    | succ m =>
      unfold dcZ at z'
      cases e2 : zStep src i h' with
      | none => rw [e2] at z'; exact z'.elim
      | some o =>
        rw [e2] at z'
        cases o with
        | none =>
          refine .inl ⟨eit ▸ step_stop E'.rel e2, ?_⟩
          have := z' r' H' (Ext.refl E'.rel) (blt_of (Nat.lt_of_lt_of_le lt E'.le))
          rw [show (W.ref h1.n).v G r' = V.ref D from congrArg V.ref ed] at this
          exact this
        | some wh =>
          obtain ⟨w, h2⟩ := wh
          obtain ⟨go, yl⟩ := step_go (K := K) E'.rel e2
          rw [eit] at go yl
          refine .inr ⟨go, fun H2 => ∃ r2 h2, Ext G (setR r1 h1.n D) (h1.push (.dic [])) (upd H1 D (.dK [])) r2 h2 H2 ∧ RZ G Wx r2 h2 H2 σ Q (dcZ src g t ek ev h1.n vs (wipeZ s vs) m (i + 1) h2), fun H2 n2 => ⟨m, Nat.lt_succ_self _, n2⟩, fun x H2 y => ?_⟩
          obtain ⟨r2, E2', rfl, ww⟩ := yl x H2 y
          simp only at z'
          cases e3 : g w h2 with
          | none => simp only [e3] at z'; exact z'.elim
          | some l =>
            simp only [e3] at z'
            by_cases hin : inAll vs l = true
            · rw [if_pos hin] at z'
              refine ⟨r2, h2, w, rfl, ww, E2'.rel, l, e3, fun hl => ⟨wipe_back (inAll_ok hin), ?_⟩⟩
              have S2 : SRel G r2 h2.n (setAll (wipeZ s vs) l) (setAllV G r2 (L2.wipe σ vs) l) := SRel.puts ((SRel.wipe (((S.ext E1).ext E2).ext E') vs).ext E2') hl
              refine ⟨r2, _, h2, S2, E2'.rel, ?_⟩
              cases e4 : t (setAll (wipeZ s vs) l) h2 with
              | no => simp only [e4] at z'; exact z'
              | ex c d h3 => simp only [e4] at z'; exact z'.elim
              | ok b h3 =>
                simp only [e4] at z'
                intro r3 H3 E3
                cases b with
                | false =>
                  rw [if_neg Bool.false_ne_true]
                  exact ⟨r3, h3, (E'.trans E2').trans E3, RZ.seq (E2'.trans E3) z'⟩
                | true =>
                  rw [if_pos rfl]
                  refine ⟨r3, _, h3, S2.ext E3, E3.rel, ?_⟩
                  simp only at z'
                  cases e5 : ek (setAll (wipeZ s vs) l) h3 with
                  | no => simp only [e5] at z'; exact z'
                  | ex c d h4 => simp only [e5] at z'; exact z'.elim
                  | ok y h4 =>
                    simp only [e5] at z'
                    intro r4 H4 E4 wy
                    refine ⟨r4, _, h4, S2.ext (E3.trans E4), E4.rel, ?_⟩
                    cases e6 : ev (setAll (wipeZ s vs) l) h4 with
                    | no => simp only [e6] at z'; exact z'
                    | ex c d h5 => simp only [e6] at z'; exact z'.elim
                    | ok v h5 =>
                      simp only [e6] at z'
                      intro r5 H5 E5 wv
                      cases e7 : h5.get h1.n with
                      | none => simp only [e7] at z'; exact z'.elim
                      | some ob =>
                        cases ob with
                        | dic kvs =>
                          cases e8 : keyW y with
                          | none => simp only [e7, e8] at z'; exact z'.elim
                          | some kk =>
                            simp only [e7, e8] at z'
                            have ed5 : r5 h1.n = D := ((((E'.trans E2').trans E3).trans E4).trans E5).agr _ lt |>.trans setR_same
                            have at5 : H5 D = some (.dK (kvV G r5 kvs)) := by
                              have := E5.rel.at_ _ _ e7
                              rw [ed5] at this; exact this
                            by_cases hz : Nat.blt kvs.length line = true
                            · rw [if_pos hz] at z'
                              have wk : (kvs.all fun p => p.2.wf h5.n) = true := E5.rel.wf _ _ e7
                              have E6 := Ext.set (u := .dK (putK (kvV G r5 kvs) kk (v.v G r5))) (o := .dic (putQ kvs kk v)) E5.rel e7 (putQ_wf wv wk) (by
                                show upd H5 (r5 h1.n) _ (r5 h1.n) = some (.dK (kvV G r5 (putQ kvs kk v)))
                                rw [upd_same, putQ_ok])
                              rw [ed5] at E6
                              exact ⟨_, kk, by rw [keyW_ok e8], at5, by rw [kvV, List.length_map]; exact line_lt (of_blt hz), r5, _, ((((E'.trans E2').trans E3).trans E4).trans E5).trans E6, RZ.seq ((((E2'.trans E3).trans E4).trans E5).trans E6) z'⟩
                            · rw [if_neg hz] at z'; exact z'.elim
                        | _ => simp only [e7] at z'; exact z'.elim
            · rw [if_neg hin] at z'; exact z'.elim
theorem z_dc {f : ZI} {g : ZG} {t : ZT} {ek ev : ZE} {vs : List Nat} (p : PE X ex (tDc (tzI X.K G Wx f) (tzG G g) (tzT G W0 t) (tz G W0 ek) (tz G W0 ev) vs)) : PE X ex (tz G Wx (zDc f g t ek ev vs)) := PE.imp p tz_dc
end

/-! ### keywords; lengths -/
section
variable {X : Cx} {G : Gm} {Wx : WX} {f : ZE} {k : ZA} {e : PySem.Expr} {kws : List Keyword} {nm : Option Str} {kpos : Pos}
theorem zk_cons (he : PE X e (tz G Wx f)) (hr : PK X kws (tzA G Wx k)) : PK X (⟨nm, e, kpos⟩ :: kws) (tzA G Wx (zCons f k)) := by
  refine PK.imp (pk_cons he hr) fun σ H Q q => ?_
  obtain ⟨r, s, h, S, HR, z⟩ := q
  refine ⟨r, s, h, S, HR, ?_⟩
  unfold zCons at z
  cases e1 : f s h with
  | no => rw [e1] at z; exact z
  | ex c d h1 => rw [e1] at z; exact z
  | ok w h1 =>
    simp only [e1] at z
    intro r1 H1 E1 w1
    refine ⟨r1, s, h1, S.ext E1, E1.rel, ?_⟩
    cases e2 : k s h1 with
    | no => simp only [e2] at z; exact z
    | ex c d h2 =>
      simp only [e2] at z
      exact fun r2 H2 E2 hd => z r2 H2 (E1.trans E2) hd
    | ok ws h2 =>
      simp only [e2] at z
      intro r2 H2 E2 w2
      have k2 := z r2 H2 (E1.trans E2) (by
        show (w.wf h2.n && wfs h2.n ws) = true
        rw [W.wf_le w1 E2.le, w2]; rfl)
      rw [show vsV G r2 (w :: ws) = w.v G r1 :: vsV G r2 ws from by show w.v G r2 :: _ = _; rw [W.v_agr w1 E2.agr]] at k2
      exact k2
end
theorem len_nil : ∀ s h ws h1, zNil s h = .ok ws h1 → ws.length = 0 := fun s h ws h1 e => by cases e; rfl
theorem len_cons {f : ZE} {k : ZA} {n : Nat} (hk : ∀ s h ws h1, k s h = .ok ws h1 → ws.length = n) : ∀ s h ws h1, zCons f k s h = .ok ws h1 → ws.length = n + 1 := fun s h ws h1 e => by
  unfold zCons at e
  cases e1 : f s h with
  | no => rw [e1] at e; cases e
  | ex c d h1 => rw [e1] at e; cases e
  | ok w h1 =>
    simp only [e1] at e
    cases e2 : k s h1 with
    | no => simp only [e2] at e; cases e
    | ex c d h2 => simp only [e2] at e; cases e
    | ok us h2 =>
      simp only [e2] at e
      cases e
      rw [List.length_cons, hk _ _ _ _ e2]

/-! ### methods, properties, fields -/
section
variable {X : Cx} {G : Gm} {Wx : WX} {E : XK} {fo : ZE} {k : ZA} {o e : PySem.Expr} {es : List PySem.Expr} {apos pos : Pos} {m n j : Nat} {cs : Nat → Option Fn} {pl : Sem Bool}
/-- what each class's method does -/
abbrev MOk (X : Cx) (G : Gm) (j m n : Nat) (cs : Nat → Option Fn) : Prop := ∀ c fn, cs c = some fn → Cls X.K (G.ga c) ∧ ∃ f, Meth X.K (G.ga c) (G.nm m) f ∧ Cal X.prog X.w X.K X.mg X.base G j f n fn
theorem z_methC {c0 : Nat} {f0 : Fn} (h0 : cs c0 = some f0) (hc : MOk X G j m n cs) (hr : Room j X.A) (hp : PsE X Wx E) (he : PE X o (tz G Wx fo)) (ha : PA X (e :: es) (tzA G Wx k))
    (hst : starEach (e :: es) X.env = (false, eval e X.env) :: starEach es X.env) (hpl : (backTo pos (starEach es X.env)).any (·.1) = false)
    (ht : eval (.Call (.Attribute o (G.nm m) apos) (e :: es) [] pos) X.env = (do
      let ov ← eval o X.env
      standAt apos.atName
      let (f, first) ← holding [ov] (getMethod ov (G.nm m) pl)
      callWith pos f first (backTo pos (starEach (e :: es) X.env)) (backToKw pos (keywordEach [] X.env)))) :
    PE X (.Call (.Attribute o (G.nm m) apos) (e :: es) [] pos) (tz G Wx (zMeth cs m n fo k)) :=
  z_meth hp.im h0 fun c fn ec => by
    obtain ⟨cl, f, hm, c2⟩ := hc c fn ec
    obtain ⟨fd, ps, F, kp, hb⟩ := c2.ex
    exact pe_meth he cl hm F hr hb .nil hp.to ha hst hpl ht
theorem z_methC0 {c0 : Nat} {f0 : Fn} (h0 : cs c0 = some f0) (hc : MOk X G j m n cs) (hr : Room j X.A) (hp : PsE X Wx E) (he : PE X o (tz G Wx fo))
    (ht : eval (.Call (.Attribute o (G.nm m) apos) [] [] pos) X.env = (do
      let ov ← eval o X.env
      standAt apos.atName
      let (f, first) ← holding [ov] (getMethod ov (G.nm m) pl)
      callWith pos f first (backTo pos (starEach [] X.env)) (backToKw pos (keywordEach [] X.env)))) :
    PE X (.Call (.Attribute o (G.nm m) apos) [] [] pos) (tz G Wx (zMeth cs m n fo zNil)) :=
  z_meth hp.im h0 fun c fn ec => by
    obtain ⟨cl, f, hm, c2⟩ := hc c fn ec
    obtain ⟨fd, ps, F, kp, hb⟩ := c2.ex
    exact tMeth_nil (pe_meth0 he cl hm F hr hb .nil hp.to ht) tz_mono
abbrev POk (X : Cx) (G : Gm) (j m : Nat) (cs : Nat → Option Fn) : Prop := ∀ c fn, cs c = some fn → Cls X.K (G.ga c) ∧ ∃ p f, PropOf X.K (G.ga c) (G.nm m) p f ∧ Cal X.prog X.w X.K X.mg X.base G j f 1 fn
theorem z_propC {c0 : Nat} {f0 : Fn} (h0 : cs c0 = some f0) (hc : POk X G j m cs) (hr : Room (j + 1) X.A) (he : PE X o (tz G Wx fo)) (hab : attributeBase o (G.nm m) X.env (eval o X.env) = eval o X.env) :
    PE X (.Attribute o (G.nm m) pos) (tz G Wx (zProp cs fo)) :=
  z_prop h0 fun c fn ec => by
    obtain ⟨cl, p, f, hm, c2⟩ := hc c fn ec
    obtain ⟨fd, ps, F, kp, hb⟩ := c2.ex
    exact pe_prop he cl hm F hr hb .nil (fun pins σ H s e s' I c => by
      obtain ⟨_, _, _, _, _, _, _, _, _, _, _, _, h⟩ := c
      exact h.elim) hab
abbrev FOk (X : Cx) (G : Gm) (m : Nat) (ok : Nat → Bool) : Prop := ∀ c, ok c = true → Cls X.K (G.ga c) ∧ NoAttr X.K (G.ga c) (G.nm m)
theorem z_fldC {ok : Nat → Bool} (hc : FOk X G m ok) (he : PE X o (tz G Wx fo)) (hab : attributeBase o (G.nm m) X.env (eval o X.env) = eval o X.env) : PE X (.Attribute o (G.nm m) pos) (tz G Wx (zFld ok m fo)) := z_fld hc (pe_fld he hab)
theorem zs_setFC {ok : Nat → Bool} {fv : ZE} {value : PySem.Expr} {pos' : Pos} (hc : FOk X G m ok) (he : PE X o (tz G Wx fo)) (hv : PE X value (tz G Wx fv)) (hs : swapsWith value (some (.Attribute o (G.nm m) pos')) pos.line X.env = pure false) :
    PS X (.Assign [.Attribute o (G.nm m) pos'] value pos) (tzS G Wx (zSetF ok m fo fv)) := zs_setF hc (ps_fld he hv hs)
theorem zs_augFC {ok : Nat → Bool} {fv : ZE} {value : PySem.Expr} {tpos : Pos} (hc : FOk X G m ok) (he : PE X o (tz G Wx fo)) (hv : PE X value (tz G Wx fv)) (hop : InOp X .Add L2.rAdd) :
    PS X (.AugAssign (.Attribute o (G.nm m) tpos) .Add value pos) (tzS G Wx (zAugF ok m fo fv)) := zs_augF hc (ps_fldaug he hv hop)
end

/-! ### sorted of nothing (a list) -/
def opSort0 : OpL := fun ws h => match ws with
  | [w] => (match lstOf h w with
    | some [] => .ok (.ref h.n) (h.push (.lst []))
    | _ => .no)
  | _ => .no
theorem cz_sort0 {G : Gm} {K : PySem.W.Frag} : CallZ G opSort0 (rSorted K) := fun Wx r h H σ xs Q HR _ z => by
  unfold opSort0 at z
  split at z
  · rename_i w
    split at z
    · rename_i q
      obtain ⟨p, ep, sq, wf⟩ := lstOf_ok (K := K) HR q
      refine ⟨p, [], by rw [← ep]; rfl, sq, by decide, fun ns' l hp _ hl => ?_⟩
      have e : ns' = [] := List.Perm.eq_nil hp
      subst e
      exact new_lst (ws := []) HR rfl z l hl
    · exact z.elim
  · exact z.elim

/-! ### a table of the top with text keys: d.get(x) -/
def tKGet (val : Str → Option V) (ty : TE) : TE := fun σ H Q => ty σ H fun y H2 => ∃ z v, y = .str z ∧ val z = some v ∧ Q v H2
theorem pe_kget {X : Cx} {d : Addr} {es : Array DictEntry} {n : Nat} {o e : PySem.Expr} {apos cpos : Pos} {ty : TE} {val : Str → Option V} (D : KDict X.K X.w d es n) (hv : ∀ z v, val z = some v → ∃ r, PySem.W.nsIn X.K d z = some r ∧ RelV v (r.getD .none))
    (ho : PE X o (tC (.ref d))) (he : PE X e ty) (m : M1 X o "get" apos e cpos) : PE X (.Call (.Attribute o "get" apos) [e] [] cpos) (tKGet val ty) := by
  refine ⟨fun pins s σ H Q I h => ?_⟩
  refine wpAny_Call_method m.base m.few m.line PySem.F.plainAttrs_dict PySem.F.slot_dict_get PySem.F.type_dict_get (thn (ho.run pins s σ H (fun x H1 => x = .ref d ∧ tKGet val ty σ H1 Q) I ⟨rfl, h⟩) fun u s1 ⟨x, H1, I1, rx, ex, q1⟩ => ?_)
  subst ex
  obtain rfl : u = Value.ref d := rx
  have M := PySem.W.mapOf_K (prog := X.prog) (w := X.w) I1.kIn D.at_ D.lit
  refine ⟨M.typeIs, (fun a ea => by cases ea; exact ⟨_, I1.kIn _ _ D.at_, rfl⟩), ?_⟩
  rw [m.trees]
  refine Calls.callWith_builtin rfl (Calls.evalArgs_plain (Calls.spliced_cons (thn (he.run pins s1 σ H1 _ I1 q1) fun iv s2 ⟨y, H2, I2, ry, zz, v0, ey, en, q2⟩ => Calls.spliced_nil ?_)))
  subst ey
  obtain ⟨t, rfl⟩ := ry
  obtain ⟨r0, e0, rv⟩ := hv zz v0 en
  have M2 := PySem.W.mapOf_K (prog := X.prog) (w := X.w) I2.kIn D.at_ D.lit
  refine call_meetsIn PySem.F.slot_dict_get M2.typeIs PySem.F.entry_dict_get (PySem.F.args_dict_get_2 _ _) (meets_dict_get (strKind X.prog X.w) d (strKind_is X.prog X.w zz t) D.low) ⟨_, M2, ?_⟩
  rw [PySem.W.find_K D.at_ e0]
  exact ⟨v0, H2, I2.tok _, rv, q2⟩
def findS (z : Str) : List (Str × W) → Option W
  | [] => none
  | p :: r => if decide (p.1 = z) then some p.2 else findS z r
def zKGet (tab : List (Str × W)) (f : ZE) : ZE := fun s h => match f s h with
  | .ok (.str z) h1 => (match findS z tab with
    | some w => .ok w h1
    | none => .no)
  | .ok _ _ => .no
  | .ex c d h1 => .ex c d h1
  | .no => .no
theorem findS_mem {z : Str} {w : W} : ∀ {tab : List (Str × W)}, findS z tab = some w → (z, w) ∈ tab
  | [], e => by cases e
  | p :: r, e => by
    unfold findS at e
    split at e
    · rename_i q
      cases e
      have q := of_decide_eq_true q
      rw [← q]; exact List.mem_cons_self
    · exact List.mem_cons_of_mem _ (findS_mem e)
theorem z_kget {X : Cx} {G : Gm} {Wx : WX} {ex : PySem.Expr} {tab : List (Str × W)} {f : ZE} (hc : consts (tab.map (·.2)) = true) (p : PE X ex (tKGet (fun z => (findS z tab).map fun w => w.v G fun _ => 0) (tz G Wx f))) : PE X ex (tz G Wx (zKGet tab f)) := by
  refine PE.imp p fun σ H Q q => ?_
  obtain ⟨r, s, h, S, HR, z⟩ := q
  refine ⟨r, s, h, S, HR, ?_⟩
  unfold zKGet at z
  cases e1 : f s h with
  | no => rw [e1] at z; exact z
  | ex c d h1 => rw [e1] at z; exact z
  | ok w h1 =>
    rw [e1] at z
    intro r1 H1 E1 w1
    cases w with
    | str x =>
      have z : RZ G Wx r h H σ Q (match findS x tab with
        | some w => .ok w h1
        | none => .no) := z
      cases e2 : findS x tab with
      | none => rw [e2] at z; exact z.elim
      | some v =>
        rw [e2] at z
        have hv := List.all_eq_true.mp hc v (List.mem_map.mpr ⟨_, findS_mem e2, rfl⟩)
        refine ⟨x, v.v G fun _ => 0, rfl, by show (findS x tab).map _ = _; rw [e2]; rfl, ?_⟩
        cases v with
        | ref i => cases hv
        | _ => exact z r1 H1 E1 rfl
    | _ => exact z.elim
end Zd

namespace Zd
open PySem PySem.Spec PyProof.Rows L2

/-! ### try: .. except A as n: .. except B as n: .. -/
abbrev Su : Type := Addr → Value → Option Addr → TS
/-- the wish of the clauses, one behind the other; each: the class, the name's slot, the suite's reading -/
def wClauses (K : PySem.W.Frag) (Wout : WX) (D : Ends) : List (Value × Nat × Su) → WX
  | [] => Wout
  | p :: more => fun cls d σ H => ∃ b, PySem.W.exmOne K cls p.1 = some b ∧
      (b = true → ∀ a, H a = none → p.2.2 a cls d ⟨fun τ J => D.nx (τ.set p.2.1 none) J, D.rt, fun τ J => D.bk (τ.set p.2.1 none) J, fun τ J => D.ct (τ.set p.2.1 none) J⟩ (σ.set p.2.1 (some (.ref a))) H) ∧
      (b = false → wClauses K Wout D more cls d σ H)
inductive Clauses (X : Cx) : List ExceptHandler → List (Value × Nat × Su) → Prop
  | nil : Clauses X [] []
  | cons {x n : Str} {c : Value} {i : Nat} {ts : Su} {st : Stmt} {sts : List Stmt} {p1 p2 : Pos} {hs : List ExceptHandler} {l : List (Value × Nat × Su)} (at_ : X.N[i]? = some n) (lc : X.env.kindOf n = some .local) (nm : Names X x c)
      (su : ∀ (a : Addr) (oe : Obj) (cls : Value) (d : Option Addr) (pn : List (Addr × Obj)), Zc cls d oe → (∃ vs, oe.data = .fields vs) → PSs (X.suite a ((a, oe) :: pn)) (st :: sts) (ts a cls d)) (more : Clauses X hs l) :
      Clauses X (.ExceptHandler (some (.Name x p1)) (some n) (st :: sts) p2 :: hs) ((c, i, ts) :: l)
section
variable {X : Cx} {body : List Stmt} {h₀ : ExceptHandler} {hds : List ExceptHandler} {l : List (Value × Nat × Su)} {pos : Pos} {tb : WX → TS} {Wout : WX}
/-- the clauses are asked, one by one; up: what the heap behind may have become -/
theorem ask_clauses {B : Heap} {pins : List (Addr × Obj)} {a : Addr} {cls : Value} {d : Option Addr} {D : Ends} {sI s' : Shared} {σ : L2.St} {H : Hp} {hh : Heap} (hs : X.stack = X.env :: X.outer) (hf : X.env.frame = some X.env.locals) (hN : X.N.Nodup) (tk : Takes X Wout)
    (J : Inv X pins σ H sI) (nb : ∀ b o, sI.heap.get? b = some o → b ∉ frs X.stack → B.get? b = some o) (up : sI.heap.UpToSlots hh) (na : H a = none) (os : s'.os = sI.os) (ag : AllBare s'.gens)
    (fl : HandSPX.FlyingZ B (X.env :: X.outer) a (Zc cls d) hh) (nL : a ≠ X.env.locals) (nF : a ∉ X.fs) :
    ∀ {hds : List ExceptHandler} {l : List (Value × Nat × Su)}, Clauses X hds l → wClauses X.K Wout D l cls d σ H → wpAny (model X.prog X.w) X.A (handleBy (.ref a) X.env hds) (SP X pins D) X.xe { s' with heap := hh } := by
  obtain ⟨oe, vs, ge, ze, de⟩ := fl.there
  have J3 : Inv X pins σ H { s' with heap := hh } := J.landed nb fl.1 up os ag
  have S3 := J3.suite ge de na nL nF
  intro hds l cl
  induction cl with
  | nil =>
    intro w
    refine wpAny_handleBy_nil ?_
    obtain ⟨k1, k2, k3, o2, v2, T, oT, ts2, g2, z2, d2, f1, fr⟩ := id fl
    unfold PySem.passOn
    refine wpAny_bind (wpAny_field g2 d2 f1 ?_)
    rw [if_neg (show ¬ ((Value.ref T == Value.none) = true) from by simp)]
    have last : wpAny (model X.prog X.w) X.A (setFlight (.ref a) X.env.frame) (fun _ s4 => wpAny (model X.prog X.w) X.A (throw (.ref a) : Sem Flow) (SP X pins D) X.xe s4) X.xe { s' with heap := hh } := by
      rw [hf]
      exact HandSPX.setFlight_upZ fl fun h4 held up4 => wpAny_throw (tk _ _ ⟨a, B, sI, pins, σ, H, cls, d, rfl, J, nb, up.trans up4, .inr (.inr (by rw [hs]; exact held)), na, os, ag, w⟩)
    first
      | exact wpAny_bind (wpAny_pure (wpAny_bind last))
      | exact wpAny_bind last
  | @cons x n c i ts st sts p1 p2 hs2 l2 at_ lc nm su more ih =>
    intro w
    obtain ⟨b, hb, yes, no⟩ := w
    have loc : L2.Loc X.env.scope n := .inl lc
    refine wpAny_handleBy_cons (codeAny_handlers_test ?_) (by intro q; cases q)
    have ty : PySem.W.Looks (model X.prog X.w) hh (typeOf (.ref a)) cls := fun A Q E s k q => wpAny_typeOf_ref (k _ _ ge) (by rw [ze.1]; exact q)
    have lk := PySem.W.exm_one (M := model X.prog X.w) J3.kIn ty hb
    have name : ∀ {Q : Value → Shared → Prop} {E : Value → Shared → Prop}, Q c { s' with heap := hh } → wpAny (model X.prog X.w) (X.A.mark (some (.ref a))) (eval (.Name x p1) X.env) Q E { s' with heap := hh } := fun {Q E} q => by
      obtain ⟨g, gd, gm | ⟨gm, gv, gn⟩⟩ := nm
      · exact ld_glob (X := X.suite a ((a, oe) :: (X.pn ++ pins))) S3 g gm q gd
      · exact ld_blt (X := X.suite a ((a, oe) :: (X.pn ++ pins))) S3 g gm gv q gn gd
    refine name (lk.here ?_)
    cases b with
    | false => exact ih (no rfl)
    | true =>
      refine codeAny_handlers_suite_as ?_
      refine HandSPX.lands_againZ fl fun h4 fl4 up4 => ?_
      have J4 : Inv X pins σ H { s' with heap := h4 } := J.landed nb fl4.1 (up.trans up4) os ag
      obtain ⟨o4, v4, g4, z4, d4⟩ := fl4.there
      have S4 := J4.suite g4 d4 na nL nF
      refine store_ok (X := X.suite a ((a, o4) :: (X.pn ++ pins))) (v := .ref a) S4 hN at_ loc rfl (fun s5 S5 => ?_) (.inr lc)
      refine wpAny_mono ((su a o4 cls d (X.pn ++ pins) z4 ⟨_, d4⟩).run [] s5 _ H _ S5 (yes rfl a na)) (fun f s6 sp => ?_) (fun _ _ z => False.elim z)
      have fin : ∀ {τ : L2.St} {K6 : Hp} {Q : Shared → Prop}, Inv (X.suite a ((a, o4) :: (X.pn ++ pins))) [] τ K6 s6 → (∀ s7, Inv X pins (τ.set i none) K6 s7 → Q s7) →
          wpAny (model X.prog X.w) X.A (do bindName X.env n .none; unbindBehindTheSuite X.env n p2) (fun _ s7 => Q s7) X.xe s6 := fun {τ K6 Q} S6 hq => gone_ok (S6.unsuite J4.ok) hN at_ lc hq
      cases f with
      | next =>
        obtain ⟨τ, K6, S6, q6⟩ := sp
        exact fin S6 fun s7 J7 => ⟨_, _, J7, q6⟩
      | brk =>
        obtain ⟨τ, K6, S6, q6⟩ := sp
        exact fin S6 fun s7 J7 => ⟨_, _, J7, q6⟩
      | cont =>
        obtain ⟨τ, K6, S6, q6⟩ := sp
        exact fin S6 fun s7 J7 => ⟨_, _, J7, q6⟩
      | ret u =>
        obtain ⟨v6, τ, K6, S6, r6, q6⟩ := sp
        exact fin S6 fun s7 J7 => ⟨_, _, _, J7, r6, q6⟩
theorem ps_tryC (hs : X.stack = X.env :: X.outer) (hf : X.env.frame = some X.env.locals) (hN : X.N.Nodup) (tk : Takes X Wout)
    (hb : ∀ (W : WX) (pn : List (Addr × Obj)) (xe : Value → Shared → Prop), Takes (X.tr pn xe) W → PassesOwn (model X.prog X.w) X.A X.env xe → PSs (X.tr pn xe) body (tb W))
    (cl : Clauses X (h₀ :: hds) l) : PS X (.Try body (h₀ :: hds) [] [] pos) (fun D σ H => tb (wClauses X.K Wout D l) D σ H) := by
  refine ⟨fun pins s σ H D I hw => ?_⟩
  have ok := I.ok
  have fr : X.A.frames = some (X.env :: X.outer) := by rw [ok.frames, hs]
  refine wpAny_Try_except ?_
  refine wpAny_mono ((hb (wClauses X.K Wout D l) (X.pn ++ pins) (fun e s1 => wpAny (model X.prog X.w) X.A (noteFrame e X.env) (fun _ s2 => wpAny (model X.prog X.w) X.A (setFlight e none) (fun _ s3 =>
    wpAny (model X.prog X.w) X.A (handleBy e X.env (h₀ :: hds)) (SP X pins D) X.xe s3) X.xe s2) X.xe s1) (fun u s' air => ?_) PassesOwn.looking).run [] s σ H D (I.toTry _) hw) (fun f s1 sp => ?_) (fun e s1 he => he)
  · obtain ⟨a, B, sI, pn2, τ, K2, cls, d, rfl, J2, nb, up, sky, na, os, ag, w⟩ := air
    have J : Inv X pins τ K2 sI := J2.ofTry ok
    have sky2 : Sky B (X.env :: X.outer) a (Zc cls d) X.env.locals s'.heap := by rw [← hs]; exact sky
    show wpAny (model X.prog X.w) X.A (noteFrame (.ref a) X.env) _ _ _
    refine Sky.land Zc.steady fr hf sky2 fun h3 fl up3 => ?_
    have nfr : a ∉ frs (X.env :: X.outer) := fun hm => by
      obtain ⟨o, v, g, _, dd⟩ := fl.there
      obtain ⟨_, o2, g2, bad⟩ := fl.2.2.1.mem hm
      rw [g] at g2
      cases g2
      exact bad _ dd
    have nL : a ≠ X.env.locals := fun z => nfr (List.mem_filterMap.mpr ⟨X.env, List.mem_cons_self, by rw [hf, z]⟩)
    have nF : a ∉ X.fs := fun hm => by
      obtain ⟨e, he, q⟩ := List.mem_filterMap.mp hm
      exact nfr (List.mem_filterMap.mpr ⟨e, List.mem_cons_of_mem _ he, q⟩)
    exact ask_clauses (s' := s') hs hf hN tk J nb (up.trans up3) na os ag fl nL nF cl w
  · cases f with
    | next =>
      obtain ⟨τ, K2, J2, q⟩ := sp
      exact wpAny_execs_nil ⟨τ, K2, J2.ofTry ok, q⟩
    | brk =>
      obtain ⟨τ, K2, J2, q⟩ := sp
      exact ⟨τ, K2, J2.ofTry ok, q⟩
    | cont =>
      obtain ⟨τ, K2, J2, q⟩ := sp
      exact ⟨τ, K2, J2.ofTry ok, q⟩
    | ret u =>
      obtain ⟨v, τ, K2, J2, r, q⟩ := sp
      exact ⟨v, τ, K2, J2.ofTry ok, r, q⟩
end

/-! ### by our readings: what the suite holds is the exception's dict -/
/-- a suite's reading: from the class and the dict of the exception (the name's slot is nobody's) -/
abbrev ZSu := Nat → Nat → ZS
/-- one clause: its class, who is taken by it, the slot, the suite -/
structure ZCl where
  c : Nat
  yes : Nat → Option Bool
  i : Nat
  su : ZSu
def catchZ (cls : List ZCl) (c d : Nat) (s : ZSt) (h : VH) : RS := match cls with
  | [] => .ex c d s h
  | p :: more => (match p.yes c with
    | some true => if Nat.blt p.i s.length then (match p.su c d (s.set p.i none) h with
      | .nx s1 h1 => .nx (s1.set p.i none) h1
      | .bk s1 h1 => .bk (s1.set p.i none) h1
      | .ct s1 h1 => .ct (s1.set p.i none) h1
      | .rt w h1 => .rt w h1
      | .ex _ _ _ _ => .no
      | .no => .no) else .no
    | some false => catchZ more c d s h
    | none => .no)
def zTry (cls : List ZCl) (b : ZS) : ZS := fun s h => match b s h with
  | .ex c d s1 h1 => catchZ cls c d s1 h1
  | r => r
/-- the suite's reading of layer and of ours: at the slot stands the exception at a, its dict is our d -/
def tzSu (i : Nat) (G : Gm) (f : ZSu) : Su := fun a cls d D σ H => ∃ r s h dn c, SRel G r h.n s σ ∧ HRel G r h H ∧ σ[i]? = some (some (.ref a)) ∧ cls = .ref (G.ga c) ∧ d = some (r dn) ∧ dn < h.n ∧ RZS G W0 r h H D (f c dn s h)
section
variable {X : Cx} {G : Gm} {Wx : WX} {cs : List ZCl}
/-- the clauses keep what they say -/
def ClOk (K : PySem.W.Frag) (G : Gm) : List ZCl → List (Value × Nat × Su) → Prop
  | [], [] => True
  | p :: more, q :: r => q.1 = .ref (G.ga p.c) ∧ q.2.1 = p.i ∧ q.2.2 = tzSu p.i G p.su ∧ (∀ c b, p.yes c = some b → PySem.W.exmOne K (.ref (G.ga c)) (.ref (G.ga p.c)) = some b) ∧ ClOk K G more r
  | _, _ => False
theorem catch_ok {K : PySem.W.Frag} {D : Ends} {r : Rho} {h : VH} {H : Hp} {σ : L2.St} {s : ZSt} {c d : Nat} : ∀ {cs : List ZCl} {l : List (Value × Nat × Su)}, ClOk K G cs l → SRel G r h.n s σ → HRel G r h H → d < h.n → RZS G Wx r h H D (catchZ cs c d s h) → wClauses K Wx D l (.ref (G.ga c)) (some (r d)) σ H
  | [], [], _, S, HR, hd, z => z r H σ (Ext.refl HR) hd S
  | [], _ :: _, h, _, _, _, _ => h.elim
  | _ :: _, [], h, _, _, _, _ => h.elim
  | p :: more, (q1, q2, q3) :: rest, hk, S, HR, hd, z => by
    obtain ⟨rfl, rfl, rfl, hy, hk⟩ := hk
    unfold catchZ at z
    cases e : p.yes c with
    | none => rw [e] at z; exact z.elim
    | some b =>
      refine ⟨b, hy c b e, fun hb a ha => ?_, fun hb => ?_⟩
      · subst hb
        simp only [e] at z
        by_cases hl : Nat.blt p.i s.length = true
        case neg => rw [if_neg hl] at z; exact z.elim
        rw [if_pos hl] at z
        refine ⟨r, s.set p.i none, h, d, c, S.unset p.i, HR, List.getElem?_set_self (by rw [← S.len]; exact of_blt hl), rfl, rfl, hd, ?_⟩
        cases e2 : p.su c d (s.set p.i none) h with
        | nx s1 h1 => simp only [e2] at z; exact fun r1 H1 σ1 E1 S1 => z r1 H1 _ E1 (S1.unset p.i)
        | bk s1 h1 => simp only [e2] at z; exact fun r1 H1 σ1 E1 S1 => z r1 H1 _ E1 (S1.unset p.i)
        | ct s1 h1 => simp only [e2] at z; exact fun r1 H1 σ1 E1 S1 => z r1 H1 _ E1 (S1.unset p.i)
        | rt w h1 => simp only [e2] at z; exact z
        | ex c2 d2 s1 h1 => simp only [e2] at z; exact z.elim
        | no => simp only [e2] at z; exact z.elim
      · subst hb
        simp only [e] at z
        exact catch_ok hk S HR hd z
theorem zs_try {body : List Stmt} {h₀ : ExceptHandler} {hds : List ExceptHandler} {l : List (Value × Nat × Su)} {pos : Pos} {b : ZS} (hs : X.stack = X.env :: X.outer) (hf : X.env.frame = some X.env.locals) (hN : X.N.Nodup) (tk : Takes X Wx)
    (hb : ∀ (W : WX) (pn : List (Addr × Obj)) (xe : Value → Shared → Prop), Takes (X.tr pn xe) W → PassesOwn (model X.prog X.w) X.A X.env xe → PSs (X.tr pn xe) body (tzS G W b))
    (cl : Clauses X (h₀ :: hds) l) (ok : ClOk X.K G cs l) : PS X (.Try body (h₀ :: hds) [] [] pos) (tzS G Wx (zTry cs b)) := by
  refine PS.imp (ps_tryC (tb := fun W => tzS G W b) hs hf hN tk hb cl) fun D σ H q => ?_
  obtain ⟨r, s, h, S, HR, z⟩ := q
  refine ⟨r, s, h, S, HR, ?_⟩
  unfold zTry at z
  cases e : b s h with
  | ex c d s1 h1 =>
    rw [e] at z
    exact fun r1 H1 σ1 E1 hd S1 => catch_ok ok S1 E1.rel hd (RZS.seq E1 z)
  | nx s1 h1 => rw [e] at z; exact z
  | rt w h1 => rw [e] at z; exact z
  | bk s1 h1 => rw [e] at z; exact z
  | ct s1 h1 => rw [e] at z; exact z
  | no => rw [e] at z; exact z
end
end Zd

namespace Zd
open PySem PySem.Spec PyProof.Rows L2

/-! ### repr(v) -/
/-- an item of a tuple: data without a dict and without a list, or the empty dict -/
def ItR (K : PySem.W.Frag) (H : Hp) (v : V) (d : PyData) : Prop := (v = .non ∧ d = .none) ∨ (∃ b, v = .bl b ∧ d = .bool b) ∨ (∃ i, v = .int i ∧ d = .int i) ∨ (∃ x, v = .str x ∧ d = .str x) ∨ ∃ a, v = .ref a ∧ H a = some (.dK []) ∧ d = .dict []
inductive RpV (K : PySem.W.Frag) (H : Hp) : V → Str → Prop
  | non : RpV K H .non "None"
  | bl (b : Bool) : RpV K H (.bl b) (if b then "True" else "False")
  | int (i : Int) (h : i.natAbs.log2 < 1920) : RpV K H (.int i) (toString i)
  | str (x : Str) (h : (reprText x).length ≤ sizeLine) : RpV K H (.str x) (reprText x)
  | dat {a : Addr} {d : PyData} (h : Dp K H (.ref a) d) (hn : d.hasDict = false) (hs : d.showable = true) (hd : d.depth ≤ 60) (hz : d.shown.length ≤ sizeLine) : RpV K H (.ref a) d.shown
  | emp {a : Addr} (h : H a = some (.dK [])) : RpV K H (.ref a) (PyData.dict []).shown
  | tup {a : Addr} {xs : List V} {ds : List PyData} (h : SqT K H a xs) (hp : Paired (ItR K H) xs ds) (hs : (PyData.tuple ds).showable = true) (hd : (PyData.tuple ds).depth ≤ 60) (hz : (PyData.tuple ds).shown.length ≤ sizeLine) : RpV K H (.ref a) (PyData.tuple ds).shown
section
variable {X : Cx} {pins : List (Addr × Obj)} {σ : L2.St} {H : Hp} {s : Shared}
theorem emp_reads (I : Inv X pins σ H s) {a : Addr} (h : H a = some (.dK [])) : Reads s.heap (.ref a) (.dict []) [a] ∧ a ≠ sysModules := by
  obtain ⟨_, y, vs, kv, o, es, ep, ho, ex, hd, hl⟩ := (show ObjOk X.prog X.w H s.heap a (.dK []) from I.hok a _ h)
  have e0 : vs = [] := by cases kv; rfl
  subst e0
  have hes : es.toList = [] := List.length_eq_zero_iff.mp (Pairs.length hl.2.1)
  refine ⟨?_, fun z => by rw [z] at y; simp at y⟩
  have := Reads.dict (kvs := []) ho ex.1 hd (by rw [hes]; exact ReadsAll.nil) (by rw [hes]; exact ReadsAll.nil)
  simpa using this
theorem items_reads (I : Inv X pins σ H s) {xs : List V} {ds : List PyData} (hp : Paired (ItR X.K H) xs ds) : ∀ {us : List Value}, Vals xs us → ∃ as, ReadsAll s.heap us ds as ∧ sysModules ∉ as := by
  induction hp with
  | nil =>
    intro us r
    cases r
    exact ⟨_, ReadsAll.nil, by simp⟩
  | cons h _ ih =>
    intro us r
    cases r with
    | cons r1 r2 =>
      obtain ⟨as, q1, q2⟩ := ih r2
      rcases h with ⟨rfl, rfl⟩ | ⟨b, rfl, rfl⟩ | ⟨i, rfl, rfl⟩ | ⟨x, rfl, rfl⟩ | ⟨a, rfl, ha, rfl⟩
      · cases r1
        exact ⟨_, ReadsAll.cons Reads.none q1, by simpa using q2⟩
      · cases r1
        exact ⟨_, ReadsAll.cons (Reads.bool b) q1, by simpa using q2⟩
      · obtain ⟨t, rfl⟩ := r1
        exact ⟨_, ReadsAll.cons (Reads.int i t) q1, by simpa using q2⟩
      · obtain ⟨t, rfl⟩ := r1
        exact ⟨_, ReadsAll.cons (Reads.str x t) q1, by simpa using q2⟩
      · cases r1
        obtain ⟨q3, q4⟩ := emp_reads I ha
        exact ⟨_, ReadsAll.cons q3 q1, by
          intro z
          rcases List.mem_append.mp z with z | z
          · exact q4 (List.mem_singleton.mp z).symm
          · exact q2 z⟩
end
def rRepr (K : PySem.W.Frag) : List V → Hp → VK → Prop := fun xs H Q => ∃ v t, xs = [v] ∧ RpV K H v t ∧ Q (.str t) H
theorem call_reprD {X : Cx} (hg : X.A.guards = some []) (hu : X.A.units + 64 < cLine) : CallR X (.builtin "repr") (rRepr X.K) := by
  intro pins s σ H xs us Q I r h
  obtain ⟨v, t, rfl, hv, q⟩ := h
  obtain ⟨u, rfl, ru⟩ := vals1 r
  have by_reads : ∀ {a : Addr} {d : PyData} {as : List Addr}, Reads s.heap (.ref a) d as → d.showable = true → (d.hasDict = true → sysModules ∉ as) → d.depth ≤ 60 → d.shown.length ≤ sizeLine → Q (.str d.shown) H → wpAny (model X.prog X.w) X.A (call (.builtin "repr") [.ref a]) (EP X pins σ Q) X.xe s := fun {a d as} rd hs hm hd hz q =>
    repr_of_reads' rd hs hm hg (by omega) (fun _ _ e => e) (fun h' u tk hk => ⟨.str _, H, I.kept (t' := tk) hk, ⟨_, rfl⟩, q⟩) hz
  cases hv with
  | non =>
    cases ru
    exact PySem.P.repr_of_none ⟨.str _, H, I.tok _, ⟨_, rfl⟩, q⟩
  | bl b =>
    cases ru
    exact PySem.P.repr_of_bool ⟨.str _, H, I.tok _, ⟨_, rfl⟩, q⟩
  | int i hz =>
    obtain ⟨t, rfl⟩ := ru
    exact PySem.P.repr_of_int hz ⟨.str _, H, I.tok _, ⟨_, rfl⟩, q⟩
  | str x hz =>
    obtain ⟨t, rfl⟩ := ru
    exact PySem.P.repr_of_str ⟨.str _, H, I.tok _, ⟨_, rfl⟩, q⟩ hz
  | dat hd hn hs hdp hz =>
    obtain ⟨as, rd⟩ := Dp.reads I _ _ u hd ru
    cases ru
    exact by_reads rd hs (fun e => by rw [hn] at e; cases e) hdp hz q
  | emp he =>
    cases ru
    obtain ⟨rd, ne⟩ := emp_reads I he
    exact by_reads rd (by decide) (fun _ z => ne (List.mem_singleton.mp z).symm) (by decide) (by decide) q
  | tup hs hp hsh hdp hz =>
    cases ru
    obtain ⟨its, rv, ⟨o, ho, hc, n, hd⟩, _⟩ := I.tuple hs
    obtain ⟨as, rd, nm⟩ := items_reads I hp rv
    exact by_reads (Reads.tuple ho hc hd (by simpa using rd)) hsh (fun _ => nm) hdp hz q

/-- by our readings -/
def itOf (h : VH) : W → Option PyData
  | .non => some .none
  | .bl b => some (.bool b)
  | .int i => some (.int i)
  | .str x => some (.str x)
  | .ref i => (match h.get i with
    | some (.dic []) => some (.dict [])
    | _ => none)
  | _ => none
def itsOf (h : VH) : List W → Option (List PyData)
  | [] => some []
  | w :: r => (match itOf h w with
    | some d => (match itsOf h r with
      | some ds => some (d :: ds)
      | none => none)
    | none => none)
def okShow (d : PyData) : Bool := d.showable && (decide (d.depth ≤ 60) && decide (d.shown.length ≤ line))
def repZ (h : VH) (w : W) : Option Str := match w with
  | .non => some "None"
  | .bl b => some (if b then "True" else "False")
  | .int i => if decide (i.natAbs.log2 < 1920) then some (toString i) else none
  | .str x => if decide ((reprText x).length ≤ line) then some (reprText x) else none
  | .ref i => (match h.get i with
    | some (.dic []) => some (PyData.dict []).shown
    | some (.tup xs) => (match itsOf h xs with
      | some ds => if okShow (.tuple ds) then some (PyData.tuple ds).shown else none
      | none => (match dat 12 h (.ref i) with
        | some d => if okShow d && !d.hasDict then some d.shown else none
        | none => none))
    | some (.lst xs) => (match dat 12 h (.ref i) with
        | some d => if okShow d && !d.hasDict then some d.shown else none
        | none => none)
    | _ => none)
  | _ => none
section
variable {G : Gm} {K : PySem.W.Frag} {r : Rho} {h : VH} {H : Hp}
theorem okShow_ok {d : PyData} (e : okShow d = true) : d.showable = true ∧ d.depth ≤ 60 ∧ d.shown.length ≤ sizeLine := by
  unfold okShow at e
  rw [Bool.and_eq_true, Bool.and_eq_true] at e
  exact ⟨e.1, of_decide_eq_true e.2.1, line_le (of_decide_eq_true e.2.2)⟩
theorem itOf_ok (HR : HRel G r h H) {w : W} {d : PyData} (e : itOf h w = some d) : ItR K H (w.v G r) d := by
  cases w with
  | non => cases e; exact .inl ⟨rfl, rfl⟩
  | bl b => cases e; exact .inr (.inl ⟨b, rfl, rfl⟩)
  | int b => cases e; exact .inr (.inr (.inl ⟨b, rfl, rfl⟩))
  | str b => cases e; exact .inr (.inr (.inr (.inl ⟨b, rfl, rfl⟩)))
  | glo b => cases e
  | ty b => cases e
  | ref i =>
    have e1 : (match h.get i with
      | some (.dic []) => some (PyData.dict [])
      | _ => none) = some d := e
    split at e1
    · rename_i q
      cases e1
      exact .inr (.inr (.inr (.inr ⟨_, rfl, HR.at_ i _ q, rfl⟩)))
    · cases e1
theorem itsOf_ok (HR : HRel G r h H) : ∀ {ws : List W} {ds : List PyData}, itsOf h ws = some ds → Paired (ItR K H) (vsV G r ws) ds
  | [], ds, e => by cases e; exact .nil
  | w :: ws, ds, e => by
    have e1 : (match itOf h w with
      | some d => (match itsOf h ws with
        | some ds => some (d :: ds)
        | none => none)
      | none => none) = some ds := e
    cases q : itOf h w with
    | none => rw [q] at e1; cases e1
    | some d =>
      rw [q] at e1
      cases q2 : itsOf h ws with
      | none => simp only [q2] at e1; cases e1
      | some es =>
        simp only [q2] at e1; cases e1
        exact .cons (itOf_ok HR q) (itsOf_ok HR q2)
theorem rep_dat (HR : HRel G r h H) {i : Nat} {d : PyData} {t : Str} (q : dat 12 h (.ref i) = some d) (e : (if okShow d && !d.hasDict then some d.shown else none) = some t) : RpV K H ((W.ref i).v G r) t := by
  by_cases hk : (okShow d && !d.hasDict) = true
  · rw [if_pos hk] at e
    cases e
    rw [Bool.and_eq_true, Bool.not_eq_true'] at hk
    obtain ⟨h1, h2, h3⟩ := okShow_ok hk.1
    exact .dat (dat_ok HR 12 _ d q) hk.2 h1 h2 h3
  · rw [if_neg hk] at e; cases e
theorem repZ_ok (HR : HRel G r h H) {w : W} {t : Str} (e : repZ h w = some t) : RpV K H (w.v G r) t := by
  cases w with
  | non => cases e; exact .non
  | bl b => cases e; exact .bl b
  | int i =>
    have e1 : (if decide (i.natAbs.log2 < 1920) then some (toString i : Str) else none) = some t := e
    by_cases hk : decide (i.natAbs.log2 < 1920) = true
    · rw [if_pos hk] at e1; cases e1; exact .int i (of_decide_eq_true hk)
    · rw [if_neg hk] at e1; cases e1
  | str x =>
    have e1 : (if decide ((reprText x).length ≤ line) then some (reprText x) else none) = some t := e
    by_cases hk : decide ((reprText x).length ≤ line) = true
    · rw [if_pos hk] at e1; cases e1; exact .str x (line_le (of_decide_eq_true hk))
    · rw [if_neg hk] at e1; cases e1
  | glo b => cases e
  | ty b => cases e
  | ref i =>
    unfold repZ at e
    simp only at e
    split at e
    · rename_i q
      cases e
      exact .emp (HR.at_ i _ q)
    · rename_i xs q
      cases q2 : itsOf h xs with
      | some ds =>
        simp only [q2] at e
        by_cases hk : okShow (.tuple ds) = true
        · rw [if_pos hk] at e
          cases e
          obtain ⟨h1, h2, h3⟩ := okShow_ok hk
          exact .tup (.inl (.inl (HR.at_ i _ q))) (itsOf_ok HR q2) h1 h2 h3
        · rw [if_neg hk] at e; cases e
      | none =>
        simp only [q2] at e
        cases q3 : dat 12 h (.ref i) with
        | none => simp only [q3] at e; cases e
        | some d => simp only [q3] at e; exact rep_dat HR q3 e
    · rename_i xs q
      cases q3 : dat 12 h (.ref i) with
      | none => simp only [q3] at e; cases e
      | some d => simp only [q3] at e; exact rep_dat HR q3 e
    · cases e
end
def opRepr : OpL := fun ws h => match ws with
  | [w] => (match repZ h w with
    | some t => .ok (.str t) h
    | none => .no)
  | _ => .no
theorem cz_repr {G : Gm} {K : PySem.W.Frag} : CallZ G opRepr (rRepr K) := fun Wx r h H σ xs Q HR hx z => by
  clear hx
  unfold opRepr at z
  split at z
  · rename_i w
    cases q : repZ h w with
    | none => simp only [q] at z; exact z.elim
    | some t =>
      simp only [q] at z
      exact ⟨_, t, rfl, repZ_ok HR q, z r H (Ext.refl HR) rfl⟩
  · exact z.elim
end Zd

namespace Zd
open PySem PySem.Spec PyProof.Rows L2

/-! ### the lock -/
abbrev Gm.with_ (G : Gm) (o : Obj) : Gm := { G with lk := o }
section
variable {G : Gm} {r : Rho} {o : Obj}
theorem v_with {w : W} : w.v (G.with_ o) r = w.v G r := by cases w <;> rfl
theorem vs_with {ws : List W} : vsV (G.with_ o) r ws = vsV G r ws := List.map_congr_left fun w _ => v_with
theorem fs_with {fs : List (Nat × W)} : fsV (G.with_ o) r fs = fsV G r fs := List.map_congr_left fun p _ => by rw [v_with]
theorem kv_with {kvs : List (Key × W)} : kvV (G.with_ o) r kvs = kvV G r kvs := List.map_congr_left fun p _ => by rw [v_with]
def Ob.lkd : Ob → Bool
  | .dlk _ => true
  | _ => false
theorem at_with {a : Addr} {H : Hp} {ob : Ob} (h : ob.lkd = false) : ob.at_ (G.with_ o) r a H ↔ ob.at_ G r a H := by
  cases ob with
  | lst xs => show H a = some (.lst (vsV (G.with_ o) r xs)) ↔ _; rw [vs_with]; exact Iff.rfl
  | tup xs => show H a = some (.tup (vsV (G.with_ o) r xs)) ↔ _; rw [vs_with]; exact Iff.rfl
  | dic xs => show H a = some (.dK (kvV (G.with_ o) r xs)) ↔ _; rw [kv_with]; exact Iff.rfl
  | ins c fs => show (∃ dx, H a = some (.ins (G.ga c) dx (fsV (G.with_ o) r fs))) ↔ _; rw [fs_with]; exact Iff.rfl
  | xd fs => show H a = some (.xd (fsV (G.with_ o) r fs)) ↔ _; rw [fs_with]; exact Iff.rfl
  | sq xs => show Rd H a (.lst (vsV (G.with_ o) r xs)) ↔ _; rw [vs_with]; exact Iff.rfl
  | dlk xs => cases h
  | orc ds => exact Iff.rfl
theorem srel_with {n : Nat} {s : ZSt} {σ : L2.St} (S : SRel G r n s σ) : SRel (G.with_ o) r n s σ := ⟨S.len, fun i w e => by rw [v_with]; exact S.at_ i w e⟩
theorem srel_back {n : Nat} {s : ZSt} {σ : L2.St} (S : SRel (G.with_ o) r n s σ) : SRel G r n s σ := ⟨S.len, fun i w e => by rw [← v_with (o := o)]; exact S.at_ i w e⟩
end
/-- no dict is locked, but those at i -/
def free1 (h : VH) (i : Nat) : Bool := (List.range h.n).all fun j => Nat.beq j i || (match h.get j with
  | some ob => !ob.lkd
  | none => true)
theorem free1_ok {h : VH} {i j : Nat} {ob : Ob} (e : free1 h i = true) (ne : j ≠ i) (g : h.get j = some ob) : ob.lkd = false := by
  unfold free1 at e
  rw [List.all_eq_true] at e
  have := e j (List.mem_range.mpr (VH.get_lt g))
  rw [g, Bool.or_eq_true] at this
  rcases this with z | z
  · exact absurd (Nat.eq_of_beq_eq_true z) ne
  · simpa using z
def lockZ (h : VH) (i : Nat) : Option VH := match h.get i with
  | some (.dic kvs) => if free1 h i then some (h.set i (.dlk kvs)) else none
  | _ => none
/-- behind: kvs as they were -/
def unlockZ (h h2 : VH) (i : Nat) : Option VH := match h.get i, lkdOf h2 i with
  | some (.dic kvs), some ys => if decide (ys = kvs) && free1 h2 i then some (h2.set i (.dic kvs)) else none
  | _, _ => none
section
variable {G : Gm} {r : Rho} {h : VH} {H : Hp}
theorem rel_with {o : Obj} {i : Nat} {kvs : List (Key × W)} (HR : HRel G r h H) (g : h.get i = some (.dic kvs)) (hf : free1 h i = true) : HRel (G.with_ o) r (h.set i (.dlk kvs)) (upd H (r i) (.frz o (.dK (kvV G r kvs)))) := by
  have il := VH.get_lt g
  refine ⟨fun a b ha hb => HR.inj a b ha hb, fun j hj => ?_, fun j v ej => ?_, fun j v ej => ?_⟩
  · by_cases a : j = i
    · rw [a]; exact ⟨_, upd_same⟩
    · rw [upd_ne (fun z => a (HR.inj _ _ hj il z))]; exact HR.tot j hj
  · by_cases a : j = i
    · rw [a, VH.get_set_same g] at ej
      cases ej; rw [a]
      show upd H (r i) _ (r i) = some (.frz o (.dK (kvV (G.with_ o) r kvs)))
      rw [upd_same, kv_with (o := o)]
    · rw [VH.get_set_ne il a] at ej
      refine Ob.at_keep ((at_with (free1_ok hf a ej)).mpr (HR.at_ j v ej)) (upd_ne (fun z => a (HR.inj _ _ (VH.get_lt ej) il z)))
  · by_cases a : j = i
    · rw [a, VH.get_set_same g] at ej
      cases ej; exact (HR.wf i _ g : (kvs.all fun p => p.2.wf h.n) = true)
    · rw [VH.get_set_ne il a] at ej
      exact HR.wf j v ej
theorem ext_with {o : Obj} {i : Nat} {kvs : List (Key × W)} {r2 : Rho} {h2 h3 : VH} {H2 : Hp} (HR : HRel G r h H) (g : h.get i = some (.dic kvs)) (hf : free1 h i = true) (E : Ext (G.with_ o) r (h.set i (.dlk kvs)) (upd H (r i) (.frz o (.dK (kvV G r kvs)))) r2 h2 H2)
    (hu : unlockZ h h2 i = some h3) : H2 (r i) = some (.frz o (.dK (kvV G r kvs))) ∧ Ext G r h H r2 h3 (upd H2 (r i) (.dK (kvV G r kvs))) := by
  have il := VH.get_lt g
  unfold unlockZ at hu
  rw [g] at hu
  cases q : lkdOf h2 i with
  | none => simp only [q] at hu; cases hu
  | some ys =>
    simp only [q] at hu
    by_cases hk : (decide (ys = kvs) && free1 h2 i) = true
    · rw [if_pos hk] at hu
      rw [Bool.and_eq_true] at hk
      have ey := of_decide_eq_true hk.1
      subst ey
      cases hu
      have er : r2 i = r i := E.agr i il
      have wk : (ys.all fun p => p.2.wf h.n) = true := HR.wf i _ g
      have g2 : h2.get i = some (.dlk ys) := by
        unfold lkdOf at q
        split at q
        · rename_i q2; cases q; exact q2
        · cases q
      have a2 : H2 (r i) = some (.frz o (.dK (kvV G r ys))) := by
        obtain ⟨z, _⟩ := lkd_ok E.rel q
        rw [er] at z
        rw [z, kv_with, kvV_agr wk E.agr]
      refine ⟨a2, ⟨⟨fun a b ha hb => E.rel.inj a b ha hb, fun j hj => ?_, fun j v ej => ?_, fun j v ej => ?_⟩, E.le, E.agr, fun a u ea nj => ?_, fun j h1 h2' => ?_⟩⟩
      · by_cases a : r2 j = r i
        · rw [a]; exact ⟨_, upd_same⟩
        · rw [upd_ne a]; exact E.rel.tot j hj
      · have il2 := VH.get_lt g2
        by_cases a : j = i
        · rw [a, VH.get_set_same g2] at ej
          cases ej
          rw [a, er]
          show upd H2 (r i) _ (r i) = some (.dK (kvV G r2 ys))
          rw [upd_same, kvV_agr wk E.agr]
        · rw [VH.get_set_ne il2 a] at ej
          refine Ob.at_keep ((at_with (free1_ok hk.2 a ej)).mp (E.rel.at_ j v ej)) (upd_ne (fun z => a (E.rel.inj _ _ (VH.get_lt ej) il2 (z.trans er.symm))))
      · have il2 := VH.get_lt g2
        by_cases a : j = i
        · rw [a, VH.get_set_same g2] at ej
          cases ej
          exact (E.rel.wf i _ g2 : (ys.all fun p => p.2.wf h2.n) = true)
        · rw [VH.get_set_ne il2 a] at ej
          exact E.rel.wf j v ej
      · have na : a ≠ r i := fun z => nj i il z.symm
        rw [upd_ne na]
        exact E.fr a u (by rw [upd_ne na]; exact ea) nj
      · have := E.nw j h1 h2'
        by_cases z : r2 j = r i
        · rw [z, upd_same] at this; cases this
        · rw [upd_ne z] at this; exact this
    · rw [if_neg hk] at hu; cases hu
end
def zLockE (f g : ZE) : ZE := fun s h => match f s h with
  | .ok (.ref i) _ => (match lockZ h i with
    | some h1 => (match g s h1 with
      | .ok w h2 => (match unlockZ h h2 i with
        | some h3 => .ok w h3
        | none => .no)
      | _ => .no)
    | none => .no)
  | _ => .no
def zLockS (f : ZE) (g : ZS) : ZS := fun s h => match f s h with
  | .ok (.ref i) _ => (match lockZ h i with
    | some h1 => (match g s h1 with
      | .nx s2 h2 => (match unlockZ h h2 i with
        | some h3 => .nx s2 h3
        | none => .no)
      | .rt w h2 => (match unlockZ h h2 i with
        | some h3 => .rt w h3
        | none => .no)
      | _ => .no)
    | none => .no)
  | _ => .no
theorem lockZ_ok {h h1 : VH} {i : Nat} (e : lockZ h i = some h1) : ∃ kvs, h.get i = some (.dic kvs) ∧ free1 h i = true ∧ h1 = h.set i (.dlk kvs) := by
  unfold lockZ at e
  split at e
  · rename_i kvs q
    by_cases hf : free1 h i = true
    · rw [if_pos hf] at e; cases e; exact ⟨kvs, q, hf, rfl⟩
    · rw [if_neg hf] at e; cases e
  · cases e
section
variable {X : Cx} {G : Gm} {Wx : WX} {e : PySem.Expr} {st : Stmt}
theorem z_lockE {f g : ZE} (hp : ∀ o, PE X e (tz (G.with_ o) Wx g)) : PE X e (tz G Wx (zLockE f g)) := by
  have p1 : PE X e (fun σ H Q => ∃ o, tz (G.with_ o) Wx g σ H Q) := ⟨fun pins s σ H Q I ⟨o, q⟩ => (hp o).run pins s σ H Q I q⟩
  refine PE.imp (pe_lock p1) fun σ H Q q => ?_
  obtain ⟨r, s, h, S, HR, z⟩ := q
  unfold zLockE at z
  cases e1 : f s h with
  | no => rw [e1] at z; exact z.elim
  | ex c d h1 => rw [e1] at z; exact z.elim
  | ok w h1 =>
    rw [e1] at z
    cases w with
    | ref i =>
      simp only at z
      cases e2 : lockZ h i with
      | none => simp only [e2] at z; exact z.elim
      | some h2 =>
        simp only [e2] at z
        obtain ⟨kvs, g1, hf, rfl⟩ := lockZ_ok e2
        refine ⟨r i, .dK (kvV G r kvs), HR.at_ i _ g1, trivial, fun o => ⟨o, r, s, h.set i (.dlk kvs), srel_with S, rel_with HR g1 hf, ?_⟩⟩
        cases e3 : g s (h.set i (.dlk kvs)) with
        | no => simp only [e3] at z; exact z
        | ex c d h3 => simp only [e3] at z; exact z.elim
        | ok v h3 =>
          simp only [e3] at z
          intro r3 H3 E3 w3
          cases e4 : unlockZ h h3 i with
          | none => simp only [e4] at z; exact z.elim
          | some h4 =>
            simp only [e4] at z
            obtain ⟨a3, E4⟩ := ext_with HR g1 hf E3 e4
            have hn : h4.n = h3.n := by
              unfold unlockZ at e4
              split at e4
              · split at e4
                · cases e4; rfl
                · cases e4
              · cases e4
            exact ⟨a3, by rw [v_with]; exact z r3 _ E4 (by rw [hn]; exact w3)⟩
    | _ => exact z.elim
theorem zs_lockS {f : ZE} {g : ZS} (hp : ∀ o, PS X st (tzS (G.with_ o) Wx g)) : PS X st (tzS G Wx (zLockS f g)) := by
  have p1 : PS X st (fun D σ H => ∃ o, tzS (G.with_ o) Wx g D σ H) := ⟨fun pins s σ H D I ⟨o, q⟩ => (hp o).run pins s σ H D I q⟩
  refine PS.imp (ps_lock p1) fun D σ H q => ?_
  obtain ⟨r, s, h, S, HR, z⟩ := q
  unfold zLockS at z
  cases e1 : f s h with
  | no => rw [e1] at z; exact z.elim
  | ex c d h1 => rw [e1] at z; exact z.elim
  | ok w h1 =>
    rw [e1] at z
    cases w with
    | ref i =>
      simp only at z
      cases e2 : lockZ h i with
      | none => simp only [e2] at z; exact z.elim
      | some h2 =>
        simp only [e2] at z
        obtain ⟨kvs, g1, hf, rfl⟩ := lockZ_ok e2
        refine ⟨r i, .dK (kvV G r kvs), HR.at_ i _ g1, trivial, fun o => ⟨o, r, s, h.set i (.dlk kvs), srel_with S, rel_with HR g1 hf, ?_⟩⟩
        have hn : ∀ {h3 h4 : VH}, unlockZ h h3 i = some h4 → h4.n = h3.n := fun {h3 h4} e4 => by
          unfold unlockZ at e4
          split at e4
          · split at e4
            · cases e4; rfl
            · cases e4
          · cases e4
        cases e3 : g s (h.set i (.dlk kvs)) with
        | no => simp only [e3] at z; exact z
        | bk s3 h3 => simp only [e3] at z; exact z.elim
        | ct s3 h3 => simp only [e3] at z; exact z.elim
        | ex c d s3 h3 => simp only [e3] at z; exact z.elim
        | nx s3 h3 =>
          simp only [e3] at z
          intro r3 H3 σ3 E3 S3
          cases e4 : unlockZ h h3 i with
          | none => simp only [e4] at z; exact z.elim
          | some h4 =>
            simp only [e4] at z
            obtain ⟨a3, E4⟩ := ext_with HR g1 hf E3 e4
            exact ⟨a3, z r3 _ σ3 E4 (by rw [hn e4]; exact srel_back S3)⟩
        | rt v h3 =>
          simp only [e3] at z
          intro r3 H3 E3 w3
          cases e4 : unlockZ h h3 i with
          | none => simp only [e4] at z; exact z.elim
          | some h4 =>
            simp only [e4] at z
            obtain ⟨a3, E4⟩ := ext_with HR g1 hf E3 e4
            refine ⟨a3, ?_⟩
            rw [v_with]
            exact z r3 _ E4 (by rw [hn e4]; exact w3)
    | _ => exact z.elim
/-- the sources -/
def zIKeys (f : ZE) : ZI := fun s h => match f s h with
  | .ok (.ref i) h1 => (match lkdOf h1 i with
    | some kvs => .ok (.keys i kvs) h1
    | none => .no)
  | .ok _ _ => .no
  | .ex c d h1 => .ex c d h1
  | .no => .no
def zIVals (f : ZE) : ZI := fun s h => match f s h with
  | .ok (.ref i) h1 => (match lkdOf h1 i with
    | some kvs => .ok (.vals i kvs) h1
    | none => .no)
  | .ok _ _ => .no
  | .ex c d h1 => .ex c d h1
  | .no => .no
def zIItms (f : ZE) : ZI := fun s h => match f s h with
  | .ok (.ref i) h1 => (match lkdOf h1 i with
    | some kvs => .ok (.itms i kvs) h1
    | none => .no)
  | .ok _ _ => .no
  | .ex c d h1 => .ex c d h1
  | .no => .no
variable {tg : PySem.Expr} {f : ZE}
theorem zi_keys (p : PI X tg e (iKeys (tz G Wx f))) : PI X tg e (tzI X.K G Wx (zIKeys f)) := by
  refine PI.imp p fun σ H Q q => ?_
  obtain ⟨r, s, h, S, HR, z⟩ := q
  refine ⟨r, s, h, S, HR, ?_⟩
  unfold zIKeys at z
  cases e1 : f s h with
  | no => rw [e1] at z; exact z
  | ex c d h1 => rw [e1] at z; exact z
  | ok w h1 =>
    rw [e1] at z
    intro r1 H1 E1 w1
    cases w with
    | ref i =>
      simp only at z
      cases e2 : lkdOf h1 i with
      | none => simp only [e2] at z; exact z.elim
      | some kvs =>
        simp only [e2] at z
        obtain ⟨a, b⟩ := lkd_ok E1.rel e2
        exact ⟨r1 i, _, rfl, .inl ⟨_, a, z r1 H1 E1 ⟨of_blt w1, b⟩⟩⟩
    | _ => exact z.elim
theorem zi_vals (p : PI X tg e (iVals (tz G Wx f))) : PI X tg e (tzI X.K G Wx (zIVals f)) := by
  refine PI.imp p fun σ H Q q => ?_
  obtain ⟨r, s, h, S, HR, z⟩ := q
  refine ⟨r, s, h, S, HR, ?_⟩
  unfold zIVals at z
  cases e1 : f s h with
  | no => rw [e1] at z; exact z
  | ex c d h1 => rw [e1] at z; exact z
  | ok w h1 =>
    rw [e1] at z
    intro r1 H1 E1 w1
    cases w with
    | ref i =>
      simp only at z
      cases e2 : lkdOf h1 i with
      | none => simp only [e2] at z; exact z.elim
      | some kvs =>
        simp only [e2] at z
        obtain ⟨a, b⟩ := lkd_ok E1.rel e2
        exact ⟨r1 i, _, _, rfl, a, z r1 H1 E1 ⟨of_blt w1, b⟩⟩
    | _ => exact z.elim
theorem zi_itms (p : PI X tg e (iItems (tz G Wx f))) : PI X tg e (tzI X.K G Wx (zIItms f)) := by
  refine PI.imp p fun σ H Q q => ?_
  obtain ⟨r, s, h, S, HR, z⟩ := q
  refine ⟨r, s, h, S, HR, ?_⟩
  unfold zIItms at z
  cases e1 : f s h with
  | no => rw [e1] at z; exact z
  | ex c d h1 => rw [e1] at z; exact z
  | ok w h1 =>
    rw [e1] at z
    intro r1 H1 E1 w1
    cases w with
    | ref i =>
      simp only at z
      cases e2 : lkdOf h1 i with
      | none => simp only [e2] at z; exact z.elim
      | some kvs =>
        simp only [e2] at z
        obtain ⟨a, b⟩ := lkd_ok E1.rel e2
        exact ⟨r1 i, _, _, rfl, a, z r1 H1 E1 ⟨of_blt w1, b⟩⟩
    | _ => exact z.elim
end
end Zd

namespace Zd
open PySem PySem.Spec PyProof.Rows L2

/-! ### where no repr is under way -/
structure FnG (P : Program) (w : World) (K : PySem.W.Frag) (mg : Str → Option Value) (base : Heap) (CX : CXT) (k : Nat) (f : Addr) (fd : FuncData) (ps : List Str) (sp : Sp) : Prop where
  len : ∀ vs H Q E, sp vs H Q E → vs.length = ps.length
  run : ∀ (A : Around) (outer : List Env) (s : Shared) (H : Hp) (args : Args) (us : List Value) (vs : List V) (Q : VK) (E : XK), A.guards = some [] → Room k A → Env0 P w K mg base A outer s H → BindsTo s fd args (ps.zip us) → Vals vs us → sp vs H Q E →
    codeAny (model P w) A (.call (.ref f) args) (CR CX outer P w H s Q E) s
section
variable {P : Program} {w : World} {K : PySem.W.Frag} {mg : Str → Option Value} {base : Heap} {CX : CXT} {x qual : Str} {params : Arguments} {body : List Stmt} {scope : Scope} {dvs : List V} {kws : List (Str × V)} {f : Addr} {fd : FuncData} {N ps : List Str} {k : Nat} {sp : Sp}
theorem FnG.mono {j : Nat} (F : FnG P w K mg base CX j f fd ps sp) (h : j ≤ k) : FnG P w K mg base CX k f fd ps sp := ⟨F.len, fun A outer s H args us vs Q E hg hr => F.run A outer s H args us vs Q E hg (hr.mono h)⟩
theorem fnG_ok (F : FunD K x qual params body scope dvs kws f fd) (S : FnScope N ps scope) (len : ∀ vs H Q E, sp vs H Q E → vs.length = ps.length)
    (hb : ∀ (cdv : Value) (A : Around) (outer : List Env) (s : Shared) (H : Hp) (vs : List V) (Q : VK) (E : XK), (A.deeper (envOfC qual scope s.heap.objs.size f cdv)).guards = some [] → Room k (A.deeper (envOfC qual scope s.heap.objs.size f cdv)) → sp vs H Q E →
      ∃ t, PSs (cxOf CX P w K mg base N qual scope f cdv A outer s H E) body t ∧ t { nx := fun _ H' => Q .non H', rt := Q } (start N vs) H) : FnG P w K mg base CX (k + 1) f fd ps sp := by
  obtain ⟨o1, o2, dV, kV, doc, pm, an, cdv, ct, sl, rfl, look, code, _, _⟩ := F.ex
  refine ⟨len, fun A outer s H args us vs Q E hg hr env bind rel prom => ?_⟩
  have n1 := len _ _ _ _ prom
  have inK : K.In s.heap := env.mod.kin.keeps fun b o e => (env.bs b o e).1
  have nolim : s.heap.NoLimit := env.mod.nolimit.keeps fun b o e => (env.bs b o e).1
  refine codeAny_call_function hr.depth (inK _ _ look) rfl S.co S.gen rfl (PySem.W.codeRec_of inK code) (bind _ _ _ _ ?_)
  refine wpAny_newFunctionEnv_cells S.kind (fun p hp => ?_) fun e1 he s1 mid => ?_
  · obtain ⟨n, v⟩ := p
    rcases S.par n (List.of_mem_zip hp).1 with q | q
    · exact .inl q
    · exact .inr ⟨q, PySem.W.cellsFrom_some _ _ _ (.inl q)⟩
  subst he
  refine ⟨nolim.keeps mid.toInCall.keep, codeAny_func ?_⟩
  obtain ⟨t, ht, hq⟩ := hb cdv A outer s H vs Q E hg (hr.deeper _) prom
  refine wpAny_mono (ht.run [] s1 (start N vs) H _ (inv_start S hr.hd env n1 rel mid) hq) (fun fl s2 hs => ?_) fun e s2 hs => hs
  cases fl with
  | ret u =>
    obtain ⟨v, σ2, H2, J, rv, q⟩ := hs
    exact ⟨v, H2, J.os, J.bare, J.base, J.hok, rv, q⟩
  | next =>
    obtain ⟨σ2, H2, J, q⟩ := hs
    exact ⟨V.non, H2, J.os, J.bare, J.base, J.hok, (rfl : RelV V.non Value.none), q⟩
  | brk =>
    obtain ⟨_, _, _, q⟩ := hs
    exact q.elim
  | cont =>
    obtain ⟨_, _, _, q⟩ := hs
    exact q.elim
theorem def_okG {G : Gm} {z : ZS} (F : FunD K x qual params body scope dvs kws f fd) (S : FnScope N ps scope) (hl : ps.length ≤ N.length)
    (hb : ∀ (cdv : Value) (A : Around) (outer : List Env) (s : Shared) (H : Hp) (E : XK), (A.deeper (envOfC qual scope s.heap.objs.size f cdv)).guards = some [] → Room k (A.deeper (envOfC qual scope s.heap.objs.size f cdv)) → PSs (cxOf (L2.CX P w) P w K mg base N qual scope f cdv A outer s H E) body (tzS G (WofE E) z)) :
    FnG P w K mg base (L2.CX P w) (k + 1) f fd ps (spz G ps.length (zDef N.length z)) := by
  refine fnG_ok F S (fun vs H Q E h => spz_len vs H Q E h) fun cdv A outer s H vs Q E hg hr hsp => ⟨_, hb cdv A outer s H E hg hr, ?_⟩
  obtain ⟨r, ws, h, rfl, e, hw, HR, q⟩ := hsp
  refine ⟨r, startZ N.length ws, h, start_rel hw (by rw [e]; exact hl), HR, ?_⟩
  unfold zDef at q
  cases e1 : z (startZ N.length ws) h with
  | nx s1 h1 => rw [e1] at q; exact fun r1 H1 σ1 E1 S1 => q r1 H1 E1 rfl
  | rt v h1 => rw [e1] at q; exact q
  | bk s1 h1 => rw [e1] at q; exact q.elim
  | ct s1 h1 => rw [e1] at q; exact q.elim
  | ex c d s1 h1 => rw [e1] at q; exact fun r1 H1 σ1 E1 hd S1 => q r1 H1 E1 hd
  | no => rw [e1] at q; exact q.elim
end
structure CalG (P : Program) (w : World) (K : PySem.W.Frag) (mg : Str → Option Value) (base : Heap) (G : Gm) (k : Nat) (f : Addr) (n : Nat) (fn : Fn) : Prop where
  ex : ∃ (fd : FuncData) (ps : List Str), FnG P w K mg base (L2.CX P w) k f fd ps (spz G n fn) ∧ PySem.W.keepIn K (.ref f) = true ∧ Binds K fd ps []
section
variable {X : Cx} {G : Gm} {Wx : WX} {k : ZA} {e : PySem.Expr} {es : List PySem.Expr} {x : Str} {p pos : Pos} {j : Nat} {f : Addr} {n : Nat} {fn : Fn}
theorem z_callG (cl : CalG X.prog X.w X.K X.mg X.base G j f n fn) (hgu : X.A.guards = some []) (hr : Room j X.A) (hp : Ps X Wx) (hg : Gl X x) (hm : X.mg x = some (.ref f)) (ha : PA X (e :: es) (tzA G Wx k)) (hdb : (x == ("__debug__" : Str)) = false)
    (he : starEach (e :: es) X.env = (false, eval e X.env) :: starEach es X.env) (hpl : (backTo pos (starEach es X.env)).any (·.1) = false) : PE X (.Call (.Name x p) (e :: es) [] pos) (tz G Wx (zFn n fn [] k)) := by
  obtain ⟨fd, ps, F, kp, hb⟩ := cl.ex
  refine z_fn ⟨fun pins s σ H Q I h => ?_⟩
  refine wpAny_Call_Name_kw (ld_glob I hg hm ?_ hdb)
  refine PySem.W.callWith_K (h₀ := X.base) I.ok.mod.kin kp (thn (ha.run pos pins s σ H _ I h) fun us s1 ⟨vs, H1, I1, rel, q⟩ => ⟨I1.kIn, ?_⟩) he hpl
  have nl : us.length = ps.length := by rw [← rel.length]; exact F.len _ _ _ _ q
  have bd := hb s1 us I1.kIn (by rw [List.append_nil]; exact nl)
  rw [List.append_nil] at bd
  refine wpAny_call (codeAny_mono (F.run X.A X.stack s1 H1 ⟨us, []⟩ us vs Q (WE Wx σ) hgu hr I1.env0 bd rel q) fun res s2 hq => ?_)
  cases res with
  | error er => exact hp.at_ σ pins H1 s1 er s2 I1 hq
  | ok fl =>
    cases fl with
    | ret u => exact I1.after hq
    | next => exact hq.elim
    | brk => exact hq.elim
    | cont => exact hq.elim
end

/-! ### a suite that hands back a list -/
inductive El where
  | con (w : W) | fld (m : Nat) | rep (m : Nat) | isi (b : Bool)
def El.z (el : El) (dn : Nat) (h : VH) : Option W := match el with
  | .con w => (match w with
    | .ref _ => none
    | w => some w)
  | .fld m => (match h.get dn with
    | some (.xd fs) => lookF m fs
    | _ => none)
  | .rep m => (match h.get dn with
    | some (.xd fs) => (match lookF m fs with
      | some v => (match repZ h v with
        | some t => some (.str t)
        | none => none)
      | none => none)
    | _ => none)
  | .isi b => (match h.get dn with
    | some (.xd _) => some (.bl b)
    | _ => none)
def elsZ (dn : Nat) (h : VH) : List El → Option (List W)
  | [] => some []
  | el :: r => (match el.z dn h with
    | some w => (match elsZ dn h r with
      | some ws => some (w :: ws)
      | none => none)
    | none => none)
def zSuite (c0 : Nat) (els : List El) : ZSu := fun c dn _ h => if Nat.beq c c0 then (match elsZ dn h els with
  | some ws => if ws.length ≤ line then .rt (.ref h.n) (h.push (.lst ws)) else .no
  | none => .no) else .no
/-- what is known in the suite -/
def InSu (G : Gm) (c0 i : Nat) (a : Addr) (cls : Value) (d : Option Addr) (r : Rho) (dn : Nat) (h : VH) (σ : L2.St) : Prop := σ[i]? = some (some (.ref a)) ∧ cls = .ref (G.ga c0) ∧ d = some (r dn) ∧ dn < h.n
def tEl (G : Gm) (c0 i : Nat) (a : Addr) (cls : Value) (d : Option Addr) (el : El) : TE := fun σ H Q => ∃ r h dn, HRel G r h H ∧ InSu G c0 i a cls d r dn h σ ∧ ∃ w, el.z dn h = some w ∧ (w.wf h.n = true → Q (w.v G r) H)
def tEls (G : Gm) (c0 i : Nat) (a : Addr) (cls : Value) (d : Option Addr) (els : List El) : TA := fun σ H Q => ∃ r h dn, HRel G r h H ∧ InSu G c0 i a cls d r dn h σ ∧ ∃ ws, elsZ dn h els = some ws ∧ (wfs h.n ws = true → Q (vsV G r ws) H)
section
variable {X : Cx} {G : Gm} {c0 i : Nat} {a : Addr} {cls : Value} {d : Option Addr} {oe : Obj} {pn : List (Addr × Obj)}
theorem el_nil {Y : Cx} : PA Y [] (tEls G c0 i a cls d []) := PA.imp pa_nil fun σ H Q q => by
  obtain ⟨r, h, dn, HR, _, ws, e, z⟩ := q
  cases e
  exact z rfl
theorem el_cons {Y : Cx} {e : PySem.Expr} {es : List PySem.Expr} {el : El} {els : List El} (h1 : PE Y e (tEl G c0 i a cls d el)) (h2 : PA Y es (tEls G c0 i a cls d els)) (hs : starEach (e :: es) Y.env = (false, eval e Y.env) :: starEach es Y.env) : PA Y (e :: es) (tEls G c0 i a cls d (el :: els)) := by
  refine PA.imp (pa_cons h1 h2 hs) fun σ H Q q => ?_
  obtain ⟨r, h, dn, HR, su, ws, ew, z⟩ := q
  unfold elsZ at ew
  cases e1 : el.z dn h with
  | none => rw [e1] at ew; cases ew
  | some w =>
    rw [e1] at ew
    cases e2 : elsZ dn h els with
    | none => simp only [e2] at ew; cases ew
    | some us =>
      simp only [e2] at ew
      cases ew
      refine ⟨r, h, dn, HR, su, w, e1, fun hw => ⟨r, h, dn, HR, su, us, e2, fun hu => z ?_⟩⟩
      show (w.wf h.n && wfs h.n us) = true
      rw [hw, hu]; rfl
theorem el_con {Y : Cx} {e : PySem.Expr} {v : V} {w : W} (p : PE Y e (tC v)) (hv : ∀ r, w.v G r = v) (hc : consts [w] = true) : PE Y e (tEl G c0 i a cls d (.con w)) := by
  refine PE.imp p fun σ H Q q => ?_
  obtain ⟨r, h, dn, HR, su, w2, e, z⟩ := q
  cases w with
  | ref n => cases hc
  | _ =>
    cases e
    have := z rfl
    rw [hv] at this
    exact this
theorem xd_at {r : Rho} {h : VH} {H : Hp} {dn m : Nat} {fs : List (Nat × W)} {v : W} (HR : HRel G r h H) (g : h.get dn = some (.xd fs)) (e : lookF m fs = some v) : H (r dn) = some (.xd (fsV G r fs)) ∧ (fsV G r fs).lookup (G.nm m) = some (v.v G r) ∧ v.wf h.n = true :=
  ⟨HR.at_ dn _ g, by rw [lookF_ok, e]; rfl, lookF_wf (HR.wf dn _ g) e⟩
theorem el_fld {m : Nat} {e : PySem.Expr} (p : PE (X.suite a ((a, oe) :: pn)) e (tXf a cls d (G.ga c0) (G.nm m) (tVar i))) : PE (X.suite a ((a, oe) :: pn)) e (tEl G c0 i a cls d (.fld m)) := by
  refine PE.imp p fun σ H Q q => ?_
  obtain ⟨r, h, dn, HR, ⟨s1, s2, s3, s4⟩, w, ew, z⟩ := q
  have ew : (match h.get dn with
    | some (.xd fs) => lookF m fs
    | _ => none) = some w := ew
  split at ew
  · rename_i fs g
    obtain ⟨x1, x2, x3⟩ := xd_at HR g ew
    exact ⟨.ref a, s1, rfl, s2, r dn, _, _, s3, x1, x2, z x3⟩
  · cases ew
theorem el_rep {m : Nat} {e : PySem.Expr} (p : PE (X.suite a ((a, oe) :: pn)) e (tCB (rRepr X.K) (tCons (tXf a cls d (G.ga c0) (G.nm m) (tVar i)) tNil))) : PE (X.suite a ((a, oe) :: pn)) e (tEl G c0 i a cls d (.rep m)) := by
  refine PE.imp p fun σ H Q q => ?_
  obtain ⟨r, h, dn, HR, ⟨s1, s2, s3, s4⟩, w, ew, z⟩ := q
  have ew : (match h.get dn with
    | some (.xd fs) => (match lookF m fs with
      | some v => (match repZ h v with
        | some t => some (W.str t)
        | none => none)
      | none => none)
    | _ => none) = some w := ew
  split at ew
  · rename_i fs g
    cases q1 : lookF m fs with
    | none => simp only [q1] at ew; cases ew
    | some v =>
      simp only [q1] at ew
      cases q2 : repZ h v with
      | none => simp only [q2] at ew; cases ew
      | some t =>
        simp only [q2] at ew
        cases ew
        obtain ⟨x1, x2, x3⟩ := xd_at HR g q1
        exact ⟨.ref a, s1, rfl, s2, r dn, _, _, s3, x1, x2, _, t, rfl, repZ_ok HR q2, z rfl⟩
  · cases ew
theorem su_ok {els : List El} {es : List PySem.Expr} {pos pos' : Pos} (p : PA (X.suite a ((a, oe) :: pn)) es (tEls G c0 i a cls d els)) :
    PSs (X.suite a ((a, oe) :: pn)) [.Return (some (.List es pos)) pos'] (tzSu i G (zSuite c0 els) a cls d) := by
  refine PSs.imp (pss_one (ps_ret (pe_lst p))) fun D σ H q => ?_
  obtain ⟨r, s, h, dn, c, S, HR, s1, s2, s3, s4, z⟩ := q
  unfold zSuite at z
  by_cases hc : Nat.beq c c0 = true
  · rw [if_pos hc] at z
    have ec := Nat.eq_of_beq_eq_true hc
    subst ec
    cases e : elsZ dn h els with
    | none => simp only [e] at z; exact z.elim
    | some ws =>
      simp only [e] at z
      by_cases hz : ws.length ≤ line
      · rw [if_pos hz] at z
        refine ⟨r, h, dn, HR, ⟨s1, s2, s3, s4⟩, ws, e, fun hw => ?_⟩
        refine ⟨by rw [vsV, List.length_map]; exact line_le hz, fun l hl2 => ?_⟩
        exact new_lst (σ := σ) (Wx := W0) (Q := D.rt) HR hw (fun r' H' E hw' => z r' H' E hw') l hl2
      · rw [if_neg hz] at z; exact z.elim
  · rw [if_neg hc] at z; exact z.elim
end
end Zd

namespace Zd
open PySem PySem.Spec PyProof.Rows L2

abbrev EndsTrue (s1 : Shared) : Result → Shared → Prop := fun res s2 => res = .ok (.ret (.bool true)) ∧ OldK s1.heap s2.heap ∧ s2.os = s1.os ∧ AllBare s2.gens
section
variable {P : Program} {w : World} {K : PySem.W.Frag} {mg mb : Str → Option Value} {k : Nat} {f a : Addr} {fd : FuncData} {x : Str} {sp : Sp} {s1 : Shared} {us : List Value} {ns : List Int}
/-- from a heap of readings that tells nothing but, perhaps, the script -/
theorem callG_at {H : Hp} (inK : K.In s1.heap) (nG : s1.heap.Ns mainGlobals mg) (nB : s1.heap.Ns builtinsNs mb) (boot : ∀ x : Str, x ≠ "__name__" → mb x = bootBuiltins x) (lim : s1.heap.NoLimit) (gens : s1.gens = #[])
    (obj : s1.heap.get? a = some { cls := .type "list", data := .seq us.toArray }) (hr : Room k callerA)
    (F : ∀ base : Heap, K.In base → base.Ns mainGlobals mg → FnG P w K mg base (L2.CX P w) k f fd [x] sp) (bind : ∀ (s : Shared) (u : Value), BindsTo s fd ⟨[u], []⟩ [(x, u)])
    (prom : sp [.ref a] H (fun v _ => v = .bl true) fun _ _ _ => False) (only : Only H) (ok : HOk P w H s1.heap) (mine : ∀ b, H b ≠ none → b = a) (notK : H a ≠ none → K.lookup a = none) :
    codeAny (model P w) callerA (.call (.ref f) ⟨[.ref a], []⟩) (EndsTrue s1) s1 := by
  have cut : ∀ b, (∃ o, s1.heap.get? b = some o ∧ ((∃ es n, o.data = .dict es n) ∨ K.lookup b = some o)) → H b = none := fun b hb => by
    cases q : H b with
    | none => rfl
    | some u =>
      obtain ⟨o, e, z⟩ := hb
      have ea : b = a := mine b (by rw [q]; simp)
      subst ea
      rcases z with ⟨es, n, z⟩ | z
      · rw [obj] at e
        cases e
        cases (show Data.seq us.toArray _ = Data.dict es n from z)
      · rw [notK (by rw [q]; simp)] at z
        cases z
  have names : ∀ {b : Addr} {m : Str → Option Value}, s1.heap.Ns b m → (hidT s1.heap H).Ns b m := fun {b m} hn => by
    obtain ⟨o, es, n, e, d, r⟩ := hn
    exact ⟨o, es, n, hidT_get e (cut b ⟨o, e, .inl ⟨es, n, d⟩⟩), d, r⟩
  have kIn : K.In (hidT s1.heap H) := fun b o e => hidT_get (inK b o e) (cut b ⟨o, inK b o e, .inr e⟩)
  have md : Mod K mg (hidT s1.heap H) := ⟨kIn, names nG, ⟨mb, names nB, boot⟩, by
    obtain ⟨mc, l1, l2⟩ := lim
    exact ⟨mc, names l1, l2⟩⟩
  have env : Env0 P w K mg (hidT s1.heap H) callerA [] s1 H := ⟨rfl, md, fun b o e => of_hidT e, Nat.le_of_eq (hidT_size _ _), trivial, fun b hb => absurd (show b ∈ ([] : List Addr) from hb) (by simp), ok, .of_eq gens⟩
  refine codeAny_mono ((F _ kIn (names nG)).run callerA [] s1 H ⟨[.ref a], []⟩ [.ref a] [.ref a] _ _ rfl hr env (bind s1 (.ref a)) (.cons rfl .nil) prom) fun res s2 h => ?_
  cases res with
  | error e =>
    obtain ⟨_, _, _, _, _, _, _, _, _, _, _, _, z⟩ := h
    exact z.elim
  | ok fl =>
    cases fl with
    | next => exact h.elim
    | brk => exact h.elim
    | cont => exact h.elim
    | ret u =>
      obtain ⟨v, H2, os, bare, un, ok2, rv, q⟩ := h
      have q2 : v = .bl true := q
      subst q2
      obtain rfl : u = Value.bool true := rv
      refine ⟨rfl, OldK.of_keep fun b o e => ?_, os, bare⟩
      rcases only b with z | ⟨ob, xs, z⟩
      · exact un.keep b o e z (fun m => absurd (show b ∈ ([] : List Addr) from m) (by simp)) (by simp)
      · have z2 := un.frzs b ob _ z
        have y1 := (ok b _ z).1
        have y2 := (ok2 b _ z2).1
        rw [e] at y1
        cases y1
        exact y2
theorem callG (inK : K.In s1.heap) (nG : s1.heap.Ns mainGlobals mg) (nB : s1.heap.Ns builtinsNs mb) (boot : ∀ x : Str, x ≠ "__name__" → mb x = bootBuiltins x) (lim : s1.heap.NoLimit) (gens : s1.gens = #[])
    (obj : s1.heap.get? a = some { cls := .type "list", data := .seq us.toArray }) (inz : IntsAre us ns) (small : ns.length ≤ sizeLine) (hr : Room k callerA)
    (F : ∀ base : Heap, K.In base → base.Ns mainGlobals mg → FnG P w K mg base (L2.CX P w) k f fd [x] sp) (bind : ∀ (s : Shared) (u : Value), BindsTo s fd ⟨[u], []⟩ [(x, u)])
    (prom : ∀ H : Hp, Only H → SqL K H a (ns.map V.int) → sp [.ref a] H (fun v _ => v = .bl true) fun _ _ _ => False) :
    codeAny (model P w) callerA (.call (.ref f) ⟨[.ref a], []⟩) (EndsTrue s1) s1 := by
  have rel := vals_ints inz
  have nlen := inz.length
  cases hk : K.lookup a with
  | some o =>
    have e := inK a o hk
    rw [obj] at e
    cases e
    have none_ : Only fun _ => none := fun _ => .inl rfl
    exact callG_at (H := fun _ => none) inK nG nB boot lim gens obj hr F bind (prom _ none_ (.inr ⟨_, us.toArray, _, hk, rfl, rfl, rfl, by rw [List.size_toArray, nlen]; exact small, by simpa using rel⟩)) none_
      (fun b u z => by cases (show (none : Option HO) = some u from z)) (fun b z => absurd rfl z) fun z => absurd rfl z
  | none =>
    have at_ : ∀ b, b = a → (fun b => if b = a then some (HO.frz { cls := .type "list", data := .seq us.toArray } (.lst (ns.map V.int))) else none) b = some (HO.frz { cls := .type "list", data := .seq us.toArray } (.lst (ns.map V.int))) := fun b e => if_pos e
    have off : ∀ b, b ≠ a → (fun b => if b = a then some (HO.frz { cls := .type "list", data := .seq us.toArray } (.lst (ns.map V.int))) else none) b = none := fun b e => if_neg e
    have one : Only fun b => if b = a then some (HO.frz { cls := .type "list", data := .seq us.toArray } (.lst (ns.map V.int))) else none := fun b => by
      by_cases e : b = a
      · exact .inr ⟨_, _, at_ b e⟩
      · exact .inl (off b e)
    refine callG_at inK nG nB boot lim gens obj hr F bind (prom _ one (.inl (.inr ⟨_, at_ a rfl⟩))) one (fun b u z => ?_) (fun b z => ?_) fun _ => hk
    · by_cases e : b = a
      · have z3 := (at_ b e).symm.trans z
        cases z3
        subst e
        exact ⟨obj, by rw [List.length_map]; exact small, us, _, rel, obj⟩
      · have z3 := (off b e).symm.trans z
        cases z3
    · by_cases e : b = a
      · exact e
      · exact absurd (off b e) z
end
/-- the head's last goal -/
theorem walkG {l : PySem.W.OpenLaw} {n k : Nat} {q : Program} {loose : List Str} {XP : (Str → Option Value) → Heap → Prop} {YP : World → Heap → Prop} {d : DefRec} {x : Str}
    (hn : l.most = some n) (hn2 : n ≤ sizeLine) (hdf : d.params.defaults = []) (hr : Room k callerA)
    (F : ∀ (w : World) (mg : Str → Option Value) (fa : Addr) (h : Heap), YP w h → h.Ns mainGlobals mg → mg d.name = some (.ref fa) →
      ∃ (K : PySem.W.Frag) (fd : FuncData) (sp : Sp), K.In h ∧ (∀ (s : Shared) (u : Value), BindsTo s fd ⟨[u], []⟩ [(x, u)]) ∧
        (∀ (H : Hp) (a : Addr) (ns : List Int), ns.length ≤ n → Only H → SqL K H a (ns.map V.int) → sp [.ref a] H (fun v _ => v = .bl true) fun _ _ _ => False) ∧
        ∀ base : Heap, K.In base → base.Ns mainGlobals mg → FnG l.prog w K mg base (L2.CX l.prog w) k fa fd [x] sp) :
    PySem.W.WalkO q loose XP YP l.row.toRowW d [] (fun f vs => PySem.call f vs) := by
  refine Att.attach_call hn hdf fun w s0 s1 mg mb fa o pm cd doc a us ns G Y ho hd hcd hmg obj inz hlen gens => ?_
  obtain ⟨K, fd, sp, inK, bind, prom, FF⟩ := F w mg fa _ Y G.T.g hmg
  exact callG inK G.T.g G.T.b G.T.builtins G.T.nolimit gens obj inz (Nat.le_trans hlen hn2) hr FF bind fun H only hS => prom H a ns hlen only hS
end Zd

namespace Zd
open PySem PySem.Spec PyProof.Rows L2

/-! ### names of attributes -/
def nmOf (l : List Str) (n : Nat) : Str := l.getD n ⟨Array.replicate (n + 64) 1⟩
theorem nmOf_inj {l : List Str} (hd : l.Nodup) (hs : (l.all fun x => decide (x.cps.size < 64)) = true) : ∀ i j, nmOf l i = nmOf l j → i = j := by
  intro i j e
  have big : ∀ k, ¬ k < l.length → nmOf l k = ⟨Array.replicate (k + 64) 1⟩ := fun k hk => by
    unfold nmOf
    rw [List.getD_eq_getElem?_getD, List.getElem?_eq_none (Nat.le_of_not_lt hk)]; rfl
  have small : ∀ k (hk : k < l.length), nmOf l k = l[k] ∧ (nmOf l k).cps.size < 64 := fun k hk => by
    have e1 : nmOf l k = l[k] := by
      unfold nmOf
      rw [List.getD_eq_getElem?_getD, List.getElem?_eq_getElem hk]; rfl
    rw [e1]
    exact ⟨rfl, of_decide_eq_true (List.all_eq_true.mp hs _ (List.getElem_mem hk))⟩
  by_cases hi : i < l.length
  · by_cases hj : j < l.length
    · rw [(small i hi).1, (small j hj).1] at e
      exact (List.getElem_inj hd).mp e
    · have a := (small i hi).2
      rw [e, big j hj] at a
      simp at a
      omega
  · by_cases hj : j < l.length
    · have a := (small j hj).2
      rw [← e, big i hi] at a
      simp at a
      omega
    · rw [big i hi, big j hj] at e
      have := congrArg (fun z : Str => z.cps.size) e
      simp at this
      exact this

/-! ### lists of classes -/
def inL (l : List Nat) (c : Nat) : Bool := l.any fun d => Nat.beq d c
theorem inL_nil {P : Nat → Prop} : ∀ c, inL [] c = true → P c := fun c e => by cases e
theorem inL_cons {P : Nat → Prop} {a : Nat} {l : List Nat} (h : P a) (t : ∀ c, inL l c = true → P c) : ∀ c, inL (a :: l) c = true → P c := fun c e => by
  have e1 : (Nat.beq a c || inL l c) = true := e
  rw [Bool.or_eq_true] at e1
  rcases e1 with q | q
  · rw [← Nat.eq_of_beq_eq_true q]; exact h
  · exact t c q
/-- a table of a method's defs -/
def look (l : List (Nat × Fn)) (c : Nat) : Option Fn := match l with
  | [] => none
  | p :: r => if Nat.beq p.1 c then some p.2 else look r c
theorem look_nil {P : Nat → Fn → Prop} : ∀ c fn, look [] c = some fn → P c fn := fun c fn e => by cases e
theorem look_cons {P : Nat → Fn → Prop} {p : Nat × Fn} {l : List (Nat × Fn)} (h : P p.1 p.2) (t : ∀ c fn, look l c = some fn → P c fn) : ∀ c fn, look (p :: l) c = some fn → P c fn := fun c fn e => by
  unfold look at e
  split at e
  · rename_i q
    cases e
    rw [← Nat.eq_of_beq_eq_true q]; exact h
  · exact t c fn e

/-! ### facts of classes -/
theorem tycB_ok {K : PySem.W.Frag} {x : Str} (h : tycB x K = true) : TyC K (He.ga K x) := by
  unfold tycB at h
  simp only [Bool.and_eq_true] at h
  obtain ⟨⟨⟨⟨h1, h2⟩, h3⟩, h4⟩, h5⟩ := h
  exact ⟨He.cls_ok h1, of_decide_eq_true h2, of_decide_eq_true h3, of_decide_eq_true h4, of_decide_eq_true h5⟩
/-- isinstance of the class c; others: the classes that are no kin (they may be asked) -/
def tbC (c : Nat) : Tg → Option Bool
  | .ins d => if Nat.beq d c then some true else none
  | _ => some false
theorem tbC_ok {K : PySem.W.Frag} {G : Gm} {x : Str} {c : Nat} (e : G.ga c = He.ga K x) (h : isiB x K = true) : ∀ t b, tbC c t = some b → PySem.W.kitOne K (t.v G) (.ref (G.ga c)) = some b := by
  unfold isiB at h
  rw [Bool.and_eq_true, List.all_eq_true] at h
  obtain ⟨h1, h2⟩ := h
  intro t b eb
  rw [e]
  cases t with
  | ins d =>
    have eb : (if Nat.beq d c then some true else none) = some b := eb
    by_cases hd : Nat.beq d c = true
    · rw [if_pos hd] at eb
      cases eb
      rw [Nat.eq_of_beq_eq_true hd]
      show PySem.W.kitOne K (.ref (G.ga c)) _ = _
      rw [e]
      exact of_decide_eq_true h2
    · rw [if_neg hd] at eb; cases eb
  | non => cases eb; exact of_decide_eq_true (h1 "NoneType" (by simp))
  | bl => cases eb; exact of_decide_eq_true (h1 "bool" (by simp))
  | int => cases eb; exact of_decide_eq_true (h1 "int" (by simp))
  | str => cases eb; exact of_decide_eq_true (h1 "str" (by simp))
  | lst => cases eb; exact of_decide_eq_true (h1 "list" (by simp))
  | tup => cases eb; exact of_decide_eq_true (h1 "tuple" (by simp))
  | dic => cases eb; exact of_decide_eq_true (h1 "dict" (by simp))
theorem tbC_ty {K : PySem.W.Frag} {G : Gm} {x : Str} {c : Nat} (e : G.ga c = He.ga K x) (h : tycB x K = true) : ∀ d b, tbC c (.ins d) = some b → TyC K (G.ga d) := fun d b eb => by
  have eb : (if Nat.beq d c then some true else none) = some b := eb
  by_cases hd : Nat.beq d c = true
  · rw [Nat.eq_of_beq_eq_true hd, e]; exact tycB_ok h
  · rw [if_neg hd] at eb; cases eb
/-- a property -/
theorem prpB_ok {K : PySem.W.Frag} {x m : Str} (h : prpB x m K = true) : PropOf K (He.ga K x) m (He.ma K (He.ga K x) m) (prpOf K (He.ma K (He.ga K x) m)) := by
  unfold prpB at h
  simp only [Bool.and_eq_true] at h
  obtain ⟨⟨⟨h1, h2⟩, h3⟩, h4⟩ := h
  refine ⟨of_decide_eq_true h1, of_decide_eq_true h2, of_decide_eq_true h3, ?_⟩
  unfold prpOf
  split at h4
  · rename_i g r q
    rw [q]
    exact ⟨r, rfl⟩
  · cases h4
/-- an exception's __init__ -/
theorem iniB_ok {K : PySem.W.Frag} {x : Str} (h : iniB x K = true) : PySem.W.findIn K (.ref (He.ga K x)) "__init__" = some (some (.ref (He.ma K (He.ga K x) "__init__"))) ∧ PySem.W.typeIn K (.ref (He.ma K (He.ga K x) "__init__")) = some (.type "function") := by
  unfold iniB at h
  rw [Bool.and_eq_true] at h
  exact ⟨of_decide_eq_true h.1, of_decide_eq_true h.2⟩
/-- a caught exception: its class's facts for e.f and isinstance(e, T) -/
theorem excB_ok {K : PySem.W.Frag} {x : Str} (h : excB x K = true) : XfC K (He.ga K x) ∧ ExcC K (He.ga K x) := by
  unfold excB at h
  simp only [Bool.and_eq_true] at h
  obtain ⟨⟨⟨⟨h1, h2⟩, h3⟩, h4⟩, h5⟩ := h
  have a := xfB_ok h1
  exact ⟨a, ⟨a.ga, a.gg, a.exC, a.hdC, of_decide_eq_true h2, of_decide_eq_true h3, of_decide_eq_true h4, of_decide_eq_true h5⟩⟩
/-- the clauses' answers: for each class of exception that may come -/
def yesOf (l : List (Nat × Bool)) (c : Nat) : Option Bool := match l with
  | [] => none
  | p :: r => if Nat.beq p.1 c then some p.2 else yesOf r c
theorem yes_nil {P : Nat → Bool → Prop} : ∀ c b, yesOf [] c = some b → P c b := fun c fn e => by cases e
theorem yes_cons {P : Nat → Bool → Prop} {p : Nat × Bool} {l : List (Nat × Bool)} (h : P p.1 p.2) (t : ∀ c b, yesOf l c = some b → P c b) : ∀ c b, yesOf (p :: l) c = some b → P c b := fun c b e => by
  unfold yesOf at e
  split at e
  · rename_i q
    cases e
    rw [← Nat.eq_of_beq_eq_true q]; exact h
  · exact t c b e

theorem boot_isi : bootBuiltins "isinstance" = some (.builtin "isinstance") := by decide +kernel
/-! ### the rules, their small premises by rfl -/
section
variable {X : Cx} {G : Gm} {Wx : WX} {E : XK} {e a b : PySem.Expr} {es : List PySem.Expr} {pos p p2 apos : Pos} {x x2 f : Str} {z g : ZE} {k kk : ZA} {j n m c : Nat} {fn : Fn}
theorem q_int {i : Int} {jj : Nat} : PE X (.Constant (.int i) jj pos) (tz G Wx (zCon (.int i))) := z_con pe_int fun _ => rfl
theorem q_str {y : Str} {jj : Nat} : PE X (.Constant (.str y) jj pos) (tz G Wx (zCon (.str y))) := z_con pe_str fun _ => rfl
theorem q_bl {y : Bool} {jj : Nat} : PE X (.Constant (.bool y) jj pos) (tz G Wx (zCon (.bl y))) := z_con pe_bl fun _ => rfl
theorem q_non {jj : Nat} : PE X (.Constant .none jj pos) (tz G Wx (zCon .non)) := z_con pe_non fun _ => rfl
theorem q_gint {i : Int} (h : ∃ t, X.mg x = some (.int i t)) (hg : Gl X x := by rfl) (hd : (x == ("__debug__" : Str)) = false := by decide) : PE X (.Name x pos) (tz G Wx (zCon (.int i))) := by
  obtain ⟨t, h⟩ := h
  exact z_con (pe_glob (v := .int i) hg h ⟨t, rfl⟩ hd) fun _ => rfl
theorem q_gstr {y : Str} (h : ∃ t, X.mg x = some (.str y t)) (hg : Gl X x := by rfl) (hd : (x == ("__debug__" : Str)) = false := by decide) : PE X (.Name x pos) (tz G Wx (zCon (.str y))) := by
  obtain ⟨t, h⟩ := h
  exact z_con (pe_glob (v := .str y) hg h ⟨t, rfl⟩ hd) fun _ => rfl
def zNeg (f : ZE) : ZE := fun s h => match f s h with
  | .ok (.int i) h1 => .ok (.int (-i)) h1
  | .ok _ _ => .no
  | .ex c d h1 => .ex c d h1
  | .no => .no
theorem z_neg (ha : PE X a (tz G Wx z)) : PE X (.UnaryOp .USub a pos) (tz G Wx (zNeg z)) := by
  refine PE.imp (pe_un un_neg ha) fun σ H Q q => ?_
  obtain ⟨r, s, h, S, HR, q⟩ := q
  refine ⟨r, s, h, S, HR, ?_⟩
  unfold zNeg at q
  cases e1 : z s h with
  | no => rw [e1] at q; exact q
  | ex c d h1 => rw [e1] at q; exact q
  | ok w h1 =>
    rw [e1] at q
    intro r1 H1 E1 w1
    cases w with
    | int i => exact ⟨i, rfl, q r1 H1 E1 rfl⟩
    | _ => exact q.elim
theorem q_cons (he : PE X e (tz G Wx z)) (h : PA X es (tzA G Wx k)) (hs : starEach (e :: es) X.env = (false, eval e X.env) :: starEach es X.env := by rfl) : PA X (e :: es) (tzA G Wx (zCons z k)) := z_cons he h hs
theorem q_tru (ha : PE X a (tz G Wx z)) (he : ∀ whole, isTrue a X.env whole = (do let v ← whole; standAt a.pos; holding [v] (truthy v)) := by intro _; rfl) : PT X a (tzT G Wx (zTru z)) := z_tru ha he
theorem q_cmp {o : CmpOp} {op : Op2} {rd : R2} (hr : OpR X (compareOp o) rd) (ho : OpZ G op rd) (ha : PE X a (tz G Wx z)) (hb : PE X b (tz G Wx g)) (hm : behindInMarks o b = false := by rfl) : PE X (.Compare a [o] [b] pos) (tz G Wx (zBin op z g)) := z_cmp hr ho ha hb hm
theorem q_cmpT {o : CmpOp} {op : Op2} {rd : R2} (hr : OpR X (compareOp o) rd) (ho : OpZ G op rd) (ha : PE X a (tz G Wx z)) (hb : PE X b (tz G Wx g)) (hm : behindInMarks o b = false := by rfl) : PT X (.Compare a [o] [b] pos) (tzT G Wx (zBl (zBin op z g))) := z_cmpT hr ho ha hb hm
theorem q_isiB {tb : Tg → Option Bool} {T : String} (hI : X.mg "isinstance" = none) (h2 : X.mg x2 = none) (hb : bootBuiltins x2 = some (.type T)) (ht : ∀ t b, tb t = some b → PySem.W.kitOne X.K (t.v G) (.type T) = some b) (hn : ∀ c, tb (.ins c) = none) (he : PE X e (tz G Wx z))
    (hg : Gl X "isinstance" := by rfl) (hg2 : Gl X x2 := by rfl) (hne : x2 ≠ "__name__" := by decide) (hd : (x2 == ("__debug__" : Str)) = false := by decide)
    (hs : starEach (e :: [.Name x2 p2]) X.env = (false, eval e X.env) :: starEach [.Name x2 p2] X.env := by rfl) (hs2 : starEach (.Name x2 p2 :: []) X.env = (false, eval (.Name x2 p2) X.env) :: starEach [] X.env := by rfl) (hpl : (backTo pos (starEach [.Name x2 p2] X.env)).any (·.1) = false := by rfl) :
    PE X (.Call (.Name "isinstance" p) [e, .Name x2 p2] [] pos) (tz G Wx (zIsi tb z)) :=
  z_isi (.ty T) ht (tb_no hn) (pe_callB call_isi hg hI boot_isi (pa_cons he (pa_cons (pe_bltn hg2 h2 hb rfl hne hd) pa_nil hs2) hs) (by decide) (by decide) hs hpl)
theorem q_isiC {x : Str} (hI : X.mg "isinstance" = none) (h2 : X.mg x2 = some (.ref (G.ga c))) (ec : G.ga c = He.ga X.K x) (hi : isiB x X.K = true) (ht : tycB x X.K = true) (he : PE X e (tz G Wx z))
    (hg : Gl X "isinstance" := by rfl) (hg2 : Gl X x2 := by rfl) (hd : (x2 == ("__debug__" : Str)) = false := by decide)
    (hs : starEach (e :: [.Name x2 p2]) X.env = (false, eval e X.env) :: starEach [.Name x2 p2] X.env := by rfl) (hs2 : starEach (.Name x2 p2 :: []) X.env = (false, eval (.Name x2 p2) X.env) :: starEach [] X.env := by rfl) (hpl : (backTo pos (starEach [.Name x2 p2] X.env)).any (·.1) = false := by rfl) :
    PE X (.Call (.Name "isinstance" p) [e, .Name x2 p2] [] pos) (tz G Wx (zIsi (tbC c) z)) :=
  z_isi (.own _) (tbC_ok ec hi) (tbC_ty ec ht) (pe_callB call_isi hg hI boot_isi (pa_cons he (pa_cons (pe_glob hg2 h2 rfl hd) pa_nil hs2) hs) (by decide) (by decide) hs hpl)
/-- a built-in function -/
theorem q_cb {op : OpL} {rd : List V → Hp → VK → Prop} {id : String} (hc : CallR X (.builtin id) rd) (ho : CallZ G op rd) (hm : X.mg x = none) (hv : bootBuiltins x = some (.builtin id)) (ha : PA X (e :: es) (tzA G Wx k)) (hg : Gl X x := by rfl) (hn : x ≠ "__name__" := by decide) (hdb : (x == ("__debug__" : Str)) = false := by decide)
    (he : starEach (e :: es) X.env = (false, eval e X.env) :: starEach es X.env := by rfl) (hpl : (backTo pos (starEach es X.env)).any (·.1) = false := by rfl) : PE X (.Call (.Name x p) (e :: es) [] pos) (tz G Wx (zCall op k)) := z_cb (pe_callB hc hg hm hv ha hn hdb he hpl) ho
theorem q_ct {op : OpL} {rd : List V → Hp → VK → Prop} {T : String} (hc : CallR X (.type T) rd) (ho : CallZ G op rd) (hm : X.mg x = none) (hv : bootBuiltins x = some (.type T)) (ha : PA X (e :: es) (tzA G Wx k)) (hg : Gl X x := by rfl) (hn : x ≠ "__name__" := by decide) (hdb : (x == ("__debug__" : Str)) = false := by decide)
    (he : starEach (e :: es) X.env = (false, eval e X.env) :: starEach es X.env := by rfl) (hpl : (backTo pos (starEach es X.env)).any (·.1) = false := by rfl) : PE X (.Call (.Name x p) (e :: es) [] pos) (tz G Wx (zCall op k)) := z_cb (pe_callTy hc hg hm hv ha hn hdb he hpl) ho
theorem q_call {f : Addr} (cl : Cal X.prog X.w X.K X.mg X.base G j f n fn) (hr : Room j X.A) (hp : Ps X Wx) (hm : X.mg x = some (.ref f)) (ha : PA X (e :: es) (tzA G Wx k)) (hg : Gl X x := by rfl) (hdb : (x == ("__debug__" : Str)) = false := by decide)
    (he : starEach (e :: es) X.env = (false, eval e X.env) :: starEach es X.env := by rfl) (hpl : (backTo pos (starEach es X.env)).any (·.1) = false := by rfl) : PE X (.Call (.Name x p) (e :: es) [] pos) (tz G Wx (zFn n fn [] k)) := z_call cl hr hp hg hm ha hdb he hpl
theorem q_callG {f : Addr} (cl : CalG X.prog X.w X.K X.mg X.base G j f n fn) (hgu : X.A.guards = some []) (hr : Room j X.A) (hp : Ps X Wx) (hm : X.mg x = some (.ref f)) (ha : PA X (e :: es) (tzA G Wx k)) (hg : Gl X x := by rfl) (hdb : (x == ("__debug__" : Str)) = false := by decide)
    (he : starEach (e :: es) X.env = (false, eval e X.env) :: starEach es X.env := by rfl) (hpl : (backTo pos (starEach es X.env)).any (·.1) = false := by rfl) : PE X (.Call (.Name x p) (e :: es) [] pos) (tz G Wx (zFn n fn [] k)) := z_callG cl hgu hr hp hg hm ha hdb he hpl
theorem q_new {f : Addr} (cl : Cal X.prog X.w X.K X.mg X.base G j f n fn) (M : Mk X.K (G.ga c) f) (hr : Room (j + 1) X.A) (hp : PsE X Wx E) (hm : X.mg x = some (.ref (G.ga c))) (ha : PA X (e :: es) (tzA G Wx k)) (hg : Gl X x := by rfl) (hdb : (x == ("__debug__" : Str)) = false := by decide)
    (he : starEach (e :: es) X.env = (false, eval e X.env) :: starEach es X.env := by rfl) (hpl : (backTo pos (starEach es X.env)).any (·.1) = false := by rfl) : PE X (.Call (.Name x p) (e :: es) [] pos) (tz G Wx (zMk c n fn k)) := z_new cl M hr hp hg hm ha hdb he hpl
theorem q_newD {f : Addr} {ds : List W} (cl : CalD X.prog X.w X.K X.mg X.base G j f n ds fn) (M : Mk X.K (G.ga c) f) (hr : Room (j + 1) X.A) (hp : PsE X Wx E) (hm : X.mg x = some (.ref (G.ga c))) (ha : PA X (e :: es) (tzA G Wx k)) (hg : Gl X x := by rfl) (hdb : (x == ("__debug__" : Str)) = false := by decide)
    (he : starEach (e :: es) X.env = (false, eval e X.env) :: starEach es X.env := by rfl) (hpl : (backTo pos (starEach es X.env)).any (·.1) = false := by rfl) : PE X (.Call (.Name x p) (e :: es) [] pos) (tz G Wx (zMkD c n fn ds k)) := z_newD cl M hr hp hg hm ha hdb he hpl
theorem q_newK {f : Addr} {np : Nat} {ks : List Str} {kws : List Keyword} (cl : CalK X.prog X.w X.K X.mg X.base G j f n (np + 1) ks fn) (M : Mk X.K (G.ga c) f) (hr : Room (j + 1) X.A) (hp : PsE X Wx E) (hm : X.mg x = some (.ref (G.ga c))) (ha : PA X (e :: es) (tzA G Wx k)) (hkw : PK X kws (tzA G Wx kk)) (hnp : ∀ s h ws h1, k s h = .ok ws h1 → ws.length = np)
    (hn : n = np + ks.length + 1 := by rfl) (hg : Gl X x := by rfl) (hall : (backToKw pos (keywordEach kws X.env)).all (·.1.isSome) = true := by rfl) (hks : (backToKw pos (keywordEach kws X.env)).filterMap (·.1) = ks := by rfl) (hdb : (x == ("__debug__" : Str)) = false := by decide)
    (he : starEach (e :: es) X.env = (false, eval e X.env) :: starEach es X.env := by rfl) (hpl : ((backTo pos (starEach (e :: es) X.env)).any (·.1) || (backToKw pos (keywordEach kws X.env)).any (·.1.isNone)) = false := by rfl) :
    PE X (.Call (.Name x p) (e :: es) kws pos) (tz G Wx (zMk c n fn (zApp k kk))) := z_newK cl M hr hp hg hm ha hkw hn hnp hall hks hdb he hpl
theorem q_callK {f : Addr} {np : Nat} {ks : List Str} {kws : List Keyword} (cl : CalK X.prog X.w X.K X.mg X.base G j f n np ks fn) (hr : Room j X.A) (hp : PsE X Wx E) (hm : X.mg x = some (.ref f)) (ha : PA X (e :: es) (tzA G Wx k)) (hkw : PK X kws (tzA G Wx kk)) (hnp : ∀ s h ws h1, k s h = .ok ws h1 → ws.length = np)
    (hn : n = np + ks.length := by rfl) (hg : Gl X x := by rfl) (hall : (backToKw pos (keywordEach kws X.env)).all (·.1.isSome) = true := by rfl) (hks : (backToKw pos (keywordEach kws X.env)).filterMap (·.1) = ks := by rfl) (hdb : (x == ("__debug__" : Str)) = false := by decide)
    (he : starEach (e :: es) X.env = (false, eval e X.env) :: starEach es X.env := by rfl) (hpl : ((backTo pos (starEach (e :: es) X.env)).any (·.1) || (backToKw pos (keywordEach kws X.env)).any (·.1.isNone)) = false := by rfl) :
    PE X (.Call (.Name x p) (e :: es) kws pos) (tz G Wx (zFn n fn [] (zApp k kk))) := z_callK cl hr hp hg hm ha hkw hn hnp hall hks hdb he hpl
theorem q_fld {ok : Nat → Bool} (hc : FOk X G m ok) (he : PE X a (tz G Wx z)) (hf : G.nm m = f := by rfl) (hab : attributeBase a f X.env (eval a X.env) = eval a X.env := by rfl) : PE X (.Attribute a f pos) (tz G Wx (zFld ok m z)) := by
  subst hf
  exact z_fldC hc he hab
theorem q_prop {cs : Nat → Option Fn} {c0 : Nat} {f0 : Fn} (hc : POk X G j m cs) (hr : Room (j + 1) X.A) (he : PE X a (tz G Wx z)) (h0 : cs c0 = some f0 := by rfl) (hf : G.nm m = f := by rfl) (hab : attributeBase a f X.env (eval a X.env) = eval a X.env := by rfl) : PE X (.Attribute a f pos) (tz G Wx (zProp cs z)) := by
  subst hf
  exact z_propC h0 hc hr he hab
theorem q_meth {cs : Nat → Option Fn} {c0 : Nat} {f0 : Fn} {pl : Sem Bool} (hc : MOk X G j m n cs) (hr : Room j X.A) (hp : PsE X Wx E) (he : PE X a (tz G Wx z)) (ha : PA X (e :: es) (tzA G Wx k)) (h0 : cs c0 = some f0 := by rfl) (hf : G.nm m = f := by rfl)
    (hst : starEach (e :: es) X.env = (false, eval e X.env) :: starEach es X.env := by rfl) (hpl : (backTo pos (starEach es X.env)).any (·.1) = false := by rfl)
    (ht : eval (.Call (.Attribute a f apos) (e :: es) [] pos) X.env = (do
      let ov ← eval a X.env
      standAt apos.atName
      let (g, first) ← holding [ov] (getMethod ov f pl)
      callWith pos g first (backTo pos (starEach (e :: es) X.env)) (backToKw pos (keywordEach [] X.env))) := by rfl) :
    PE X (.Call (.Attribute a f apos) (e :: es) [] pos) (tz G Wx (zMeth cs m n z k)) := by
  subst hf
  exact z_methC h0 hc hr hp he ha hst hpl ht
theorem q_meth0 {cs : Nat → Option Fn} {c0 : Nat} {f0 : Fn} {pl : Sem Bool} (hc : MOk X G j m n cs) (hr : Room j X.A) (hp : PsE X Wx E) (he : PE X a (tz G Wx z)) (h0 : cs c0 = some f0 := by rfl) (hf : G.nm m = f := by rfl)
    (ht : eval (.Call (.Attribute a f apos) [] [] pos) X.env = (do
      let ov ← eval a X.env
      standAt apos.atName
      let (g, first) ← holding [ov] (getMethod ov f pl)
      callWith pos g first (backTo pos (starEach [] X.env)) (backToKw pos (keywordEach [] X.env))) := by rfl) :
    PE X (.Call (.Attribute a f apos) [] [] pos) (tz G Wx (zMeth cs m n z zNil)) := by
  subst hf
  exact z_methC0 h0 hc hr hp he ht
theorem q_setF {ok : Nat → Bool} {fv : ZE} {value : PySem.Expr} {pos' : Pos} (hc : FOk X G m ok) (he : PE X a (tz G Wx z)) (hv : PE X value (tz G Wx fv)) (hf : G.nm m = f := by rfl) (hs : swapsWith value (some (.Attribute a f pos')) pos.line X.env = pure false := by rfl) :
    PS X (.Assign [.Attribute a f pos'] value pos) (tzS G Wx (zSetF ok m z fv)) := by
  subst hf
  exact zs_setFC hc he hv hs
theorem q_augF {ok : Nat → Bool} {fv : ZE} {value : PySem.Expr} {tpos : Pos} (hc : FOk X G m ok) (he : PE X a (tz G Wx z)) (hv : PE X value (tz G Wx fv)) (hop : InOp X .Add L2.rAdd) (hf : G.nm m = f := by rfl) :
    PS X (.AugAssign (.Attribute a f tpos) .Add value pos) (tzS G Wx (zAugF ok m z fv)) := by
  subst hf
  exact zs_augFC hc he hv hop
theorem q_raise {pos' : Pos} (cl : CalI X.prog X.w X.K X.mg X.base j (G.ga c) (G.nm m)) (hr : Room (j + 1) X.A) (tk : Takes X Wx) (hm : X.mg x = some (.ref (G.ga c))) (ha : PA X (e :: es) (tzA G Wx k)) (hc : X.calm = true := by rfl) (hg : Gl X x := by rfl) (hdb : (x == ("__debug__" : Str)) = false := by decide)
    (he : starEach (e :: es) X.env = (false, eval e X.env) :: starEach es X.env := by rfl) (hpl : (backTo pos (starEach es X.env)).any (·.1) = false := by rfl) : PS X (.Raise (some (.Call (.Name x p) (e :: es) [] pos)) none pos') (tzS G Wx (zRaise c m k)) := zs_raise cl hr hc tk hg hm ha hdb he hpl
theorem q_sub (hu : X.A.units + 1 < cLine) (ha : PE X a (tz G Wx z)) (hb : PE X b (tz G Wx g)) (hs : PlainIx b := by intro _ _; rfl) (hn : NoSl b := by intro _ _; rfl) : PE X (.Subscript a b pos) (tz G Wx (zBin opItem z g)) := z_sub (pe_ix ix_seq ha hb hs) (pe_dget hu ha hb hn)
theorem q_dput {o i value : PySem.Expr} {pos' : Pos} {zo zi zv : ZE} (hu : X.A.units + 1 < cLine) (ho : PE X o (tz G Wx zo)) (hi : PE X i (tz G Wx zi)) (hv : PE X value (tz G Wx zv)) (hs : swapsWith value (some (.Subscript o i pos')) pos.line X.env = pure false := by rfl) :
    PS X (.Assign [.Subscript o i pos'] value pos) (tzS G Wx (zDPut zo zi zv)) := zs_dput (ps_dput hu ho hi hv hs)
theorem q_expr (he : PE X e (tz G Wx z)) (hs : swapsWith e none pos.line X.env = pure false := by rfl) : PS X (.Expr e pos) (tzS G Wx (zExpr z)) := zs_expr he hs
end
end Zd
namespace Zd
open PySem PySem.Spec PyProof.Rows L2
/-- the facts in hand, with the names of the module -/
structure FxOf (cs : List Chk) (ds : List Df) (ts : List ZTab) (w : World) (K : PySem.W.Frag) (mg : Str → Option Value) : Prop where
  c : Says cs ds ts w K
  ns : ∃ h : Heap, K.In h ∧ h.Ns mainGlobals mg
section
variable {cs : List Chk} {ds : List Df} {ts : List ZTab} {w : World} {K : PySem.W.Frag} {mg : Str → Option Value} {x y : Str}
theorem FxOf.glo (T : FxOf cs ds ts w K mg) (c : (He.Fa.glo x).ok K = true) : mg x = some (.ref (He.ga K x)) := by
  obtain ⟨h, a, b⟩ := T.ns
  exact He.glo_ok a b c
theorem FxOf.free (T : FxOf cs ds ts w K mg) (c : (He.Fa.free x).ok K = true) : mg x = none := by
  obtain ⟨h, a, b⟩ := T.ns
  exact He.free_ok a b c
theorem FxOf.int {i : Int} (T : FxOf cs ds ts w K mg) (c : (He.Fa.int x i).ok K = true) : ∃ t, mg x = some (.int i t) := by
  obtain ⟨h, a, b⟩ := T.ns
  exact He.int_ok a b c
theorem FxOf.str (T : FxOf cs ds ts w K mg) (c : (He.Fa.str x y).ok K = true) : ∃ t, mg x = some (.str y t) := by
  obtain ⟨h, a, b⟩ := T.ns
  exact He.str_ok a b c
end
theorem wl_nil : ∀ g ∈ ([] : List ZG), GWf g := fun g h => by cases h
theorem wl_cons {g : ZG} {gs : List ZG} (h : GWf g) (t : ∀ g ∈ gs, GWf g) : ∀ g' ∈ g :: gs, GWf g' := fun g' hg => by
  cases hg with
  | head => exact h
  | tail _ q => exact t g' q
/-- a table's values -/
theorem kvB_ok {K : PySem.W.Frag} {G : Gm} {x : Str} {tab : List (Str × W)} (h : kvB x tab K = true) : ∀ z v, (findS z tab).map (fun w => w.v G fun _ => 0) = some v → ∃ r, PySem.W.nsIn K (He.ga K x) z = some r ∧ RelV v (r.getD .none) := by
  intro z v e
  cases e2 : findS z tab with
  | none => rw [e2] at e; cases e
  | some wv =>
    rw [e2] at e
    have ev := Option.some.inj e
    subst ev
    have hp := List.all_eq_true.mp h (z, wv) (findS_mem e2)
    simp only at hp
    split at hp
    · have ee := of_decide_eq_true hp
      subst ee
      exact ⟨_, by assumption, _, rfl⟩
    · refine ⟨none, by assumption, ?_⟩
      exact (rfl : (Value.none : Value) = .none)
    · cases hp
theorem q_kget {X : Cx} {G : Gm} {Wx : WX} {d : Addr} {tab : List (Str × W)} {f : ZE} {x : Str} {e : PySem.Expr} {p apos cpos : Pos} (D : ∃ es n, KDict X.K X.w d es n) (hv : ∀ z v, (findS z tab).map (fun w => w.v G fun _ => 0) = some v → ∃ r, PySem.W.nsIn X.K d z = some r ∧ RelV v (r.getD .none)) (hm : X.mg x = some (.ref d)) (he : PE X e (tz G Wx f))
    (hc : consts (tab.map (·.2)) = true := by rfl) (hg : Gl X x := by rfl) (hd : (x == ("__debug__" : Str)) = false := by decide) (m : M1 X (.Name x p) "get" apos e cpos := by exact ⟨rfl, rfl, rfl, rfl⟩) : PE X (.Call (.Attribute (.Name x p) "get" apos) [e] [] cpos) (tz G Wx (zKGet tab f)) := by
  obtain ⟨es, n, D⟩ := D
  exact z_kget hc (pe_kget D hv (pe_glob (v := .ref d) hg hm rfl hd) he m)
/-- a suite; its reading asks the exception's own class -/
theorem suq {X : Cx} {G : Gm} {c0 i : Nat} {a : Addr} {cls : Value} {d : Option Addr} {oe : Obj} {pn : List (Addr × Obj)} {els : List El} {sts : List Stmt} (hz : Zc cls d oe)
    (h : Zc (.ref (G.ga c0)) d oe → PSs (X.suite a ((a, oe) :: pn)) sts (tzSu i G (zSuite c0 els) a (.ref (G.ga c0)) d)) : PSs (X.suite a ((a, oe) :: pn)) sts (tzSu i G (zSuite c0 els) a cls d) := by
  by_cases hc : cls = .ref (G.ga c0)
  · subst hc
    exact h hz
  · refine PSs.imp pss_never fun D σ H q => ?_
    obtain ⟨r, s, hh, dn, c, S, HR, s1, s2, s3, s4, z⟩ := q
    unfold zSuite at z
    by_cases hb : Nat.beq c c0 = true
    · rw [Nat.eq_of_beq_eq_true hb] at s2
      exact hc s2
    · rw [if_neg hb] at z
      exact z
end Zd
namespace Zd
open PySem PySem.Spec PyProof.Rows L2
/-! ### isinstance of a caught error that has fields -/
section
open PySem.W PySem.Calls
variable {prog : Program} {w : World} {K : Frag} {x D : Addr} {ox : Obj} {od : Obj}
theorem class_of_exc {A : Around} {E : Value → Shared → Prop} {s : Shared} {Q : Option Value → Shared → Prop} (C : L2.ExcC K D) (X : K.In s.heap) (I : InstAt s.heap x ox D (some od)) (h : Q (some (.ref D)) { s with toks := s.toks + 1 }) :
    wpAny (model prog w) A (getAttr? (.ref x) "__class__") Q E s := by
  have isC : (clsIn K D).isSome = true := by
    obtain ⟨cd, e, _⟩ := any_some C.hd
    rw [e]; rfl
  have found : findObj K D (some od) "__class__" = some (.bind (.builtin "getset_descriptor.__get__") (.builtin "object.__class__")) := findObj_data isC C.ha C.hn C.ht
  obtain ⟨hp, gs, dr, tk, os⟩ := s
  have T0 := I.type (M := model prog w)
  have T1 := looks_findIn (M := model prog w) X C.hg
  have T2 := looks_findIn (M := model prog w) X C.hk
  have T3 := looks_find (M := model prog w) X I found
  have base : Looks (model prog w) hp (isInstance (.ref x) (.type "BaseException")) true := T0.andThen (looks_subIn X C.hs)
  have b0 : (Value.builtin "BaseException.__getattribute__" == Value.builtin "object.__getattribute__") = false := by decide +kernel
  have b1 : (onTheHeap (Value.ref D) && Value.builtin "BaseException.__getattribute__" == Value.builtin "object.__getattribute__") = false := by rw [b0]; rfl
  have b2 : (false && onTheHeap (Value.builtin "BaseException.__getattribute__")) = false := rfl
  unfold getAttr? getAttrBy? getAttrBy
  refine wpAny_bind (wpAny_mkText (wpAny_bind (wpAny_attempt (wpAny_holding (wpAny_bind (T0.at (wpAny_bind (T1.at ?_))))))))
  show wpAny _ _ (if (onTheHeap (Value.ref D) && Value.builtin "BaseException.__getattribute__" == Value.builtin "object.__getattribute__") = true then _ else _) _ _ _
  rw [b1, if_neg Bool.false_ne_true]
  unfold getAttrByItsOwn hookBefore
  refine wpAny_bind ?_
  rw [if_pos (show onTheHeap (Value.ref D) = true from rfl)]
  refine T2.at (wpAny_bind (wpAny_attempt (wpAny_holding ?_)))
  unfold callGetattribute
  rw [b2, if_neg Bool.false_ne_true]
  unfold boundAndCalled
  rw [PySem.F.excAttr_ValueError.ga.bind (.ref x)]
  refine wpAny_bind (wpAny_pure ?_)
  show wpAny _ _ (call (.builtin "BaseException.__getattribute__") [.ref x, .str "__class__" tk]) _ _ _
  refine wpAny_call (codeAny_call_builtin PySem.F.excAttr_ValueError.ga.plain PySem.F.entry_bexc_ga ?_)
  refine @check_slot (model prog w) _ _ ⟨hp, gs, dr, tk + 1, os⟩ "BaseException.__getattribute__" "BaseException" "__getattribute__" (.ref x) [.str "__class__" tk] [] _ (by decide +kernel) (by decide +kernel) base (PySem.F.args_bexc_ga (.ref x) (.str "__class__" tk)) ?_
  unfold Builtin.«object.__getattribute__»
  refine wpAny_bind (wpAny_of_eq (a := ((Value.ref x : Value), [Value.str "__class__" tk])) (by first | rfl | (simp only [slotArgs]; rfl)) ?_)
  refine wpAny_bind (wpAny_pure (wpAny_bind (T0.at (wpAny_bind (T3.at ?_)))))
  show wpAny _ _ (holding [Value.builtin "object.__class__"] (call (.builtin "getset_descriptor.__get__") [.builtin "object.__class__", .ref x, .ref D]) >>= ret) _ _ _
  refine wpAny_bind (wpAny_holding (wpAny_call (class_get (s := ⟨hp, gs, dr, tk + 1, os⟩) (ox := ox) (od := some od) X I C.hm (wpAny_pure ?_))))
  show wpAny _ _ (handedOut (.ref D)) _ _ _
  rw [handedOut_of (v := .ref D) rfl]
  first
    | exact wpAny_pure (wpAny_pure h)
    | exact wpAny_pure h
    | exact wpAny_pure (wpAny_bind (wpAny_pure (wpAny_pure h)))
theorem kit_exc (C : L2.ExcC K D) : KitX K (.ref x) (.ref D) (fun h => ∃ od, InstAt h x ox D (some od)) := by
  obtain ⟨cd, hc, _⟩ := any_some C.hd
  unfold clsIn at hc
  split at hc
  · rename_i c1 d1 e1 s1 look
    refine ⟨fun _ _ _ ⟨od, I⟩ => I.type, fun _ _ X _ => ?_, fun h tp dd its n sl X e => ?_, fun X ⟨od, I⟩ k => class_of_exc C X I k⟩
    · intro A2 Q2 E2 s2 k q
      unfold isType loadHead
      exact wpAny_bind (wpAny_loadPart (k _ _ (X _ _ look)) (wpAny_pure q))
    · refine Bool.eq_false_iff.mpr fun q => ?_
      have ed : D = tp := Value.ref.inj (beq_iff_eq.mp q)
      subst ed
      have z := (X _ _ look).symm.trans e
      cases z
  · cases hc
end
def rIsEd (K : PySem.W.Frag) (D a : Addr) (d : Option Addr) : List V → Hp → VK → Prop := fun xs H Q => ∃ (c : V) (cv : Value) (b : Bool) (dd : Addr) (fs : List (Str × V)), xs = [.ref a, c] ∧ (∀ u, RelV c u → u = cv) ∧ PySem.W.kitOne K (.ref D) cv = some b ∧ d = some dd ∧ H dd = some (.xd fs) ∧ Q (.bl b) H
theorem call_isEd {X : Cx} {a D : Addr} {oe : Obj} {d : Option Addr} {pn : List (Addr × Obj)} (C : ExcC X.K D) (hz : Zc (.ref D) d oe) (hf : ∃ vs, oe.data = .fields vs) : CallR (X.suite a ((a, oe) :: pn)) (.builtin "isinstance") (rIsEd X.K D a d) := by
  intro pins s σ H xs us Q I r h
  obtain ⟨c, cv, b, dd, fs, rfl, hcv, e, ed, ea, q⟩ := h
  cases r with
  | cons rx rr =>
    cases rr with
    | cons rt rr =>
      cases rr
      cases rx
      have ec := hcv _ rt
      subst ec
      obtain ⟨hget, _⟩ := I.pin (a, oe) (List.mem_append.mpr (.inl List.mem_cons_self))
      obtain ⟨vs, hv⟩ := hf
      subst ed
      have hx : ObjOk X.prog X.w H s.heap dd (.xd fs) := I.hok dd _ ea
      obtain ⟨mA, hns, hr⟩ := hx
      obtain ⟨od, ho, hl⟩ := lookIn_ns hns
      have J : PySem.W.InstAt s.heap a oe D (some od) := ⟨hget, hz.1, by unfold PySem.W.notCls; rw [hv] <;> rfl, by rw [hz.2]; exact ho⟩
      exact PySem.W.kia_one (kit_exc C) I.kIn ⟨_, J⟩ e (fun z => nomatch z) fun tk => ⟨.bl b, H, I.kept (t' := tk) fun _ _ z => z, rfl, q⟩
theorem el_isi {X : Cx} {G : Gm} {c0 i : Nat} {a : Addr} {cls : Value} {d : Option Addr} {oe : Obj} {pn : List (Addr × Obj)} {b : Bool} {e : PySem.Expr} {c : V} {cv : Value} (p : PE (X.suite a ((a, oe) :: pn)) e (tCB (rIsEd X.K (G.ga c0) a d) (tCons (tVar i) (tCons (tC c) tNil)))) (hc : ∀ u, RelV c u → u = cv) (hk : PySem.W.kitOne X.K (.ref (G.ga c0)) cv = some b) : PE (X.suite a ((a, oe) :: pn)) e (tEl G c0 i a cls d (.isi b)) := by
  refine PE.imp p fun σ H Q q => ?_
  obtain ⟨r, h, dn, HR, ⟨s1, s2, s3, s4⟩, w, ew, z⟩ := q
  have ew : (match h.get dn with
    | some (.xd _) => some (W.bl b)
    | _ => none) = some w := ew
  split at ew
  · rename_i fs g
    cases ew
    exact ⟨.ref a, s1, c, cv, b, r dn, _, rfl, hc, hk, s3, HR.at_ dn _ g, z rfl⟩
  · cases ew
end Zd

namespace Zd
open PySem PySem.Spec PyProof.Rows L2

/-! ### runs that go through -/
def isN : RS → Bool
  | .nx _ _ => true
  | _ => false
def nxS : RS → ZSt
  | .nx s _ => s
  | _ => []
def nxH : RS → VH
  | .nx _ h => h
  | _ => ⟨0, []⟩
theorem isN_eq {x : RS} (h : isN x = true) : x = .nx (nxS x) (nxH x) := by
  cases x with
  | nx s h => rfl
  | _ => cases h
section
variable {G : Gm} {Wx : WX} {r : Rho} {s : ZSt} {h : VH} {H : Hp} {σ : L2.St} {D : Ends}
theorem L_step {z : ZS} {t : TS} (S : SRel G r h.n s σ) (HR : HRel G r h H) (e : isN (z s h) = true) (k : ∀ r' H' σ', Ext G r h H r' (nxH (z s h)) H' → SRel G r' (nxH (z s h)).n (nxS (z s h)) σ' → t D σ' H') : tSeq (tzS G Wx z) t D σ H := by
  refine ⟨r, s, h, S, HR, ?_⟩
  rw [isN_eq e]
  exact fun r' H' σ' E S' => k r' H' σ' E S'
theorem L_last {z : ZS} (S : SRel G r h.n s σ) (HR : HRel G r h H) (e : isN (z s h) = true) (k : ∀ r' H' σ', Ext G r h H r' (nxH (z s h)) H' → SRel G r' (nxH (z s h)).n (nxS (z s h)) σ' → D.nx σ' H') : tzS G Wx z D σ H := by
  refine ⟨r, s, h, S, HR, ?_⟩
  rw [isN_eq e]
  exact fun r' H' σ' E S' => k r' H' σ' E S'

/-! ### letting go -/
/-- s2 tells no more than s -/
def leS : ZSt → ZSt → Bool
  | [], [] => true
  | none :: a, _ :: b => leS a b
  | some w :: a, some v :: b => decide (w = v) && leS a b
  | _, _ => false
theorem leS_ok : ∀ {a b : ZSt}, leS a b = true → a.length = b.length ∧ ∀ (i : Nat) (w : W), a[i]? = some (some w) → b[i]? = some (some w)
  | [], [], _ => ⟨rfl, fun i w e => e⟩
  | none :: a, x :: b, h => by
    obtain ⟨h1, h2⟩ := leS_ok (a := a) (b := b) h
    refine ⟨by simp [h1], fun i w e => ?_⟩
    cases i with
    | zero => cases e
    | succ i => exact h2 i w e
  | some w :: a, some v :: b, h => by
    have h : (decide (w = v) && leS a b) = true := h
    rw [Bool.and_eq_true] at h
    obtain ⟨h1, h2⟩ := leS_ok (a := a) (b := b) h.2
    have e := of_decide_eq_true h.1
    subst e
    refine ⟨by simp [h1], fun i w2 e => ?_⟩
    cases i with
    | zero => exact e
    | succ i => exact h2 i w2 e
  | some w :: a, none :: b, h => by cases h
  | [], _ :: _, h => by cases h
  | none :: _, [], h => by cases h
  | some _ :: _, [], h => by cases h
/-- all the refs of s2 are below n -/
def wfS (n : Nat) (s : ZSt) : Bool := s.all fun o => match o with
  | some w => w.wf n
  | none => true
/-- h2 is the elder part of h -/
def sufH (h2 h : VH) : Bool := Nat.ble h2.n h.n && decide (h.l.drop (h.n - h2.n) = h2.l) && Nat.beq h2.l.length h2.n && (h2.l.all fun o => o.wf h2.n)
theorem suf_get {h2 h : VH} (e : sufH h2 h = true) {i : Nat} (hi : i < h2.n) : h.get i = h2.get i := by
  unfold sufH at e
  rw [Bool.and_eq_true, Bool.and_eq_true, Bool.and_eq_true] at e
  obtain ⟨⟨⟨e1, e2⟩, e3⟩, e4⟩ := e
  have le := Nat.le_of_ble_eq_true e1
  have ed := of_decide_eq_true e2
  unfold VH.get
  rw [if_pos hi, if_pos (Nat.lt_of_lt_of_le hi le), ← ed, List.getElem?_drop]
  congr 1
  omega
theorem suf_rel {h2 : VH} (HR : HRel G r h H) (e : sufH h2 h = true) : HRel G r h2 H := by
  have e0 := e
  unfold sufH at e0
  rw [Bool.and_eq_true, Bool.and_eq_true, Bool.and_eq_true] at e0
  obtain ⟨⟨⟨e1, e2⟩, e3⟩, e4⟩ := e0
  have le := Nat.le_of_ble_eq_true e1
  refine ⟨fun i j hi hj => HR.inj i j (Nat.lt_of_lt_of_le hi le) (Nat.lt_of_lt_of_le hj le), fun i hi => HR.tot i (Nat.lt_of_lt_of_le hi le), fun i o eo => ?_, fun i o eo => ?_⟩
  · exact HR.at_ i o (by rw [suf_get e (VH.get_lt eo)]; exact eo)
  · unfold VH.get at eo
    rw [if_pos (VH.get_lt (h := h2) (by unfold VH.get; exact eo))] at eo
    exact List.all_eq_true.mp e4 o (List.mem_of_getElem? eo)
theorem le_rel {n n2 : Nat} {s2 : ZSt} (S : SRel G r n s σ) (e : leS s2 s = true) (w : wfS n2 s2 = true) : SRel G r n2 s2 σ := by
  obtain ⟨h1, h2⟩ := leS_ok e
  refine ⟨h1.trans S.len, fun i v e2 => ⟨?_, (S.at_ i v (h2 i v e2)).2⟩⟩
  exact List.all_eq_true.mp w (some v) (List.mem_of_getElem? e2)
/-- a run's end is no less than (s2, h2) -/
def endsAt (x : RS) (s2 : ZSt) (h2 : VH) : Bool := isN x && sufH h2 (nxH x) && leS s2 (nxS x) && wfS h2.n s2

/-! ### the pool -/
theorem orc_view {i : Nat} {ds : List (Int × Int)} (HR : HRel G r h H) (g : h.get i = some (.orc ds)) : ∃ x y : Int, ∀ ds', Drw x y ds' → HRel G r (h.set i (.orc ds')) H := by
  obtain ⟨x, y, a, _, b⟩ := HR.at_ i _ g
  have il := VH.get_lt g
  refine ⟨x, y, fun ds' hd => ⟨fun a b ha hb => HR.inj a b ha hb, fun j hj => HR.tot j hj, fun j o e => ?_, fun j o e => ?_⟩⟩
  · by_cases q : j = i
    · rw [q, VH.get_set_same g] at e
      cases e
      rw [q]
      exact ⟨x, y, a, hd, b⟩
    · rw [VH.get_set_ne il q] at e
      exact HR.at_ j o e
  · by_cases q : j = i
    · rw [q, VH.get_set_same g] at e
      cases e; rfl
    · rw [VH.get_set_ne il q] at e
      exact HR.wf j o e
theorem draw_range {x y sz : Int} (h : 0 < sz) : 0 ≤ (drawZ x y sz).1 ∧ (drawZ x y sz).1 < sz := by
  unfold drawZ
  split
  · exact ⟨Int.emod_nonneg _ (by omega), Int.emod_lt_of_pos _ h⟩
  · exact ⟨Int.emod_nonneg _ (by omega), Int.emod_lt_of_pos _ h⟩
/-- the next draw, of size m: some number below m -/
theorem orc_next {i m : Nat} {ds : List (Int × Int)} (hm : 0 < m) (HR : HRel G r h H) (g : h.get i = some (.orc ds)) : ∃ d : Nat, d < m ∧ HRel G r (h.set i (.orc [((m : Int), (d : Int))])) H := by
  obtain ⟨x, y, k⟩ := orc_view HR g
  obtain ⟨h1, h2⟩ := draw_range (x := x) (y := y) (sz := (m : Int)) (by omega)
  refine ⟨(drawZ x y m).1.toNat, by omega, k _ ⟨?_, trivial⟩⟩
  show (((drawZ x y m).1.toNat : Nat) : Int) = (drawZ x y m).1
  omega
end

/-! ### l[i] = v -/
def zLSet (fo fi fv : ZE) : ZS := fun s h => match fv s h with
  | .ok v h1 => (match fo s h1 with
    | .ok (.ref i) h2 => (match fi s h2 with
      | .ok (.int k) h3 => (match h3.get i with
        | some (.lst xs) => (match ixN xs.length k with
          | some j => .nx s (h3.set i (.lst (xs.set j v)))
          | none => .no)
        | _ => .no)
      | .ok _ _ => .no
      | .ex c d h3 => .ex c d s h3
      | .no => .no)
    | .ok _ _ => .no
    | .ex c d h2 => .ex c d s h2
    | .no => .no)
  | .ex c d h1 => .ex c d s h1
  | .no => .no
/-- the law's draw, as the prophecy has it -/
def zDraw : Fn := fun ws h => match ws with
  | [.ref i, .int sz] => (match h.get i with
    | some (.orc ((m, v) :: ds)) => if decide (m = sz) && decide (0 < sz) && decide (sz < 1000000) then .ok (.int v) (h.set i (.orc ds)) else .no
    | _ => .no)
  | _ => .no
theorem zs_lset {X : Cx} {G : Gm} {Wx : WX} {st : Stmt} {fo fi fv : ZE} (p : PS X st (tAsg (tz G Wx fv) (gSub (tz G Wx fo) (tz G Wx fi) rSetL))) : PS X st (tzS G Wx (zLSet fo fi fv)) := by
  refine PS.imp p fun D σ H q => ?_
  obtain ⟨r, s, h, S, HR, z⟩ := q
  refine ⟨r, s, h, S, HR, ?_⟩
  unfold zLSet at z
  cases e1 : fv s h with
  | no => rw [e1] at z; exact z
  | ex c d h1 => rw [e1] at z; exact fun r1 H1 E1 hd => z r1 H1 σ E1 hd (S.ext E1)
  | ok v h1 =>
    simp only [e1] at z
    intro r1 H1 E1 w1
    refine ⟨r1, s, h1, S.ext E1, E1.rel, ?_⟩
    cases e2 : fo s h1 with
    | no => simp only [e2] at z; exact z
    | ex c d h2 => simp only [e2] at z; exact fun r2 H2 E2 hd => z r2 H2 σ (E1.trans E2) hd (S.ext (E1.trans E2))
    | ok w h2 =>
      simp only [e2] at z
      intro r2 H2 E2 w2
      refine ⟨r2, s, h2, S.ext (E1.trans E2), E2.rel, ?_⟩
      cases w with
      | ref i =>
        simp only at z
        cases e3 : fi s h2 with
        | no => simp only [e3] at z; exact z
        | ex c d h3 => simp only [e3] at z; exact fun r3 H3 E3 hd => z r3 H3 σ ((E1.trans E2).trans E3) hd (S.ext ((E1.trans E2).trans E3))
        | ok y h3 =>
          simp only [e3] at z
          intro r3 H3 E3 w3
          cases y with
          | int k =>
            simp only at z
            cases g : h3.get i with
            | none => simp only [g] at z; exact z.elim
            | some ob =>
              cases ob with
              | lst xs =>
                simp only [g] at z
                cases ej : ixN xs.length k with
                | none => simp only [ej] at z; exact z.elim
                | some j =>
                  simp only [ej] at z
                  have wv : v.wf h3.n = true := W.wf_le (W.wf_le w1 E2.le) E3.le
                  have ev : v.v G r3 = v.v G r1 := by rw [W.v_agr (W.wf_le w1 E2.le) E3.agr, W.v_agr w1 E2.agr]
                  have wx : wfs h3.n xs = true := E3.rel.wf i _ g
                  have wset : wfs h3.n (xs.set j v) = true := by
                    unfold wfs at *
                    rw [List.all_eq_true] at *
                    intro u hu
                    rcases List.mem_or_eq_of_mem_set hu with m | m
                    · exact wx u m
                    · rw [m]; exact wv
                  have E4 := Ext.set (u := .lst ((vsV G r3 xs).set j (v.v G r3))) (o := .lst (xs.set j v)) E3.rel g wset (by
                    show upd H3 (r3 i) _ (r3 i) = some (.lst (vsV G r3 (xs.set j v)))
                    rw [upd_same, vsV, vsV, List.map_set])
                  refine ⟨r3 i, vsV G r3 xs, k, j, ?_, rfl, E3.rel.at_ i _ g, by rw [vsV, List.length_map]; exact ej, ?_⟩
                  · show V.ref (r2 i) = V.ref (r3 i)
                    rw [E3.agr i (of_blt w2)]
                  · rw [← ev]
                    exact z r3 _ σ (((E1.trans E2).trans E3).trans E4) (S.ext (((E1.trans E2).trans E3).trans E4))
              | _ => simp only [g] at z; exact z.elim
          | _ => exact z.elim
      | _ => exact z.elim
/-- the pool's list, seen as the list that it is -/
theorem orc_list {G : Gm} {r : Rho} {h : VH} {H : Hp} {i : Nat} {ds : List (Int × Int)} (HR : HRel G r h H) (g : h.get i = some (.orc ds)) : ∃ x y : Int, Drw x y ds ∧ 0 ≤ y ∧ y < 2147483648 ∧ HRel G r (h.set i (.lst [.int x, .int y])) H := by
  obtain ⟨x, y, a, d, b⟩ := HR.at_ i _ g
  have il := VH.get_lt g
  refine ⟨x, y, d, b.1, b.2, ⟨fun a b ha hb => HR.inj a b ha hb, fun j hj => HR.tot j hj, fun j o e => ?_, fun j o e => ?_⟩⟩
  · by_cases q : j = i
    · rw [q, VH.get_set_same g] at e
      cases e
      rw [q]
      exact a
    · rw [VH.get_set_ne il q] at e
      exact HR.at_ j o e
  · by_cases q : j = i
    · rw [q, VH.get_set_same g] at e
      cases e; rfl
    · rw [VH.get_set_ne il q] at e
      exact HR.wf j o e
/-- .. and back, behind a draw -/
theorem orc_back {G : Gm} {r r' : Rho} {h he : VH} {H H' : Hp} {i : Nat} {o : Ob} {ds ds' : List (Int × Int)} {x y : Int} (HR : HRel G r h H) (g : h.get i = some (.orc ds)) (E : Ext G r (h.set i o) H r' he H') (en : he.n = h.n) (eo : ∀ j, j ≠ i → he.get j = h.get j) (ei : he.get i = some (.lst [.int x, .int y]))
    (hd : Drw x y ds') (h0 : 0 ≤ y) (h1 : y < 2147483648) : Ext G r h H r' (h.set i (.orc ds')) H' := by
  have il := VH.get_lt g
  refine ⟨⟨fun a b ha hb => E.rel.inj a b (by rw [en]; exact ha) (by rw [en]; exact hb), fun j hj => E.rel.tot j (by rw [en]; exact hj), fun j ob e => ?_, fun j ob e => ?_⟩, Nat.le_refl _, fun j hj => E.agr j hj, fun a u ea nj => E.fr a u ea nj, fun j a b => absurd (Nat.lt_of_lt_of_le b a) (Nat.lt_irrefl _)⟩
  · by_cases q : j = i
    · rw [q, VH.get_set_same g] at e
      cases e
      rw [q]
      exact ⟨x, y, E.rel.at_ i _ ei, hd, h0, h1⟩
    · rw [VH.get_set_ne il q, ← eo j q] at e
      exact E.rel.at_ j ob e
  · by_cases q : j = i
    · rw [q, VH.get_set_same g] at e
      cases e; rfl
    · rw [VH.get_set_ne il q] at e
      exact HR.wf j ob e
/-! ### the draw -/
def zDrawL : Fn := zDef 3 (zSeq (zIfS (zBl (zBin opGt (zBin opItem (zVar 0) (zCon (.int 0))) (zCon (.int 0)))) (zSeq (zAsg (zBin opMod (zBin opItem (zVar 0) (zCon (.int 0))) (zVar 1)) (gNm 2)) (zSeq (zLSet (zVar 0) (zCon (.int 0)) (zBin opFDiv (zBin opItem (zVar 0) (zCon (.int 0))) (zVar 1))) (zRet (zVar 2)))) zNext) (zSeq (zLSet (zVar 0) (zCon (.int 1)) (zBin opMod (zBin opAdd (zBin opMul (zBin opItem (zVar 0) (zCon (.int 1))) (zCon (.int 48271))) (zCon (.int 11))) (zCon (.int 2147483647)))) (zRet (zBin opMod (zBin opFDiv (zBin opMod (zBin opMul (zBin opItem (zVar 0) (zCon (.int 1))) (zBin opItem (zVar 0) (zCon (.int 1)))) (zCon (.int 2147483629))) (zCon (.int 64))) (zVar 1)))))
theorem item0 {h : VH} {i : Nat} {x y : Int} (g : h.get i = some (.lst [.int x, .int y])) : opItem (.ref i) (.int 0) h = .ok (.int x) h := by
  simp [opItem, dicOf, opIx, seqOf, lstOf, g, atI, ixN]
theorem item1 {h : VH} {i : Nat} {x y : Int} (g : h.get i = some (.lst [.int x, .int y])) : opItem (.ref i) (.int 1) h = .ok (.int y) h := by
  simp [opItem, dicOf, opIx, seqOf, lstOf, g, atI, ixN]
theorem drawL_run {h : VH} {i : Nat} {x y sz : Int} (g : h.get i = some (.lst [.int x, .int y])) (h0 : 0 < sz) (h1 : sz < 1000000) :
    ∃ he, zDrawL [.ref i, .int sz] h = .ok (.int (drawZ x y sz).1) he ∧ he.n = h.n ∧ (∀ j, j ≠ i → he.get j = h.get j) ∧ he.get i = some (.lst [.int (drawZ x y sz).2.1, .int (drawZ x y sz).2.2]) := by
  have il := VH.get_lt g
  by_cases hx : 0 < x
  · refine ⟨h.set i (.lst [.int (x / sz), .int y]), ?_, rfl, fun j hj => VH.get_set_ne il hj, ?_⟩
    · have q : sz < 1073741824 := by omega
      simp [zDrawL, zDef, startZ, zSeq, zIfS, zBl, zBin, zVar, zCon, item0 g, opGt, opI, hx, zAsg, opMod, opFDiv, h0, q, gNm, setAll, zLSet, g, ixN, zRet, drawZ]
    · rw [VH.get_set_same g]
      simp [drawZ, hx]
  · have ex : ¬ (x > 0) := hx
    have g2 : (h.set i (.lst [.int x, .int ((y * 48271 + 11) % 2147483647)])).get i = some (.lst [.int x, .int ((y * 48271 + 11) % 2147483647)]) := VH.get_set_same g
    have r1 : 0 ≤ (y * 48271 + 11) % 2147483647 := Int.emod_nonneg _ (by decide)
    have r2 : (y * 48271 + 11) % 2147483647 < 2147483647 := Int.emod_lt_of_pos _ (by decide)
    have mk1 : mulOk 48271 = true := by decide
    have mk2 : mulOk ((y * 48271 + 11) % 2147483647) = true := by
      unfold mulOk
      rw [Bool.and_eq_true]
      exact ⟨decide_eq_true (by omega), decide_eq_true (by omega)⟩
    refine ⟨h.set i (.lst [.int x, .int ((y * 48271 + 11) % 2147483647)]), ?_, rfl, fun j hj => VH.get_set_ne il hj, ?_⟩
    · simp [zDrawL, zDef, startZ, zSeq, zIfS, zBl, zBin, zVar, zCon, item0 g, item1 g, item1 g2, opGt, opI, hx, zNext, opMod, opFDiv, opMul, opAdd, h0, mk1, mk2, zLSet, g, ixN, zRet, drawZ]
    · rw [g2]
      simp [drawZ, hx]
theorem draw_imp {G : Gm} : ∀ vs H Q E, spz G 2 zDraw vs H Q E → spz G 2 zDrawL vs H Q E := by
  intro vs H Q E ⟨r, ws, h, ev, hn, hw, HR, z⟩
  clear hw
  subst ev
  unfold zDraw at z
  split at z
  · rename_i i sz
    split at z
    · rename_i m v ds g
      by_cases hc : (decide (m = sz) && decide (0 < sz) && decide (sz < 1000000)) = true
      · rw [if_pos hc] at z
        rw [Bool.and_eq_true, Bool.and_eq_true] at hc
        have em := of_decide_eq_true hc.1.1
        subst em
        have il := VH.get_lt g
        obtain ⟨x, y, hd, y0, y1, HR2⟩ := orc_list HR g
        obtain ⟨he, e1, e2, e3, e4⟩ := drawL_run (h := h.set i (.lst [.int x, .int y])) (VH.get_set_same g) (of_decide_eq_true hc.1.2) (of_decide_eq_true hc.2)
        have ww : wfs (h.set i (.lst [.int x, .int y])).n [.ref i, .int m] = true := by
          show (Nat.blt i h.n && true) = true
          rw [blt_of il]; rfl
        refine ⟨r, _, h.set i (.lst [.int x, .int y]), rfl, rfl, ww, HR2, ?_⟩
        rw [e1]
        intro r' H' E' w'
        have b : 0 ≤ (drawZ x y m).2.2 ∧ (drawZ x y m).2.2 < 2147483648 := by
          unfold drawZ
          split
          · exact ⟨y0, y1⟩
          · have r1 : 0 ≤ (y * 48271 + 11) % 2147483647 := Int.emod_nonneg _ (by decide)
            have r2 : (y * 48271 + 11) % 2147483647 < 2147483647 := Int.emod_lt_of_pos _ (by decide)
            exact ⟨r1, by show (y * 48271 + 11) % 2147483647 < 2147483648; omega⟩
        have := z r' H' (orc_back HR g E' e2 (fun j hj => (e3 j hj).trans (VH.get_set_ne il hj)) e4 hd.2 b.1 b.2) rfl
        rw [hd.1] at this
        exact this
      · rw [if_neg hc] at z; exact z.elim
    · exact z.elim
  · exact z.elim
theorem Cal.imp {P : Program} {w : World} {K : PySem.W.Frag} {mg : Str → Option Value} {base : Heap} {G : Gm} {k : Nat} {f : Addr} {n : Nat} {fn fn2 : Fn} (c : Cal P w K mg base G k f n fn) (h : ∀ vs H Q E, spz G n fn2 vs H Q E → spz G n fn vs H Q E) : Cal P w K mg base G k f n fn2 := by
  obtain ⟨fd, ps, F, r⟩ := c.ex
  exact ⟨fd, ps, F.imp h, r⟩
/-! ### the hand -/
/-- the law's hand: a new list of two numbers -/
def spHand (K : PySem.W.Frag) : Sp := fun vs H Q _ => ∃ (a : Addr) (k : Int) (ns : List Int), vs = [.ref a, .int k] ∧ 0 ≤ k ∧ k < 1000 ∧ ns.length ≤ 16777216 ∧ SqL K H a (ns.map V.int) ∧
  ∀ p (x y : Int) H', H p = none → (∀ b u, H b = some u → H' b = some u) → H' p = some (.lst [.int x, .int y]) → 0 ≤ y → y < 2147483648 → Q (.ref p) H'
end Zd

namespace Zd
open PySem PySem.Spec PyProof.Rows L2

theorem SRel.other {G : Gm} {r : Rho} {n : Nat} {s : ZSt} {σ : L2.St} {i : Nat} {o : Option V} (S : SRel G r n s σ) (e : s[i]? = some none) : SRel G r n s (σ.set i o) := by
  refine ⟨by rw [List.length_set]; exact S.len, fun j w ej => ?_⟩
  by_cases q : j = i
  · subst q; rw [e] at ej; cases ej
  · rw [List.getElem?_set_ne (Ne.symm q)]
    exact S.at_ j w ej
abbrev rMax2 : List V → Hp → VK → Prop := fun xs H Q => ∃ i j, xs = [.int i, .int j] ∧ Q (.int (if j > i then j else i)) H
abbrev rMin2 : List V → Hp → VK → Prop := fun xs H Q => ∃ i j, xs = [.int i, .int j] ∧ Q (.int (if j < i then j else i)) H
abbrev rLen2 (K : PySem.W.Frag) : List V → Hp → VK → Prop := fun xs H Q => ∃ x n, xs = [x] ∧ LenV K x H n ∧ Q (.int n) H
/-- range(max(lo, min(len(script), hi))) -/
abbrev tTurns (K : PySem.W.Frag) (lo hi : Int) : TI := iRng1 (tCons (tCB rMax2 (tCons (tC (.int lo)) (tCons (tCB rMin2 (tCons (tCB (rLen2 K) (tCons (tVar 0) tNil)) (tCons (tC (.int hi)) tNil))) tNil))) tNil)
abbrev tHand (K : PySem.W.Frag) (Wx : WX) (kk pp : Nat) : TS := tAsg (tCallS (spHand K) (WE Wx) (tCons (tVar 0) (tCons (tVar kk) tNil))) (gName pp)
/-- behind a turn -/
structure Back (G : Gm) (h1 : VH) (s1 : ZSt) (r2 : Rho) (H2 : Hp) (r3 : Rho) (H3 : Hp) (σ3 : L2.St) : Prop where
  rel : HRel G r3 h1 H3
  st : SRel G r3 h1.n s1 σ3
  agr : ∀ i, i < h1.n → r3 i = r2 i
  fr : ∀ a o, H2 a = some o → (∀ i, i < h1.n + 1 → r2 i ≠ a) → H3 a = some o
def isT : RS → Bool
  | .rt (.bl true) _ => true
  | _ => false
theorem law_pure {K : PySem.W.Frag} {G : Gm} {Wx : WX} {a : Addr} {ns : List Int} {lo hi : Int} {kk pp : Nat} {z1 zr : ZS} {tB : TS} {N : List Str} {H : Hp} {D : Ends} {s1 : ZSt} {h1 : VH} (hS : SqL K H a (ns.map V.int)) (hl : ns.length ≤ 16777216) (hlo : 0 ≤ lo) (hlo2 : lo ≤ 100) (hhi : hi ≤ 100) (hG : G.ga 0 = a)
    (hN : 0 < N.length) (e1 : z1 (some (.glo 0) :: List.replicate (N.length - 1) none) ⟨0, []⟩ = .nx s1 h1) (c0 : s1[0]? = some (some (.glo 0))) (ck : s1[kk]? = some none) (cp : s1[pp]? = some none)
    (turn : ∀ (D : Ends) r2 H2 σ2, HRel G r2 (h1.push (.orc [])) H2 → SRel G r2 (h1.n + 1) (s1.set pp (some (.ref h1.n))) σ2 → (∀ r3 H3 σ3, Back G h1 s1 r2 H2 r3 H3 σ3 → D.nx σ3 H3) → tB D σ2 H2)
    (er : isT (zr s1 h1) = true) (hD : ∀ H', D.rt (.bl true) H') : tSeq (tzS G Wx z1) (tSeq (tFor (tTurns K lo hi) (gName kk) (tSeq (tHand K Wx kk pp) tB)) (tzS G Wx zr)) D (start N [.ref a]) H := by
  have S0 : SRel G (fun _ => 0) 0 (some (.glo 0) :: List.replicate (N.length - 1) none) (start N [.ref a]) := by
    have es : start N [.ref a] = some (.ref a) :: List.replicate (N.length - 1) none := rfl
    rw [es]
    refine ⟨by simp, fun i w e => ?_⟩
    cases i with
    | zero => cases e; exact ⟨rfl, by show some (some (V.ref a)) = some (some (V.ref (G.ga 0))); rw [hG]⟩
    | succ i =>
      rw [List.getElem?_cons_succ] at e
      have := List.mem_replicate.mp (List.mem_of_getElem? e)
      cases this.2
  have R0 : HRel G (fun _ => 0) ⟨0, []⟩ H := ⟨fun i j h => absurd h (Nat.not_lt_zero i), fun i h => absurd h (Nat.not_lt_zero i), fun i o e => absurd (VH.get_lt e) (Nat.not_lt_zero i), fun i o e => absurd (VH.get_lt e) (Nat.not_lt_zero i)⟩
  refine ⟨_, _, _, S0, R0, ?_⟩
  rw [e1]
  intro r1 H1 σ1 E1 S1
  have lk : kk < s1.length := (List.getElem?_eq_some_iff.mp ck).1
  have lp : pp < s1.length := (List.getElem?_eq_some_iff.mp cp).1
  have k0 : kk ≠ 0 := fun z => by rw [z, c0] at ck; cases ck
  have p0 : pp ≠ 0 := fun z => by rw [z, c0] at cp; cases cp
  -- the script stays
  let P : Rho → Hp → Prop := fun r J => (Rd J a (.lst (ns.map V.int)) ∧ ∀ j, j < h1.n → r j ≠ a) ∨ ∀ J', SqL K J' a (ns.map V.int)
  have P1 : P r1 H1 := by
    rcases hS with z | z
    · refine .inl ⟨?_, fun j hj e => ?_⟩
      · rcases z with z | ⟨o, z⟩
        · exact .inl (E1.fr a _ z fun i hi => absurd hi (Nat.not_lt_zero i))
        · exact .inr ⟨o, E1.fr a _ z fun i hi => absurd hi (Nat.not_lt_zero i)⟩
      · have nn := E1.nw j (Nat.zero_le _) hj
        rw [e] at nn
        rcases z with z | ⟨o, z⟩ <;> (rw [nn] at z; cases z)
    · exact .inr fun J' => .inr z
  have PS : ∀ {r J}, P r J → SqL K J a (ns.map V.int) := fun {r J} h => by
    rcases h with ⟨z, _⟩ | z
    · exact .inl z
    · exact z J
  have g0 : ∀ {r n σ}, SRel G r n s1 σ → σ[0]? = some (some (V.ref a)) := fun {r n σ} S => by
    have := (S.at_ 0 _ c0).2
    have e : W.v G r (.glo 0) = V.ref a := by show V.ref (G.ga 0) = _; rw [hG]
    rw [e] at this
    exact this
  show tFor (tTurns K lo hi) (gName kk) (tSeq (tHand K Wx kk pp) tB) { D with nx := tzS G Wx zr D } σ1 H1
  have ln : (ns.map V.int).length = ns.length := List.length_map _
  let jn : Int := if (if hi < (((ns.map V.int).length : Nat) : Int) then hi else (((ns.map V.int).length : Nat) : Int)) > lo then (if hi < (((ns.map V.int).length : Nat) : Int) then hi else (((ns.map V.int).length : Nat) : Int)) else lo
  have j0 : 0 ≤ jn := by dsimp only [jn]; split <;> (try split) <;> omega
  have j1 : jn ≤ 100 := by dsimp only [jn]; split <;> (try split) <;> omega
  have turns : ∀ (J : It), J = Itr 0 jn.toNat → ∃ Wi : Nat → Nat → L2.St → Hp → Prop, (∃ m, Wi 0 m σ1 H1) ∧ ∀ i m σ H, Wi i m σ H →
      (J.stop i H ∧ (tzS G Wx zr D) σ H) ∨ (J.go i H ∧ ∃ Nx : L2.St → Hp → Prop, (∀ σ' H', Nx σ' H' → ∃ m', m' < m ∧ Wi (i + 1) m' σ' H') ∧ ∀ x H', J.yld i H x H' → gName kk x σ H' fun σ2 H2 => (tSeq (tHand K Wx kk pp) tB) { D with nx := Nx, ct := Nx, bk := tzS G Wx zr D } σ2 H2) := by
    intro J eJ
    subst eJ
    refine ⟨fun i m σ H => m = jn.toNat - i ∧ i ≤ jn.toNat ∧ ∃ r, HRel G r h1 H ∧ SRel G r h1.n s1 σ ∧ P r H, ⟨jn.toNat, by simp, Nat.zero_le _, r1, E1.rel, S1, P1⟩, ?_⟩
    rintro i m σ H ⟨em, hi1, r, HR, S, hP⟩
    by_cases lt : i < jn.toNat
    · refine .inr ⟨lt, fun σ' H' => ∃ r, HRel G r h1 H' ∧ SRel G r h1.n s1 σ' ∧ P r H', fun σ' H' ⟨r', a1, a2, a3⟩ => ⟨jn.toNat - (i + 1), by omega, rfl, lt, r', a1, a2, a3⟩, fun x H' y => ?_⟩
      obtain ⟨rfl, rfl⟩ := y
      have Sk : SRel G r h1.n s1 (σ.set kk (some (.int (0 + (i : Int))))) := S.other ck
      have lσ : kk < σ.length := by rw [← S.len]; exact lk
      show tHand K Wx kk pp _ (σ.set kk (some (.int (0 + (i : Int))))) H'
      refine ⟨.ref a, g0 Sk, .int (0 + (i : Int)), List.getElem?_set_self lσ, a, 0 + (i : Int), ns, rfl, by omega, by omega, hl, PS hP, fun p x y H2 hp keep at_ y0 y1 => ?_⟩
      have E2 : Ext G r h1 H' (setR r h1.n p) (h1.push (.orc [])) H2 := Ext.new HR hp rfl keep ⟨x, y, at_, trivial, y0, y1⟩
      have S2 : SRel G (setR r h1.n p) (h1.n + 1) (s1.set pp (some (.ref h1.n))) ((σ.set kk (some (.int (0 + (i : Int))))).set pp (some (.ref p))) := by
        have q := SRel.set (w := .ref h1.n) (SRel.later (n' := h1.n + 1) Sk (Nat.le_succ _) (fun j hj => setR_lt (n := h1.n) (p := p) hj)) (blt_self _) pp
        rw [show W.v G (setR r h1.n p) (.ref h1.n) = V.ref p from congrArg V.ref setR_same] at q
        exact q
      refine turn _ _ _ _ E2.rel S2 fun r3 H3 σ3 B => ⟨r3, B.rel, B.st, ?_⟩
      rcases hP with ⟨z, nz⟩ | z
      · refine .inl ⟨?_, fun j hj => by rw [B.agr j hj, setR_lt hj]; exact nz j hj⟩
        have far : ∀ o, H' a = some o → H3 a = some o := fun o e => B.fr a o (keep a o e) fun j hj e2 => by
          by_cases q : j = h1.n
          · rw [q, setR_same] at e2
            rw [e2, e] at hp
            cases hp
          · have q2 : j < h1.n := by omega
            rw [setR_lt q2] at e2
            exact nz j q2 e2
        rcases z with z | ⟨o, z⟩
        · exact .inl (far _ z)
        · exact .inr ⟨o, far _ z⟩
      · exact .inr z
    · have ei : i = jn.toNat := by omega
      refine .inl ⟨by show jn.toNat ≤ i; omega, r, s1, h1, S, HR, ?_⟩
      have er2 := er
      cases ez : zr s1 h1 with
      | rt w h2 =>
        rw [ez] at er2
        cases w with
        | bl b =>
          cases b with
          | true => exact fun _ H' _ _ => hD H'
          | false => cases er2
        | _ => cases er2
      | _ => rw [ez] at er2; cases er2
  refine ⟨.ref a, g0 S1, .ref a, (ns.map V.int).length, rfl, .inl ⟨_, PS P1, rfl⟩, _, _, rfl, _, _, rfl, _, rfl, ?_, ?_, turns _ rfl⟩
  · show -(2 ^ 62) ≤ jn
    omega
  · show jn < 2 ^ 62
    omega
theorem upd_sm {H : Hp} {a : Addr} {o : HO} : upd H a o a = some o := by simp [upd]
theorem upd_kp {H : Hp} {a : Addr} {o : HO} (h : H a = none) {b : Addr} {u : HO} (e : H b = some u) : upd H a o b = some u := by
  have : b ≠ a := fun z => by rw [z, h] at e; cases e
  simp [upd, this, e]
theorem upd_non {H : Hp} {a : Addr} {o : HO} {b : Addr} (e : upd H a o b = none) : H b = none := by
  by_cases z : b = a
  · subst z; rw [upd_sm] at e; cases e
  · simpa [upd, z] using e
/-- the hand's own run -/
theorem hand_pure {K : PySem.W.Frag} {a : Addr} {k : Int} {ns : List Int} {H : Hp} {Q : VK} (k0 : 0 ≤ k) (k1 : k < 1000) (hl : ns.length ≤ 16777216) (hS : SqL K H a (ns.map V.int))
    (hq : ∀ p (x y : Int) H', H p = none → (∀ b u, H b = some u → H' b = some u) → H' p = some (.lst [.int x, .int y]) → 0 ≤ y → y < 2147483648 → Q (.ref p) H') :
    (tSeq (tAsg (tOp (rIxL K) (tOp rCat (tSl (rSlL K) (tVar 0) (tPart (tVar 1)) (tPart (tOp (rI0 fun i j => .int (i + j)) (tVar 1) (tC (.int 1))))) (tLst (tCons (tC (.int 0)) tNil))) (tC (.int 0))) (gName 2))
      (tSeq (tAsg (tOp (rI (fun _ j => 0 < j) fun i j => .int (i % j)) (tOp (rI CMul fun i j => .int (i * j)) (tOp (rI0 fun i j => .int (i + j)) (tOp (rI0 fun i j => .int (i + j)) (tOp (rI (fun _ j => 0 < j) fun i j => .int (i % j)) (tVar 2) (tC (.int 2147483647))) (tOp (rI CMul fun i j => .int (i * j)) (tC (.int 7919)) (tVar 1))) (tC (.int 1))) (tC (.int 48271))) (tC (.int 2147483629))) (gName 3))
        (tRet (tLst (tCons (tOp (rI CMul fun i j => .int (i * j)) (tCB (fun xs H Q => (∃ i, xs = [.int i] ∧ Q (.int i) H) ∨ ∃ k, xs = [.bl k] ∧ Q (.int (if k then 1 else 0)) H) (tCons (tOp (rI0 fun i j => .bl (decide (j ≤ i))) (tVar 2) (tOp (rI CPow fun i j => .int (i ^ j.toNat)) (tC (.int 10)) (tC (.int 18)))) tNil)) (tVar 2)) (tCons (tVar 3) tNil)))))) { nx := fun _ H' => Q .non H', rt := Q } (start ["_law_script", "_law_k", "_law_cell", "_law_seed"] [.ref a, .int k]) H := by
  obtain ⟨m, rfl⟩ : ∃ m : Nat, k = (m : Int) := ⟨k.toNat, by omega⟩
  have hcut : ∃ zs : List Int, cutV (ns.map V.int) (some (m : Int)) (some ((m : Int) + 1)) = zs.map V.int ∧ zs.length ≤ 1 := by
    refine ⟨(ns.drop (HT.sIx (ns.map V.int).length 0 (some (m : Int)))).take (HT.sIx (ns.map V.int).length (ns.map V.int).length (some ((m : Int) + 1)) - HT.sIx (ns.map V.int).length 0 (some (m : Int))), ?_, ?_⟩
    · unfold cutV
      rw [List.map_take, List.map_drop]
    · rw [List.length_take, show ((m : Int) + 1) = ((m + 1 : Nat) : Int) from rfl, HT.sIx_nat, HT.sIx_nat]
      omega
  obtain ⟨zs, ec, lc⟩ := hcut
  have hx : ∃ x : Int, (zs.map V.int ++ [V.int 0])[0]? = some (V.int x) := by
    cases zs with
    | nil => exact ⟨0, rfl⟩
    | cons z zs => exact ⟨z, rfl⟩
  obtain ⟨x, hx⟩ := hx
  refine ⟨.ref a, rfl, .int m, rfl, m, rfl, .int m, rfl, m, 1, rfl, rfl, (m : Int) + 1, rfl, a, _, rfl, hS, fun p1 hp1 => ?_⟩
  rw [ec]
  refine ⟨by decide, fun p2 hp2 => ⟨p1, p2, zs.map V.int, [.int 0], rfl, rfl, ?_, upd_sm, ?_, fun p3 hp3 => ?_⟩⟩
  · exact upd_kp hp2 upd_sm
  · rw [List.length_map]; show zs.length + 1 ≤ 16777216; omega
  refine ⟨p3, _, 0, .int x, rfl, rfl, .inl (.inl upd_sm), ?_, ?_⟩
  · rw [show atI (zs.map V.int ++ [V.int 0]) 0 = (zs.map V.int ++ [V.int 0])[0]? from ?_]
    · exact hx
    · unfold atI ixN
      rw [if_pos (by decide), if_pos (by rw [List.length_append]; show (0 : Int) < ((_ + 1 : Nat) : Int); omega)]
      rfl
  have hb : ∀ b : Bool, CMul (if b = true then 1 else 0) x := fun b => by cases b <;> exact .inl ⟨by decide, by decide⟩
  refine ⟨.int x, rfl, x, 2147483647, rfl, rfl, show (0:Int) < 2147483647 by decide, .int m, rfl, 7919, m, rfl, rfl, .inl ⟨by decide, by decide⟩, _, _, rfl, rfl, _, _, rfl, rfl, _, _, rfl, rfl, .inr ⟨by decide, by decide⟩, _, _, rfl, rfl, show (0:Int) < 2147483629 by decide, ?_⟩
  refine ⟨.int x, rfl, 10, 18, rfl, rfl, ⟨by decide, by decide, by decide⟩, x, _, rfl, rfl, .inr ⟨_, rfl, .int x, rfl, _, x, rfl, rfl, hb _, .int _, rfl, show 2 ≤ 16777216 by decide, fun p4 hp4 => hq p4 _ _ _ (upd_non (upd_non (upd_non hp4))) (fun b u e => upd_kp hp4 (upd_kp hp3 (upd_kp hp2 (upd_kp hp1 e)))) upd_sm (Int.emod_nonneg _ (by decide)) (Int.lt_trans (Int.emod_lt_of_pos _ (by decide)) (by decide))⟩⟩
end Zd

namespace Zd
open PySem PySem.Spec PyProof.Rows L2

structure At (G : Gm) (n0 : Nat) (r2 : Rho) (H2 : Hp) (s : ZSt) (h : VH) (r : Rho) (H : Hp) (σ : L2.St) : Prop where
  rel : HRel G r h H
  st : SRel G r h.n s σ
  le : n0 ≤ h.n
  agr : ∀ i, i < n0 → r i = r2 i
  fr : ∀ a o, H2 a = some o → (∀ i, i < n0 → r2 i ≠ a) → H a = some o
  nw : ∀ i, n0 ≤ i → i < h.n → H2 (r i) = none
section
variable {G : Gm} {Wx : WX} {n0 : Nat} {r2 r : Rho} {s s2 : ZSt} {h h2 : VH} {H2 H : Hp} {σ : L2.St} {D : Ends}
theorem At.start (HR : HRel G r2 h H2) (S : SRel G r2 h.n s σ) : At G h.n r2 H2 s h r2 H2 σ :=
  ⟨HR, S, Nat.le_refl _, fun _ _ => rfl, fun _ _ e _ => e, fun i a b => absurd (Nat.lt_of_lt_of_le b a) (Nat.lt_irrefl _)⟩
theorem At.none_of (A : At G n0 r2 H2 s h r H σ) {a : Addr} (e : H a = none) : H2 a = none := by
  cases q : H2 a with
  | none => rfl
  | some o =>
    by_cases z : ∃ i, i < n0 ∧ r2 i = a
    · obtain ⟨i, hi, ei⟩ := z
      obtain ⟨u, hu⟩ := A.rel.tot i (Nat.lt_of_lt_of_le hi A.le)
      rw [A.agr i hi, ei, e] at hu
      cases hu
    · have := A.fr a o q fun i hi ei => z ⟨i, hi, ei⟩
      rw [e] at this
      cases this
theorem At.ext {r' : Rho} {H' : Hp} {σ' : L2.St} (A : At G n0 r2 H2 s h r H σ) (E : Ext G r h H r' h2 H') (S : SRel G r' h2.n s2 σ') : At G n0 r2 H2 s2 h2 r' H' σ' := by
  refine ⟨E.rel, S, Nat.le_trans A.le E.le, fun i hi => (E.agr i (Nat.lt_of_lt_of_le hi A.le)).trans (A.agr i hi), fun a o e ne => E.fr a o (A.fr a o e ne) fun i hi ei => ?_, fun i a b => ?_⟩
  · by_cases z : i < n0
    · exact ne i z ((A.agr i z).symm.trans ei)
    · have := A.nw i (Nat.le_of_not_lt z) hi
      rw [ei, e] at this
      cases this
  · by_cases z : i < h.n
    · rw [E.agr i z]; exact A.nw i a z
    · exact A.none_of (E.nw i (Nat.le_of_not_lt z) b)
theorem At.let_ (A : At G n0 r2 H2 s h r H σ) (e1 : sufH h2 h = true) (e2 : leS s2 s = true) (e3 : wfS h2.n s2 = true) (e4 : Nat.ble n0 h2.n = true) : At G n0 r2 H2 s2 h2 r H σ := by
  have e0 := e1
  unfold sufH at e0
  rw [Bool.and_eq_true, Bool.and_eq_true, Bool.and_eq_true] at e0
  exact ⟨suf_rel A.rel e1, le_rel A.st e2 e3, Nat.le_of_ble_eq_true e4, A.agr, A.fr, fun i a b => A.nw i a (Nat.lt_of_lt_of_le b (Nat.le_of_ble_eq_true e0.1.1.1))⟩
theorem endsAt_nx {x : RS} (e : endsAt x s2 h2 = true) : isN x = true ∧ sufH h2 (nxH x) = true ∧ leS s2 (nxS x) = true ∧ wfS h2.n s2 = true := by
  unfold endsAt at e
  rw [Bool.and_eq_true, Bool.and_eq_true, Bool.and_eq_true] at e
  exact ⟨e.1.1.1, e.1.1.2, e.1.2, e.2⟩
/-- a statement, and what lies behind it let go -/
theorem At.run {z : ZS} {t : TS} (A : At G n0 r2 H2 s h r H σ) (e : (endsAt (z s h) s2 h2 && Nat.ble n0 h2.n) = true) (k : ∀ r' H' σ', At G n0 r2 H2 s2 h2 r' H' σ' → t D σ' H') : tSeq (tzS G Wx z) t D σ H := by
  rw [Bool.and_eq_true] at e
  obtain ⟨e1, e2, e3, e4⟩ := endsAt_nx e.1
  exact L_step A.st A.rel e1 fun r' H' σ' E S => k r' H' σ' ((A.ext E S).let_ e2 e3 e4 e.2)
theorem At.runL {z : ZS} (A : At G n0 r2 H2 s h r H σ) (e : (endsAt (z s h) s2 h2) = true) (k : ∀ r' H' σ', HRel G r' h2 H' → SRel G r' h2.n s2 σ' → (∀ i, i < n0 → r' i = r2 i) → (∀ a o, H2 a = some o → (∀ i, i < n0 → r2 i ≠ a) → H' a = some o) → D.nx σ' H') : tzS G Wx z D σ H := by
  obtain ⟨e1, e2, e3, e4⟩ := endsAt_nx e
  refine L_last A.st A.rel e1 fun r' H' σ' E S => ?_
  have B := A.ext E S
  exact k r' H' σ' (suf_rel B.rel e2) (le_rel B.st e3 e4) B.agr B.fr
/-- on with all that there is -/
theorem At.go {z : ZS} {t : TS} (A : At G n0 r2 H2 s h r H σ) (e : isN (z s h) = true) (k : ∀ r' H' σ', At G n0 r2 H2 (nxS (z s h)) (nxH (z s h)) r' H' σ' → t D σ' H') : tSeq (tzS G Wx z) t D σ H :=
  L_step A.st A.rel e fun r' H' σ' E S => k r' H' σ' (A.ext E S)
def isO : Option Ob → Bool
  | some (.orc _) => true
  | _ => false
theorem At.draw {i : Nat} (m : Nat) (A : At G n0 r2 H2 s h r H σ) (hm : 0 < m) (g : isO (h.get i) = true) : ∃ d : Nat, d < m ∧ At G n0 r2 H2 s (h.set i (.orc [((m : Int), (d : Int))])) r H σ := by
  cases e : h.get i with
  | none => rw [e] at g; cases g
  | some o =>
    cases o with
    | orc ds =>
      obtain ⟨d, hd, x⟩ := orc_next hm A.rel e
      exact ⟨d, hd, ⟨x, A.st, A.le, A.agr, A.fr, A.nw⟩⟩
    | _ => rw [e] at g; cases g
end
def allN (m : Nat) (f : Nat → Bool) : Bool := (List.range m).all f
theorem allN_at {m : Nat} {f : Nat → Bool} (h : allN m f = true) {d : Nat} (hd : d < m) : f d = true := List.all_eq_true.mp h d (List.mem_range.mpr hd)
end Zd

namespace Zd
open PySem PySem.Spec PyProof.Rows L2
section
variable {G : Gm} {Wx : WX} {n0 : Nat} {r2 r : Rho} {s s2 : ZSt} {h h2 : VH} {H2 H : Hp} {σ : L2.St} {D : Ends}
theorem wfS_of {n : Nat} (S : SRel G r n s σ) : wfS n s = true := by
  refine List.all_eq_true.mpr fun o ho => ?_
  cases o with
  | none => rfl
  | some w =>
    obtain ⟨i, hi⟩ := List.mem_iff_getElem?.mp ho
    exact (S.at_ i w hi).1
theorem At.runW {z : ZS} {t : TS} (i : Nat) (w : W) (A : At G n0 r2 H2 s h r H σ) (e : (isN (z s h) && sufH h2 (nxH (z s h)) && leS (s2.set i none) (nxS (z s h)) && Nat.ble n0 h2.n) = true) (ww : wfS h2.n s2 = true) (es : s2[i]? = some (some w)) (ew : (nxS (z s h))[i]? = some (some w))
    (k : ∀ r' H' σ', At G n0 r2 H2 s2 h2 r' H' σ' → t D σ' H') : tSeq (tzS G Wx z) t D σ H := by
  rw [Bool.and_eq_true, Bool.and_eq_true, Bool.and_eq_true] at e
  obtain ⟨⟨⟨e1, e2⟩, e3⟩, e4⟩ := e
  refine L_step A.st A.rel e1 fun r' H' σ' E S => k r' H' σ' ?_
  have B := A.ext E S
  obtain ⟨l1, l2⟩ := leS_ok e3
  have e0 := e2
  unfold sufH at e0
  rw [Bool.and_eq_true, Bool.and_eq_true, Bool.and_eq_true] at e0
  refine ⟨suf_rel B.rel e2, ⟨by rw [← B.st.len, ← l1, List.length_set], fun j v ej => ⟨?_, ?_⟩⟩, Nat.le_of_ble_eq_true e4, B.agr, B.fr, fun i a b => B.nw i a (Nat.lt_of_lt_of_le b (Nat.le_of_ble_eq_true e0.1.1.1))⟩
  · exact List.all_eq_true.mp ww (some v) (List.mem_of_getElem? ej)
  · by_cases q : j = i
    · subst q
      rw [es] at ej
      cases ej
      exact (B.st.at_ j w ew).2
    · exact (B.st.at_ j v (l2 j v (by rw [List.getElem?_set_ne (Ne.symm q)]; exact ej))).2
end
end Zd

namespace Zd
open PySem PySem.Spec PyProof.Rows L2

section
variable {X : Cx} {pins : List (Addr × Obj)} {σ : L2.St} {H : Hp} {s : Shared} {a C dx : Addr} {fs : List (Str × V)}
theorem inst_of (I : Inv X pins σ H s) (e : H a = some (.ins C dx fs)) : ∃ od, PySem.W.InstAt s.heap a (PySem.W.instObj C dx) C (some od) := by
  obtain ⟨mA, O, _⟩ := ins_get I.hok e
  obtain ⟨od, z, _⟩ := O.look
  exact ⟨od, z⟩
theorem not_ni {x : V} {v : Value} (r : RelV x v) : v ≠ .notImplemented := by
  rintro rfl
  cases x with
  | int i => obtain ⟨t, z⟩ := r; cases z
  | str i => obtain ⟨t, z⟩ := r; cases z
  | byt i => obtain ⟨t, z⟩ := r; cases z
  | flt i => obtain ⟨t, z⟩ := r; cases z
  | _ => cases r
theorem cb_of {Q : VK} {v : Value} {s' : Shared} (h : EP X pins σ Q v s') : PySem.W.CmpBack (EP X pins σ Q) v s' := by
  obtain ⟨x, H', I', r, q⟩ := h
  have n := not_ni r
  cases v <;> first | exact absurd rfl n | exact ⟨x, H', I', r, q⟩
end
section
open PySem.W PySem.Calls
variable {prog : Program} {w : World} {A : Around} {E : Value → Shared → Prop} {s : Shared} {K : Frag} {x y C D f g : Addr} {ox oy : Obj} {od od2 : Option Obj}
/-- two instances of own classes: the left one's method is asked -/
theorem own_bin {op : Operator} {Q : Value → Shared → Prop} (X : K.In s.heap) (I : InstAt s.heap x ox C od) (J : InstAt s.heap y oy D od2) (hc : selfFirst K C = true) (hd : selfFirst K D = true)
    (hs : findIn K (.ref C) (PySem.dunder op.info.2) = some (some (.ref f))) (hf : isFn K (.ref f) = true) (hr : findIn K (.ref C) (dunderR op.info.2) = some none)
    (ht : findIn K (.ref D) (PySem.dunder op.info.2) = some (some (.ref g))) (hu : findIn K (.ref D) (dunderR op.info.2) = some none) (hsub : C ≠ D → subIn K (.ref D) (.ref C) = some false)
    (h : wpAny (model prog w) A (call (.ref f) [.ref x, .ref y]) (PySem.W.CmpBack Q) E s) : wpAny (model prog w) A (binaryOp op (.ref x) (.ref y)) Q E s := by
  obtain ⟨c1, r1, k1, m1⟩ := ksp_first hc
  obtain ⟨c2, r2, k2, m2⟩ := ksp_first hd
  rcases hi : op.info with ⟨sym, nm⟩
  rw [hi] at hs hr ht hu
  dsimp only at hs hr ht hu
  have one := ksp_try X I hs hf h
  obtain ⟨hh, gg, d, tt, os⟩ := s
  have tX : Looks (model prog w) hh (typeOf (.ref x)) (.ref C) := I.type
  have tY : Looks (model prog w) hh (typeOf (.ref y)) (.ref D) := J.type
  have fC : Looks (model prog w) hh (fillsNumberSlot (.ref C) nm) true := fills_K X k1 m1 hs
  have fD : Looks (model prog w) hh (fillsNumberSlot (.ref D) nm) true := fills_K X k2 m2 ht
  have nC : Looks (model prog w) hh (numberSlotInPython (.ref C) nm) true := ksp_inPy X hs hr (.inl rfl)
  have nD : Looks (model prog w) hh (numberSlotInPython (.ref D) nm) true := ksp_inPy X ht hu (.inl rfl)
  simp only [binaryOp, hi]
  refine wpAny_holding (wpAny_bind ?_)
  unfold binaryOp1
  refine wpAny_bind (tX.at (wpAny_bind (tY.at (wpAny_bind (fC.at ?_)))))
  by_cases q : C = D
  · have e : (Value.ref C == Value.ref D) = true := by rw [q]; simp
    simp only [e, if_true]
    ksp_lk
    refine wpAny_mono one (fun r s' hr' => ?_) fun _ _ e => e
    obtain ⟨v, rfl, hq⟩ := hr'
    ksp_lk
    exact hq
  · have e : (Value.ref C == Value.ref D) = false := by simp [q]
    have sD : Looks (model prog w) hh (isSubtype (.ref D) (.ref C)) false := looks_subIn X (hsub q)
    simp only [e, Bool.false_eq_true, if_false]
    ksp_lk
    refine wpAny_mono one (fun r s' hr' => ?_) fun _ _ e => e
    obtain ⟨v, rfl, hq⟩ := hr'
    ksp_lk
    exact hq
theorem own_inv {Q : Value → Shared → Prop} (X : K.In s.heap) (I : InstAt s.heap x ox C od) (hs : findIn K (.ref C) "__invert__" = some (some (.ref f))) (hf : isFn K (.ref f) = true)
    (h : wpAny (model prog w) A (call (.ref f) [.ref x]) Q E s) : wpAny (model prog w) A (unaryOp .Invert (.ref x)) Q E s := by
  unfold unaryOp
  refine wpAny_holding (wpAny_bind (special_fn X I hs (beq_iff_eq.mp hf) (wpAny_mono h (fun _ _ z => ?_) fun _ _ z => z)))
  exact wpAny_pure z
end

/-! ### as readings -/
/-- a op b: the left one's class says what is done; ok: which classes may meet -/
def opOwn (cs : Nat → Option Fn) (ok : Nat → Nat → Bool) : Op2 := fun a b h => match insOf h a, insOf h b with
  | some (c, _), some (d, _) => if ok c d then (match cs c with
    | some fn => fn [a, b] h
    | none => .no) else .no
  | _, _ => .no
def opOwn1 (cs : Nat → Option Fn) : W → VH → R W := fun a h => match insOf h a with
  | some (c, _) => (match cs c with
    | some fn => fn [a] h
    | none => .no)
  | none => .no
def zUn1 (op : W → VH → R W) (f : ZE) : ZE := fun s h => match f s h with
  | .ok w h1 => op w h1
  | .ex c d h1 => .ex c d h1
  | .no => .no
/-- what two classes must say for op -/
structure B2 (K : PySem.W.Frag) (op : Operator) (C D : Addr) : Prop where
  fc : PySem.W.selfFirst K C = true
  fd : PySem.W.selfFirst K D = true
  rc : PySem.W.findIn K (.ref C) (PySem.dunderR op.info.2) = some none
  rd : PySem.W.findIn K (.ref D) (PySem.dunderR op.info.2) = some none
  td : ∃ g : Addr, PySem.W.findIn K (.ref D) (PySem.dunder op.info.2) = some (some (.ref g))
  sub : C ≠ D → PySem.W.subIn K (.ref D) (.ref C) = some false
section
variable {X : Cx} {G : Gm} {Wx : WX} {E : XK} {f g : ZE} {a b : PySem.Expr} {pos : Pos} {j m : Nat} {cs : Nat → Option Fn} {ok : Nat → Nat → Bool}
theorem z_own2 {op : Operator} (hc : MOk X G j m 2 cs) (hm : G.nm m = PySem.dunder op.info.2) (hok : ∀ c d, ok c d = true → B2 X.K op (G.ga c) (G.ga d)) (hr : Room j X.A) (hp : PsE X Wx E) (ha : PE X a (tz G Wx f)) (hb : PE X b (tz G Wx g)) :
    PE X (.BinOp a op b pos) (tz G Wx (zBin (opOwn cs ok) f g)) := by
  refine ⟨fun pins s σ H Q I q => ?_⟩
  obtain ⟨r, vs, h, S, HR, z⟩ := q
  refine wpAny_BinOp (binT ha hb (R := fun x y H2 => ∃ r2 h2 wa wb, HRel G r2 h2 H2 ∧ wa.wf h2.n = true ∧ wb.wf h2.n = true ∧ x = wa.v G r2 ∧ y = wb.v G r2 ∧ RZ G (fun c d _ H => E c d H) r2 h2 H2 [] Q (opOwn cs ok wa wb h2)) I ?_ fun v u s2 x y H2 I2 rx ry q => ?_)
  · refine ⟨r, vs, h, S, HR, ?_⟩
    unfold zBin at z
    cases e1 : f vs h with
    | no => rw [e1] at z; exact z
    | ex c d h1 => rw [e1] at z; exact z
    | ok wa h1 =>
      rw [e1] at z
      intro r1 H1 E1 w1
      refine ⟨r1, vs, h1, S.ext E1, E1.rel, ?_⟩
      cases e2 : g vs h1 with
      | no => simp only [e2] at z; exact z
      | ex c d h2 => simp only [e2] at z; exact fun r2 H2 E2 hd => z r2 H2 (E1.trans E2) hd
      | ok wb h2 =>
        simp only [e2] at z
        intro r2 H2 E2 w2
        exact ⟨r2, h2, wa, wb, E2.rel, W.wf_le w1 E2.le, w2, (W.v_agr w1 E2.agr).symm, rfl, RZ.re (fun _ _ _ z => hp.im _ _ _ _ z) (RZ.seq (E1.trans E2) z)⟩
  · obtain ⟨r2, h2, wa, wb, HR2, wfa, wfb, rfl, rfl, z⟩ := q
    unfold opOwn at z
    split at z
    · rename_i c fc d fd e1 e2
      split at z
      · rename_i hcd
        split at z
        · rename_i fn e3
          obtain ⟨i, dx, rfl, _, a1, _⟩ := insOf_ok HR2 e1
          obtain ⟨k, dy, rfl, _, a2, _⟩ := insOf_ok HR2 e2
          obtain rfl : v = Value.ref (r2 i) := rx
          obtain rfl : u = Value.ref (r2 k) := ry
          obtain ⟨cl, fa, M, cal⟩ := hc c fn e3
          obtain ⟨fd', ps, F, kp, hb'⟩ := cal.ex
          obtain ⟨od, J1⟩ := inst_of I2 a1
          obtain ⟨od2, J2⟩ := inst_of I2 a2
          have B := hok c d hcd
          obtain ⟨g2, tg⟩ := B.td
          refine own_bin I2.kIn J1 J2 B.fc B.fd (by rw [← hm]; exact M.at_) M.fn B.rc tg B.rd B.sub (wpAny_mono (run_fn F hr hb' .nil hp.to I2 (us := [.ref (r2 i), .ref (r2 k)]) (vs := [.ref (r2 i), .ref (r2 k)]) (Q := Q) (.cons rfl (.cons rfl .nil)) ?_) (fun v s' z => cb_of z) fun _ _ z => z)
          refine ⟨r2, [.ref i, .ref k], h2, rfl, rfl, ?_, HR2, z⟩
          show ((W.ref i).wf h2.n && ((W.ref k).wf h2.n && true)) = true
          rw [wfa, wfb]; rfl
        · exact z.elim
      · exact z.elim
    · exact z.elim
theorem z_inv1 (hc : MOk X G j m 1 cs) (hm : G.nm m = "__invert__") (hr : Room j X.A) (hp : PsE X Wx E) (ha : PE X a (tz G Wx f)) : PE X (.UnaryOp .Invert a pos) (tz G Wx (zUn1 (opOwn1 cs) f)) := by
  refine ⟨fun pins s σ H Q I q => ?_⟩
  obtain ⟨r, vs, h, S, HR, z⟩ := q
  refine UnaryOp_ (thn (ha.run pins s σ H (fun x H2 => ∃ r2 h2 wa, HRel G r2 h2 H2 ∧ wa.wf h2.n = true ∧ x = wa.v G r2 ∧ RZ G (fun c d _ H => E c d H) r2 h2 H2 [] Q (opOwn1 cs wa h2)) I ?_) fun v s2 ⟨x, H2, I2, rx, q⟩ => ?_)
  · refine ⟨r, vs, h, S, HR, ?_⟩
    unfold zUn1 at z
    cases e1 : f vs h with
    | no => rw [e1] at z; exact z
    | ex c d h1 => rw [e1] at z; exact z
    | ok wa h1 =>
      rw [e1] at z
      intro r1 H1 E1 w1
      exact ⟨r1, h1, wa, E1.rel, w1, rfl, RZ.re (fun _ _ _ z => hp.im _ _ _ _ z) (RZ.seq E1 z)⟩
  · obtain ⟨r2, h2, wa, HR2, wfa, rfl, z⟩ := q
    unfold opOwn1 at z
    split at z
    · rename_i c fc e1
      split at z
      · rename_i fn e3
        obtain ⟨i, dx, rfl, _, a1, _⟩ := insOf_ok HR2 e1
        obtain rfl : v = Value.ref (r2 i) := rx
        obtain ⟨cl, fa, M, cal⟩ := hc c fn e3
        obtain ⟨fd', ps, F, kp, hb'⟩ := cal.ex
        obtain ⟨od, J1⟩ := inst_of I2 a1
        refine own_inv I2.kIn J1 (by rw [← hm]; exact M.at_) M.fn (run_fn F hr hb' .nil hp.to I2 (us := [.ref (r2 i)]) (vs := [.ref (r2 i)]) (Q := Q) (.cons rfl .nil) ?_)
        refine ⟨r2, [.ref i], h2, rfl, rfl, ?_, HR2, z⟩
        show ((W.ref i).wf h2.n && true) = true
        rw [wfa]; rfl
      · exact z.elim
    · exact z.elim
end
end Zd

namespace Zd
open PySem PySem.Spec PyProof.Rows L2

section
variable {X : Cx} {pins : List (Addr × Obj)} {σ : L2.St} {H : Hp} {s : Shared} {CX : CXT} {k : Nat} {f : Addr} {fd : FuncData} {ps : List Str} {sp : Sp} {E : XK} {Q : VK} {us : List Value} {vs : List V}
/-- the def is run one step below -/
theorem run_in1 (F : FnOk X.prog X.w X.K X.mg X.base CX k f fd ps sp) (hr : Room (k + 1) X.A) (hb : Binds X.K fd ps []) (hx : Passes CX X E) (I : Inv X pins σ H s) (r : Vals vs us) (h : sp vs H Q E) :
    wpAny (model X.prog X.w) X.A.in1 (call (.ref f) us) (EP X pins σ Q) X.xe s := by
  have hl : us.length = ps.length := by rw [← r.length]; exact F.len _ _ _ _ h
  refine wpAny_call (codeAny_mono (F.run X.A.in1 X.stack s H ⟨us, []⟩ us vs Q E hr.in1 I.env0.in1 (by have z := hb s us I.kIn (by simpa using hl); simpa using z) r h) fun r s' hq => ?_)
  cases r with
  | error e => exact hx pins σ H s e s' I hq
  | ok fl =>
    cases fl with
    | ret u => exact I.after hq
    | next => exact False.elim hq
    | brk => exact False.elim hq
    | cont => exact False.elim hq
theorem run_code (F : FnOk X.prog X.w X.K X.mg X.base CX k f fd ps sp) (hr : Room k X.A) (hb : Binds X.K fd ps []) (hx : Passes CX X E) (I : Inv X pins σ H s) (r : Vals vs us) (h : sp vs H Q E) :
    codeAny (model X.prog X.w) X.A (.call (.ref f) ⟨us, []⟩) (wants (EP X pins σ Q) X.xe) s := by
  have hl : us.length = ps.length := by rw [← r.length]; exact F.len _ _ _ _ h
  refine codeAny_mono (F.run X.A X.stack s H ⟨us, []⟩ us vs Q E hr I.env0 (by have z := hb s us I.kIn (by simpa using hl); simpa using z) r h) fun r s' hq => ?_
  cases r with
  | error e => exact hx pins σ H s e s' I hq
  | ok fl =>
    cases fl with
    | ret u => exact I.after hq
    | next => exact False.elim hq
    | brk => exact False.elim hq
    | cont => exact False.elim hq
end
section
open PySem.W PySem.Calls Builtin
variable {prog : Program} {w : World} {A : Around} {E : Value → Shared → Prop} {s : Shared} {K : Frag} {x C f dx : Addr} {ox : Obj} {od : Option Obj}
theorem own_len {Q : Value → Shared → Prop} (X : K.In s.heap) (I : InstAt s.heap x ox C od) (hs : findIn K (.ref C) "__len__" = some (some (.ref f))) (hf : isFn K (.ref f) = true)
    (h : wpAny (model prog w) A.in1 (call (.ref f) [.ref x]) (PySem.W.LenBack Q) E s) : wpAny (model prog w) A (call (.builtin "len") [.ref x]) Q E s := by
  refine Calls.call_function_entry kind_len plain_len entry_len (args_len1 _) ?_
  unfold Builtin.«len»
  refine wpAny_bind (m := oneArg "len" _) (wpAny_pure (wpAny_bind (m := callSpecial? (.ref x) (Str.ofString "__len__")) (special_fn X I hs (beq_iff_eq.mp hf) (wpAny_mono h (fun r s' hr => ?_) fun _ _ y => y))))
  cases r with
  | int n u =>
    obtain ⟨⟨h0, h1⟩, hq⟩ := hr
    refine wpAny_bind (wpAny_holding (wpAny_pure (wpAny_bind (wpAny_letGo ?_))))
    show wpAny _ _ (if n < 0 then _ else _) _ _ _
    rw [if_neg (by omega)]
    show wpAny _ _ (if n ≥ 2 ^ 63 then _ else _) _ _ _
    rw [if_neg (by omega)]
    exact wpAny_bind (wpAny_mkInt (wpAny_pure ⟨_, rfl, hq⟩))
  | _ => exact hr.elim
/-- o(..): the class's __call__ -/
theorem own_call {us : List Value} {R : Result → Shared → Prop} (X : K.In s.heap) (I : InstAt s.heap x (instObj C dx) C od) (hs : findIn K (.ref C) "__call__" = some (some (.ref f))) (hf : isFn K (.ref f) = true) {fd : FuncData} {oc : Value} {odd : Option Addr} {osl : Array (Option Value)} (hl : K.lookup f = some ⟨oc, odd, .func fd, osl⟩)
    (h : codeAny (model prog w) A (.call (.ref f) ⟨.ref x :: us, []⟩) R s) : codeAny (model prog w) A (.call (.ref x) ⟨us, []⟩) R s := by
  refine codeAny_of_tree ?_
  show wpAny _ A.in1 (callAny (.ref x) ⟨us, []⟩) _ _ _
  simp only [callAny]
  refine wpAny_bind (wpAny_load I.at_ ?_)
  show wpAny _ _ (callAny.viaDunder (.ref x) ⟨us, []⟩) _ _ _
  unfold callAny.viaDunder
  refine wpAny_bind (wpAny_bind (I.type.here ((looks_findIn X hs).here ?_)))
  refine wpAny_bind ((bind_fn X _ (beq_iff_eq.mp hf)).here ?_)
  unfold callAny.plainCallee
  refine wpAny_bind (wpAny_bind (wpAny_load (X _ _ hl) ?_))
  refine wpAny_pure ?_
  show wpAny _ _ (if true = true then _ else _) _ _ _
  rw [if_pos rfl]
  exact wpAny_pure ⟨rfl, h⟩
end
end Zd

namespace Zd
open PySem PySem.Spec PyProof.Rows L2

section
open PySem.W PySem.Calls
variable {M : Model} {A : Around} {E : Value → Shared → Prop} {s : Shared} {env : Env}
theorem callWith_ins {pos : Pos} {x : Addr} {args : List (Bool × Sem Value)} {Q : Value → Shared → Prop} (hplain : args.any (·.1) = false)
    (h : wpAny M A (evalArgs (.ref x) true args []) (fun a s₁ => (∃ C dx, s₁.heap.get? x = some (instObj C dx)) ∧ wpAny M A (call (.ref x) a.pos a.kw) Q E s₁) E s) : wpAny M A (callWith pos (.ref x) [] args []) Q E s := by
  unfold callWith
  refine wpAny_bind (wpAny_holding (wpAny_mono h (fun a s₁ h₁ => wpAny_bind (wpAny_standAt ?_)) fun _ _ z => z))
  obtain ⟨⟨C, dx, ho⟩, hc⟩ := h₁
  simp only [hplain, List.any_nil, Bool.or_false, List.nil_append]
  refine wpAny_bind (m := keeperOf (.ref x)) ?_
  unfold keeperOf
  refine wpAny_bind (wpAny_load ho ?_)
  refine wpAny_pure ?_
  show wpAny M A (operate _ (call (.ref x) a.pos a.kw) >>= _) Q E s₁
  exact wpAny_bind (PyProof.Rows.wpAny_operate' (wpAny_mono hc (fun r s₂ hr => wpAny_bind (wpAny_holding (wpAny_point (wpAny_pure hr)))) fun _ _ z => z))
theorem callWith_insE {pos : Pos} {x : Addr} {e : PySem.Expr} {rest : List PySem.Expr} {Q : Value → Shared → Prop}
    (h : wpAny M A (spliced (backTo pos (starEach (e :: rest) env))) (fun vs s₁ => (∃ C dx, s₁.heap.get? x = some (instObj C dx)) ∧ wpAny M A (call (.ref x) vs) Q E s₁) E s)
    (he : starEach (e :: rest) env = (false, eval e env) :: starEach rest env) (hplain : (backTo pos (starEach rest env)).any (·.1) = false) :
    wpAny M A (callWith pos (.ref x) [] (backTo pos (starEach (e :: rest) env)) []) Q E s := by
  rw [he] at h ⊢
  refine callWith_ins (by show (false || (backTo pos (starEach rest env)).any (·.1)) = false; rw [hplain]; rfl) ?_
  exact evalArgs_plain h
end

theorem func_of {K : PySem.W.Frag} {f : Addr} (kp : PySem.W.keepIn K (.ref f) = true) (fn : PySem.W.isFn K (.ref f) = true) : ∃ oc od fd sl, K.lookup f = some (⟨oc, od, .func fd, sl⟩ : Obj) := by
  unfold PySem.W.keepIn at kp
  dsimp only at kp
  have ft := beq_iff_eq.mp fn
  cases q : K.lookup f with
  | none => rw [q] at kp; cases kp
  | some o =>
    obtain ⟨oc, od, dt, sl⟩ := o
    rw [q] at kp
    cases dt with
    | func fd => exact ⟨oc, od, fd, sl, rfl⟩
    | cls cd =>
      have z := beq_iff_eq.mp kp
      unfold PySem.W.specialIn at z
      rw [ft] at z
      have e : PySem.W.findIn K (.type "function") "__call__" = some (some (.builtin "function.__call__")) := by kernel_rfl
      rw [Option.bind_some, e] at z
      injection Option.some.inj (Option.some.inj z) with z3
      exact absurd z3 (by decide)
    | _ => cases kp
/-- len(o) -/
def opLenO (cs : Nat → Option Fn) : OpL := fun ws h => match ws with
  | [w] => (match insOf h w with
    | some (c, _) => (match cs c with
      | some fn => (match fn [w] h with
        | .ok (.int n) h1 => if decide (0 ≤ n) && decide (n < 9223372036854775808) then .ok (.int n) h1 else .no
        | .ok _ _ => .no
        | .ex c d h1 => .ex c d h1
        | .no => .no)
      | none => .no)
    | none => .no)
  | _ => .no
/-- o(..) -/
def zOCall (cs : Nat → Option Fn) (n : Nat) (fo : ZE) (k : ZA) : ZE := fun s h => match fo s h with
  | .ok w h1 => (match insOf h1 w with
    | some (c, _) => (match cs c with
      | some fn => (match k s h1 with
        | .ok ws h2 => (match insOf h2 w with
          | some (c2, _) => if Nat.beq c2 c && Nat.beq (ws.length + 1) n then fn (w :: ws) h2 else .no
          | none => .no)
        | .ex c d h2 => .ex c d h2
        | .no => .no)
      | none => .no)
    | none => .no)
  | .ex c d h1 => .ex c d h1
  | .no => .no
section
variable {X : Cx} {G : Gm} {Wx : WX} {E : XK} {fo : ZE} {k : ZA} {e fe : PySem.Expr} {es : List PySem.Expr} {x : Str} {p pos : Pos} {j m n : Nat} {cs : Nat → Option Fn}
abbrev rdL (G : Gm) (E : XK) (op : OpL) : List V → Hp → VK → Prop := fun xs H Q => ∃ r h ws, HRel G r h H ∧ wfs h.n ws = true ∧ xs = vsV G r ws ∧ RZ G (fun c d _ H => E c d H) r h H [] Q (op ws h)
theorem tz_cbE {op : OpL} (hW : ∀ c d σ H, Wx c d σ H → E c d H) : ∀ σ H Q, tz G Wx (zCall op k) σ H Q → tCB (rdL G E op) (tzA G Wx k) σ H Q := by
  intro σ H Q q
  obtain ⟨r, s, h, S, HR, z⟩ := q
  refine ⟨r, s, h, S, HR, ?_⟩
  unfold zCall at z
  cases e1 : k s h with
  | no => rw [e1] at z; exact z
  | ex c d h1 => rw [e1] at z; exact z
  | ok ws h1 =>
    simp only [e1] at z
    intro r1 H1 E1 w1
    exact ⟨r1, h1, ws, E1.rel, w1, rfl, RZ.re (fun _ _ _ z => hW _ _ _ _ z) (RZ.seq E1 z)⟩
theorem callr_len (hc : MOk X G j m 1 cs) (hm : G.nm m = "__len__") (hr : Room (j + 1) X.A) (hp : PsE X Wx E) : CallR X (.builtin "len") (rdL G E (opLenO cs)) := by
  intro pins s σ H xs us Q I rv q
  obtain ⟨r, h, ws, HR, hw, rfl, z⟩ := q
  unfold opLenO at z
  match ws, hw, rv, z with
  | [w], hw, rv, z =>
    have hw1 : w.wf h.n = true := by
      have z1 : (w.wf h.n && true) = true := hw
      simpa using z1
    simp only at z
    split at z
    · rename_i c fc e1
      split at z
      · rename_i fn e2
        obtain ⟨i, dx, rfl, _, a1, _⟩ := insOf_ok HR e1
        cases rv with
        | cons r1 r2 =>
          cases r2
          obtain rfl := (show _ = Value.ref (r i) from r1)
          obtain ⟨cl, fa, MM, cal⟩ := hc c fn e2
          obtain ⟨fd', ps, F, kp, hb'⟩ := cal.ex
          obtain ⟨od, J1⟩ := inst_of I a1
          refine own_len I.kIn J1 (by rw [← hm]; exact MM.at_) MM.fn (wpAny_mono (run_in1 F hr hb' hp.to I (us := [.ref (r i)]) (vs := [.ref (r i)]) (Q := fun v H1 => ∃ n : Int, v = .int n ∧ (0 ≤ n ∧ n < 2 ^ 63) ∧ Q (.int n) H1) (.cons rfl .nil) ?_) (fun v s' z => ?_) fun _ _ z => z)
          · refine ⟨r, [.ref i], h, rfl, rfl, hw, HR, ?_⟩
            cases e3 : fn [.ref i] h with
            | no => rw [e3] at z; exact z
            | ex c d h1 => rw [e3] at z; exact z
            | ok v h1 =>
              rw [e3] at z
              cases v with
              | int n =>
                simp only at z
                split at z
                · rename_i hn
                  rw [Bool.and_eq_true] at hn
                  exact fun r' H' E' hw' => ⟨n, rfl, ⟨of_decide_eq_true hn.1, by have := of_decide_eq_true hn.2; omega⟩, z r' H' E' rfl⟩
                · exact z.elim
              | _ => exact z.elim
          · obtain ⟨y, H1, I1, ry, n, rfl, hn, q1⟩ := z
            obtain ⟨t, rfl⟩ := ry
            exact ⟨hn, .int n, H1, I1.tok _, ⟨_, rfl⟩, q1⟩
      · exact z.elim
    · exact z.elim
  | [], _, _, z => exact z.elim
  | _ :: _ :: _, _, _, z => exact z.elim
theorem q_lenO (hc : MOk X G j m 1 cs) (hr : Room (j + 1) X.A) (hp : PsE X Wx E) (hm : X.mg "len" = none) (ha : PA X (e :: es) (tzA G Wx k)) (hf : G.nm m = "__len__" := by rfl) (hg : Gl X "len" := by rfl)
    (he : starEach (e :: es) X.env = (false, eval e X.env) :: starEach es X.env := by rfl) (hpl : (backTo pos (starEach es X.env)).any (·.1) = false := by rfl) : PE X (.Call (.Name "len" p) (e :: es) [] pos) (tz G Wx (zCall (opLenO cs) k)) :=
  PE.imp (pe_callB (callr_len hc hf hr hp) hg hm PySem.boot_len ha (by decide) (by decide) he hpl) (tz_cbE hp.im)
theorem q_ocall {cc0 : Nat} {f0 : Fn} (hc : MOk X G j m n cs) (hr : Room j X.A) (hp : PsE X Wx E) (hfe : PE X fe (tz G Wx fo)) (ha : PA X (e :: es) (tzA G Wx k)) (hm : G.nm m = "__call__" := by rfl)
    (hev : eval (.Call fe (e :: es) [] pos) X.env = (do callWith pos (← eval fe X.env) [] (backTo pos (starEach (e :: es) X.env)) (backToKw pos (keywordEach [] X.env))) := by rfl)
    (he : starEach (e :: es) X.env = (false, eval e X.env) :: starEach es X.env := by rfl) (hpl : (backTo pos (starEach es X.env)).any (·.1) = false := by rfl) : PE X (.Call fe (e :: es) [] pos) (tz G Wx (zOCall cs n fo k)) := by
  refine ⟨fun pins s σ H Q I q => ?_⟩
  obtain ⟨r, vs, h, S, HR, z⟩ := q
  rw [hev]
  refine wpAny_bind (thn (hfe.run pins s σ H (fun x H1 => ∃ r1 h1 w c fc fn, x = W.v G r1 w ∧ w.wf h1.n = true ∧ Ext G r h H r1 h1 H1 ∧ insOf h1 w = some (c, fc) ∧ cs c = some fn ∧ RZ G Wx r1 h1 H1 σ Q (match k vs h1 with
        | .ok ws h2 => (match insOf h2 w with
          | some (c2, _) => if Nat.beq c2 c && Nat.beq (ws.length + 1) n then fn (w :: ws) h2 else .no
          | none => .no)
        | .ex c d h2 => .ex c d h2
        | .no => .no)) I ?_) fun u s1 ⟨x, H1, I1, rx, q⟩ => ?_)
  · refine ⟨r, vs, h, S, HR, ?_⟩
    unfold zOCall at z
    cases e1 : fo vs h with
    | no => rw [e1] at z; exact z
    | ex c d h1 => rw [e1] at z; exact z
    | ok w h1 =>
      simp only [e1] at z
      intro r1 H1 E1 w1
      cases e2 : insOf h1 w with
      | none => simp only [e2] at z; exact z.elim
      | some cf =>
        obtain ⟨c, fc⟩ := cf
        simp only [e2] at z
        cases e3 : cs c with
        | none => simp only [e3] at z; exact z.elim
        | some fn =>
          simp only [e3] at z
          exact ⟨r1, h1, w, c, fc, fn, rfl, w1, E1, e2, e3, RZ.seq E1 z⟩
  · obtain ⟨r1, h1, w, c, fc, fn, rfl, w1, E1, e2, e3, z⟩ := q
    obtain ⟨i, dx, rfl, _, a1, _⟩ := insOf_ok E1.rel e2
    obtain rfl : u = Value.ref (r1 i) := rx
    obtain ⟨cl, fa, MM, cal⟩ := hc c fn e3
    obtain ⟨fd', ps, F, kp, hb'⟩ := cal.ex
    refine callWith_insE (thn (ha.run pos pins s1 σ H1 (fun xs H2 => ∃ r2 h2 ws fc2, Ext G r1 h1 H1 r2 h2 H2 ∧ wfs h2.n ws = true ∧ xs = vsV G r2 ws ∧ ws.length + 1 = n ∧ insOf h2 (.ref i) = some (c, fc2) ∧ RZ G (fun c d _ H => E c d H) r2 h2 H2 [] Q (fn (.ref i :: ws) h2)) I1 ?_) fun us s2 ⟨xs, H2, I2, rr, q2⟩ => ?_) he hpl
    · refine ⟨r1, vs, h1, S.ext E1, E1.rel, ?_⟩
      cases e5 : k vs h1 with
      | no => rw [e5] at z; exact z
      | ex c d h2 => rw [e5] at z; exact z
      | ok ws h2 =>
        rw [e5] at z
        simp only at z
        intro r2 H2 E2 w2
        cases e6 : insOf h2 (.ref i) with
        | none => rw [e6] at z; exact z.elim
        | some cf =>
          obtain ⟨c2, fc2⟩ := cf
          rw [e6] at z
          simp only at z
          split at z
          · rename_i hn
            rw [Bool.and_eq_true] at hn
            have ec := Nat.eq_of_beq_eq_true hn.1
            subst ec
            exact ⟨r2, h2, ws, fc2, E2, w2, rfl, Nat.eq_of_beq_eq_true hn.2, e6, RZ.re (fun _ _ _ z => hp.im _ _ _ _ z) (RZ.seq E2 z)⟩
          · exact z.elim
    · obtain ⟨r2, h2, ws, fc2, E2, w2, rfl, hn, e6, z2⟩ := q2
      obtain ⟨i', dx2, ei, _, a2, _⟩ := insOf_ok E2.rel e6
      cases ei
      have er : r2 i = r1 i := E2.agr i (of_blt w1)
      rw [er] at a2
      obtain ⟨od, J2⟩ := inst_of I2 a2
      refine ⟨⟨_, _, J2.at_⟩, wpAny_call ?_⟩
      obtain ⟨oc, odd, fdd, osl, lk⟩ := func_of MM.kp MM.fn
      refine own_call I2.kIn J2 (by rw [← hm]; exact MM.at_) MM.fn lk (run_code F hr hb' hp.to I2 (us := .ref (r1 i) :: us) (vs := .ref (r1 i) :: vsV G r2 ws) (Q := Q) (.cons rfl rr) ?_)
      refine ⟨r2, .ref i :: ws, h2, ?_, by simpa using hn, ?_, E2.rel, z2⟩
      · show V.ref (r1 i) :: vsV G r2 ws = V.ref (r2 i) :: vsV G r2 ws
        rw [er]
      · show ((W.ref i).wf h2.n && wfs h2.n ws) = true
        rw [W.wf_le w1 E2.le, w2]; rfl
end
end Zd

namespace Zd
open PySem PySem.Spec PyProof.Rows L2

/-! ### a body whose activation is known -/
structure PSA (X : Cx) (c : Code) (sts : List Stmt) (t : TS) : Prop where
  run : ∀ (pins : List (Addr × Obj)) (s : Shared) (σ : L2.St) (H : Hp) (D : Ends), Inv X pins σ H s → t D σ H → _root_.PySem.wpAt (model X.prog X.w) X.A c (execs sts X.env) (SP X pins D) X.xe s
theorem PSA.imp {X : Cx} {c : Code} {sts : List Stmt} {t t' : TS} (p : PSA X c sts t) (i : ∀ D σ H, t' D σ H → t D σ H) : PSA X c sts t' := ⟨fun pins s σ H D I q => p.run pins s σ H D I (i D σ H q)⟩
theorem psa_cons {X : Cx} {c : Code} {st : Stmt} {rest : List Stmt} {t u : TS} (h1 : PS X st t) (h2 : PSA X c rest u) : PSA X c (st :: rest) (tSeq t u) := by
  refine ⟨fun pins s σ H D I h => ?_⟩
  refine ks_wpAt_execs_cons (wpAt_of_wpAny (thn (h1.run pins s σ H { D with nx := u D } I h) fun f s1 q => ?_))
  cases f with
  | next =>
    obtain ⟨σ', H', I', q⟩ := q
    exact h2.run pins s1 σ' H' D I' q
  | ret v => exact q
  | brk => exact q
  | cont => exact q
theorem zsa_cons {X : Cx} {G : Gm} {Wx : WX} {c : Code} {st : Stmt} {sts : List Stmt} {a b : ZS} (h1 : PS X st (tzS G Wx a)) (h2 : PSA X c sts (tzS G Wx b)) : PSA X c (st :: sts) (tzS G Wx (zSeq a b)) := by
  refine PSA.imp (psa_cons h1 h2) fun D σ H q => ?_
  obtain ⟨r, s, h, S, HR, z⟩ := q
  refine ⟨r, s, h, S, HR, ?_⟩
  unfold zSeq at z
  cases e1 : a s h with
  | nx s1 h1 =>
    rw [e1] at z
    exact fun r1 H1 σ1 E1 S1 => ⟨r1, s1, h1, S1, E1.rel, RZS.seq E1 z⟩
  | rt w h1 => rw [e1] at z; exact z
  | bk s1 h1 => rw [e1] at z; exact z
  | ct s1 h1 => rw [e1] at z; exact z
  | ex c d s1 h1 => rw [e1] at z; exact z
  | no => rw [e1] at z; exact z

/-! ### super().__init__(..) -/
/-- what the def must say: its object at f, its first parameter, its code's file, its cell -/
structure SupD (P : Program) (K : PySem.W.Frag) (f cda cc D : Addr) (x0 : Str) : Prop where
  fn : ∃ (oc : Value) (od : Option Addr) (fd : FuncData) (osl : Array (Option Value)) (ar : Arg), K.lookup f = some (⟨oc, od, .func fd, osl⟩ : Obj) ∧ (fd.params.posonlyargs ++ fd.params.args).head? = some ar ∧ ar.arg = x0
  code : ∃ (cl : Value) (cd : Option Addr) (vs : Array Value) (cs : Array (Option Value)) (file : Str) (tf : Tok), K.lookup cda = some (⟨cl, cd, .fields vs, cs⟩ : Obj) ∧ vs[2]? = some (.str file tf) ∧ ((P.main.file : Str) == file) = true
  cell : ∃ (cl : Value) (cd : Option Addr) (cs : Array (Option Value)), K.lookup cc = some (⟨cl, cd, .cell (some (.ref D)), cs⟩ : Obj)
  cls : (PySem.W.clsIn K D).isSome = true
  top : (P.main.scope.names.lookup ("super" : Str)).isSome = false
  opq : PySem.W.nsIn K cStatics "thirdparty.any" = some none
/-- .. and the instance's class -/
structure SupC (K : PySem.W.Frag) (C D f2 : Addr) : Prop where
  sub : PySem.W.mroIn K C (.ref D) = some true
  at_ : PySem.W.ks_superIn K C D "__init__" = some (some (.ref f2))
  ty : PySem.W.typeIn K (.ref f2) = some (.type "function")
  fi : PySem.W.fnIn K f2 = true
def tSup (SC : Addr → Prop) (sp : Sp) (E : XK) (t : TA) : TS := fun D σ H => ∃ a C dx fs, σ[0]? = some (some (.ref a)) ∧ H a = some (.ins C dx fs) ∧ SC C ∧ t σ H fun vs H1 => sp (.ref a :: vs) H1 (fun _ H2 => D.nx σ H2) E
section
variable {X : Cx} {CX : CXT} {j : Nat} {f f2 cda cc D : Addr} {x0 : Str} {fd2 : FuncData} {ps2 : List Str} {sp : Sp} {E : XK} {t : TA} {e : PySem.Expr} {es : List PySem.Expr} {p0 p1 apos pos pos' : Pos} {body : List Stmt} {SC : Addr → Prop} {pl : Sem Bool}
theorem psa_super (SD : SupD X.prog X.K f cda cc D x0) (hSC : ∀ C, SC C → SupC X.K C D f2) (F : FnOk X.prog X.w X.K X.mg X.base CX j f2 fd2 ps2 sp) (hr : Room j X.A) (hb : Binds X.K fd2 ps2 []) (hx : Passes CX X E) (ha : PA X (e :: es) t)
    (hm : X.mg "super" = none) (hks : X.env.kindOf "super" = some .globalImplicit) (hkc : X.env.kindOf "__class__" = some .free) (hk0 : X.env.kindOf x0 = some .local) (hN0 : X.N[0]? = some x0) (hfu : X.env.func = some f) (hco : X.env.code = .ref cda) (hcl : X.env.cells.lookup ("__class__" : Str) = some cc)
    (he : starEach (e :: es) X.env = (false, eval e X.env) :: starEach es X.env) (hpl : (backTo pos (starEach es X.env)).any (·.1) = false)
    (hi : interactive X.env = false) (hs : swapsWith (.Call (.Attribute (.Call (.Name "super" p0) [] [] p1) "__init__" apos) (e :: es) [] pos) none pos'.line X.env = pure false)
    (hev : eval (.Call (.Attribute (.Call (.Name "super" p0) [] [] p1) "__init__" apos) (e :: es) [] pos) X.env = (do
      let ov ← attributeBase (.Call (.Name "super" p0) [] [] p1) "__init__" X.env (eval (.Call (.Name "super" p0) [] [] p1) X.env)
      standAt apos.atName
      let (f, first) ← holding [ov] (getMethod ov "__init__" pl)
      callWith pos f first (backTo pos (starEach (e :: es) X.env)) [])) :
    PSA X (.func body X.env) [.Expr (.Call (.Attribute (.Call (.Name "super" p0) [] [] p1) "__init__" apos) (e :: es) [] pos) pos'] (tSup SC sp E t) := by
  refine ⟨fun pins s σ H DD I h => ?_⟩
  obtain ⟨a, C, dx, fs, h0, ea, sc, ht⟩ := h
  have S2 := hSC C sc
  obtain ⟨hh, gg, dd, tt, os⟩ := s
  have KIN : X.K.In hh := I.kIn
  obtain ⟨foc, fod, fd, fosl, ar, lf, hp, har⟩ := SD.fn
  obtain ⟨ccl, ccd, vs, ccs, file, tf, lc, hvs, hfile⟩ := SD.code
  obtain ⟨cel, ced, ces, lcell⟩ := SD.cell
  obtain ⟨cdD, hD⟩ := Option.isSome_iff_exists.mp SD.cls
  obtain ⟨oD, hD1, hD2⟩ : ∃ oD, hh.get? D = some oD ∧ oD.data = .cls cdD := by
    unfold PySem.W.clsIn at hD
    split at hD
    · rename_i c d cd' sl ho
      cases hD
      exact ⟨_, KIN _ _ ho, rfl⟩
    · cases hD
  obtain ⟨cdC, hC⟩ : ∃ cd, PySem.W.clsIn X.K C = some cd := by
    cases q : PySem.W.clsIn X.K C with
    | some cd => exact ⟨cd, rfl⟩
    | none =>
      have z := S2.at_
      unfold PySem.W.ks_superIn at z
      rw [q] at z
      cases z
  have hal : PySem.W.alongIn X.K "__init__" ((cdC.mro.dropWhile (· != .ref D)).drop 1) = some (some (.ref f2)) := by
    have z := S2.at_
    unfold PySem.W.ks_superIn at z
    rw [hC] at z
    exact z
  obtain ⟨of, hof, hofc⟩ : ∃ of, X.K.lookup f2 = some of ∧ of.cls = .type "function" := by
    have ht' : (X.K.lookup f2).map (·.cls) = some (.type "function") := S2.ty
    cases z : X.K.lookup f2 with
    | none => rw [z] at ht'; cases ht'
    | some of => rw [z] at ht'; exact ⟨of, rfl, Option.some.inj ht'⟩
  obtain ⟨od, J⟩ := inst_of I ea
  refine ks_wpAt_execs_cons (ks_wpAt_Expr_any (ks_wpAt_MethodCall ?_ hev) hi hs)
  refine ks_wpAt_super_base (f := f) (ar := ar) hks hkc rfl hfu (KIN _ _ lf) rfl hp hco (KIN _ _ lc) rfl hvs hfile SD.top ?_
  obtain ⟨mb, hb1, hb2⟩ := I.mod.blt
  refine PySem.W.ks_loadName_global I.ok.kind hks (Calls.loadGlobal_builtin (by rw [I.ok.glob]; exact I.mod.glob.keeps I.bk) hm (by rw [I.ok.blt]; exact hb1.keeps I.bk) ((hb2 _ (by decide)).trans PyProof.Rows.Boot.«super») ⟨rfl, ?_⟩)
  refine wpAny_loadName_free I.ok.kind hkc hcl ⟨_, KIN _ _ lcell, rfl⟩ ?_
  obtain ⟨m, ns, hl⟩ := I.loc
  obtain ⟨u, ru, lk⟩ := hl 0 x0 (.ref a) hN0 h0 (.inl hk0)
  obtain rfl : u = Value.ref a := ru
  have hm0 : m x0 = some (.ref a) := by
    rcases lk with ⟨_, z⟩ | ⟨z, _⟩
    · exact z
    · rw [hk0] at z
      rcases z with z | z <;> cases z
  rw [har]
  refine wpAny_loadName_local I.ok.kind hk0 ns hm0 ?_
  refine ks_wpAny_isType_cls hD1 hD2 ⟨rfl, ?_⟩
  refine ks_wpAny_call_super hD1 hD2 J.at_ J.cls (fun c e => by cases e) (PySem.W.looks_mroIn KIN S2.sub) (fun h' e k => ?_)
  have I1 := ClX.pin_new (t' := tt) I k (Nat.le_refl _) e (fun v z => by cases z)
  have J1 : PySem.W.InstAt h' a (PySem.W.instObj C dx) C (some od) := ⟨k _ _ J.at_, J.cls, J.no, k _ _ J.dict⟩
  refine ks_wpAny_getMethod_super (l₀ := cdC.mro) (ClX.pin_at I1) (PySem.W.looks_opaque I1.kIn SD.opq) (fun A Q E s k q => wpAny_bind ((PySem.W.looks_clsIn I1.kIn hC) A _ E s k (wpAny_pure q))) rfl I1.kIn hal (I1.kIn _ _ hof) hofc (PySem.W.ks_ne I1.kIn J1 hC) rfl ?_
  have I2 := ClX.pin_new (h' := h'.push (PySem.W.methodObj (.ref f2) (.ref a))) (t' := tt + 1) I1 (fun b o e => Heap.get?_push_of_some _ e) (Nat.le_refl _) (Heap.get?_push_size _ rfl) (fun v z => by cases z)
  dsimp only
  have hA := thn (ha.run pos _ _ σ H _ I2 ht) (Q' := fun us s₁ => PySem.W.MethP X.K h'.objs.size f2 (.ref a) s₁.heap ∧ wpAny (model X.prog X.w) X.A (call (.ref h'.objs.size) ([] ++ us)) (fun x s' => _root_.PySem.wpAt (model X.prog X.w) X.A (.func body X.env) (execs [] X.env) (SP X pins DD) X.xe s') X.xe s₁) ?hA
  · rw [he] at hA ⊢
    exact PySem.W.callWith_of (P := PySem.W.MethP X.K h'.objs.size f2 (.ref a)) (by show ((false || (backTo pos (starEach es X.env)).any (·.1)) || false) = false; rw [hpl]; rfl) (PySem.W.keeps_M S2.fi) (PySem.Calls.evalArgs_plain hA)
  rintro us s3 ⟨ws, H3, I3, r3, q3⟩
  refine ⟨⟨ClX.pin_at I3, I3.kIn⟩, ?_⟩
  refine wpAny_call (ks_codeAny_call_bound (ClX.pin_at I3) ?_)
  refine codeAny_mono (run_code F hr hb hx I3 (us := .ref a :: us) (vs := .ref a :: ws) (Q := fun _ H2 => DD.nx σ H2) (.cons rfl r3) q3) fun r s' hq => ?_
  cases r with
  | error e => exact hq
  | ok fl =>
    cases fl with
    | ret u =>
      obtain ⟨v, H4, I4, _, q4⟩ := hq
      exact wpAt_of_wpAny (wpAny_execs_nil ⟨σ, H4, ClX.unpin (ClX.unpin I4), q4⟩)
    | next => exact hq
    | brk => exact hq
    | cont => exact hq
end
end Zd

namespace Zd
open PySem PySem.Spec PyProof.Rows L2 NdefX

section
variable {CX : CXT} {P : Program} {w : World} {K : PySem.W.Frag} {mg : Str → Option Value} {base : Heap} {k : Nat} {f cc cda D : Addr} {name qual : Str} {params : Arguments} {body : List Stmt} {scope : Scope} {dV kV doc pm ct oc : Value} {an od : Option Addr} {osl : Array (Option Value)} {N ps : List Str} {sp : Sp}
theorem look_class {y : Str} {c : Addr} (h : ([(("__class__" : Str), cc)] : List (Str × Addr)).lookup y = some c) : y = "__class__" ∧ c = cc := by
  rw [List.lookup_cons] at h
  cases q : (y == ("__class__" : Str)) with
  | true => rw [q] at h; cases h; exact ⟨beq_iff_eq.mp q, rfl⟩
  | false => rw [q] at h; cases h
/-- THE RULE of such a def -/
theorem supdef_ok (lk : K.lookup f = some (⟨oc, od, .func (PySem.W.fnX name qual params body scope [("__class__", cc)] dV kV doc pm an (.ref cda) ct), osl⟩ : Obj)) (hcd : PySem.W.codeIn K (.ref cda) qual = true) (S : NScope N ps ["__class__"] scope)
    (cell : ∃ (cl : Value) (cd : Option Addr) (cs : Array (Option Value)), K.lookup cc = some (⟨cl, cd, .cell (some (.ref D)), cs⟩ : Obj)) (len : ∀ vs H Q E, sp vs H Q E → vs.length = ps.length)
    (hbody : ∀ (A : Around) (outer : List Env) (s : Shared) (H : Hp) (vs : List V) (Q : VK) (E : XK), Room k (A.deeper (envF ⟨name, qual, params, body, scope, [("__class__", cc)], cda⟩ f s.heap.objs.size)) → sp vs H Q E →
      ∃ t, PSA (ncx CX P w K mg base N ⟨name, qual, params, body, scope, [("__class__", cc)], cda⟩ f A outer s H E) (.func body (envF ⟨name, qual, params, body, scope, [("__class__", cc)], cda⟩ f s.heap.objs.size)) body t ∧ t { nx := fun _ H' => Q .non H', rt := Q } (startF N vs [some (.ref D)]) H) :
    FnOk P w K mg base CX (k + 1) f (PySem.W.fnX name qual params body scope [("__class__", cc)] dV kV doc pm an (.ref cda) ct) ps sp := by
  refine ⟨len, fun A outer s H args us vs Q E hr e0 hb r hsp => ?_⟩
  have hl := len _ _ _ _ hsp
  have KX : K.In s.heap := e0.mod.kin.keeps fun b o e => (e0.bs b o e).1
  have lim : s.heap.NoLimit := e0.mod.nolimit.keeps fun b o e => (e0.bs b o e).1
  obtain ⟨cl, cd, cs, lcell⟩ := cell
  have isC : s.heap.IsCell cc (some (.ref D)) := ⟨_, KX _ _ lcell, rfl⟩
  have CA : CellsAt [("__class__", cc)] ["__class__"] [some (.ref D)] s.heap H := by
    refine ⟨rfl, fun y c e => ?_, fun x y c e1 e2 => ?_, fun i y e => ?_⟩
    · obtain ⟨_, rfl⟩ := look_class e
      exact ⟨(e0.bs _ _ (e0.mod.kin _ _ lcell)).2, _, isC⟩
    · rw [(look_class e1).1, (look_class e2).1]
    · cases i with
      | zero =>
        cases e
        exact ⟨cc, by rfl, fun v e => by cases e; exact ⟨.ref D, rfl, isC⟩⟩
      | succ i => cases e
  refine codeAny_call_function hr.depth (KX _ _ lk) rfl S.co S.gen rfl (PySem.W.codeRec_of KX hcd) (hb _ _ _ _ ?_)
  refine wpAny_newFunctionEnv S.nocell (fun ⟨n, _⟩ hy => S.par n (List.of_mem_zip hy).1) (fun h₁ hns hsb => ⟨lim.fresh _ hsb, ?_⟩) S.kind
  show codeAny _ _ (.func body (envF ⟨name, qual, params, body, scope, [("__class__", cc)], cda⟩ f s.heap.objs.size)) _ _
  refine ks_codeAny_funcAt ?_
  have kp : ∀ b o, s.heap.get? b = some o → h₁.get? b = some o := fun b o e => hsb.extBut b o (Nat.ne_of_lt (Heap.lt_size e)) (Heap.get?_push_of_some _ e)
  obtain ⟨t, ht, hq⟩ := hbody A outer s H vs Q E (hr.deeper _) hsp
  have I : Inv (ncx CX P w K mg base N ⟨name, qual, params, body, scope, [("__class__", cc)], cda⟩ f A outer s H E) [] (startF N vs [some (.ref D)]) H { s with heap := h₁, toks := s.toks + (ps.zip us).length } := inv_startN S hr.hd e0 hl r CA hns kp
  refine ks_wpAt_mono (ht.run [] _ (startF N vs [some (.ref D)]) H _ I hq) (fun fl s' hs => ?_) fun e s' hs => hs
  have fin : ∀ {σ' : L2.St} {H' : Hp} {v : V} {u : Value}, Inv (ncx CX P w K mg base N ⟨name, qual, params, body, scope, [("__class__", cc)], cda⟩ f A outer s H E) [] σ' H' s' → RelV v u → Q v H' → CE outer P w H s Q u s' :=
    fun {σ' H' v u} J rv q => ⟨v, H', J.os, J.bare, J.base, J.hok, rv, q⟩
  cases fl with
  | ret u =>
    obtain ⟨v, σ', H', J, rv, q⟩ := hs
    exact fin J rv q
  | next =>
    obtain ⟨σ', H', J, q⟩ := hs
    exact fin (v := V.non) (u := Value.none) J rfl q
  | brk =>
    obtain ⟨_, _, _, q⟩ := hs
    exact False.elim q
  | cont =>
    obtain ⟨_, _, _, q⟩ := hs
    exact False.elim q
end

/-! ### readings -/
def startZS (m c : Nat) (ws : List W) : ZSt := ws.map some ++ (some (.glo c) :: List.replicate (m - ws.length - 1) none)
def zDefS (m c : Nat) (z : ZS) : Fn := fun ws h => match z (startZS m c ws) h with
  | .nx _ h1 => .ok .non h1
  | .rt w h1 => .ok w h1
  | .ex c d _ h1 => .ex c d h1
  | _ => .no
theorem startF_rel {G : Gm} {r : Rho} {n c : Nat} {ws : List W} {N : List Str} (h : wfs n ws = true) (hl : ws.length + 1 ≤ N.length) : SRel G r n (startZS N.length c ws) (startF N (vsV G r ws) [some (.ref (G.ga c))]) := by
  have ee : startF N (vsV G r ws) [some (V.ref (G.ga c))] = (vsV G r ws).map some ++ (some (V.ref (G.ga c)) :: List.replicate (N.length - (vsV G r ws).length - 1) none) := rfl
  refine ⟨?_, fun i w e => ?_⟩
  · rw [ee]
    simp [startZS, vsV]
  · rw [ee]
    unfold startZS at e
    by_cases hi : i < ws.length
    · rw [List.getElem?_append_left (by simpa using hi), List.getElem?_map] at e
      rw [List.getElem?_append_left (by simpa [vsV] using hi), List.getElem?_map]
      cases q : ws[i]? with
      | none => rw [q] at e; cases e
      | some v =>
        rw [q] at e
        have e1 := Option.some.inj (Option.some.inj e)
        subst e1
        exact ⟨wfs_get h q, by rw [vsV, List.getElem?_map, q]; rfl⟩
    · rw [List.getElem?_append_right (by simpa using Nat.le_of_not_lt hi)] at e
      rw [List.getElem?_append_right (by simpa [vsV] using Nat.le_of_not_lt hi)]
      have el : ((vsV G r ws).map some).length = ws.length := by simp [vsV]
      have el2 : (ws.map some).length = ws.length := by simp
      rw [el2] at e
      rw [el]
      have el3 : (vsV G r ws).length = ws.length := by simp [vsV]
      rw [el3]
      cases j : i - ws.length with
      | zero =>
        rw [j] at e
        cases e
        exact ⟨rfl, rfl⟩
      | succ j' =>
        rw [j, List.getElem?_cons_succ] at e
        have := List.mem_replicate.mp (List.mem_of_getElem? e)
        cases this.2
def zSup (ok : Nat → Bool) (n : Nat) (fn : Fn) (k : ZA) : ZS := fun s h => match s[0]? with
  | some (some w) => (match insOf h w with
    | some (c, _) => if ok c then (match k s h with
      | .ok ws h1 => if ws.length + 1 = n then (match fn (w :: ws) h1 with
        | .ok _ h2 => .nx s h2
        | .ex c d h2 => .ex c d s h2
        | .no => .no) else .no
      | .ex c d h1 => .ex c d s h1
      | .no => .no) else .no
    | none => .no)
  | _ => .no
section
variable {X : Cx} {G : Gm} {Wx : WX} {j n : Nat} {f f2 cda cc D : Addr} {x0 : Str} {fn : Fn} {E : XK} {k : ZA} {e : PySem.Expr} {es : List PySem.Expr} {p0 p1 apos pos pos' : Pos} {body : List Stmt} {ok : Nat → Bool} {pl : Sem Bool}
theorem zsa_super (SD : SupD X.prog X.K f cda cc D x0) (hSC : ∀ c, ok c = true → SupC X.K (G.ga c) D f2) (cal : Cal X.prog X.w X.K X.mg X.base G j f2 n fn) (hr : Room j X.A) (tk : Takes X (WofE E)) (ha : PA X (e :: es) (tzA G (WofE E) k))
    (hm : X.mg "super" = none) (hks : X.env.kindOf "super" = some .globalImplicit) (hkc : X.env.kindOf "__class__" = some .free) (hk0 : X.env.kindOf x0 = some .local) (hN0 : X.N[0]? = some x0) (hfu : X.env.func = some f) (hco : X.env.code = .ref cda) (hcl : X.env.cells.lookup ("__class__" : Str) = some cc)
    (he : starEach (e :: es) X.env = (false, eval e X.env) :: starEach es X.env := by rfl) (hpl : (backTo pos (starEach es X.env)).any (·.1) = false := by rfl)
    (hi : interactive X.env = false := by rfl) (hs : swapsWith (.Call (.Attribute (.Call (.Name "super" p0) [] [] p1) "__init__" apos) (e :: es) [] pos) none pos'.line X.env = pure false := by rfl)
    (hev : eval (.Call (.Attribute (.Call (.Name "super" p0) [] [] p1) "__init__" apos) (e :: es) [] pos) X.env = (do
      let ov ← attributeBase (.Call (.Name "super" p0) [] [] p1) "__init__" X.env (eval (.Call (.Name "super" p0) [] [] p1) X.env)
      standAt apos.atName
      let (f, first) ← holding [ov] (getMethod ov "__init__" pl)
      callWith pos f first (backTo pos (starEach (e :: es) X.env)) []) := by rfl) :
    PSA X (.func body X.env) [.Expr (.Call (.Attribute (.Call (.Name "super" p0) [] [] p1) "__init__" apos) (e :: es) [] pos) pos'] (tzS G (WofE E) (zSup ok n fn k)) := by
  obtain ⟨fd, ps, F, kp, hb⟩ := cal.ex
  have hp : PsE X (WofE E) E := pse_takes tk
  refine PSA.imp (psa_super (SC := fun C => ∃ c, ok c = true ∧ C = G.ga c) (pl := pl) SD (fun C ⟨c, h1, h2⟩ => by rw [h2]; exact hSC c h1) F hr hb hp.to ha hm hks hkc hk0 hN0 hfu hco hcl he hpl hi hs hev) fun D σ H q => ?_
  obtain ⟨r, s, h, S, HR, z⟩ := q
  unfold zSup at z
  split at z
  · rename_i w e0
    obtain ⟨w0, s0⟩ := S.at_ 0 w e0
    cases e2 : insOf h w with
    | none => rw [e2] at z; exact z.elim
    | some cf =>
      obtain ⟨c, fs⟩ := cf
      simp only [e2] at z
      obtain ⟨i, dx, rfl, _, a1, _⟩ := insOf_ok HR e2
      split at z
      · rename_i hok
        refine ⟨r i, G.ga c, dx, _, s0, a1, ⟨c, hok, rfl⟩, r, s, h, S, HR, ?_⟩
        cases e3 : k s h with
        | no => rw [e3] at z; exact z
        | ex c d h1 => rw [e3] at z; exact fun r1 H1 E1 hd => z r1 H1 σ E1 hd (S.ext E1)
        | ok ws h1 =>
          simp only [e3] at z
          intro r1 H1 E1 w1
          split at z
          · rename_i hn
            have wn : wfs h1.n (.ref i :: ws) = true := by
              show ((W.ref i).wf h1.n && wfs h1.n ws) = true
              rw [W.wf_le w0 E1.le, w1]; rfl
            refine ⟨r1, .ref i :: ws, h1, ?_, by simpa using hn, wn, E1.rel, ?_⟩
            · show V.ref (r i) :: vsV G r1 ws = V.ref (r1 i) :: vsV G r1 ws
              rw [E1.agr i (of_blt w0)]
            · cases e4 : fn (.ref i :: ws) h1 with
              | no => simp only [e4] at z; exact z
              | ex c d h2 => simp only [e4] at z; exact fun r2 H2 E2 hd => z r2 H2 σ (E1.trans E2) hd (S.ext (E1.trans E2))
              | ok v h2 => simp only [e4] at z; exact fun r2 H2 E2 hw => z r2 H2 σ (E1.trans E2) (S.ext (E1.trans E2))
          · exact z.elim
      · exact z.elim
  · exact z.elim
end
end Zd

namespace Zd
open PySem PySem.Spec PyProof.Rows L2

abbrev ovT : List Value := [.type "OverflowError", .type "ArithmeticError", .type "Exception", .type "BaseException", .type "object"]
/-- what the written part says of the class -/
structure OvC (K : PySem.W.Frag) (C : Addr) : Prop where
  cls : ∃ nm q N bs sn sub ab col dd k0 k1 k2 k3 k5, K.lookup C = some (excClassObj nm q C N bs ovT true sn sub ab col dd k0 k1 k2 k3 k5 "OverflowError.__new__")
  sa : PySem.W.findIn K (.ref C) "__setattr__" = some (some (.builtin "object.__setattr__"))
  exC : PySem.W.subIn K (.ref C) (.type "BaseException") = some true
  tyC : PySem.W.typeIn K (.ref C) = some (.type "type")
  kC : PySem.W.keepIn K (.ref C) = true
section
open Builtin Builtin.ObjectAttr
variable {prog : Program} {w : World} {A : Around} {E : Value → Shared → Prop} {R : Result → Shared → Prop} {hp : Heap} {g : Array GenState} {d : Drawn} {t : Nat} {os : OsState}
theorem ov_has {C : Addr} (X : String) (h : ovT.contains (.type X) = true) : (Value.ref C :: ovT).contains (.type X) = true := by
  rw [List.contains_cons, h, Bool.or_true]
theorem ov_osa {K : PySem.W.Frag} {name : Str} {tk : Tok} {v : Value} {x C : Addr} {fv : Array Value} {cd : ClassData} (X : K.In hp) (hx : hp.get? x = some { cls := .ref C, data := .fields fv }) (hcd : PySem.W.clsIn K C = some cd) (hm : cd.mro = .ref C :: ovT) (hh : cd.hasDict = true) (ha : PySem.W.findIn K (.ref C) name = some none)
    (hq : ∀ h' tk' dx, (∀ b o, b ≠ x → hp.get? b = some o → h'.get? b = some o) → hp.objs.size ≤ dx → dx ≠ x → h'.get? x = some { cls := .ref C, dict := some dx, data := .fields fv } → h'.Ns1 dx (fun y => if y = name then some v else none) → R (.ok (.ret .none)) ⟨h', g, d, tk', os⟩) :
    codeAny (model prog w) A (.call (.builtin "object.__setattr__") ⟨[.ref x, .str name tk, v], []⟩) R ⟨hp, g, d, t, os⟩ := by
  have IA : PySem.W.InstAt hp x { cls := .ref C, data := .fields fv } C none := ⟨hx, rfl, rfl, trivial⟩
  have so := PySem.F.store_object
  have far : x ≠ hp.objs.size := Nat.ne_of_lt (Heap.lt_size hx)
  have sub : PySem.W.Looks (model prog w) hp (isInstance (.ref x) (.type "object")) true := IA.type.andThen (PySem.W.looks_mroIn X (by
    unfold PySem.W.mroIn
    rw [hcd, Option.bind_some, hm, if_neg (show ¬ (List.isEmpty (Value.ref C :: ovT) = true) from Bool.false_ne_true), ov_has "object" (by decide +kernel)]))
  refine codeAny_call_builtin so.slot.plain so.entry (@PySem.W.check_slot (model prog w) _ _ ⟨hp, g, d, t, os⟩ "object.__setattr__" "object" "__setattr__" (.ref x) [.str name tk, v] [] _ so.kind so.split sub (so.args (.ref x) (.str name tk) v) ?_)
  have lm : PySem.W.Looks (model prog w) hp (mroOf (.ref C)) cd.mro := (PySem.W.looks_clsIn X hcd).andThen .now
  have l0 : PySem.W.Looks (model prog w) hp (storeTaker? none) none := .now
  have lc : PySem.W.Looks (model prog w) hp (classData C) cd := PySem.W.looks_clsIn X hcd
  have pass : refuseLoop (.ref x) "__setattr__" cd.mro = pure () := by
    rw [hm, refuseLoop_ref]
    exact PySem.F.store_OverflowError.passes _
  rw [PySem.W.osa_eq, refuse_eq]
  refine wpAny_bind (wpAny_bind (IA.type.at (wpAny_bind (lm.at ?_))))
  rw [pass]
  refine wpAny_pure (wpAny_bind (IA.type.at (wpAny_bind ((PySem.W.looks_findIn X ha).at (wpAny_bind (l0.at ?_))))))
  show wpAny _ _ (storeInOwnDict (.ref x) (.ref C) (.str name tk) name v false) _ _ _
  obtain ⟨n1, n2, n3, n4, n5, hd, n6, n7, n8, n9, n10⟩ := cd
  dsimp only at hh
  subst hh
  unfold storeInOwnDict ownDictForStores
  repeat (first | with_reducible refine PySem.HandSPX.store_in_new ?_ ?_ | with_reducible refine wpAny_loadPart_at hx ?_ | with_reducible refine lc.at ?_ | wp_step)
  · exact ⟨_, #[], _, (Heap.get?_update_ne _ _ _ _ far.symm).trans (Heap.get?_push_at rfl rfl), rfl, fun e he => absurd he (by simp), fun _ => rfl⟩
  · intro h' tk' hn' hs
    have hx₁ : (hp.push { cls := .type "dict", data := .dict #[] }).get? x = some { cls := .ref C, data := .fields fv } := Heap.get?_push_of_some _ hx
    exact hq h' tk' hp.objs.size (fun b o hb ho => (hs.2 b (Nat.ne_of_lt (Heap.lt_size ho))).trans ((Heap.get?_update_ne _ _ _ _ hb).trans (Heap.get?_push_of_some _ ho))) (Nat.le_refl _) far.symm ((hs.2 x far).trans (Heap.get?_update_self _ hx₁ rfl)) hn'
end
section
variable {X : Cx} {pins : List (Addr × Obj)} {σ : L2.St} {H : Hp} {s : Shared} {a C : Addr} {f : Str} {y : V} {u : Value} {Q : Unit → Shared → Prop} {E : Value → Shared → Prop} {A : Around}
/-- self.f = y, the first one -/
theorem ov_new (T : OvC X.K C) (I : Inv X pins σ H s) (e : H a = some (exo a C none)) (hno : PySem.W.findIn X.K (.ref C) f = some none) (ry : RelV y u)
    (h : ∀ dx s', H dx = none → dx ≠ a → Inv X pins σ (upd (upd H dx (exd dx [(f, y)])) a (exo a C (some dx))) s' → Q () s') : wpAny (model X.prog X.w) A (setAttr (.ref a) f u) Q E s := by
  obtain ⟨nm, q, N, bs, sn, sub, ab, col, dd, k0, k1, k2, k3, k5, hC⟩ := T.cls
  have hcl : PySem.W.clsIn X.K C = some { name := nm, bases := bs, mro := .ref C :: ovT, ns := N, qualname := q, hasDict := true, slotNames := sn, subclasses := sub, abstract := ab, collection := col, hasDel := false } := by unfold PySem.W.clsIn; rw [hC] <;> rfl
  obtain ⟨t1, ho⟩ := exo_at I.hok e
  obtain ⟨hp, g, d, t, os⟩ := s
  refine PySem.W.set_plain I.kIn (ox := { cls := .ref C, dict := none, data := .fields #[.ref t1, .none, .none, .none, .bool false, .none] }) (od := none) ⟨ho, rfl, rfl, trivial⟩ T.sa ?_
  refine ov_osa I.kIn ho hcl rfl rfl hno fun h' tk' dx k dn dne hx hn => ?_
  have hnd : H dx = none := I.hok.fresh dn
  have nd : ∀ {b : Addr} {o : Obj}, hp.get? b = some o → b ≠ dx := fun {b o} z => Nat.ne_of_lt (Nat.lt_of_lt_of_le (Heap.lt_size z) dn)
  have na : ∀ {b : Addr}, H b = none → b ≠ a := fun {b} n z => by rw [z, e] at n; cases n
  have Un1 : Un X.fs [] H (upd (upd H dx (exd dx [(f, y)])) a (exo a C (some dx))) hp h' := {
    keep := fun b o z n _ _ => k b o (na n) z
    slot := fun b o z n _ _ => ⟨o.slots, k b o (na n) z⟩
    free := fun b o z n _ => (upd_ne (na n)).trans ((upd_ne (nd z)).trans n)
    there := fun b o z _ => by
      by_cases hb : b = a
      · exact ⟨_, hb ▸ hx⟩
      · exact ⟨o, k b o hb z⟩
    tups := fun b xs z => (upd_ne (at_ne e z exo_tup)).trans ((upd_ne (ne_of_none z hnd)).trans z)
    frzs := fun b o v z => (upd_ne (at_ne e z exo_frz)).trans ((upd_ne (ne_of_none z hnd)).trans z)
    tbls := fun b ps z => ⟨#[], by rw [upd_ne (at_ne e z exo_tbl), upd_ne (ne_of_none z hnd), z]; simp⟩ }
  refine h dx _ hnd dne (I.un (t' := tk') Un1 fun b o z => ?_)
  by_cases hb : b = a
  · subst hb
    rw [upd_same] at z
    cases z
    exact exo_ok hx
  · rw [upd_ne hb] at z
    by_cases hd : b = dx
    · subst hd
      rw [upd_same] at z
      cases z
      exact exd_ok hn (relO_put (fs := []) ry fun g => True.intro)
    · rw [upd_ne hd] at z
      refine (I.hok b o z).stay (fun c v hc y => k c v ?_ y) (fun c hc => (upd_ne (at_ne e hc exo_own)).trans ((upd_ne (ne_of_none hc hnd)).trans hc)) (fun c xs hc => (upd_ne (at_ne e hc exo_tup)).trans ((upd_ne (ne_of_none hc hnd)).trans hc))
      rcases hc with hc | hc
      · rw [hc]; exact hb
      · exact at_ne e hc exo_own
end
/-- self.f = e, the exception's only field -/
def tOvst (K : PySem.W.Frag) (f : Str) (to te : TE) : TS := fun D σ H => te σ H fun y H1 => to σ H1 fun x H2 => ∃ a C : Addr, x = .ref a ∧ OvC K C ∧ PySem.W.findIn K (.ref C) f = some none ∧ H2 a = some (exo a C none) ∧ ∀ dx, H2 dx = none → dx ≠ a → D.nx σ (upd (upd H2 dx (exd dx [(f, y)])) a (exo a C (some dx)))
section
variable {X : Cx} {o e : PySem.Expr} {es : List PySem.Expr} {to te : TE} {ta : TA} {f : Str} {p p' p1 p2 pos : Pos}
theorem ps_ovst (ho : PE X o to) (he : PE X e te) (hs : swapsWith e (some (.Attribute o f p')) pos.line X.env = pure false := by rfl) : PS X (.Assign [.Attribute o f p'] e pos) (tOvst X.K f to te) := by
  refine ⟨fun pins s σ H D I h => ?_⟩
  refine plainObj_wpAny_Assign_Attribute (thn (he.run pins s σ H _ I h) fun v s1 ⟨y, H1, I1, r1, q1⟩ => thn (ho.run pins s1 σ H1 _ I1 q1) fun u s2 ⟨x, H2, I2, r2, a, C, ex, T, hno, ea, q⟩ => ?_) hs
  subst ex
  obtain rfl : u = Value.ref a := r2
  exact ov_new T I2 ea hno r1 fun dx s' n ne J => ⟨σ, _, J, q dx n ne⟩
theorem pmk_ov {CX : CXT} {x : Str} {C fI : Addr} {k : Nat} {fd : FuncData} {ps : List Str} {sp : Sp} (T : OvC X.K C) (iC : PySem.W.findIn X.K (.ref C) "__init__" = some (some (.ref fI))) (tI : PySem.W.typeIn X.K (.ref fI) = some (.type "function"))
    (F1 : FnOk X.prog X.w X.K X.mg X.base CX k fI fd ps sp) (hr : Room (k + 1) X.A) (hb : Binds X.K fd ps []) (hx : Passes CX X (fun _ _ _ => False)) (hg : Gl X x) (hm : X.mg x = some (.ref C)) (ha : PA X (e :: es) ta)
    (hdb : (x == ("__debug__" : Str)) = false) (he : starEach (e :: es) X.env = (false, eval e X.env) :: starEach es X.env) (hpl : (backTo pos (starEach es X.env)).any (·.1) = false) : PMk X (.Call (.Name x p) (e :: es) [] pos) (tMkO C sp [] ta) := by
  intro pins s σ H Q I h
  obtain ⟨nm, q, N, bs, sn, sub, ab, col, dd, k0, k1, k2, k3, k5, hC⟩ := T.cls
  refine wpAny_Call_Name_kw (ld_glob I hg hm ?_ hdb)
  refine PySem.W.callWith_K (h₀ := X.base) I.ok.mod.kin T.kC (thn (ha.run pos pins s σ H _ I h) fun us s1 ⟨vs, H1, I1, r1, hz, q1⟩ => ⟨I1.kIn, ?_⟩) he hpl
  show wpAny _ _ (call (.ref C) us) _ _ _
  obtain ⟨hp, g, dr, tk, os⟩ := s1
  have up : hp.objs.size ≤ hp.objs.size + 1 := Nat.le_succ _
  have hn : H1 (hp.objs.size + 1) = none := I1.hok.fresh up
  have hq := q1 (hp.objs.size + 1) hn
  have kk : ∀ b o, hp.get? b = some o → ((hp.push (PySem.W.kdv_tup us)).push (PySem.HandSPX.excO C hp.objs.size)).get? b = some o := fun b o z => Heap.get?_push_of_some _ (Heap.get?_push_of_some _ z)
  have hget : ((hp.push (PySem.W.kdv_tup us)).push (PySem.HandSPX.excO C hp.objs.size)).get? (hp.objs.size + 1) = some (PySem.HandSPX.excO C hp.objs.size) := by heap_get
  have I2 : Inv X pins σ (upd H1 (hp.objs.size + 1) (exo (hp.objs.size + 1) C none)) ⟨(hp.push (PySem.W.kdv_tup us)).push (PySem.HandSPX.excO C hp.objs.size), g, dr, tk, os⟩ :=
    I1.laid (t' := tk) (a := hp.objs.size + 1) (o := exo (hp.objs.size + 1) C none) (h' := (hp.push (PySem.W.kdv_tup us)).push (PySem.HandSPX.excO C hp.objs.size)) kk up (exo_ok hget)
  have r2 : Vals (V.ref (hp.objs.size + 1) :: (vs ++ [])) (Value.ref (hp.objs.size + 1) :: (us ++ [])) := .cons rfl (r1.append .nil)
  have hl : (Value.ref (hp.objs.size + 1) :: us ++ []).length = ps.length := by
    have z := r2.length
    rw [F1.len _ _ _ _ hq] at z
    exact z.symm
  have hus : us.length ≤ sizeLine := by
    rw [← Paired.length r1, sizeLine_eq]
    omega
  have hb2 := hb _ (Value.ref (hp.objs.size + 1) :: us) I2.kIn hl
  rw [List.cons_append] at hb2
  refine wpAny_call (PySem.HandSPX.call_own F.excBase_OverflowError (fun Y => rfl) (I1.kIn _ _ hC) (PySem.W.looks_findIn I1.kIn iC) (fun self => PySem.W.bind_fn I1.kIn self tI) hus
    (codeAny_mono (F1.run _ X.stack _ _ ⟨Value.ref (hp.objs.size + 1) :: us, []⟩ (Value.ref (hp.objs.size + 1) :: (us ++ [])) _ _ (fun _ _ _ => False) (hr.make C us []) (I2.env0.make C us []) hb2 r2 hq) fun r s' hq' => ?_))
  cases r with
  | error er => exact hx pins σ _ _ er s' I2 hq'
  | ok fl =>
    cases fl with
    | ret u =>
      obtain ⟨v, H2, os2, bare2, un2, hok2, rv, ev, d, fs, ea, ed, hd1, q2⟩ := hq'
      subst ev
      obtain ⟨h2, g2, d2, t2, os'⟩ := s'
      exact ⟨rv, mk_end (raises_own T.exC T.tyC) I1 up kk un2 hok2 os2 bare2 ea ed hd1 q2⟩
    | next => exact False.elim hq'
    | brk => exact False.elim hq'
    | cont => exact False.elim hq'
end
end Zd

namespace Zd
open PySem PySem.Spec PyProof.Rows L2

section
variable {P : Program} {w : World} {K : PySem.W.Frag} {mg : Str → Option Value} {base : Heap} {x qual : Str} {params : Arguments} {body : List Stmt} {scope : Scope} {f C : Addr} {fd : FuncData} {N ps : List Str} {k : Nat} {m m1 m2 : Str}
structure CalO (P : Program) (w : World) (K : PySem.W.Frag) (mg : Str → Option Value) (base : Heap) (k : Nat) (C : Addr) (m : Str) : Prop where
  ex : ∃ (f : Addr) (fd : FuncData) (ps : List Str), FnOk P w K mg base (L2.CX P w) k f fd ps (spI C m) ∧ Binds K fd ps [] ∧ PySem.W.findIn K (.ref C) "__init__" = some (some (.ref f)) ∧ PySem.W.typeIn K (.ref f) = some (.type "function")
  T : OvC K C
theorem init_okO (F : FunD K x qual params body scope [] [] f fd) (S : FnScope N ps scope) (hps : ps.length = 2) (hN : N.length = 2) (T : OvC K C) (hno : PySem.W.findIn K (.ref C) m = some none)
    (hb : ∀ (cdv : Value) (A : Around) (outer : List Env) (s : Shared) (H : Hp) (E : XK), Room k (A.deeper (envOfC qual scope s.heap.objs.size f cdv)) → PSs (cxOf (L2.CX P w) P w K mg base N qual scope f cdv A outer s H E) body (tOvst K m (tVar 0) (tVar 1))) :
    FnOk P w K mg base (L2.CX P w) (k + 1) f fd ps (spI C m) := by
  refine F.ok S (fun vs H Q E h => ?_) fun cdv A outer s H vs Q E hr hsp => ⟨_, hb cdv A outer s H E hr, ?_⟩
  · obtain ⟨a, y, rfl, _⟩ := h
    rw [hps]; rfl
  · obtain ⟨a, y, rfl, ha, hq⟩ := hsp
    match N, hN with
    | [_, _], _ => exact ⟨y, rfl, .ref a, rfl, a, C, rfl, T, hno, ha, fun dx h1 h2 => hq dx h1 h2⟩
/-- two fields -/
def spI2 (C : Addr) (m1 m2 : Str) : Sp := fun vs H Q _ => ∃ a y z, vs = [.ref a, y, z] ∧ H a = some (exo a C none) ∧ ∀ dx, H dx = none → dx ≠ a → Q .non (upd (upd (upd H dx (exd dx [(m1, y)])) a (exo a C (some dx))) dx (exd dx [(m2, z), (m1, y)]))
structure CalI2 (P : Program) (w : World) (K : PySem.W.Frag) (mg : Str → Option Value) (base : Heap) (k : Nat) (C : Addr) (m1 m2 : Str) : Prop where
  ex : ∃ (f : Addr) (fd : FuncData) (ps : List Str), FnOk P w K mg base (L2.CX P w) k f fd ps (spI2 C m1 m2) ∧ Binds K fd ps [] ∧ PySem.W.findIn K (.ref C) "__init__" = some (some (.ref f)) ∧ PySem.W.typeIn K (.ref f) = some (.type "function")
  T : OexC K C
theorem init_ok2 (F : FunD K x qual params body scope [] [] f fd) (S : FnScope N ps scope) (hps : ps.length = 3) (hN : N.length = 3) (T : OexC K C) (hn1 : PySem.W.findIn K (.ref C) m1 = some none) (hn2 : PySem.W.findIn K (.ref C) m2 = some none)
    (hb : ∀ (cdv : Value) (A : Around) (outer : List Env) (s : Shared) (H : Hp) (E : XK), Room k (A.deeper (envOfC qual scope s.heap.objs.size f cdv)) → PSs (cxOf (L2.CX P w) P w K mg base N qual scope f cdv A outer s H E) body (tSeq (tOst K m1 (tVar 0) (tVar 1)) (tOst K m2 (tVar 0) (tVar 2)))) :
    FnOk P w K mg base (L2.CX P w) (k + 1) f fd ps (spI2 C m1 m2) := by
  refine F.ok S (fun vs H Q E h => ?_) fun cdv A outer s H vs Q E hr hsp => ⟨_, hb cdv A outer s H E hr, ?_⟩
  · obtain ⟨a, y, z, rfl, _⟩ := h
    rw [hps]; rfl
  · obtain ⟨a, y, z, rfl, ha, hq⟩ := hsp
    match N, hN with
    | [_, _, _], _ =>
      refine ⟨y, rfl, .ref a, rfl, a, C, rfl, T, hn1, .inl ⟨ha, fun dx h1 h2 => ?_⟩⟩
      refine ⟨z, rfl, .ref a, rfl, a, C, rfl, T, hn2, .inr ⟨dx, [(m1, y)], upd_same, ?_, by show 1 ≤ 900; omega, hq dx h1 h2⟩⟩
      rw [upd_ne h2, upd_same]
end
/-- raise C(e, f) -/
def zRaise2 (c m1 m2 : Nat) (k : ZA) : ZS := fun s h => match k s h with
  | .ok [w, v] h1 => .ex c h1.n s (h1.push (.xd [(m2, v), (m1, w)]))
  | .ok _ _ => .no
  | .ex c d h1 => .ex c d s h1
  | .no => .no
section
variable {X : Cx} {G : Gm} {Wx : WX} {k : ZA} {e : PySem.Expr} {es : List PySem.Expr} {x : Str} {p pos pos' : Pos} {j c m m1 m2 : Nat}
theorem no_air : Passes (L2.CX X.prog X.w) X (fun _ _ _ => False) := fun pins σ H s e s' I c => by
  obtain ⟨_, _, _, _, _, _, _, _, _, _, _, _, h⟩ := c
  exact h.elim
theorem zs_raiseO (cl : CalO X.prog X.w X.K X.mg X.base j (G.ga c) (G.nm m)) (hr : Room (j + 1) X.A) (hc : X.calm = true) (tk : Takes X Wx) (hg : Gl X x) (hm : X.mg x = some (.ref (G.ga c))) (ha : PA X (e :: es) (tzA G Wx k)) (hdb : (x == ("__debug__" : Str)) = false)
    (he : starEach (e :: es) X.env = (false, eval e X.env) :: starEach es X.env) (hpl : (backTo pos (starEach es X.env)).any (·.1) = false) : PS X (.Raise (some (.Call (.Name x p) (e :: es) [] pos)) none pos') (tzS G Wx (zRaise c m k)) := by
  obtain ⟨f, fd, ps, F, hb, iC, tI⟩ := cl.ex
  refine PS.imp (ps_raise hc tk (pmk_ov cl.T iC tI F hr hb no_air hg hm ha hdb he hpl)) fun D σ H q => ?_
  obtain ⟨r, s, h, S, HR, z⟩ := q
  refine ⟨r, s, h, S, HR, ?_⟩
  unfold zRaise at z
  cases e1 : k s h with
  | no => rw [e1] at z; exact z
  | ex c d h1 => rw [e1] at z; exact fun r1 H1 E1 hd => z r1 H1 σ E1 hd (S.ext E1)
  | ok ws h1 =>
    rw [e1] at z
    intro r1 H1 E1 w1
    match ws, w1, z with
    | [w], w1, z =>
      have hw : w.wf h1.n = true := by
        have : (w.wf h1.n && true) = true := w1
        rwa [Bool.and_true] at this
      refine ⟨by simp [vsV], fun a ha => ?_⟩
      refine ⟨a, w.v G r1, rfl, upd_same, fun dx n1 ne => ⟨rfl, dx, [(G.nm m, w.v G r1)], upd_same, ?_, ?_, ?_⟩⟩
      · rw [upd_ne ne, upd_same]
      · rw [upd_ne ne] at n1; exact n1
      · have nd : H1 dx = none := by rw [upd_ne ne] at n1; exact n1
        have eH : upd (del (upd (upd (upd H1 a (exo a (G.ga c) none)) dx (exd dx [(G.nm m, w.v G r1)])) a (exo a (G.ga c) (some dx))) a) dx (.xd [(G.nm m, w.v G r1)]) = upd H1 dx (.xd [(G.nm m, w.v G r1)]) := by
          funext b
          by_cases hb : b = dx
          · rw [hb, upd_same, upd_same]
          · rw [upd_ne hb, upd_ne hb]
            by_cases hba : b = a
            · rw [hba, del_same, ha]
            · rw [del_ne hba, upd_ne hba, upd_ne hb, upd_ne hba]
        rw [eH]
        have E2 : Ext G r1 h1 H1 (setR r1 h1.n dx) (h1.push (.xd [(m, w)])) (upd H1 dx (.xd [(G.nm m, w.v G r1)])) := Ext.new E1.rel nd (by
          show (w.wf (h1.n + 1) && true) = true
          rw [W.wf_le hw (Nat.le_succ _)]; rfl) (upd_keep nd) (by
          show upd H1 dx _ dx = some (.xd (fsV G (setR r1 h1.n dx) [(m, w)]))
          rw [upd_same]
          show some (HO.xd [(G.nm m, w.v G r1)]) = some (.xd [(G.nm m, w.v G (setR r1 h1.n dx))])
          rw [W.v_agr hw fun i q => setR_lt q])
        have q := z _ _ σ (E1.trans E2) (Nat.lt_succ_self _) (S.ext (E1.trans E2))
        rw [setR_same] at q
        exact q
    | [], _, z => exact z.elim
    | _ :: _ :: _, _, z =>
      unfold RZS at z
      split at z <;> first | exact z.elim | (rename_i q; simp at q)
theorem zs_raise2 (cl : CalI2 X.prog X.w X.K X.mg X.base j (G.ga c) (G.nm m1) (G.nm m2)) (hr : Room (j + 1) X.A) (hc : X.calm = true) (tk : Takes X Wx) (hg : Gl X x) (hm : X.mg x = some (.ref (G.ga c))) (ha : PA X (e :: es) (tzA G Wx k)) (hdb : (x == ("__debug__" : Str)) = false)
    (he : starEach (e :: es) X.env = (false, eval e X.env) :: starEach es X.env) (hpl : (backTo pos (starEach es X.env)).any (·.1) = false) : PS X (.Raise (some (.Call (.Name x p) (e :: es) [] pos)) none pos') (tzS G Wx (zRaise2 c m1 m2 k)) := by
  obtain ⟨f, fd, ps, F, hb, iC, tI⟩ := cl.ex
  refine PS.imp (ps_raise hc tk (pmk_oex cl.T iC tI F hr hb .nil no_air hg hm ha hdb he hpl)) fun D σ H q => ?_
  obtain ⟨r, s, h, S, HR, z⟩ := q
  refine ⟨r, s, h, S, HR, ?_⟩
  unfold zRaise2 at z
  cases e1 : k s h with
  | no => rw [e1] at z; exact z
  | ex c d h1 => rw [e1] at z; exact fun r1 H1 E1 hd => z r1 H1 σ E1 hd (S.ext E1)
  | ok ws h1 =>
    rw [e1] at z
    intro r1 H1 E1 w1
    match ws, w1, z with
    | [w, v], w1, z =>
      have hw2 : (w.wf h1.n && (v.wf h1.n && true)) = true := w1
      rw [Bool.and_true, Bool.and_eq_true] at hw2
      obtain ⟨hw, hv⟩ := hw2
      refine ⟨by simp [vsV], fun a ha => ?_⟩
      refine ⟨a, w.v G r1, v.v G r1, rfl, upd_same, fun dx n1 ne => ⟨rfl, dx, [(G.nm m2, v.v G r1), (G.nm m1, w.v G r1)], ?_, upd_same, ?_, ?_⟩⟩
      · rw [upd_ne ne.symm, upd_same]
      · rw [upd_ne ne] at n1; exact n1
      · have nd : H1 dx = none := by rw [upd_ne ne] at n1; exact n1
        have eH : upd (del (upd (upd (upd (upd H1 a (exo a (G.ga c) none)) dx (exd dx [(G.nm m1, w.v G r1)])) a (exo a (G.ga c) (some dx))) dx (exd dx [(G.nm m2, v.v G r1), (G.nm m1, w.v G r1)])) a) dx (.xd [(G.nm m2, v.v G r1), (G.nm m1, w.v G r1)]) = upd H1 dx (.xd [(G.nm m2, v.v G r1), (G.nm m1, w.v G r1)]) := by
          funext b
          by_cases hb : b = dx
          · rw [hb, upd_same, upd_same]
          · rw [upd_ne hb, upd_ne hb]
            by_cases hba : b = a
            · rw [hba, del_same, ha]
            · rw [del_ne hba, upd_ne hb, upd_ne hba, upd_ne hb, upd_ne hba]
        rw [eH]
        have E2 : Ext G r1 h1 H1 (setR r1 h1.n dx) (h1.push (.xd [(m2, v), (m1, w)])) (upd H1 dx (.xd [(G.nm m2, v.v G r1), (G.nm m1, w.v G r1)])) := Ext.new E1.rel nd (by
          show (v.wf (h1.n + 1) && (w.wf (h1.n + 1) && true)) = true
          rw [W.wf_le hw (Nat.le_succ _), W.wf_le hv (Nat.le_succ _)]; rfl) (upd_keep nd) (by
          show upd H1 dx _ dx = some (.xd (fsV G (setR r1 h1.n dx) [(m2, v), (m1, w)]))
          rw [upd_same]
          show some (HO.xd [(G.nm m2, v.v G r1), (G.nm m1, w.v G r1)]) = some (.xd [(G.nm m2, v.v G (setR r1 h1.n dx)), (G.nm m1, w.v G (setR r1 h1.n dx))])
          rw [W.v_agr hw fun i q => setR_lt q, W.v_agr hv fun i q => setR_lt q])
        have q := z _ _ σ (E1.trans E2) (Nat.lt_succ_self _) (S.ext (E1.trans E2))
        rw [setR_same] at q
        exact q
    | [], _, z => exact z.elim
    | [_], _, z => exact z.elim
    | _ :: _ :: _ :: _, _, z =>
      unfold RZS at z
      split at z <;> first | exact z.elim | (rename_i q; simp at q)
end
end Zd

namespace Zd
open PySem PySem.Spec PyProof.Rows L2

section
open PySem.W PySem.Calls
variable {prog : Program} {w : World} {A : Around} {E : Value → Shared → Prop} {s : Shared} {K : Frag} {x C f : Addr} {ox : Obj} {od : Option Obj}
theorem own_under {b : Nat} {Q : Str → Shared → Prop} (hu : A.units < cLine) (hb : b ≤ sizeLine) (X : K.In s.heap) (I : InstAt s.heap x ox C od) (hs : findIn K (.ref C) "__repr__" = some (some (.ref f))) (hf : isFn K (.ref f) = true)
    (h : wpAny (model prog w) A (call (.ref f) [.ref x]) (fun v s' => ∃ t u, v = .str t u ∧ Q t s') E s) : wpAny (model prog w) A (pyReprUnder b (.ref x)) Q E s := by
  refine wpAny_pyReprUnder_ref hb ?_
  unfold pyReprObjUnder pyReprObjBy
  refine wpAny_bind (wpAny_cRoomFor hu (wpAny_bind (wpAny_bind (I.type.here ((looks_findIn X hs).here ?_)))))
  show wpAny _ _ (if (some (Value.ref f)).isNone = true then _ else _) _ _ _
  rw [if_neg (by simp)]
  refine wpAny_bind ?_
  simp only [callSpecialIfBoundBy?, bindSpecialIfBound?]
  refine wpAny_holding (wpAny_bind (wpAny_bind (wpAny_bind (I.type.here ((looks_findIn X hs).here ?_)))))
  have fin : wpAny (model prog w) A (call (.ref f) ([.ref x] ++ []) >>= fun v => pure (some v)) (fun o s' => wpAny (model prog w) A (match o with
      | some r => (do if ← isInstance r (.type "str") then pure r else raiseError "TypeError" s!"__repr__ returned non-string (type {← typeNameOf r})")
      | none => unsupported "repr:special-get-raises") (fun v s' => ∃ x u, v = .str x u ∧ Q x s') E s') E s := by
    refine wpAny_bind (wpAny_mono h (fun v s' hv => wpAny_pure ?_) fun _ _ z => z)
    obtain ⟨t, u, rfl, q⟩ := hv
    exact wpAny_bind (wpAny_isInstance (T := "str") (b := true) rfl isSubtype_str_str (wpAny_pure ⟨t, u, rfl, q⟩))
  refine wpAny_bind (wpAny_askSetting (wpAny_ite ?_))
  split
  · exact wpAny_bind ((bind_fn X _ (beq_iff_eq.mp hf)).here (wpAny_pure fin))
  · exact wpAny_tryCatch (wpAny_bind ((bind_fn X _ (beq_iff_eq.mp hf)).here (wpAny_pure fin)))
end

section
variable {X : Cx} {pins : List (Addr × Obj)} {σ : L2.St} {H : Hp} {s : Shared} {k : Nat} {f l x C dx : Addr} {fs : List (Str × V)} {fd : FuncData} {ps : List Str} {sp : Sp} {E : XK} {Q : VK}
theorem room_loop {A : Around} {a : Args} (r : Room (k + 1) A) : Room k (A.under (.builtin "list.__repr__.loop" a)) :=
  ⟨r.hd, by
    have := r.dp
    have e : (A.under (.builtin "list.__repr__.loop" a)).depth ≤ A.depth + 1 := by first | exact Nat.le_refl _ | exact Nat.le_succ _ | simp [Around.under, Code.weight, Code.isCreation, Code.isGuard, Code.isCaller, Code.frames, Code.isFrame, guardIds]
    omega, by
    have := r.un
    rw [units_under_list_loop]; omega⟩
/-- the list's own list of texts is grown -/
theorem grown {P : Addr} {acc : Array Value} {c : Nat} {v : Value} {t' : Nat} (I : Inv X ((P, lstObj acc c) :: pins) σ H s) (hP : X.s_0.heap.objs.size ≤ P) (hL : P ≠ X.env.locals) (hC : ∀ y c, X.env.cells.lookup y = some c → c ≠ P) (hpin : ∀ p ∈ X.pn ++ pins, p.1 ≠ P) :
    Inv X pins σ H { s with heap := s.heap.update P (Obj.mapSeq (·.push v)), toks := t' } := by
  have e0 := ClX.pin_un I
  have I0 := ClX.unpin I
  have hk : ∀ b o, b ≠ P → s.heap.get? b = some o → (s.heap.update P (Obj.mapSeq (·.push v))).get? b = some o := fun b o hb e => (Heap.get?_update_other _ _ (Ne.symm hb)).trans e
  have nt : ∀ b u, H b = some u → b ≠ P := fun b u q hb => by rw [hb, e0] at q; cases q
  have nc : ∀ b, b ∉ [P] → b ≠ P := fun b hb e => hb (List.mem_singleton.mpr e)
  refine I0.step (ch := [P]) (fun b hb => ?_) (fun b ob _ _ hc q _ => hk b ob (nc b hc) q) (fun b ob _ _ hc q _ => ⟨ob.slots, hk b ob (nc b hc) q⟩) (fun _ _ _ _ n => n) (fun b ob hc q => ⟨ob, hk b ob (nc b hc) q⟩)
    (fun _ _ q => q) (fun _ _ _ q => q) (fun b ps q => ⟨#[], by rw [q]; simp⟩) (fun m hm => ?_) (fun b u q => ?_) I0.bare
  · rw [List.mem_singleton.mp hb]
    exact ⟨.inr hP, hL, hC, hpin⟩
  · obtain ⟨ob, es, ep, ho, r⟩ := hm
    exact ⟨ob, es, ep, hk _ ob (Ne.symm hL) ho, r⟩
  · refine (I0.hok b u q).stay (fun c v hc y => hk c v ?_ y) (fun _ y => y) fun _ _ y => y
    rcases hc with y | y
    · rw [y]; exact nt b u q
    · exact nt c _ y
/-- under the list's walk: its one item's own text -/
theorem loop_one {A : Around} {CX : CXT} (hfr : A.frames = X.A.frames) (hg : A.guards = some []) (hr : Room (k + 1) A) (F0 : FnOk X.prog X.w X.K X.mg X.base CX k f fd ps sp) (hb : Binds X.K fd ps []) (hx : Passes CX X E) (M : Meth X.K C "__repr__" f)
    (I : Inv X pins σ H s) (el : H l = some (.lst [.ref x])) (ex : H x = some (.ins C dx fs)) (h : sp [.ref x] H (fun v H1 => ∃ t : Str, v = .str t ∧ t.length + 2 ≤ 100000 ∧ H1 l = some (.lst [.ref x]) ∧ Q (.str (listText [t])) H1) E) :
    wpAny (model X.prog X.w) A.in1 (Builtin.listReprAt 0 ⟨[.ref l], []⟩)
      (fun fin s' => match fin with | .done f => wants (EP X pins σ Q) X.xe (.ok f) s' | .again c' => c'.quiet = true ∧ codeAny (model X.prog X.w) A c' (wants (EP X pins σ Q) X.xe) s') (fun e s' => wants (EP X pins σ Q) X.xe (.error e) s') s := by
  obtain ⟨_, its, m, ri, li, gl⟩ := I.lstM el
  obtain ⟨u, rfl, ru⟩ := vals1 ri
  obtain rfl : u = Value.ref x := ru
  refine wpAny_list_repr_head (A := A.in1) (x := .ref x) (l := []) hg (fun v rest kw hm => by cases hm) gl rfl ?_
  refine wpAny_bind (m := newList []) (wpAny_newObj_type ?_)
  refine wpAny_pure ⟨F.quiet_list_repr_loop _, ?_⟩
  refine codeAny_builtin F.entry_list_repr_loop ?_
  have I1 : Inv X ((s.heap.objs.size, lstObj #[] 0) :: pins) σ H { s with heap := s.heap.push (lstObj #[] 0) } := ClX.pin_new (t' := s.toks) I (fun b o e => Heap.get?_push_of_some _ e) (Nat.le_refl _) (Heap.get?_push_size _ rfl) (fun v z => by cases z)
  show wpAny _ _ (Builtin.«list.__repr__.loop» ⟨[.ref l, .int (0 : Nat) 0, .ref s.heap.objs.size, .int (0 : Nat) 0], []⟩) _ _ _
  rw [repr_loop_tree]
  refine wpAny_bind (wpAny_listItems (Heap.get?_push_of_some _ gl) rfl ?_)
  show wpAny _ _ (do
    let r ← holding [.ref x] (pyReprUnder _ (.ref x))
    _) _ _ _
  obtain ⟨od, J⟩ := inst_of I1 ex
  refine wpAny_bind (wpAny_holding (own_under (by have := hr.un; rw [units_under_list_loop]; omega) (by rw [sizeLine_eq]; decide) I1.kIn J M.at_ M.fn ?_))
  have e0 := I1.env0
  have fr2 : (A.under (.builtin "list.__repr__.loop" ⟨[.ref l, .int (0 : Nat) 0, .ref s.heap.objs.size, .int (0 : Nat) 0], []⟩)).frames = some X.stack := hfr.trans e0.frames
  have hl1 : [Value.ref x].length = ps.length := F0.len _ _ _ _ h
  refine wpAny_call (codeAny_mono (F0.run _ X.stack _ H ⟨[.ref x], []⟩ [.ref x] [.ref x] _ E (room_loop hr) ⟨fr2, e0.mod, e0.bs, e0.bsz, e0.funs, e0.frf, e0.hok, e0.bare⟩ (by have z := hb _ [.ref x] I1.kIn (by simpa using hl1); simpa using z) (.cons rfl .nil) h) fun r s' hq => ?_)
  cases r with
  | error e => exact hx _ σ H _ e s' I1 hq
  | ok fl =>
    cases fl with
    | next => exact False.elim hq
    | brk => exact False.elim hq
    | cont => exact False.elim hq
    | ret u =>
      obtain ⟨v, H3, I3, rv, t, rfl, ht, el3, q3⟩ := I1.after hq
      obtain ⟨tk, rfl⟩ := rv
      refine ⟨t, tk, rfl, ?_⟩
      refine wpAny_bind (wpAny_mkStr ?_ (by rw [sizeLine_eq]; omega))
      refine wpAny_bind ?_
      show wpAny _ _ (updateSeq s.heap.objs.size _) _ _ _
      have gP := ClX.pin_at I3
      refine wpAny_updateSeq gP rfl (wpAny_pure ⟨F.quiet_list_repr_loop _, ?_⟩) (by rw [sizeLine_eq]; decide)
      have I4 := grown (v := .str t s'.toks) (t' := s'.toks + 1) I3 (Nat.le_of_lt (Nat.lt_of_le_of_lt I.ok.above I.lt)) (Nat.ne_of_gt I.lt) (fun y c e => by
          obtain ⟨w, o, ho, _⟩ := I.cell y c e
          exact Nat.ne_of_lt (Heap.lt_size ho)) (fun p hp => Nat.ne_of_lt (Heap.lt_size (I.pin p hp).1))
      refine codeAny_builtin F.entry_list_repr_loop ?_
      show wpAny _ _ (Builtin.«list.__repr__.loop» ⟨[.ref l, .int (((0 : Nat) : Int) + 1) 0, .ref s.heap.objs.size, .int _ 0], []⟩) _ _ _
      rw [repr_loop_tree]
      obtain ⟨_, its2, m2, ri2, _, gl2⟩ := I4.lstM el3
      obtain ⟨u2, rfl, _⟩ := vals1 ri2
      refine wpAny_bind (wpAny_listItems gl2 rfl ?_)
      show wpAny _ _ (reprEnd (.ref s.heap.objs.size)) _ _ _
      unfold reprEnd
      have gP2 : (s'.heap.update s.heap.objs.size (Obj.mapSeq (·.push (.str t s'.toks)))).get? s.heap.objs.size = some _ := Heap.get?_update_self _ gP rfl
      refine wpAny_bind (wpAny_listItems gP2 rfl ?_)
      have ev : (#[].push (Value.str t s'.toks)).toList = strValues [(t, s'.toks)] := rfl
      rw [ev, repr_fold]
      refine wpAny_bind (wpAny_pure ?_)
      show wpAny _ _ (retStr (listText [t])) _ _ _
      refine wpAny_bind (wpAny_mkStr (wpAny_pure ?_) ?_)
      · exact ⟨.str (listText [t]), H3, I4.tok _, ⟨_, rfl⟩, q3⟩
      · show (("[" : Str) ++ ((if (0 : Nat) > 0 then ", " else "" : String) : Str) ++ t ++ ("]" : Str)).length ≤ sizeLine
        rw [strLen_append, strLen_append, strLen_append, sizeLine_eq]
        have e1 : ("[" : Str).length = 1 := by decide
        have e2 : ("]" : Str).length = 1 := by decide
        have e3 : ((if (0 : Nat) > 0 then ", " else "" : String) : Str).length = 0 := by decide
        rw [e1, e2, e3]
        omega
/-- repr([x]), x of a class with a __repr__ of its own -/
theorem repr_one {CX : CXT} (hg : X.A.guards = some []) (hr : Room (k + 2) X.A) (F0 : FnOk X.prog X.w X.K X.mg X.base CX k f fd ps sp) (hb : Binds X.K fd ps []) (hx : Passes CX X E) (M : Meth X.K C "__repr__" f)
    (I : Inv X pins σ H s) (el : H l = some (.lst [.ref x])) (ex : H x = some (.ins C dx fs)) (h : sp [.ref x] H (fun v H1 => ∃ t : Str, v = .str t ∧ t.length + 2 ≤ 100000 ∧ H1 l = some (.lst [.ref x]) ∧ (∃ t' : Str, V.str (listText [t]) = .str t') ∧ Q (.str (listText [t])) H1) E) :
    wpAny (model X.prog X.w) X.A (call (.builtin "repr") [.ref l]) (EP X pins σ Q) X.xe s := by
  obtain ⟨_, its, m, ri, li, gl⟩ := I.lstM el
  have hTy : s.TypeIs (.ref l) "list" := ⟨_, gl, rfl⟩
  refine Calls.call_function_entry PySem.F.kind_repr PySem.F.plain_repr PySem.F.entry_repr (PySem.F.args_repr1 _) ?_
  unfold Builtin.«repr»
  refine wpAny_bind (m := oneArg "repr" _) (wpAny_pure (wpAny_bind (wpAny_cRoomFor (by have := hr.un; show X.A.units + 1 < cLine; omega) ?_)))
  refine wpAny_bind (wpAny_specialOf (name := Str.ofString "__repr__") hTy F.slot_list_repr.lookup ?_)
  show wpAny _ _ (if (some (Value.builtin "list.__repr__")).isNone = true then _ else _) _ _ _
  rw [if_neg (by simp)]
  refine wpAny_bind (m := callSpecialIfBound? (.ref l) (Str.ofString "__repr__")) (wpAny_callSpecialIfBound?_slot (name := Str.ofString "__repr__") hTy F.slot_list_repr ?_)
  refine wpAny_mono (Q := EP X pins σ fun v H1 => (∃ t : Str, v = .str t) ∧ Q v H1) (E := X.xe) (wpAny_call (codeAny_call_builtin F.slot_list_repr.plain F.entry_list_repr (F.slot_list_repr.check _ _ _ _ _ _ _ _ hTy (F.args_list_repr_1 _)
    (loop_one (A := X.A.in1) rfl hg hr.in1 F0 hb hx M I el ex h)))) (fun v s' hv => ?_) fun _ _ z => z
  · obtain ⟨y, H1, I1, ry, ⟨t, rfl⟩, q⟩ := hv
    obtain ⟨tk, rfl⟩ := ry
    refine wpAny_bind (wpAny_isInstance (T := "str") (b := true) rfl isSubtype_str_str ?_)
    first
      | exact wpAny_pure ⟨_, rfl, .str t, H1, I1, ⟨_, rfl⟩, q⟩
      | (rw [if_pos rfl]; exact wpAny_pure ⟨_, rfl, .str t, H1, I1, ⟨_, rfl⟩, q⟩)
      | (simp only [if_true]; exact wpAny_pure ⟨_, rfl, .str t, H1, I1, ⟨_, rfl⟩, q⟩)
end
end Zd

namespace Zd
open PySem PySem.Spec PyProof.Rows L2

section
variable {X : Cx} {pins : List (Addr × Obj)} {σ : L2.St} {H : Hp} {s : Shared} {k : Nat} {f l x C dx : Addr} {fs : List (Str × V)} {fd : FuncData} {ps : List Str} {sp : Sp} {E : XK} {Q : VK}
/-- under the list's walk: its one item's own text, by any road -/
theorem loop_oneG {A : Around} (hg : A.guards = some []) (hu : ∀ a, (A.under (.builtin "list.__repr__.loop" a)).units < cLine) (M : Meth X.K C "__repr__" f)
    (I : Inv X pins σ H s) (el : H l = some (.lst [.ref x])) (ex : H x = some (.ins C dx fs))
    (hrun : ∀ (pins' : List (Addr × Obj)) (s' : Shared) (a : Args), Inv X pins' σ H s' → wpAny (model X.prog X.w) (A.under (.builtin "list.__repr__.loop" a)) (call (.ref f) [.ref x]) (EP X pins' σ fun v H1 => ∃ t : Str, v = .str t ∧ t.length + 2 ≤ 100000 ∧ H1 l = some (.lst [.ref x]) ∧ Q (.str (listText [t])) H1) X.xe s') :
    wpAny (model X.prog X.w) A.in1 (Builtin.listReprAt 0 ⟨[.ref l], []⟩)
      (fun fin s' => match fin with | .done f => wants (EP X pins σ Q) X.xe (.ok f) s' | .again c' => c'.quiet = true ∧ codeAny (model X.prog X.w) A c' (wants (EP X pins σ Q) X.xe) s') (fun e s' => wants (EP X pins σ Q) X.xe (.error e) s') s := by
  obtain ⟨_, its, m, ri, li, gl⟩ := I.lstM el
  obtain ⟨u, rfl, ru⟩ := vals1 ri
  obtain rfl : u = Value.ref x := ru
  refine wpAny_list_repr_head (A := A.in1) (x := .ref x) (l := []) hg (fun v rest kw hm => by cases hm) gl rfl ?_
  refine wpAny_bind (m := newList []) (wpAny_newObj_type ?_)
  refine wpAny_pure ⟨F.quiet_list_repr_loop _, ?_⟩
  refine codeAny_builtin F.entry_list_repr_loop ?_
  have I1 : Inv X ((s.heap.objs.size, lstObj #[] 0) :: pins) σ H { s with heap := s.heap.push (lstObj #[] 0) } := ClX.pin_new (t' := s.toks) I (fun b o e => Heap.get?_push_of_some _ e) (Nat.le_refl _) (Heap.get?_push_size _ rfl) (fun v z => by cases z)
  show wpAny _ _ (Builtin.«list.__repr__.loop» ⟨[.ref l, .int (0 : Nat) 0, .ref s.heap.objs.size, .int (0 : Nat) 0], []⟩) _ _ _
  rw [repr_loop_tree]
  refine wpAny_bind (wpAny_listItems (Heap.get?_push_of_some _ gl) rfl ?_)
  show wpAny _ _ (do
    let r ← holding [.ref x] (pyReprUnder _ (.ref x))
    _) _ _ _
  obtain ⟨od, J⟩ := inst_of I1 ex
  refine wpAny_bind (wpAny_holding (own_under (hu _) (by rw [sizeLine_eq]; decide) I1.kIn J M.at_ M.fn ?_))
  refine wpAny_mono (hrun _ _ _ I1) (fun u s' hq => ?_) fun _ _ z => z
  obtain ⟨v, H3, I3, rv, t, rfl, ht, el3, q3⟩ := hq
  obtain ⟨tk, rfl⟩ := rv
  refine ⟨t, tk, rfl, ?_⟩
  refine wpAny_bind (wpAny_mkStr ?_ (by rw [sizeLine_eq]; omega))
  refine wpAny_bind ?_
  show wpAny _ _ (updateSeq s.heap.objs.size _) _ _ _
  have gP := ClX.pin_at I3
  refine wpAny_updateSeq gP rfl (wpAny_pure ⟨F.quiet_list_repr_loop _, ?_⟩) (by rw [sizeLine_eq]; decide)
  have I4 := grown (v := .str t s'.toks) (t' := s'.toks + 1) I3 (Nat.le_of_lt (Nat.lt_of_le_of_lt I.ok.above I.lt)) (Nat.ne_of_gt I.lt) (fun y c e => by
      obtain ⟨w, o, ho, _⟩ := I.cell y c e
      exact Nat.ne_of_lt (Heap.lt_size ho)) (fun p hp => Nat.ne_of_lt (Heap.lt_size (I.pin p hp).1))
  refine codeAny_builtin F.entry_list_repr_loop ?_
  show wpAny _ _ (Builtin.«list.__repr__.loop» ⟨[.ref l, .int (((0 : Nat) : Int) + 1) 0, .ref s.heap.objs.size, .int _ 0], []⟩) _ _ _
  rw [repr_loop_tree]
  obtain ⟨_, its2, m2, ri2, _, gl2⟩ := I4.lstM el3
  obtain ⟨u2, rfl, _⟩ := vals1 ri2
  refine wpAny_bind (wpAny_listItems gl2 rfl ?_)
  show wpAny _ _ (reprEnd (.ref s.heap.objs.size)) _ _ _
  unfold reprEnd
  have gP2 : (s'.heap.update s.heap.objs.size (Obj.mapSeq (·.push (.str t s'.toks)))).get? s.heap.objs.size = some _ := Heap.get?_update_self _ gP rfl
  refine wpAny_bind (wpAny_listItems gP2 rfl ?_)
  have ev : (#[].push (Value.str t s'.toks)).toList = strValues [(t, s'.toks)] := rfl
  rw [ev, repr_fold]
  refine wpAny_bind (wpAny_pure ?_)
  show wpAny _ _ (retStr (listText [t])) _ _ _
  refine wpAny_bind (wpAny_mkStr (wpAny_pure ?_) ?_)
  · exact ⟨.str (listText [t]), H3, I4.tok _, ⟨_, rfl⟩, q3⟩
  · show (("[" : Str) ++ ((if (0 : Nat) > 0 then ", " else "" : String) : Str) ++ t ++ ("]" : Str)).length ≤ sizeLine
    rw [strLen_append, strLen_append, strLen_append, sizeLine_eq]
    have e1 : ("[" : Str).length = 1 := by decide
    have e2 : ("]" : Str).length = 1 := by decide
    have e3 : ((if (0 : Nat) > 0 then ", " else "" : String) : Str).length = 0 := by decide
    rw [e1, e2, e3]
    omega
/-- repr([x]), by any road -/
theorem repr_oneG (hg : X.A.guards = some []) (hu0 : X.A.units + 1 < cLine) (hu : ∀ a, (X.A.in1.under (.builtin "list.__repr__.loop" a)).units < cLine) (M : Meth X.K C "__repr__" f)
    (I : Inv X pins σ H s) (el : H l = some (.lst [.ref x])) (ex : H x = some (.ins C dx fs))
    (hrun : ∀ (pins' : List (Addr × Obj)) (s' : Shared) (a : Args), Inv X pins' σ H s' → wpAny (model X.prog X.w) (X.A.in1.under (.builtin "list.__repr__.loop" a)) (call (.ref f) [.ref x]) (EP X pins' σ fun v H1 => ∃ t : Str, v = .str t ∧ t.length + 2 ≤ 100000 ∧ H1 l = some (.lst [.ref x]) ∧ Q (.str (listText [t])) H1) X.xe s') :
    wpAny (model X.prog X.w) X.A (call (.builtin "repr") [.ref l]) (EP X pins σ Q) X.xe s := by
  obtain ⟨_, its, m, ri, li, gl⟩ := I.lstM el
  have hTy : s.TypeIs (.ref l) "list" := ⟨_, gl, rfl⟩
  refine Calls.call_function_entry PySem.F.kind_repr PySem.F.plain_repr PySem.F.entry_repr (PySem.F.args_repr1 _) ?_
  unfold Builtin.«repr»
  refine wpAny_bind (m := oneArg "repr" _) (wpAny_pure (wpAny_bind (wpAny_cRoomFor hu0 ?_)))
  refine wpAny_bind (wpAny_specialOf (name := Str.ofString "__repr__") hTy F.slot_list_repr.lookup ?_)
  show wpAny _ _ (if (some (Value.builtin "list.__repr__")).isNone = true then _ else _) _ _ _
  rw [if_neg (by simp)]
  refine wpAny_bind (m := callSpecialIfBound? (.ref l) (Str.ofString "__repr__")) (wpAny_callSpecialIfBound?_slot (name := Str.ofString "__repr__") hTy F.slot_list_repr ?_)
  refine wpAny_mono (Q := EP X pins σ fun v H1 => (∃ t : Str, v = .str t) ∧ Q v H1) (E := X.xe) (wpAny_call (codeAny_call_builtin F.slot_list_repr.plain F.entry_list_repr (F.slot_list_repr.check _ _ _ _ _ _ _ _ hTy (F.args_list_repr_1 _)
    (loop_oneG (A := X.A.in1) (Q := fun v H1 => (∃ t : Str, v = .str t) ∧ Q v H1) hg hu M I el ex fun p1 s1 a1 J1 => wpAny_mono (hrun p1 s1 a1 J1) (fun v s2 ⟨y, H2, J2, r2, t, e2, ht, el2, q2⟩ => ⟨y, H2, J2, r2, t, e2, ht, el2, ⟨_, rfl⟩, q2⟩) fun _ _ z => z)))) (fun v s' hv => ?_) fun _ _ z => z
  · obtain ⟨y, H1, I1, ry, ⟨t, rfl⟩, q⟩ := hv
    obtain ⟨tk, rfl⟩ := ry
    refine wpAny_bind (wpAny_isInstance (T := "str") (b := true) rfl isSubtype_str_str ?_)
    first
      | exact wpAny_pure ⟨_, rfl, .str t, H1, I1, ⟨_, rfl⟩, q⟩
      | (rw [if_pos rfl]; exact wpAny_pure ⟨_, rfl, .str t, H1, I1, ⟨_, rfl⟩, q⟩)
      | (simp only [if_true]; exact wpAny_pure ⟨_, rfl, .str t, H1, I1, ⟨_, rfl⟩, q⟩)
end
end Zd

namespace Zd
open PySem PySem.Spec PyProof.Rows L2

def ownOne (cs : Nat → Option Fn) : List W → VH → Option (Nat × Nat × Fn) := fun ws h => match ws with
  | [.ref l] => (match h.get l with
    | some (.lst [.ref x]) => (match h.get x with
      | some (.ins c _) => (match cs c with
        | some fn => some (l, x, fn)
        | none => none)
      | _ => none)
    | _ => none)
  | _ => none
theorem ownOne_ok {cs : Nat → Option Fn} {ws : List W} {h : VH} {l x : Nat} {fn : Fn} (e : ownOne cs ws h = some (l, x, fn)) : ws = [.ref l] ∧ h.get l = some (.lst [.ref x]) ∧ ∃ c fs, h.get x = some (.ins c fs) ∧ cs c = some fn := by
  unfold ownOne at e
  split at e
  · split at e
    · rename_i l0 x0 e1
      split at e
      · rename_i c fs e2
        split at e
        · rename_i fn0 e3
          cases e
          exact ⟨rfl, e1, c, fs, e2, e3⟩
        · cases e
      · cases e
    · cases e
  · cases e
/-- repr(v): a list of one instance with a __repr__ of its own, or what needs none -/
def opReprO (cs : Nat → Option Fn) : OpL := fun ws h => match ownOne cs ws h with
  | some (l, x, fn) => (match fn [.ref x] h with
    | .ok (.str t) h1 => (match h1.get l with
      | some (.lst [.ref y]) => if Nat.beq y x && Nat.ble (t.length + 2) 100000 then .ok (.str (listText [t])) h1 else .no
      | _ => .no)
    | _ => .no)
  | none => opRepr ws h
section
variable {X : Cx} {G : Gm} {E : XK} {m j : Nat} {cs : Nat → Option Fn}
/-- each class of the table has its __repr__, which runs under the list's walk -/
def RunsR (X : Cx) (G : Gm) (E : XK) (cs : Nat → Option Fn) : Prop := ∀ c fn, cs c = some fn → ∃ f, Meth X.K (G.ga c) "__repr__" f ∧ ∀ (σ : L2.St) (H : Hp) (x : Addr) (Q : VK), spz G 1 fn [.ref x] H Q E → ∀ (pins : List (Addr × Obj)) (s : Shared) (a : Args), Inv X pins σ H s →
  wpAny (model X.prog X.w) (X.A.in1.under (.builtin "list.__repr__.loop" a)) (call (.ref f) [.ref x]) (EP X pins σ Q) X.xe s
theorem callr_reprO (hg : X.A.guards = some []) (hu : X.A.units + 200 < cLine) (hR : RunsR X G E cs) : CallR X (.builtin "repr") (rdL G E (opReprO cs)) := by
  intro pins s σ H xs us Q I rv q
  obtain ⟨r, h, ws, HR, hw, rfl, z⟩ := q
  unfold opReprO at z
  split at z
  · rename_i l x fn e0
    obtain ⟨rfl, el, c, fs, ex, ec⟩ := ownOne_ok e0
    obtain ⟨f, M, run⟩ := hR c fn ec
    cases rv with
    | cons r1 r2 =>
      cases r2
      obtain rfl := (show _ = Value.ref (r l) from r1)
      have al := HR.at_ l _ el
      have al : H (r l) = some (.lst [.ref (r x)]) := al
      obtain ⟨dx, ax⟩ := HR.at_ x _ ex
      have lx := VH.get_lt ex
      have ll := VH.get_lt el
      refine repr_oneG hg (by omega) (fun a => by rw [units_under_list_loop]; show X.A.units + 1 + 1 < cLine; omega) M I al ax fun p1 s1 a1 J1 => run σ H (r x) _ ?_ p1 s1 a1 J1
      refine ⟨r, [.ref x], h, rfl, rfl, ?_, HR, ?_⟩
      · show ((W.ref x).wf h.n && true) = true
        simp [W.wf, lx]
      · cases e3 : fn [.ref x] h with
        | no => rw [e3] at z; exact z
        | ex c d h1 => rw [e3] at z; exact z.elim
        | ok v h1 =>
          rw [e3] at z
          cases v with
          | str t =>
            simp only at z
            split at z
            · rename_i y e4
              split at z
              · rename_i hy
                rw [Bool.and_eq_true] at hy
                obtain rfl := Nat.eq_of_beq_eq_true hy.1
                intro r' H' E' hw'
                refine ⟨t, rfl, Nat.le_of_ble_eq_true hy.2, ?_, z r' H' E' rfl⟩
                have a2 := E'.rel.at_ l _ e4
                have a2 : H' (r' l) = some (.lst [.ref (r' y)]) := a2
                rw [E'.agr l ll, E'.agr y lx] at a2
                exact a2
              · exact z.elim
            · exact z.elim
          | _ => exact z.elim
  · exact call_reprD hg (by omega) pins s σ H _ us Q I rv (cz_repr _ r h H [] ws Q HR hw z)
end
section
variable {X : Cx} {G : Gm} {Wx : WX} {E : XK} {m j : Nat} {cs : Nat → Option Fn} {k : ZA} {e : PySem.Expr} {es : List PySem.Expr} {p pos : Pos}
theorem runs_calm (hc : MOk X G j m 1 cs) (hr : Room (j + 2) X.A) (hp : PsE X Wx E) (hm : G.nm m = "__repr__") : RunsR X G E cs := by
  intro c fn e
  obtain ⟨cl, f, M, cal⟩ := hc c fn e
  obtain ⟨fd, ps, F, kp, hb⟩ := cal.ex
  refine ⟨f, hm ▸ M, fun σ H x Q hsp pins s a I => ?_⟩
  have e0 := I.env0
  have fr2 : (X.A.in1.under (.builtin "list.__repr__.loop" a)).frames = some X.stack := e0.frames
  have hl1 : [Value.ref x].length = ps.length := F.len _ _ _ _ hsp
  refine wpAny_call (codeAny_mono (F.run _ X.stack _ H ⟨[.ref x], []⟩ [.ref x] [.ref x] _ E (room_loop (Room.in1 hr)) ⟨fr2, e0.mod, e0.bs, e0.bsz, e0.funs, e0.frf, e0.hok, e0.bare⟩ (by have z := hb _ [.ref x] I.kIn (by simpa using hl1); simpa using z) (.cons rfl .nil) hsp) fun r s' hq => ?_)
  cases r with
  | error e => exact hp.to _ σ H _ e s' I hq
  | ok fl =>
    cases fl with
    | next => exact False.elim hq
    | brk => exact False.elim hq
    | cont => exact False.elim hq
    | ret u => exact I.after hq
end
/-- what a def promises where an exception is handled -/
structure FnW (P : Program) (w : World) (K : PySem.W.Frag) (mg : Str → Option Value) (base : Heap) (CX : CXT) (k : Nat) (f : Addr) (fd : FuncData) (ps : List Str) (sp : Sp) : Prop where
  len : ∀ vs H Q E, sp vs H Q E → vs.length = ps.length
  run : ∀ (A : Around) (outer : List Env) (s : Shared) (H : Hp) (args : Args) (us : List Value) (vs : List V) (Q : VK) (E : XK) (p : Addr × Obj), L2H.RoomH k A → L2H.PinOk outer H s p → Env0 P w K mg base A outer s H → BindsTo s fd args (ps.zip us) → Vals vs us → sp vs H Q E →
    codeAny (model P w) A (.call (.ref f) args) (CR CX outer P w H s Q E) s
section
variable {P : Program} {w : World} {K : PySem.W.Frag} {mg : Str → Option Value} {base : Heap} {CX : CXT} {x qual : Str} {params : Arguments} {body : List Stmt} {scope : Scope} {dvs : List V} {kws : List (Str × V)} {f : Addr} {fd : FuncData} {N ps : List Str} {k : Nat} {sp : Sp}
theorem FnW.mono {j : Nat} (F : FnW P w K mg base CX j f fd ps sp) (h : j ≤ k) : FnW P w K mg base CX k f fd ps sp := ⟨F.len, fun A outer s H args us vs Q E p hr => F.run A outer s H args us vs Q E p (hr.mono h)⟩
theorem fnW_ok (F : FunD K x qual params body scope dvs kws f fd) (S : FnScope N ps scope) (len : ∀ vs H Q E, sp vs H Q E → vs.length = ps.length)
    (hb : ∀ (cdv : Value) (A : Around) (outer : List Env) (s : Shared) (H : Hp) (vs : List V) (Q : VK) (E : XK) (p : Addr × Obj), L2H.RoomH k (A.deeper (envOfC qual scope s.heap.objs.size f cdv)) → sp vs H Q E →
      ∃ t, PSs (L2H.cxH CX P w K mg base N qual scope f cdv A outer s H E p) body t ∧ t { nx := fun _ H' => Q .non H', rt := Q } (L2.start N vs) H) : FnW P w K mg base CX (k + 1) f fd ps sp := by
  obtain ⟨o1, o2, dV, kV, doc, pm, an, cdv, ct, sl, rfl, look, code, _, _⟩ := F.ex
  refine ⟨len, fun A outer s H args us vs Q E p hr hpin env bind rel prom => ?_⟩
  have n1 := len _ _ _ _ prom
  have inK : K.In s.heap := env.mod.kin.keeps fun b o e => (env.bs b o e).1
  have nolim : s.heap.NoLimit := env.mod.nolimit.keeps fun b o e => (env.bs b o e).1
  refine codeAny_call_function hr.depth (inK _ _ look) rfl S.co S.gen rfl (PySem.W.codeRec_of inK code) (bind _ _ _ _ ?_)
  refine wpAny_newFunctionEnv_cells S.kind (fun p hp => ?_) fun e1 he s1 mid => ?_
  · obtain ⟨n, v⟩ := p
    rcases S.par n (List.of_mem_zip hp).1 with q | q
    · exact .inl q
    · exact .inr ⟨q, PySem.W.cellsFrom_some _ _ _ (.inl q)⟩
  subst he
  refine ⟨nolim.keeps mid.toInCall.keep, codeAny_func ?_⟩
  obtain ⟨t, ht, hq⟩ := hb cdv A outer s H vs Q E p (hr.deeper _) prom
  refine wpAny_mono (ht.run [] s1 (L2.start N vs) H _ (L2H.inv_startH S hpin env n1 rel mid) hq) (fun fl s2 hs => ?_) fun e s2 hs => hs
  cases fl with
  | ret u =>
    obtain ⟨v, σ2, H2, J, rv, q⟩ := hs
    exact ⟨v, H2, J.os, J.bare, J.base, J.hok, rv, q⟩
  | next =>
    obtain ⟨σ2, H2, J, q⟩ := hs
    exact ⟨V.non, H2, J.os, J.bare, J.base, J.hok, (rfl : RelV V.non Value.none), q⟩
  | brk =>
    obtain ⟨_, _, _, q⟩ := hs
    exact q.elim
  | cont =>
    obtain ⟨_, _, _, q⟩ := hs
    exact q.elim
theorem def_okW {G : Gm} {z : ZS} (F : FunD K x qual params body scope dvs kws f fd) (S : FnScope N ps scope) (hl : ps.length ≤ N.length)
    (hb : ∀ (cdv : Value) (A : Around) (outer : List Env) (s : Shared) (H : Hp) (E : XK) (p : Addr × Obj), L2H.RoomH k (A.deeper (envOfC qual scope s.heap.objs.size f cdv)) → PSs (L2H.cxH (L2.CX P w) P w K mg base N qual scope f cdv A outer s H E p) body (tzS G (WofE E) z)) :
    FnW P w K mg base (L2.CX P w) (k + 1) f fd ps (spz G ps.length (zDef N.length z)) := by
  refine fnW_ok F S (fun vs H Q E h => spz_len vs H Q E h) fun cdv A outer s H vs Q E p hr hsp => ⟨_, hb cdv A outer s H E p hr, ?_⟩
  obtain ⟨r, ws, h, rfl, e, hw, HR, q⟩ := hsp
  refine ⟨r, startZ N.length ws, h, start_rel hw (by rw [e]; exact hl), HR, ?_⟩
  unfold zDef at q
  cases e1 : z (startZ N.length ws) h with
  | nx s1 h1 => rw [e1] at q; exact fun r1 H1 σ1 E1 S1 => q r1 H1 E1 rfl
  | rt v h1 => rw [e1] at q; exact q
  | bk s1 h1 => rw [e1] at q; exact q.elim
  | ct s1 h1 => rw [e1] at q; exact q.elim
  | ex c d s1 h1 => rw [e1] at q; exact fun r1 H1 σ1 E1 hd S1 => q r1 H1 E1 hd
  | no => rw [e1] at q; exact q.elim
end
/-- a def promised where an exception is handled -/
structure CalW (P : Program) (w : World) (K : PySem.W.Frag) (mg : Str → Option Value) (base : Heap) (G : Gm) (k : Nat) (f : Addr) (n : Nat) (fn : Fn) : Prop where
  ex : ∃ (fd : FuncData) (ps : List Str), FnW P w K mg base (L2.CX P w) k f fd ps (spz G n fn) ∧ PySem.W.keepIn K (.ref f) = true ∧ Binds K fd ps []
theorem CalW.mono {P : Program} {w : World} {K : PySem.W.Frag} {mg : Str → Option Value} {base : Heap} {G : Gm} {j k : Nat} {f : Addr} {n : Nat} {fn : Fn} (c : CalW P w K mg base G j f n fn) (h : j ≤ k) : CalW P w K mg base G k f n fn := by
  obtain ⟨fd, ps, F, kp, hb⟩ := c.ex
  exact ⟨fd, ps, F.mono h, kp, hb⟩
abbrev MOkW (X : Cx) (G : Gm) (j m n : Nat) (cs : Nat → Option Fn) : Prop := ∀ c fn, cs c = some fn → Cls X.K (G.ga c) ∧ ∃ f, Meth X.K (G.ga c) (G.nm m) f ∧ CalW X.prog X.w X.K X.mg X.base G j f n fn
section
variable {X : Cx} {G : Gm} {Wx : WX} {E : XK} {m j : Nat} {cs : Nat → Option Fn} {k : ZA} {e : PySem.Expr} {es : List PySem.Expr} {p pos : Pos}
theorem roomH_loop {n : Nat} {A : Around} {a : Args} (r : L2H.RoomH (n + 2) A) : L2H.RoomH n (A.in1.under (.builtin "list.__repr__.loop" a)) := ⟨by
    have := r.dp
    have e : (A.in1.under (.builtin "list.__repr__.loop" a)).depth ≤ A.depth + 1 := by first | exact Nat.le_refl _ | exact Nat.le_succ _ | simp [Around.under, Code.weight, Code.isCreation, Code.isGuard, Code.isCaller, Code.frames, Code.isFrame, guardIds]
    omega, by
    have := r.un
    rw [units_under_list_loop]
    show A.units + 1 + 1 + 16 * n + 200 < _
    omega⟩
theorem runs_warm (hc : MOkW X G j m 1 cs) (hr : L2H.RoomH (j + 2) X.A) (hh : ∃ p, p ∈ X.pn) (hm : G.nm m = "__repr__") : RunsR X G (fun _ _ _ => False) cs := by
  intro c fn e
  obtain ⟨cl, f, M, cal⟩ := hc c fn e
  obtain ⟨fd, ps, F, kp, hb⟩ := cal.ex
  refine ⟨f, hm ▸ M, fun σ H x Q hsp pins s a I => ?_⟩
  have e0 := I.env0
  have fr2 : (X.A.in1.under (.builtin "list.__repr__.loop" a)).frames = some X.stack := e0.frames
  have hl1 : [Value.ref x].length = ps.length := F.len _ _ _ _ hsp
  obtain ⟨p, hp⟩ := hh
  have P1 := I.pin p (List.mem_append_left _ hp)
  have hpin : L2H.PinOk X.stack H s p := ⟨P1.1, P1.2.1, fun hm => (List.mem_cons.mp (I.stkSub p.1 hm)).elim P1.2.2.1 P1.2.2.2.1, P1.2.2.2.2⟩
  refine wpAny_call (codeAny_mono (F.run _ X.stack _ H ⟨[.ref x], []⟩ [.ref x] [.ref x] _ (fun _ _ _ => False) p (roomH_loop hr) hpin ⟨fr2, e0.mod, e0.bs, e0.bsz, e0.funs, e0.frf, e0.hok, e0.bare⟩ (by have z := hb _ [.ref x] I.kIn (by simpa using hl1); simpa using z) (.cons rfl .nil) hsp) fun r s' hq => ?_)
  cases r with
  | error e => exact no_air pins σ H s e s' I hq
  | ok fl =>
    cases fl with
    | next => exact False.elim hq
    | brk => exact False.elim hq
    | cont => exact False.elim hq
    | ret u => exact I.after hq
theorem q_reprO (hgu : X.A.guards = some []) (hc : MOk X G j m 1 cs) (hr : Room (j + 2) X.A) (hp : PsE X Wx E) (hm : X.mg "repr" = none) (hb : bootBuiltins "repr" = some (.builtin "repr")) (ha : PA X (e :: es) (tzA G Wx k)) (hf : G.nm m = "__repr__" := by rfl) (hg : Gl X "repr" := by rfl)
    (he : starEach (e :: es) X.env = (false, eval e X.env) :: starEach es X.env := by rfl) (hpl : (backTo pos (starEach es X.env)).any (·.1) = false := by rfl) : PE X (.Call (.Name "repr" p) (e :: es) [] pos) (tz G Wx (zCall (opReprO cs) k)) :=
  PE.imp (pe_callB (callr_reprO hgu (by have := hr.un; omega) (runs_calm hc hr hp hf)) hg hm hb ha (by decide) (by decide) he hpl) (tz_cbE hp.im)
end

/-! ### suites -/
def El.z2 (cs : Nat → Option Fn) (el : El) (dn : Nat) (h : VH) : R W := match el with
  | .rep m => (match h.get dn with
    | some (.xd fs) => (match lookF m fs with
      | some v => opReprO cs [v] h
      | none => .no)
    | _ => .no)
  | el => (match el.z dn h with
    | some w => .ok w h
    | none => .no)
def elsZ2 (cs : Nat → Option Fn) (dn : Nat) : List El → VH → R (List W)
  | [], h => .ok [] h
  | el :: r, h => (match el.z2 cs dn h with
    | .ok w h1 => (match elsZ2 cs dn r h1 with
      | .ok ws h2 => .ok (w :: ws) h2
      | _ => .no)
    | _ => .no)
def zSuite2 (c0 : Nat) (cs : Nat → Option Fn) (els : List El) : ZSu := fun c dn _ h => if Nat.beq c c0 then (match elsZ2 cs dn els h with
  | .ok ws h1 => if ws.length ≤ line then .rt (.ref h1.n) (h1.push (.lst ws)) else .no
  | _ => .no) else .no
def tEl2 (G : Gm) (c0 i : Nat) (a : Addr) (cls : Value) (d : Option Addr) (cs : Nat → Option Fn) (el : El) : TE := fun σ H Q => ∃ r h dn, HRel G r h H ∧ InSu G c0 i a cls d r dn h σ ∧ RZ G W0 r h H σ Q (el.z2 cs dn h)
def tEls2 (G : Gm) (c0 i : Nat) (a : Addr) (cls : Value) (d : Option Addr) (cs : Nat → Option Fn) (els : List El) : TA := fun σ H Q => ∃ r h dn, HRel G r h H ∧ InSu G c0 i a cls d r dn h σ ∧ RZL G W0 r h H σ Q (elsZ2 cs dn els h)
section
variable {X : Cx} {G : Gm} {c0 i j m : Nat} {a : Addr} {cls : Value} {d : Option Addr} {oe : Obj} {pn : List (Addr × Obj)} {cs : Nat → Option Fn}
theorem InSu.ext {r r' : Rho} {dn : Nat} {h h' : VH} {H H' : Hp} {σ : L2.St} (x : InSu G c0 i a cls d r dn h σ) (e : Ext G r h H r' h' H') : InSu G c0 i a cls d r' dn h' σ :=
  ⟨x.1, x.2.1, by rw [e.agr dn x.2.2.2]; exact x.2.2.1, Nat.lt_of_lt_of_le x.2.2.2 e.le⟩
theorem el2_nil {Y : Cx} : PA Y [] (tEls2 G c0 i a cls d cs []) := PA.imp pa_nil fun σ H Q q => by
  obtain ⟨r, h, dn, HR, _, z⟩ := q
  exact z r H (Ext.refl HR) rfl
theorem el2_cons {Y : Cx} {e : PySem.Expr} {es : List PySem.Expr} {el : El} {els : List El} (h1 : PE Y e (tEl2 G c0 i a cls d cs el)) (h2 : PA Y es (tEls2 G c0 i a cls d cs els)) (hs : starEach (e :: es) Y.env = (false, eval e Y.env) :: starEach es Y.env) : PA Y (e :: es) (tEls2 G c0 i a cls d cs (el :: els)) := by
  refine PA.imp (pa_cons h1 h2 hs) fun σ H Q q => ?_
  obtain ⟨r, h, dn, HR, su, z⟩ := q
  refine ⟨r, h, dn, HR, su, ?_⟩
  unfold elsZ2 at z
  cases e1 : el.z2 cs dn h with
  | no => rw [e1] at z; exact z
  | ex c d h1 => rw [e1] at z; exact z.elim
  | ok w h1 =>
    rw [e1] at z
    simp only at z
    intro r1 H1 E1 w1
    refine ⟨r1, h1, dn, E1.rel, su.ext E1, ?_⟩
    cases e2 : elsZ2 cs dn els h1 with
    | no => rw [e2] at z; exact z
    | ex c d h1 => rw [e2] at z; exact z.elim
    | ok ws h2 =>
      rw [e2] at z
      simp only at z
      intro r2 H2 E2 w2
      have q := z r2 H2 (E1.trans E2) (by
        show (w.wf h2.n && wfs h2.n ws) = true
        rw [W.wf_le w1 E2.le, w2]; rfl)
      rw [← W.v_agr w1 E2.agr]
      exact q
theorem el_lift {Y : Cx} {e : PySem.Expr} {el : El} (p : PE Y e (tEl G c0 i a cls d el)) (hp : ∀ dn h, el.z2 cs dn h = (match el.z dn h with
    | some w => .ok w h
    | none => .no)) : PE Y e (tEl2 G c0 i a cls d cs el) := by
  refine PE.imp p fun σ H Q q => ?_
  obtain ⟨r, h, dn, HR, su, z⟩ := q
  rw [hp] at z
  cases e1 : el.z dn h with
  | none => rw [e1] at z; exact z.elim
  | some w => rw [e1] at z; exact ⟨r, h, dn, HR, su, w, e1, fun hw => z r H (Ext.refl HR) hw⟩
theorem el2_rep {e : PySem.Expr} (p : PE (X.suite a ((a, oe) :: pn)) e (tCB (rdL G (fun _ _ _ => False) (opReprO cs)) (tCons (tXf a cls d (G.ga c0) (G.nm m) (tVar i)) tNil))) : PE (X.suite a ((a, oe) :: pn)) e (tEl2 G c0 i a cls d cs (.rep m)) := by
  refine PE.imp p fun σ H Q q => ?_
  obtain ⟨r, h, dn, HR, ⟨s1, s2, s3, s4⟩, z⟩ := q
  have z : RZ G W0 r h H σ Q (match h.get dn with
    | some (.xd fs) => (match lookF m fs with
      | some v => opReprO cs [v] h
      | none => .no)
    | _ => .no) := z
  split at z
  · rename_i fs g
    cases q1 : lookF m fs with
    | none => rw [q1] at z; exact z.elim
    | some v =>
      rw [q1] at z
      simp only at z
      obtain ⟨x1, x2, x3⟩ := xd_at HR g q1
      refine ⟨.ref a, s1, rfl, s2, r dn, _, _, s3, x1, x2, r, h, [v], HR, ?_, rfl, RZ.re (fun _ _ _ z => z) z⟩
      show (v.wf h.n && true) = true
      rw [x3]; rfl
  · exact z.elim
theorem su2_ok {els : List El} {es : List PySem.Expr} {pos pos' : Pos} (p : PA (X.suite a ((a, oe) :: pn)) es (tEls2 G c0 i a cls d cs els)) :
    PSs (X.suite a ((a, oe) :: pn)) [.Return (some (.List es pos)) pos'] (tzSu i G (zSuite2 c0 cs els) a cls d) := by
  refine PSs.imp (pss_one (ps_ret (pe_lst p))) fun D σ H q => ?_
  obtain ⟨r, s, h, dn, c, S, HR, s1, s2, s3, s4, z⟩ := q
  unfold zSuite2 at z
  by_cases hc : Nat.beq c c0 = true
  · rw [if_pos hc] at z
    have ec := Nat.eq_of_beq_eq_true hc
    subst ec
    refine ⟨r, h, dn, HR, ⟨s1, s2, s3, s4⟩, ?_⟩
    cases e : elsZ2 cs dn els h with
    | no => rw [e] at z; exact z.elim
    | ex c d h1 => rw [e] at z; exact z.elim
    | ok ws h1 =>
      rw [e] at z
      simp only at z
      intro r1 H1 E1 w1
      by_cases hz : ws.length ≤ line
      · rw [if_pos hz] at z
        refine ⟨by rw [vsV, List.length_map]; exact line_le hz, fun l hl2 => ?_⟩
        exact new_lst (σ := σ) (Wx := W0) (Q := D.rt) E1.rel w1 (fun r' H' E' hw' => z r' H' (E1.trans E') hw') l hl2
      · rw [if_neg hz] at z; exact z.elim
  · rw [if_neg hc] at z; exact z.elim
theorem suq2 {els : List El} {sts : List Stmt} (hz : Zc cls d oe)
    (h : Zc (.ref (G.ga c0)) d oe → PSs (X.suite a ((a, oe) :: pn)) sts (tzSu i G (zSuite2 c0 cs els) a (.ref (G.ga c0)) d)) : PSs (X.suite a ((a, oe) :: pn)) sts (tzSu i G (zSuite2 c0 cs els) a cls d) := by
  by_cases hc : cls = .ref (G.ga c0)
  · subst hc
    exact h hz
  · refine PSs.imp pss_never fun D σ H q => ?_
    obtain ⟨r, s, hh, dn, c, S, HR, s1, s2, s3, s4, z⟩ := q
    unfold zSuite2 at z
    by_cases hb : Nat.beq c c0 = true
    · rw [Nat.eq_of_beq_eq_true hb] at s2
      exact hc s2
    · rw [if_neg hb] at z
      exact z
end
end Zd

namespace Zd
open PySem PySem.Spec PyProof.Rows L2

/-! ### a text a number of times -/
def repS (y : Str) (n : Nat) : Str := ⟨(List.replicate n y.cps).foldl (· ++ ·) #[]⟩
def rMulS : R2 := fun x y H Q => ∃ (t : Str) (n : Int), x = .str t ∧ y = .int n ∧ 2 ≤ n ∧ n ≤ 1000 ∧ 1 ≤ t.length ∧ t.length ≤ 1000 ∧ (repS t n.toNat).length ≤ sizeLine ∧ Q (.str (repS t n.toNat)) H
def opMulS : Op2 := fun a b h => match a, b with
  | .str t, .int n => if decide (2 ≤ n) && decide (n ≤ 1000) && (Nat.ble 1 t.length && Nat.ble t.length 1000 && Nat.ble (repS t n.toNat).length 100000) then .ok (.str (repS t n.toNat)) h else .no
  | _, _ => .no
section
variable {X : Cx} {G : Gm}
theorem op_mulS : OpR X (binaryOp .Mult) rMulS := by
  intro pins s σ H x y v u Q I rx ry h
  obtain ⟨t, n, rfl, rfl, h1, h2, h3, h4, h5, q⟩ := h
  obtain ⟨t1, rfl⟩ := rx
  obtain ⟨t2, rfl⟩ := ry
  have hn : (n == 1 || t.length == 0) = false := by
    rw [Bool.or_eq_false_iff]
    exact ⟨beq_false_of_ne (by omega), beq_false_of_ne (by omega)⟩
  have hl : t.length * n.toNat ≤ 1000000 := Nat.mul_le_mul h4 (by omega : n.toNat ≤ 1000)
  refine P.mul_str ?_ (fun _ _ => ?_) (fun _ _ => ?_) ?_
  · rw [decide_eq_false (by omega), decide_eq_false (by omega)]; rfl
  · have hd : (9007199254740991 : Int) ≤ (2 ^ 63 - 1) / n := (Int.le_ediv_iff_mul_le (by omega)).mpr (by omega)
    omega
  · unfold Builtin.Str.tooLong
    rw [sizeLine_eq]
    exact decide_eq_false (by omega)
  · rw [if_neg (by omega), hn]
    exact ⟨h5, .str (repS t n.toNat), H, I.tok _, ⟨_, rfl⟩, q⟩
theorem oz_mulS : OpZ G opMulS rMulS := by
  intro Wx r h H σ x y Q HR wx wy z
  unfold opMulS at z
  split at z
  · split at z
    · rename_i t n q
      simp only [Bool.and_eq_true, decide_eq_true_eq] at q
      obtain ⟨⟨q1, q2⟩, ⟨q3, q4⟩, q5⟩ := q
      exact ⟨t, n, rfl, rfl, q1, q2, Nat.le_of_ble_eq_true q3, Nat.le_of_ble_eq_true q4, by have := Nat.le_of_ble_eq_true q5; rw [sizeLine_eq]; omega, z r H (Ext.refl HR) rfl⟩
    · exact z.elim
  · exact z.elim
end

/-! ### f-strings -/
def zFR (f : ZE) : ZE := fun s h => match f s h with
  | .ok (.str y) h1 => if Nat.ble (reprText y).length 100000 then .ok (.str (reprText y)) h1 else .no
  | .ok (.int i) h1 => if Nat.ble i.natAbs 1000000 then .ok (.str (toString i)) h1 else .no
  | .ok _ _ => .no
  | .ex c d h1 => .ex c d h1
  | .no => .no
def zJ : List ZE → Str → ZE
  | [], acc => fun _ h => .ok (.str acc) h
  | f :: r, acc => fun s h => match f s h with
    | .ok (.str y) h1 => if Nat.ble (acc ++ y).length 100000 then zJ r (acc ++ y) s h1 else .no
    | .ok _ _ => .no
    | .ex c d h1 => .ex c d h1
    | .no => .no
section
variable {X : Cx} {G : Gm} {Wx : WX} {f : ZE} {e : PySem.Expr} {pos : Pos}
theorem z_fr (p : PE X e (tz G Wx f)) : PE X (.FormattedValue e 114 none pos) (tz G Wx (zFR f)) := by
  refine PE.imp (pe_fmtR p) fun σ H Q q => ?_
  obtain ⟨r, s, h, S, HR, z⟩ := q
  refine ⟨r, s, h, S, HR, ?_⟩
  unfold zFR at z
  cases e1 : f s h with
  | no => rw [e1] at z; exact z
  | ex c d h1 => rw [e1] at z; exact z
  | ok w h1 =>
    rw [e1] at z
    intro r1 H1 E1 w1
    cases w with
    | str y =>
      simp only at z
      split at z
      · rename_i q
        have := Nat.le_of_ble_eq_true q
        exact .inl ⟨y, rfl, by rw [sizeLine_eq]; omega, z r1 H1 E1 rfl⟩
      · exact z.elim
    | int i =>
      simp only at z
      split at z
      · rename_i q
        have := Nat.le_of_ble_eq_true q
        refine .inr ⟨i, rfl, ?_, z r1 H1 E1 rfl⟩
        by_cases h0 : i.natAbs = 0
        · rw [h0]; decide
        · exact Nat.lt_of_lt_of_le ((Nat.log2_lt h0).mpr (Nat.lt_of_le_of_lt this (by decide : 1000000 < 2 ^ 20))) (by decide)
      · exact z.elim
    | _ => exact z.elim
theorem tz_js : ∀ (fs : List ZE) (acc : Str) (σ : L2.St) (H : Hp) (Q : VK), tz G Wx (zJ fs acc) σ H Q → tJs (fs.map (tz G Wx)) acc σ H fun out H1 => Q (.str out) H1 := by
  intro fs
  induction fs with
  | nil =>
    intro acc σ H Q q
    obtain ⟨r, s, h, S, HR, z⟩ := q
    exact z r H (Ext.refl HR) rfl
  | cons f fs ih =>
    intro acc σ H Q q
    obtain ⟨r, s, h, S, HR, z⟩ := q
    refine ⟨r, s, h, S, HR, ?_⟩
    unfold zJ at z
    cases e1 : f s h with
    | no => rw [e1] at z; exact z
    | ex c d h1 => rw [e1] at z; exact z
    | ok w h1 =>
      rw [e1] at z
      intro r1 H1 E1 w1
      cases w with
      | str y =>
        simp only at z
        split at z
        · rename_i q
          have := Nat.le_of_ble_eq_true q
          exact ⟨y, rfl, by rw [sizeLine_eq]; omega, ih _ _ _ _ ⟨r1, s, h1, S.ext E1, E1.rel, RZ.seq E1 z⟩⟩
        · exact z.elim
      | _ => exact z.elim
theorem z_joined {v1 v2 : PySem.Expr} {rest : List PySem.Expr} {fs : List ZE} (p : PJ X (v1 :: v2 :: rest) (fs.map (tz G Wx))) : PE X (.JoinedStr (v1 :: v2 :: rest) pos) (tz G Wx (zJ fs Str.empty)) :=
  PE.imp (pe_joined p) fun σ H Q q => tz_js fs Str.empty σ H Q q
end
end Zd

namespace Zd
open PySem PySem.Spec PyProof.Rows L2 GenW

/-- the run's end: the exception leaves the frame; what is pinned stands -/
def EndR (P : Program) (w : World) (outer : List Env) (H : Hp) (s : Shared) (E : XK) (a : Addr) (g : Nat) (pl : List (Addr × Obj)) (e : Value) (s1 : Shared) : Prop := CX P w outer H s E e s1 ∧ s1.heap.IsGen a g ∧ ∀ p ∈ pl, s1.heap.get? p.1 = some p.2
abbrev GenEndR (P : Program) (w : World) (outer : List Env) (H : Hp) (s : Shared) (E : XK) (a : Addr) (g : Nat) (pl : List (Addr × Obj)) : GenEnd := fun _ _ r s1 => ((r = .ok (.ret .none) ∨ r = .ok .next) ∧ False) ∨ ∃ e, r = .error e ∧ EndR P w outer H s E a g pl e s1
abbrev NoY : Protocol := fun _ _ _ _ _ => False
/-- a generator that has not begun; its first step raises -/
def GMadeR (P : Program) (w : World) (k : Nat) (outer : List Env) (H : Hp) (s : Shared) (E : XK) (u : Value) (s' : Shared) : Prop :=
  ∃ (a : Addr) (g : Nat) (c : Code), u = .ref a ∧ s.heap.objs.size ≤ a ∧ a < s'.heap.objs.size ∧ s'.heap.IsGen a g ∧ s'.gens[g]? = some (.fresh c) ∧ s'.os = s.os ∧ AllBare s'.gens ∧ s'.heap.NoLimit ∧ (∀ b o, s.heap.get? b = some o → s'.heap.get? b = some o) ∧
    ∀ (A : Around) (pl : List (Addr × Obj)) (s2 : Shared), Room k A → A.frames = some outer → (∀ b o, s'.heap.get? b = some o → s2.heap.get? b = some o) → (∀ p ∈ pl, s2.heap.get? p.1 = some p.2 ∧ s'.heap.objs.size ≤ p.1 ∧ ∀ v, p.2.data ≠ .cell v) → s2.os = s.os → AllBare s2.gens →
      Seg (model P w) A (GenEndR P w outer H s E a g pl) NoY 0 s2 c ((model P w).den c) [] s2
structure GFnR (P : Program) (w : World) (K : PySem.W.Frag) (mg : Str → Option Value) (base : Heap) (k : Nat) (f : Addr) (fd : FuncData) (ps : List Str) (sp : Sp) : Prop where
  len : ∀ vs H Q E, sp vs H Q E → vs.length = ps.length
  run : ∀ (A : Around) (outer : List Env) (s : Shared) (H : Hp) (args : Args) (us : List Value) (vs : List V) (E : XK), Room k A → Env0 P w K mg base A outer s H → BindsTo s fd args (ps.zip us) → Vals vs us → sp vs H (fun _ _ => False) E →
    codeAny (model P w) A (.call (.ref f) args) (fun r s' => match r with | .ok (.ret u) => GMadeR P w k outer H s E u s' | _ => False) s
section
variable {P : Program} {w : World} {K : PySem.W.Frag} {mg : Str → Option Value} {base : Heap} {k : Nat} {f : Addr} {name qual : Str} {params : Arguments} {body : List Stmt} {scope : Scope} {dvs : List V} {kws : List (Str × V)} {fd : FuncData} {N ps : List Str} {sp : Sp}
theorem GFnR.mono {j : Nat} (F : GFnR P w K mg base j f fd ps sp) (h : j ≤ k) : GFnR P w K mg base k f fd ps sp := ⟨F.len, fun A outer s H args us vs E hr e0 hb r hsp => by
  refine codeAny_mono (F.run A outer s H args us vs E (hr.mono h) e0 hb r hsp) fun r s' hq => ?_
  cases r with
  | error e => exact hq
  | ok fl =>
    cases fl with
    | ret u =>
      obtain ⟨a, g, c, q1, q2, q3, q4, q5, q6, q7, q8, q9, wake⟩ := hq
      exact ⟨a, g, c, q1, q2, q3, q4, q5, q6, q7, q8, q9, fun A pl s2 hr2 => wake A pl s2 (hr2.mono h)⟩
    | next => exact hq
    | brk => exact hq
    | cont => exact hq⟩
/-- THE RULE: by its body, which raises -/
theorem gfnR_of (F : FunD K name qual params body scope dvs kws f fd) (S : GScope N ps scope) (len : ∀ vs H Q E, sp vs H Q E → vs.length = ps.length)
    (hbody : ∀ (cdv : Value) (A : Around) (outer : List Env) (s : Shared) (H : Hp) (vs : List V) (E : XK) (pn : List (Addr × Obj)), Room k (A.deeper (envOfC qual scope s.heap.objs.size f cdv)) → sp vs H (fun _ _ => False) E →
      ∃ t, PSs (gcxOf P w K mg base N qual scope f cdv A outer s H E pn) body t ∧ t { nx := fun _ _ => False, rt := fun _ _ => False } (L2.start N vs) H) :
    GFnR P w K mg base (k + 1) f fd ps sp := by
  obtain ⟨o1, o2, dV, kV, doc, pm, an, cdv, ct, sl, rfl, lk, hcd, _, _⟩ := F.ex
  refine ⟨len, fun A outer s H args us vs E hr e0 hb r hsp => ?_⟩
  have hl := len _ _ _ _ hsp
  have inK : K.In s.heap := e0.mod.kin.keeps fun b o e => (e0.bs b o e).1
  have lim : s.heap.NoLimit := e0.mod.nolimit.keeps fun b o e => (e0.bs b o e).1
  refine codeAny_call_generator hr.depth (inK _ _ lk) rfl S.co S.gen rfl (PySem.W.codeRec_of inK hcd) (hb _ _ _ _ ?_)
  refine wpAny_newFunctionEnv_cells S.kind (fun y hy => ?_) fun env he s1 x => ?_
  · obtain ⟨n, v⟩ := y
    rcases S.par n (List.of_mem_zip hy).1 with q | q
    · exact .inl q
    · exact .inr ⟨q, PySem.W.cellsFrom_some _ _ _ (.inl q)⟩
  subst he
  have lim1 : s1.heap.NoLimit := lim.keeps x.toInCall.keep
  refine ⟨lim1, ?_⟩
  obtain ⟨h1, tk, es1, hk1⟩ := x.done
  have os1 : s1.os = s.os := by rw [es1]
  have gen1 : s1.gens = s.gens := by rw [es1]
  have lt1 : s.heap.objs.size < s1.heap.objs.size := x.toInCall.ns.lt
  have sz1 := Nat.le_of_lt lt1
  have kp1 := x.toInCall.keep
  have main : ∀ (go : Obj) (nm qn : Value) (tk2 : Nat), go.cls = .type "generator" → go.data = .fields #[.int s1.gens.size 0, nm, qn] → go.slots = #[] → (∀ h : Heap, (h.push go).get? h.objs.size = some go) →
      GMadeR P w (k + 1) outer H s E (.ref s1.heap.objs.size) { s1 with gens := s1.gens.push (.fresh (.func body (envOfC qual scope s.heap.objs.size f cdv))), toks := tk2, heap := s1.heap.push go } := by
    intro go nm qn tk2 hgc hgd0 hgs hgp
    have hgen : ∀ h : Heap, h.get? s1.heap.objs.size = some go → h.IsGen s1.heap.objs.size s1.gens.size := fun h e => ⟨go, nm, qn, e, hgc, hgd0, hgs⟩
    have hpushed := hgp s1.heap
    refine ⟨s1.heap.objs.size, s1.gens.size, _, rfl, sz1, ?_, hgen _ hpushed, Array.getElem?_push_size .., os1, ?_, lim1.keeps fun b o e => Heap.get?_push_of_some _ e, fun b o e => Heap.get?_push_of_some _ (kp1 b o e), ?_⟩
    · show _ < (s1.heap.push _).objs.size
      rw [Heap.size_push]; exact Nat.lt_succ_self _
    · exact AllBare.push (by rw [gen1]; exact e0.bare) rfl
    intro Aw pl s2 hrw hfr hk2 hpl hos hba
    have e0w : Env0 P w K mg base Aw outer s H := ⟨hfr, e0.mod, e0.bs, e0.bsz, e0.funs, e0.frf, e0.hok, e0.bare⟩
    obtain ⟨t, ht, hq⟩ := hbody cdv Aw outer s H vs E ((s1.heap.objs.size, go) :: pl) (hrw.deeper _) hsp
    have I1 := inv_startG (E := E) S hrw.hd e0w hl r x
    have kp2 : ∀ b o, s1.heap.get? b = some o → s2.heap.get? b = some o := fun b o e => hk2 b o (Heap.get?_push_of_some _ e)
    have I2 : Inv (gcxOf P w K mg base N qual scope f cdv Aw outer s H E []) [] (L2.start N vs) H s2 :=
      I1.call' (ch := []) (hos.trans os1.symm) (Un.kept kp2) (I1.hok.kept kp2) hba fun b z => by simp at z
    have young : ∀ b, s1.heap.objs.size ≤ b → H b = none ∧ b ≠ s.heap.objs.size ∧ b ∉ frs outer := fun b hb => ⟨I1.hok.fresh hb, Nat.ne_of_gt (Nat.lt_of_lt_of_le lt1 hb), I1.nofs hb⟩
    have I3 : Inv (gcxOf P w K mg base N qual scope f cdv Aw outer s H E ((s1.heap.objs.size, go) :: pl)) [] (L2.start N vs) H s2 := by
      refine Inv.pinnedG I2 fun p hp => ?_
      rw [List.append_nil] at hp
      rcases List.mem_cons.mp hp with z | z
      · obtain ⟨y1, y2, y3⟩ := young s1.heap.objs.size (Nat.le_refl _)
        rw [z]
        exact ⟨hk2 _ go hpushed, y1, y2, y3, fun v q => by rw [hgd0] at q; cases q⟩
      · obtain ⟨q1, q2, q3⟩ := hpl p z
        have q2 : (s1.heap.push go).objs.size ≤ p.1 := q2
        rw [Heap.size_push] at q2
        obtain ⟨y1, y2, y3⟩ := young p.1 (by omega)
        exact ⟨q1, y1, y2, y3, q3⟩
    refine seg_func (seg_wrap ?_)
    rw [over_func]
    refine wpAny_mono (ht.run [] s2 (L2.start N vs) H _ I3 hq) (fun fl s' hs => ?_) fun e s' hx => ?_
    · cases fl with
      | next => obtain ⟨_, _, _, q⟩ := hs; exact q.elim
      | brk => obtain ⟨_, _, _, q⟩ := hs; exact q.elim
      | cont => obtain ⟨_, _, _, q⟩ := hs; exact q.elim
      | ret u => obtain ⟨_, _, _, _, _, q⟩ := hs; exact q.elim
    · refine seg_wrap ?_
      rw [over_func]
      refine wpAny_mono (show wpAny (model P w) (Aw.deeper (envOfC qual scope s.heap.objs.size f cdv)) (leaving (envOfC qual scope s.heap.objs.size f cdv) e) (fun _ s'' => CX P w outer H s E e s'' ∧ ∀ p ∈ (s1.heap.objs.size, go) :: pl, s''.heap.get? p.1 = some p.2) (fun _ _ => False) s' from hx) (fun _ s'' q => ?_) fun _ _ q => q.elim
      exact seg_end (.error e) (.inr ⟨e, rfl, q.1, hgen _ (q.2 _ List.mem_cons_self), fun p hp => q.2 p (List.mem_cons_of_mem _ hp)⟩)
  exact main _ _ _ _ rfl rfl rfl fun h => Heap.get?_push_size _ rfl
end
end Zd

namespace Zd
open PySem PySem.Spec PyProof.Rows L2 GenW

section
variable {M : Model} {A : Around} {E : Value → Shared → Prop}
/-- no name of the block is bound: nothing is let go -/
theorem letGo_none {cenv : Env} {cellsOf : List (Str × NameKind) → List Value} {Q : Unit → Shared → Prop} {s : Shared} (hn : s.heap.Ns cenv.locals fun _ => none) (q : Q () s) : ∀ vs : List (Str × NameKind), wpAny M A (comprehension.letGo cenv cellsOf vs) Q E s := by
  intro vs
  induction vs with
  | nil => exact wpAny_pure q
  | cons x r ih =>
    obtain ⟨n, k⟩ := x
    rw [comprehension.letGo]
    refine wpAny_bind (wpAny_holding ?_)
    cases hk : (k == NameKind.local) with
    | true =>
      rw [if_pos rfl]
      refine wpAny_bind (wpAny_nsGet hn ?_)
      rw [if_neg (by simp)]
      exact wpAny_pure ih
    | false =>
      rw [if_neg (by simp)]
      exact wpAny_point ih
/-- a comprehension whose loop raises before a name is bound -/
theorem comp_raises {env : Env} {s : Shared} {e : PySem.Expr} {scope : Scope} {pos : Pos} {newAcc first : Sem Value} {g : Comprehension} {gs : List Comprehension} {cl : List (Str × Addr)} {Q : Value → Shared → Prop}
    (hcl : clausesOf e = g :: gs) (hs : ∀ x, foldedSetIterable g.iter env x = pure x) (hclos : closureFor scope env = pure cl)
    (h : wpAny M A first (fun x s1 => wpAny M A (pyIter x) (fun it s2 => wpAny M A newAcc (fun acc s3 => wpAny M A (newFunctionEnv scope env.globals cl [] env.qual none .none (some env)) (fun cenv s4 =>
      codeAny M A (.compStart e 0 it acc { cenv with scope := relabel scope env }) (fun r s' => ∃ x, r = .error x ∧ s'.heap.Ns cenv.locals (fun _ => none) ∧ wpAny M A (passOn "comprehension.variables-let-go" x { cenv with scope := relabel scope env } : Sem Value) (fun _ _ => False) E s') s4) E s3) E s2) E s1) E s) :
    wpAny M A (comprehension e scope env pos newAcc false first none) Q E s := by
  unfold comprehension
  rw [hclos, hcl]
  refine wpAny_bind (wpAny_mono h (fun x s1 h1 => ?_) fun _ _ z => z)
  refine wpAny_bind (wpAny_standAt (wpAny_bind (wpAny_of_eq (hs x) (wpAny_bind (wpAny_holding (wpAny_mono h1 (fun it s2 h2 => ?_) fun _ _ z => z))))))
  refine wpAny_standIf (wpAny_bind (wpAny_mono h2 (fun acc s3 h3 => ?_) fun _ _ z => z))
  refine wpAny_bind (wpAny_pure (wpAny_bind (wpAny_mono h3 (fun cenv s4 h4 => ?_) fun _ _ z => z)))
  dsimp only
  refine wpAny_holding (wpAny_bind (wpAny_attempt (wpAny_holding (wpAny_run (codeAny_mono h4 fun r s' hr => ?_)))))
  obtain ⟨x, rfl, hn, hp⟩ := hr
  exact wpAny_bind (wpAny_holding (letGo_none (cenv := { cenv with scope := relabel scope env }) hn (wpAny_mono hp (fun _ _ f => f.elim) fun _ _ z => z) _))
end

section
variable {X : Cx} {Wx : WX} {pins : List (Addr × Obj)} {σ : L2.St} {H : Hp} {sc s' : Shared} {E : XK} {ce : Env} {e : Value} {m : Str → Option Value}
/-- out of a call within the block: the def's own frame holds it -/
theorem comp_out (tk : Takes X Wx) (I : Inv X pins σ H sc) (hs : X.stack = X.env :: X.outer) (hf : X.env.frame = some X.env.locals) (hcf : ce.frame = X.env.frame) (hW : ∀ cls d H', E cls d H' → Wx cls d σ H') (c : CX X.prog X.w X.stack H sc E e s') (hn : s'.heap.Ns ce.locals m) :
    wpAny (model X.prog X.w) X.A (noteFrame e ce) (fun _ s2 => s2.heap.Ns ce.locals m ∧ wpAny (model X.prog X.w) X.A (passOn "comprehension.variables-let-go" e ce : Sem Value) (fun _ _ => False) X.xe s2) (fun _ _ => False) s' := by
  obtain ⟨a, B, sI, pins', σ', H', cls, d, rfl, I', nb, up, sky, na, os, ag, w⟩ := XE.of_call I hW c
  have hfr : X.A.frames = some (X.env :: X.outer) := by rw [I.ok.frames, hs]
  rw [noteFrame_env _ hcf]
  have fin : ∀ h', HandSPX.HeldZ B (X.env :: X.outer) a (Zc cls d) X.env.locals h' → s'.heap.UpToSlots h' → (h'.Ns ce.locals m ∧ wpAny (model X.prog X.w) X.A (passOn "comprehension.variables-let-go" (.ref a) ce : Sem Value) (fun _ _ => False) X.xe { s' with heap := h' }) := fun h' hh k => by
    refine ⟨Heap.UpToSlots.ns k hn, ?_⟩
    obtain ⟨oe, vs, T, oT, ts, he, hz, hd, h1, r⟩ := hh.2.2.2
    unfold PySem.passOn
    refine wpAny_bind (wpAny_field he hd h1 ?_)
    rw [if_neg (show ¬ ((Value.ref T == Value.none) = true) from by simp)]
    rw [hcf, hf]
    refine wpAny_bind (HandSPX.setFlight_onZ hh fun h2 hh2 k2 => wpAny_throw ?_)
    refine tk _ _ ⟨a, B, sI, pins', σ', H', cls, d, rfl, I', nb, up.trans (k.trans k2), .inr (.inr ?_), na, os, ag, w⟩
    rw [hs]
    exact hh2
  rw [hs] at sky
  rcases sky with ⟨hB, hnn, hl, oe, vs, he, hz, hd, h1⟩ | fl | hd
  · exact HandSPX.look_newZ Zc.steady hfr hl hf he hB hnn hd h1 hz fin
  · exact HandSPX.looks_onZ Zc.steady hfr hf fl fin
  · exact HandSPX.againZ hf hd.2.2.2 (fin s'.heap hd (Heap.UpToSlots.refl _))
end

section
variable {X : Cx} {Wx : WX} {k : Nat} {f : Addr} {fd : FuncData} {ps : List Str} {sp : Sp} {dvs : List V} {ds : List Value} {x : Str} {p pos pos' : Pos} {e elt tg : PySem.Expr} {es ifs : List PySem.Expr} {scope : Scope} {t : TA} {E : L2.St → XK}
/-- the call: a generator that has not begun -/
theorem run_gfnR {pins : List (Addr × Obj)} {σ : L2.St} {H : Hp} {s : Shared} {us : List Value} {vs : List V} {EE : XK} {E1 : Value → Shared → Prop} (F : GFnR X.prog X.w X.K X.mg X.base k f fd ps sp) (hr : Room k X.A) (hb : Binds X.K fd ps ds) (hd : Vals dvs ds)
    (I : Inv X pins σ H s) (r : Vals vs us) (h : sp (vs ++ dvs) H (fun _ _ => False) EE) :
    wpAny (model X.prog X.w) X.A (call (.ref f) us) (fun u s' => ∃ H1 sc, Inv X pins σ H1 sc ∧ GMadeR X.prog X.w k X.stack H1 sc EE u s') E1 s := by
  have r2 : Vals (vs ++ dvs) (us ++ ds) := r.append hd
  have hl2 : (us ++ ds).length = ps.length := by rw [← r2.length]; exact F.len _ _ _ _ h
  refine wpAny_call (codeAny_mono (F.run X.A X.stack s H ⟨us, []⟩ (us ++ ds) (vs ++ dvs) EE hr I.env0 (hb s us I.kIn hl2) r2 h) fun r s' hq => ?_)
  cases r with
  | error e => exact False.elim hq
  | ok fl =>
    cases fl with
    | ret u => exact ⟨H, s, I, hq⟩
    | next => exact False.elim hq
    | brk => exact False.elim hq
    | cont => exact False.elim hq
theorem pe_lcGen (F : GFnR X.prog X.w X.K X.mg X.base k f fd ps sp) (hr : Room (k + 1) X.A) (hg : Gl X x) (hm : X.mg x = some (.ref f)) (hk : PySem.W.keepIn X.K (.ref f) = true) (hb : Binds X.K fd ps ds) (hd : Vals dvs ds) (ha : PA X (e :: es) t)
    (tk : Takes X Wx) (hs : X.stack = X.env :: X.outer) (hf : X.env.frame = some X.env.locals) (hW : ∀ σ cls d H', E σ cls d H' → Wx cls d σ H') (hns : ∀ σ, NoStop X.K (E σ)) (hfree : ∀ y ∈ scope.names, y.2 ≠ .free)
    (hdb : (x == ("__debug__" : Str)) = false) (he : starEach (e :: es) X.env = (false, eval e X.env) :: starEach es X.env) (hpl : (backTo pos' (starEach es X.env)).any (·.1) = false)
    (hfs : ∀ v, foldedSetIterable (.Call (.Name x p) (e :: es) [] pos') X.env v = pure v) :
    PE X (.ListComp elt [⟨tg, .Call (.Name x p) (e :: es) [] pos', ifs, 0⟩] scope pos) (fun σ H _ => t σ H fun vs H1 => sp (vs ++ dvs) H1 (fun _ _ => False) (E σ)) := by
  refine ⟨fun pins s σ H Q I h => ?_⟩
  rw [eval_ListComp]
  refine comp_raises rfl hfs (closure_ok fun y hy z => absurd z (hfree y hy)) ?_
  have ev : wpAny (model X.prog X.w) X.A (eval (.Call (.Name x p) (e :: es) [] pos') X.env) (fun u s' => ∃ H1 sc, Inv X pins σ H1 sc ∧ GMadeR X.prog X.w k X.stack H1 sc (E σ) u s') X.xe s := by
    refine wpAny_Call_Name_kw (ld_glob I hg hm ?_ hdb)
    refine PySem.W.callWith_K (h₀ := X.base) I.ok.mod.kin hk (thn (ha.run pos' pins s σ H _ I h) fun us s1 ⟨vs, H1, I1, r, q⟩ => ⟨I1.kIn, ?_⟩) he hpl
    exact run_gfnR F (hr.mono (Nat.le_succ _)) hb hd I1 r q
  refine wpAny_mono ev (fun u s1 hu => ?_) fun _ _ z => z
  obtain ⟨H1, sc, I1, a, g, c, rfl, ha1, ha2, hgn, hgs, hos, hba, hl, hkp, wake⟩ := hu
  refine wpAny_pyIter_gen hgn ?_
  refine wpAny_newObj_type (newEnv_comp ?_) (by show 0 ≤ sizeLine; decide)
  generalize hs3 : ({ s1 with heap := s1.heap.push { cls := .type "list", data := .seq ([] : List Value).toArray } } : Shared) = s3
  have h3 : s3.heap = s1.heap.push { cls := .type "list", data := .seq ([] : List Value).toArray } := by rw [← hs3]
  show codeAny _ _ (.compStart _ 0 (.ref a) _ (compEnvC scope (cellsFrom (s3.heap.objs.size + 1) scope.names (cloFrom X.env.cells scope.names [])) s3.heap.objs.size X.env)) _ { s3 with heap := pushCells (s3.heap.push { cls := .type "dict", data := .dict #[] }) scope.names }
  have gC : (pushCells (s3.heap.push { cls := .type "dict", data := .dict #[] }) scope.names).get? s3.heap.objs.size = some { cls := .type "dict", data := .dict #[] } := pushCells_keeps _ _ _ _ (Heap.get?_push_size _ rfl)
  have k4 : ∀ b o, s1.heap.get? b = some o → (pushCells (s3.heap.push { cls := .type "dict", data := .dict #[] }) scope.names).get? b = some o := fun b o z => pushCells_keeps _ _ _ _ (Heap.get?_push_of_some _ (by rw [h3]; exact Heap.get?_push_of_some _ z))
  have sz3 : s1.heap.objs.size ≤ s3.heap.objs.size := by rw [h3, Heap.size_push]; exact Nat.le_succ _
  generalize hce : compEnvC scope (cellsFrom (s3.heap.objs.size + 1) scope.names (cloFrom X.env.cells scope.names [])) s3.heap.objs.size X.env = ce
  have cL : ce.locals = s3.heap.objs.size := by subst hce; rfl
  have cF : ce.frame = X.env.frame := by subst hce; rfl
  generalize hs4 : ({ s3 with heap := pushCells (s3.heap.push { cls := .type "dict", data := .dict #[] }) scope.names } : Shared) = s4
  have h4 : s4.heap = pushCells (s3.heap.push { cls := .type "dict", data := .dict #[] }) scope.names := by rw [← hs4]
  have g4 : s4.gens = s1.gens := by rw [← hs4, ← hs3]
  have o4 : s4.os = s1.os := by rw [← hs4, ← hs3]
  rw [← h4] at gC k4
  refine codeAny_compStart_list ?loop (wpAny_pyIter_gen (hgn.keeps k4) ?loop)
  refine compLoop_any (fun _ s5 => s5 = s4) (fun n s5 e5 => ?_) 0 rfl
  subst e5
  have kin0 := I1.ok.mod.kin
  refine next_genG (F := fun _ _ _ => False) (Er := EndR X.prog X.w X.stack H1 sc (E σ) a g [(s3.heap.objs.size, { cls := .type "dict", data := .dict #[] })]) (Y := NoY) (n := 0) (gs := .fresh c) hr.hd (hl.keeps k4) (by have := hr.dp; omega) (hgn.keeps k4) (by rw [g4]; exact hgs)
    ⟨rfl, wake X.A.in1 _ (s5.setGen g .running) (Room.in1 hr) I1.ok.frames k4 (fun q hq => ?_) (o4.trans hos) (allBare_setGen (by rw [g4]; exact hba) rfl)⟩ (fun _ _ _ _ z => z.elim) (fun _ z => z.elim) fun er s6 he6 => ?_
  · rw [List.mem_singleton.mp hq]
    exact ⟨gC, sz3, fun v z => by cases z⟩
  · obtain ⟨hc, hg6, hp6⟩ := he6
    have gC6 := hp6 _ (List.mem_singleton.mpr rfl)
    have kin : X.K.In s6.heap := by
      obtain ⟨a', B, H', cls, d, _, fl, _, ub, _⟩ := id hc
      refine kin0.keeps fun b o eb => fl.1 b o (ub.keep b o (I1.bs b o eb).1 (I1.bs b o eb).2 fun hmm => ?_)
      rcases List.mem_cons.mp (I1.stkSub b hmm) with z | z
      · have h1 := Heap.lt_size eb
        have h2 := Nat.le_trans I1.ok.bsz I1.ok.above
        rw [z] at h1
        exact absurd (Nat.lt_of_lt_of_le h1 h2) (Nat.lt_irrefl _)
      · exact I1.ok.nofr eb z
    refine ⟨hg6, notStop_of (hns σ) kin hc, ?_⟩
    have hc2 : CX X.prog X.w X.stack H1 sc (E σ) er (s6.setGen g .finished) := by
      obtain ⟨a', B, H', cls, d, z1, fl, z2, ub, z3, z4, z5, z6⟩ := hc
      exact ⟨a', B, H', cls, d, z1, fl, z2, ub, z3, z4, allBare_setGen z5 rfl, z6⟩
    have hn6 : (s6.setGen g .finished).heap.Ns ce.locals fun _ => none := by
      rw [cL]
      exact ⟨_, _, _, gC6, rfl, fun q hq => by simp at hq, fun nm => rfl⟩
    show wpAny _ _ (noteFrame er ce) _ _ _
    refine wpAny_mono (comp_out tk I1 hs hf cF (hW σ) hc2 hn6) (fun _ s7 ⟨n7, q7⟩ => ⟨er, rfl, ?_, ?_⟩) fun _ _ z => z.elim
    · rw [cL] at n7; exact n7
    · rw [← hce] at q7; exact q7
end
end Zd

namespace Zd
open PySem PySem.Spec PyProof.Rows L2 GenW

section
variable {P : Program} {w : World} {K : PySem.W.Frag} {mg : Str → Option Value} {base : Heap} {k : Nat} {f : Addr} {name qual : Str} {params : Arguments} {body : List Stmt} {scope : Scope} {dvs : List V} {kws : List (Str × V)} {fd : FuncData} {N ps : List Str}
theorem def_okGR {G : Gm} {z : ZS} (F : FunD K name qual params body scope dvs kws f fd) (S : GScope N ps scope) (hl : ps.length ≤ N.length)
    (hb : ∀ (cdv : Value) (A : Around) (outer : List Env) (s : Shared) (H : Hp) (E : XK) (pn : List (Addr × Obj)), Room k (A.deeper (envOfC qual scope s.heap.objs.size f cdv)) → PSs (gcxOf P w K mg base N qual scope f cdv A outer s H E pn) body (tzS G (WofE E) z)) :
    GFnR P w K mg base (k + 1) f fd ps (spz G ps.length (zDef N.length z)) := by
  refine gfnR_of F S (fun vs H Q E h => spz_len vs H Q E h) fun cdv A outer s H vs E pn hr hsp => ⟨_, hb cdv A outer s H E pn hr, ?_⟩
  obtain ⟨r, ws, h, rfl, e, hw, HR, q⟩ := hsp
  refine ⟨r, startZ N.length ws, h, start_rel hw (by rw [e]; exact hl), HR, ?_⟩
  unfold zDef at q
  cases e1 : z (startZ N.length ws) h with
  | nx s1 h1 => rw [e1] at q; exact fun r1 H1 σ1 E1 S1 => q r1 H1 E1 rfl
  | rt v h1 => rw [e1] at q; exact fun r1 H1 E1 hw => q r1 H1 E1 hw
  | bk s1 h1 => rw [e1] at q; exact q.elim
  | ct s1 h1 => rw [e1] at q; exact q.elim
  | ex c d s1 h1 => rw [e1] at q; exact fun r1 H1 σ1 E1 hd S1 => q r1 H1 E1 hd
  | no => rw [e1] at q; exact q.elim
end
structure CalGR (P : Program) (w : World) (K : PySem.W.Frag) (mg : Str → Option Value) (base : Heap) (G : Gm) (k : Nat) (f : Addr) (n : Nat) (ds : List W) (fn : Fn) : Prop where
  ex : ∃ (fd : FuncData) (ps : List Str) (us : List Value) (dvs : List V), GFnR P w K mg base k f fd ps (spz G n fn) ∧ PySem.W.keepIn K (.ref f) = true ∧ Binds K fd ps us ∧ Vals dvs us ∧ (∀ r, vsV G r ds = dvs) ∧ consts ds = true
/-- [.. for x in g(..)] that raises at g's first step; ok: exceptions that end no iterator -/
def zGen (ok : Nat → Bool) (n : Nat) (fn : Fn) (ds : List W) (k : ZA) : ZE := fun s h => match k s h with
  | .ok ws h1 => if Nat.beq (ws.length + ds.length) n then (match fn (ws ++ ds) h1 with
    | .ex c d h2 => if ok c then .ex c d h2 else .no
    | _ => .no) else .no
  | .ex c d h1 => .ex c d h1
  | .no => .no
section
variable {X : Cx} {G : Gm} {Wx : WX} {k : ZA} {j n : Nat} {f : Addr} {fn : Fn} {ds : List W} {ok : Nat → Bool} {x : Str} {p pos pos' : Pos} {e elt tg : PySem.Expr} {es ifs : List PySem.Expr} {scope : Scope}
theorem z_gen (cl : CalGR X.prog X.w X.K X.mg X.base G j f n ds fn) (hok : ∀ c, ok c = true → PySem.W.subIn X.K (.ref (G.ga c)) (.type "StopIteration") = some false) (hr : Room (j + 1) X.A) (tk : Takes X Wx) (hs : X.stack = X.env :: X.outer) (hf : X.env.frame = some X.env.locals)
    (hm : X.mg x = some (.ref f)) (ha : PA X (e :: es) (tzA G Wx k)) (hfree : ∀ y ∈ scope.names, y.2 ≠ .free) (hg : Gl X x := by rfl) (hdb : (x == ("__debug__" : Str)) = false := by decide)
    (he : starEach (e :: es) X.env = (false, eval e X.env) :: starEach es X.env := by rfl) (hpl : (backTo pos' (starEach es X.env)).any (·.1) = false := by rfl) (hfs : ∀ v, foldedSetIterable (.Call (.Name x p) (e :: es) [] pos') X.env v = pure v := by intro _; rfl) :
    PE X (.ListComp elt [⟨tg, .Call (.Name x p) (e :: es) [] pos', ifs, 0⟩] scope pos) (tz G Wx (zGen ok n fn ds k)) := by
  obtain ⟨fd, ps, us, dvs, F, kp, hb, hv, hd, hc⟩ := cl.ex
  refine PE.imp (pe_lcGen (E := fun σ cls d H => PySem.W.subIn X.K cls (.type "StopIteration") = some false ∧ Wx cls d σ H) F hr hg hm kp hb hv ha tk hs hf (fun σ cls d H' z => z.2) (fun σ cls d H z => z.1) hfree hdb he hpl hfs) fun σ H Q q => ?_
  obtain ⟨r, s, h, S, HR, z⟩ := q
  refine ⟨r, s, h, S, HR, ?_⟩
  unfold zGen at z
  cases e1 : k s h with
  | no => rw [e1] at z; exact z
  | ex c d h1 => rw [e1] at z; exact z
  | ok ws h1 =>
    simp only [e1] at z
    intro r1 H1 E1 w1
    have wd := consts_wf h1.n hc
    split at z
    · rename_i hn
      have hn := Nat.eq_of_beq_eq_true hn
      refine ⟨r1, ws ++ ds, h1, ?_, by rw [List.length_append]; exact hn, wfs_append w1 wd, E1.rel, ?_⟩
      · rw [show vsV G r1 (ws ++ ds) = vsV G r1 ws ++ vsV G r1 ds from List.map_append, hd r1]
      · split at z
        · rename_i c d h2 e2
          split at z
          · rename_i hk
            rw [e2]
            exact fun r2 H2 E2 hd2 => ⟨hok c hk, z r2 H2 (E1.trans E2) hd2⟩
          · exact z.elim
        · exact z.elim
    · exact z.elim
theorem q_call0 {E : XK} (cl : Cal X.prog X.w X.K X.mg X.base G j f n fn) (hr : Room j X.A) (hp : PsE X Wx E) (hm : X.mg x = some (.ref f)) (hg : Gl X x := by rfl) (hdb : (x == ("__debug__" : Str)) = false := by decide) :
    PE X (.Call (.Name x p) [] [] pos) (tz G Wx (zFn n fn [] zNil)) := by
  obtain ⟨fd, ps, F, kp, hb⟩ := cl.ex
  exact z_fn0 hp.im (pe_call0 F hr hg hm kp hb .nil hp.to hdb)
end
end Zd

namespace Zd
open PySem PySem.Spec PyProof.Rows L2 NdefX

/-- the program's file and top -/
structure PFile (P : Program) (file : Str) : Prop where
  file : ((P.main.file : Str) == file) = true
  top : (P.main.scope.names.lookup ("super" : Str)).isSome = false
section
variable {P : Program} {K : PySem.W.Frag} {C B m file x0 : Str} {d : Df} {fd : FuncData} {cc : Addr} {ar : Arg}
theorem supB_ok (po : PFile P file) (F : d.Fn K [(("__class__" : Str), cc)] fd) (h : supB file C m K = true) (hl : d.loc = .mth C m) (ha : ((defArgs d.st).posonlyargs ++ (defArgs d.st).args).head? = some ar) (hx : ar.arg = x0) :
    ∃ (cda : Addr) (ct oc : Value) (od : Option Addr) (osl : Array (Option Value)) (dV kV doc pm : Value) (an : Option Addr), fd = PySem.W.fnX d.name d.qual (defArgs d.st) (defBody d.st) (defScope d.st) [(("__class__" : Str), cc)] dV kV doc pm an (.ref cda) ct ∧ K.lookup (d.loc.ad K) = some (⟨oc, od, .func fd, osl⟩ : Obj) ∧
      PySem.W.codeIn K (.ref cda) d.qual = true ∧ DflV K dV (d.dvs K) ∧ SupD P K (d.loc.ad K) cda cc (He.ga K C) x0 := by
  obtain ⟨oc, od, osl, dV, kV, doc, pm, an, cdv, ct, rfl, lk, hcd, hD, hK⟩ := F.ex
  unfold supB at h
  rw [Bool.and_eq_true, Bool.and_eq_true] at h
  obtain ⟨⟨h1, h2⟩, h3⟩ := h
  have el : d.loc.ad K = He.ma K (He.ga K C) m := by rw [hl]; rfl
  rw [← el, lk] at h1
  dsimp only at h1
  split at h1
  · rename_i yv sx c1 ca e1
    have ec : cc = c1 := congrArg Prod.snd (List.cons.inj e1).1
    subst ec
    rw [Bool.and_eq_true] at h1
    obtain ⟨g1, g2⟩ := h1
    split at g1
    · rename_i a1 a2 D a3 lcell
      have g1 := beq_iff_eq.mp g1
      subst g1
      split at g2
      · rename_i b1 b2 vs b3 lcode
        split at g2
        · rename_i fl tf evs
          have g2 := of_decide_eq_true g2
          subst g2
          exact ⟨ca, ct, oc, od, osl, dV, kV, doc, pm, an, rfl, lk, hcd, hD, ⟨⟨_, _, _, _, ar, lk, ha, hx⟩, ⟨_, _, _, _, _, tf, lcode, evs, po.file⟩, ⟨_, _, _, lcell⟩, h2, po.top, of_decide_eq_true h3⟩⟩
        · cases g2
      · cases g2
    · cases g1
  · cases h1
theorem supC_ok (h : supC C B "__init__" K = true) : SupC K (He.ga K C) (He.ga K C) (He.ma K (He.ga K B) "__init__") := by
  unfold supC at h
  rw [Bool.and_eq_true, Bool.and_eq_true, Bool.and_eq_true] at h
  exact ⟨of_decide_eq_true h.1.1.1, of_decide_eq_true h.1.1.2, of_decide_eq_true h.1.2, h.2⟩
theorem ovB_ok {x : Str} (h : ovB x K = true) : OvC K (He.ga K x) := by
  unfold ovB at h
  rw [Bool.and_eq_true, Bool.and_eq_true, Bool.and_eq_true, Bool.and_eq_true] at h
  obtain ⟨⟨⟨⟨h1, h2⟩, h3⟩, h4⟩, h5⟩ := h
  refine ⟨?_, of_decide_eq_true h2, of_decide_eq_true h3, of_decide_eq_true h4, h5⟩
  split at h1
  · rename_i tt od cc ls look
    split at h1
    · rename_i D t1 t2 t3 t4 t5 a0 a1 a2 a3 nw a5 e1 e2
      simp only [Bool.and_eq_true, beq_iff_eq, Bool.not_eq_true', decide_eq_true_eq] at h1
      obtain ⟨⟨⟨⟨⟨g1, g2⟩, g3⟩, g4⟩, g5⟩, g6⟩ := h1
      obtain ⟨b1, b2, b3, b4, b5, b6, b7, b8, b9, b10, b11⟩ := cc
      dsimp only at e1 g5 g6
      have e3 : ls = #[a0, a1, a2, a3, some (.builtin nw), a5] := by
        cases ls with
        | mk l => exact congrArg Array.mk e2
      simp only [List.cons.injEq, and_true] at g3
      obtain ⟨k1, k2, k3, k4, k5⟩ := g3
      subst g1 g2 g4 g5 g6 k1 k2 k3 k4 k5 e1 e3
      exact ⟨_, _, _, _, _, _, _, _, _, _, _, _, _, _, look⟩
    · cases h1
  · cases h1
theorem b2B_ok {op : Operator} {x y : Str} (h : b2B op.info.2 x y K = true) : B2 K op (He.ga K x) (He.ga K y) := by
  unfold b2B at h
  rw [Bool.and_eq_true, Bool.and_eq_true, Bool.and_eq_true, Bool.and_eq_true, Bool.and_eq_true] at h
  obtain ⟨⟨⟨⟨⟨h1, h2⟩, h3⟩, h4⟩, h5⟩, h6⟩ := h
  refine ⟨h1, h2, of_decide_eq_true h3, of_decide_eq_true h4, ?_, fun ne => ?_⟩
  · split at h5
    · rename_i g e; exact ⟨g, e⟩
    · cases h5
  · rcases Bool.or_eq_true_iff.mp h6 with z | z
    · exact absurd (beq_iff_eq.mp z) ne
    · exact of_decide_eq_true z
theorem nstB_ok {x : Str} (h : nstB x K = true) : PySem.W.subIn K (.ref (He.ga K x)) (.type "StopIteration") = some false := of_decide_eq_true h
end
section
variable {P : Program} {w : World} {K : PySem.W.Frag} {mg : Str → Option Value} {base : Heap} {G : Gm} {C file x0 : Str} {d : Df} {fd : FuncData} {cc : Addr} {ar : Arg} {N ps : List Str} {k ci : Nat} {z : ZS}
/-- THE RULE: a def of C whose body closes over C -/
theorem supdef_z (po : PFile P file) (F : d.Fn K [(("__class__" : Str), cc)] fd) (h : supB file C "__init__" K = true) (hl : d.loc = .mth C "__init__") (ha : ((defArgs d.st).posonlyargs ++ (defArgs d.st).args).head? = some ar) (hx : ar.arg = x0) (hd : d.dfl = [])
    (hci : G.ga ci = He.ga K C) (S : NScope N ps ["__class__"] (defScope d.st)) (hN : ps.length + 1 ≤ N.length)
    (bind : ∀ (kV doc pm : Value) (an : Option Addr) (cdv ct : Value) (us : List Value), us.length = ps.length → bindArgs (PySem.W.fnX d.name d.qual (defArgs d.st) (defBody d.st) (defScope d.st) [(("__class__" : Str), cc)] .none kV doc pm an cdv ct) ⟨us, []⟩ = pure (ps.zip us))
    (hb : ∀ (cda : Addr) (A : Around) (outer : List Env) (s : Shared) (H : Hp) (E : XK), SupD P K (d.loc.ad K) cda cc (G.ga ci) x0 → Room k (A.deeper (envF ⟨d.name, d.qual, defArgs d.st, defBody d.st, defScope d.st, [(("__class__" : Str), cc)], cda⟩ (d.loc.ad K) s.heap.objs.size)) →
      PSA (ncx (L2.CX P w) P w K mg base N ⟨d.name, d.qual, defArgs d.st, defBody d.st, defScope d.st, [(("__class__" : Str), cc)], cda⟩ (d.loc.ad K) A outer s H E) (.func (defBody d.st) (envF ⟨d.name, d.qual, defArgs d.st, defBody d.st, defScope d.st, [(("__class__" : Str), cc)], cda⟩ (d.loc.ad K) s.heap.objs.size)) (defBody d.st) (tzS G (WofE E) z)) :
    Cal P w K mg base G (k + 1) (d.loc.ad K) ps.length (zDefS N.length ci z) := by
  obtain ⟨cda, ct, oc, od, osl, dV, kV, doc, pm, an, rfl, lk, hcd, hD, SD⟩ := supB_ok po F h hl ha hx
  rw [← hci] at SD
  have ed : d.dvs K = [] := by unfold Df.dvs; rw [hd]; rfl
  rw [ed] at hD
  rcases hD with ⟨_, rfl⟩ | ⟨e, _⟩
  · refine ⟨_, ps, supdef_ok (k := k) (sp := spz G ps.length (zDefS N.length ci z)) lk hcd S SD.cell (fun vs H Q E h => spz_len vs H Q E h) (fun A outer s H vs Q E hr hsp => ⟨_, hb cda A outer s H E SD hr, ?_⟩), F.kp, .all (bind kV doc pm an _ ct)⟩
    obtain ⟨r, ws, hh, rfl, e, hw, HR, q⟩ := hsp
    refine ⟨r, startZS N.length ci ws, hh, startF_rel hw (by rw [e]; exact hN), HR, ?_⟩
    unfold zDefS at q
    cases e1 : z (startZS N.length ci ws) hh with
    | nx s1 h1 => rw [e1] at q; exact fun r1 H1 σ1 E1 S1 => q r1 H1 E1 rfl
    | rt v h1 => rw [e1] at q; exact q
    | bk s1 h1 => rw [e1] at q; exact q.elim
    | ct s1 h1 => rw [e1] at q; exact q.elim
    | ex c d s1 h1 => rw [e1] at q; exact fun r1 H1 σ1 E1 hd S1 => q r1 H1 E1 hd
    | no => rw [e1] at q; exact q.elim
  · exact absurd rfl e
end
end Zd

namespace Zd
open PySem PySem.Spec PyProof.Rows L2

/-- isinstance of c; l: the classes that are under it -/
def tbS (l : List Nat) : Tg → Option Bool
  | .ins d => if inL l d then some true else none
  | _ => some false
theorem tbS_ok {K : PySem.W.Frag} {G : Gm} {x : Str} {c : Nat} {l : List Nat} (e : G.ga c = He.ga K x) (h : isiB x K = true) (hl : ∀ d, inL l d = true → PySem.W.kitOne K (.ref (G.ga d)) (.ref (G.ga c)) = some true ∧ TyC K (G.ga d)) : ∀ t b, tbS l t = some b → PySem.W.kitOne K (t.v G) (.ref (G.ga c)) = some b := by
  intro t b eb
  cases t with
  | ins d =>
    have eb : (if inL l d then some true else none) = some b := eb
    by_cases hd : inL l d = true
    · rw [if_pos hd] at eb
      cases eb
      exact (hl d hd).1
    · rw [if_neg hd] at eb; cases eb
  | _ =>
    cases eb
    first
    | exact tbC_ok e h .non false rfl
    | exact tbC_ok e h .bl false rfl
    | exact tbC_ok e h .int false rfl
    | exact tbC_ok e h .str false rfl
    | exact tbC_ok e h .lst false rfl
    | exact tbC_ok e h .tup false rfl
    | exact tbC_ok e h .dic false rfl
theorem tbS_ty {K : PySem.W.Frag} {G : Gm} {c : Nat} {l : List Nat} (hl : ∀ d, inL l d = true → PySem.W.kitOne K (.ref (G.ga d)) (.ref (G.ga c)) = some true ∧ TyC K (G.ga d)) : ∀ d b, tbS l (.ins d) = some b → TyC K (G.ga d) := fun d b eb => by
  have eb : (if inL l d then some true else none) = some b := eb
  by_cases hd : inL l d = true
  · exact (hl d hd).2
  · rw [if_neg hd] at eb; cases eb
theorem kicB_ok {K : PySem.W.Frag} {x y : Str} (h : kicB x y K = true) : PySem.W.kitOne K (.ref (He.ga K x)) (.ref (He.ga K y)) = some true := of_decide_eq_true h
theorem eqmB_ok {K : PySem.W.Frag} {x y m : Str} (h : eqmB x y m K = true) : He.ma K (He.ga K x) m = He.ma K (He.ga K y) m := beq_iff_eq.mp h
theorem Cal.at {P : Program} {w : World} {K : PySem.W.Frag} {mg : Str → Option Value} {base : Heap} {G : Gm} {k : Nat} {a b : Addr} {n : Nat} {fn : Fn} (e : a = b) (c : Cal P w K mg base G k b n fn) : Cal P w K mg base G k a n fn := e ▸ c
def inP (l : List (Nat × Nat)) (c d : Nat) : Bool := l.any fun p => Nat.beq p.1 c && Nat.beq p.2 d
theorem inP_nil {Q : Nat → Nat → Prop} : ∀ c d, inP [] c d = true → Q c d := fun _ _ e => by cases e
theorem inP_cons {Q : Nat → Nat → Prop} {a b : Nat} {l : List (Nat × Nat)} (h : Q a b) (t : ∀ c d, inP l c d = true → Q c d) : ∀ c d, inP ((a, b) :: l) c d = true → Q c d := fun c d e => by
  have e1 : ((Nat.beq a c && Nat.beq b d) || inP l c d) = true := e
  rw [Bool.or_eq_true] at e1
  rcases e1 with q | q
  · rw [Bool.and_eq_true] at q
    rw [← Nat.eq_of_beq_eq_true q.1, ← Nat.eq_of_beq_eq_true q.2]; exact h
  · exact t c d q
section
variable {X : Cx} {G : Gm} {Wx : WX} {z : ZE} {e : PySem.Expr} {x2 : Str} {p p2 pos : Pos} {c : Nat} {l : List Nat}
theorem q_isiS {x : Str} (hI : X.mg "isinstance" = none) (h2 : X.mg x2 = some (.ref (G.ga c))) (ec : G.ga c = He.ga X.K x) (hi : isiB x X.K = true) (hl : ∀ d, inL l d = true → PySem.W.kitOne X.K (.ref (G.ga d)) (.ref (G.ga c)) = some true ∧ TyC X.K (G.ga d)) (he : PE X e (tz G Wx z))
    (hg : Gl X "isinstance" := by rfl) (hg2 : Gl X x2 := by rfl) (hd : (x2 == ("__debug__" : Str)) = false := by decide)
    (hs : starEach (e :: [.Name x2 p2]) X.env = (false, eval e X.env) :: starEach [.Name x2 p2] X.env := by rfl) (hs2 : starEach (.Name x2 p2 :: []) X.env = (false, eval (.Name x2 p2) X.env) :: starEach [] X.env := by rfl) (hpl : (backTo pos (starEach [.Name x2 p2] X.env)).any (·.1) = false := by rfl) :
    PE X (.Call (.Name "isinstance" p) [e, .Name x2 p2] [] pos) (tz G Wx (zIsi (tbS l) z)) :=
  z_isi (.own _) (tbS_ok ec hi hl) (tbS_ty hl) (pe_callB call_isi hg hI boot_isi (pa_cons he (pa_cons (pe_glob hg2 h2 rfl hd) pa_nil hs2) hs) (by decide) (by decide) hs hpl)
end
end Zd

namespace Zd
open PySem PySem.Spec PyProof.Rows L2
section
variable {X : Cx} {G : Gm} {Wx : WX} {E : XK} {f g : ZE} {a b : PySem.Expr} {pos : Pos} {j m : Nat} {cs : Nat → Option Fn} {ok : Nat → Nat → Bool}
theorem z_own2S {op : Operator} (hc : MOk X G j m 2 cs) (hm : G.nm m = PySem.dunder op.info.2) (hok : ∀ c d, ok c d = true → B2 X.K op (G.ga c) (G.ga d)) (hr : Room j X.A) (hp : Ps X Wx) (ha : PE X a (tz G Wx f)) (hb : PE X b (tz G Wx g)) :
    PE X (.BinOp a op b pos) (tz G Wx (zBin (opOwn cs ok) f g)) := by
  refine ⟨fun pins s σ H Q I q => ?_⟩
  obtain ⟨r, vs, h, S, HR, z⟩ := q
  refine wpAny_BinOp (binT ha hb (R := fun x y H2 => ∃ r2 h2 wa wb, HRel G r2 h2 H2 ∧ wa.wf h2.n = true ∧ wb.wf h2.n = true ∧ x = wa.v G r2 ∧ y = wb.v G r2 ∧ RZ G (fun c d _ H => WE Wx σ c d H) r2 h2 H2 [] Q (opOwn cs ok wa wb h2)) I ?_ fun v u s2 x y H2 I2 rx ry q => ?_)
  · refine ⟨r, vs, h, S, HR, ?_⟩
    unfold zBin at z
    cases e1 : f vs h with
    | no => rw [e1] at z; exact z
    | ex c d h1 => rw [e1] at z; exact z
    | ok wa h1 =>
      rw [e1] at z
      intro r1 H1 E1 w1
      refine ⟨r1, vs, h1, S.ext E1, E1.rel, ?_⟩
      cases e2 : g vs h1 with
      | no => simp only [e2] at z; exact z
      | ex c d h2 => simp only [e2] at z; exact fun r2 H2 E2 hd => z r2 H2 (E1.trans E2) hd
      | ok wb h2 =>
        simp only [e2] at z
        intro r2 H2 E2 w2
        exact ⟨r2, h2, wa, wb, E2.rel, W.wf_le w1 E2.le, w2, (W.v_agr w1 E2.agr).symm, rfl, RZ.re (fun _ _ _ z => z) (RZ.seq (E1.trans E2) z)⟩
  · obtain ⟨r2, h2, wa, wb, HR2, wfa, wfb, rfl, rfl, z⟩ := q
    unfold opOwn at z
    split at z
    · rename_i c fc d fd e1 e2
      split at z
      · rename_i hcd
        split at z
        · rename_i fn e3
          obtain ⟨i, dx, rfl, _, a1, _⟩ := insOf_ok HR2 e1
          obtain ⟨k, dy, rfl, _, a2, _⟩ := insOf_ok HR2 e2
          obtain rfl : v = Value.ref (r2 i) := rx
          obtain rfl : u = Value.ref (r2 k) := ry
          obtain ⟨cl, fa, M, cal⟩ := hc c fn e3
          obtain ⟨fd', ps, F, kp, hb'⟩ := cal.ex
          obtain ⟨od, J1⟩ := inst_of I2 a1
          obtain ⟨od2, J2⟩ := inst_of I2 a2
          have B := hok c d hcd
          obtain ⟨g2, tg⟩ := B.td
          refine own_bin I2.kIn J1 J2 B.fc B.fd (by rw [← hm]; exact M.at_) M.fn B.rc tg B.rd B.sub (wpAny_mono (run_fnS (E := WE Wx) F hr hb' (hp.at_ σ) I2 (us := [.ref (r2 i), .ref (r2 k)]) (vs := [.ref (r2 i), .ref (r2 k)]) (Q := Q) (.cons rfl (.cons rfl .nil)) ?_) (fun v s' z => cb_of z) fun _ _ z => z)
          refine ⟨r2, [.ref i, .ref k], h2, rfl, rfl, ?_, HR2, z⟩
          show ((W.ref i).wf h2.n && ((W.ref k).wf h2.n && true)) = true
          rw [wfa, wfb]; rfl
        · exact z.elim
      · exact z.elim
    · exact z.elim
theorem roomH_suite {k : Nat} {a : Addr} {pn : List (Addr × Obj)} (r : Room k X.A) : L2H.RoomH k (X.suite a pn).A := ⟨r.dp, r.un⟩
theorem hu200 {k : Nat} {a : Addr} {pn : List (Addr × Obj)} (r : Room k X.A) : (X.suite a pn).A.units + 200 < cLine := by
  have := r.un
  show X.A.units + 200 < _
  omega
theorem huH_of {A : Around} {k : Nat} (hr : L2H.RoomH k A) : A.units + 1 < cLine := by have := hr.un; omega
end
end Zd

namespace Zx
open PySem PySem.Spec PyProof.Rows L2 Zd
def gL : List Str := ("" :: "Begins" :: "Both" :: "Either" :: "Length" :: "Opposite" :: "Value" :: "InvalidText" :: "InvalidNumber" :: "InvalidRange" :: "InvalidKey" :: "Condition" :: "InvalidCondition" :: "LimitExceeded" :: [] : List Str)
def aL : List Str := (["own_shape", "own_simple", "value", "least", "most", "__call__", "__repr__", "__len__", "limit", "__and__", "__or__", "__invert__"] : List Str)
def gaS (a : Addr) (f : Nat → Addr) : Nat → Addr
  | 0 => a
  | n + 1 => f (n + 1)
def G (K : PySem.W.Frag) (sa : Addr) : Gm := { ga := gaS sa fun n => He.ga K (gL.getD n ""), nm := nmOf aL, inj := nmOf_inj (by decide +kernel) (by decide +kernel) }
theorem bt_str : bootBuiltins "str" = some (.type "str") := by decide +kernel
theorem bt_len : bootBuiltins "len" = some (.builtin "len") := by decide +kernel
theorem bt_all : bootBuiltins "all" = some (.builtin "all") := by decide +kernel
theorem bt_int : bootBuiltins "int" = some (.type "int") := by decide +kernel
theorem bt_bool : bootBuiltins "bool" = some (.type "bool") := by decide +kernel
theorem bt_repr : bootBuiltins "repr" = some (.builtin "repr") := by decide +kernel
theorem bt_ValueError : bootBuiltins "ValueError" = some (.type "ValueError") := by decide +kernel
theorem bt_OverflowError : bootBuiltins "OverflowError" = some (.type "OverflowError") := by decide +kernel
theorem bt_max : bootBuiltins "max" = some (.builtin "max") := by decide +kernel
theorem bt_min : bootBuiltins "min" = some (.builtin "min") := by decide +kernel
structure Fx (P : Program) (w : World) (K : PySem.W.Frag) (mg : Str → Option Value) : Prop extends FxOf cs ds ts w K mg where
  po : PFile P "/claim/cut.py"
section
variable {P : Program} {w : World} {K : PySem.W.Frag} {mg : Str → Option Value} {base : Heap} {sa : Addr}
theorem fo_own_shape_0 (T : Fx P w K mg) : ∀ c, inL [1, 2, 3, 4, 5, 6] c = true → Cls K ((G K sa).ga c) ∧ NoAttr K ((G K sa).ga c) ((G K sa).nm 0) := inL_cons ⟨He.cls_ok (T.c.fact 10 rfl), He.noat_ok (T.c.fact 11 rfl)⟩ (inL_cons ⟨He.cls_ok (T.c.fact 8 rfl), He.noat_ok (T.c.fact 9 rfl)⟩ (inL_cons ⟨He.cls_ok (T.c.fact 6 rfl), He.noat_ok (T.c.fact 7 rfl)⟩ (inL_cons ⟨He.cls_ok (T.c.fact 4 rfl), He.noat_ok (T.c.fact 5 rfl)⟩ (inL_cons ⟨He.cls_ok (T.c.fact 2 rfl), He.noat_ok (T.c.fact 3 rfl)⟩ (inL_cons ⟨He.cls_ok (T.c.fact 0 rfl), He.noat_ok (T.c.fact 1 rfl)⟩ (inL_nil))))))
theorem fo_own_simple_1 (T : Fx P w K mg) : ∀ c, inL [1, 2, 3, 4, 5, 6] c = true → Cls K ((G K sa).ga c) ∧ NoAttr K ((G K sa).ga c) ((G K sa).nm 1) := inL_cons ⟨He.cls_ok (T.c.fact 10 rfl), He.noat_ok (T.c.fact 17 rfl)⟩ (inL_cons ⟨He.cls_ok (T.c.fact 8 rfl), He.noat_ok (T.c.fact 16 rfl)⟩ (inL_cons ⟨He.cls_ok (T.c.fact 6 rfl), He.noat_ok (T.c.fact 15 rfl)⟩ (inL_cons ⟨He.cls_ok (T.c.fact 4 rfl), He.noat_ok (T.c.fact 14 rfl)⟩ (inL_cons ⟨He.cls_ok (T.c.fact 2 rfl), He.noat_ok (T.c.fact 13 rfl)⟩ (inL_cons ⟨He.cls_ok (T.c.fact 0 rfl), He.noat_ok (T.c.fact 12 rfl)⟩ (inL_nil))))))
theorem n_isinstance (T : Fx P w K mg) : mg "isinstance" = none := T.free (T.c.fact 18 rfl)
theorem n_str (T : Fx P w K mg) : mg "str" = none := T.free (T.c.fact 19 rfl)
theorem n_len (T : Fx P w K mg) : mg "len" = none := T.free (T.c.fact 20 rfl)
theorem i_MAX_LENGTH (T : Fx P w K mg) : ∃ t, mg "MAX_LENGTH" = some (.int 20 t) := T.int (T.c.fact 21 rfl)
theorem s_CHARACTERS (T : Fx P w K mg) : ∃ t, mg "CHARACTERS" = some (.str "abcdefghijklmnopqrstuvwxyz0123456789" t) := T.str (T.c.fact 22 rfl)
theorem n_all (T : Fx P w K mg) : mg "all" = none := T.free (T.c.fact 23 rfl)
theorem ini_InvalidText (T : Fx P w K mg) : CalI P w K mg base 1 (He.ga K "InvalidText") "value" := by
  obtain ⟨fd, F⟩ := T.c.def_ 4 (d := d_InvalidText_init) rfl
  have OX := oexB_ok (T.c.fact 25 rfl)
  obtain ⟨i1, i2⟩ := iniB_ok (T.c.fact 26 rfl)
  have sc : FnScope (["self", "value"] : List Str) (["self", "value"] : List Str) (defScope (d_InvalidText_init).st) := ⟨rfl, rfl, rfl, by decide +kernel, rfl, by decide +kernel, by decide +kernel⟩
  refine ⟨⟨_, fd, (["self", "value"] : List Str), init_ok (k := 0) F sc rfl rfl OX (of_decide_eq_true (T.c.fact 24 rfl)) (fun cdv A outer s H E hr => pss_one (ps_ost (pv 0) (pv 1))), F.bindsN fun _ _ _ _ _ _ us hl => match us, hl with | [_, _], _ => rfl, i1, i2⟩, OX⟩
theorem g_InvalidText (T : Fx P w K mg) : mg "InvalidText" = some (.ref (He.ga K "InvalidText")) := T.glo (T.c.fact 27 rfl)
theorem sc_Begins_init_c (T : Fx P w K mg) : ∀ c, inL [1] c = true → SupC K ((G K sa).ga c) ((G K sa).ga 1) (He.ma K (He.ga K "Condition") "__init__") := inL_cons (supC_ok (T.c.fact 28 rfl)) inL_nil
theorem n_super (T : Fx P w K mg) : mg "super" = none := T.free (T.c.fact 29 rfl)
theorem mk_Begins (T : Fx P w K mg) : Mk K (He.ga K "Begins") (He.ma K (He.ga K "Begins") "__init__") := He.mkr_ok (T.c.fact 31 rfl)
theorem g_Begins (T : Fx P w K mg) : mg "Begins" = some (.ref (He.ga K "Begins")) := T.glo (T.c.fact 32 rfl)
theorem n_int (T : Fx P w K mg) : mg "int" = none := T.free (T.c.fact 33 rfl)
theorem n_bool (T : Fx P w K mg) : mg "bool" = none := T.free (T.c.fact 34 rfl)
theorem g_is_integer (T : Fx P w K mg) : mg "is_integer" = some (.ref (He.ga K "is_integer")) := T.glo (T.c.fact 35 rfl)
theorem g_in_range (T : Fx P w K mg) : mg "in_range" = some (.ref (He.ga K "in_range")) := T.glo (T.c.fact 36 rfl)
theorem ini_InvalidNumber (T : Fx P w K mg) : CalI P w K mg base 1 (He.ga K "InvalidNumber") "value" := by
  obtain ⟨fd, F⟩ := T.c.def_ 9 (d := d_InvalidNumber_init) rfl
  have OX := oexB_ok (T.c.fact 38 rfl)
  obtain ⟨i1, i2⟩ := iniB_ok (T.c.fact 39 rfl)
  have sc : FnScope (["self", "value"] : List Str) (["self", "value"] : List Str) (defScope (d_InvalidNumber_init).st) := ⟨rfl, rfl, rfl, by decide +kernel, rfl, by decide +kernel, by decide +kernel⟩
  refine ⟨⟨_, fd, (["self", "value"] : List Str), init_ok (k := 0) F sc rfl rfl OX (of_decide_eq_true (T.c.fact 37 rfl)) (fun cdv A outer s H E hr => pss_one (ps_ost (pv 0) (pv 1))), F.bindsN fun _ _ _ _ _ _ us hl => match us, hl with | [_, _], _ => rfl, i1, i2⟩, OX⟩
theorem g_InvalidNumber (T : Fx P w K mg) : mg "InvalidNumber" = some (.ref (He.ga K "InvalidNumber")) := T.glo (T.c.fact 40 rfl)
theorem g_check_number (T : Fx P w K mg) : mg "check_number" = some (.ref (He.ga K "check_number")) := T.glo (T.c.fact 41 rfl)
theorem ini_InvalidRange (T : Fx P w K mg) : CalI2 P w K mg base 1 (He.ga K "InvalidRange") "least" "most" := by
  obtain ⟨fd, F⟩ := T.c.def_ 10 (d := d_InvalidRange_init) rfl
  have OX := oexB_ok (T.c.fact 44 rfl)
  obtain ⟨i1, i2⟩ := iniB_ok (T.c.fact 45 rfl)
  have sc : FnScope (["self", "least", "most"] : List Str) (["self", "least", "most"] : List Str) (defScope (d_InvalidRange_init).st) := ⟨rfl, rfl, rfl, by decide +kernel, rfl, by decide +kernel, by decide +kernel⟩
  refine ⟨⟨_, fd, (["self", "least", "most"] : List Str), init_ok2 (k := 0) F sc rfl rfl OX (of_decide_eq_true (T.c.fact 42 rfl)) (of_decide_eq_true (T.c.fact 43 rfl)) (fun cdv A outer s H E hr => pss_cons (ps_ost (pv 0) (pv 1)) (pss_one (ps_ost (pv 0) (pv 2)))), F.bindsN fun _ _ _ _ _ _ us hl => match us, hl with | [_, _, _], _ => rfl, i1, i2⟩, OX⟩
theorem g_InvalidRange (T : Fx P w K mg) : mg "InvalidRange" = some (.ref (He.ga K "InvalidRange")) := T.glo (T.c.fact 46 rfl)
theorem sc_Length_init_c (T : Fx P w K mg) : ∀ c, inL [4] c = true → SupC K ((G K sa).ga c) ((G K sa).ga 4) (He.ma K (He.ga K "Condition") "__init__") := inL_cons (supC_ok (T.c.fact 47 rfl)) inL_nil
theorem mk_Length (T : Fx P w K mg) : Mk K (He.ga K "Length") (He.ma K (He.ga K "Length") "__init__") := He.mkr_ok (T.c.fact 49 rfl)
theorem g_Length (T : Fx P w K mg) : mg "Length" = some (.ref (He.ga K "Length")) := T.glo (T.c.fact 50 rfl)
theorem sc_Value_init_c (T : Fx P w K mg) : ∀ c, inL [6] c = true → SupC K ((G K sa).ga c) ((G K sa).ga 6) (He.ma K (He.ga K "Condition") "__init__") := inL_cons (supC_ok (T.c.fact 51 rfl)) inL_nil
theorem mk_Value (T : Fx P w K mg) : Mk K (He.ga K "Value") (He.ma K (He.ga K "Value") "__init__") := He.mkr_ok (T.c.fact 53 rfl)
theorem g_Value (T : Fx P w K mg) : mg "Value" = some (.ref (He.ga K "Value")) := T.glo (T.c.fact 54 rfl)
theorem g_is_key (T : Fx P w K mg) : mg "is_key" = some (.ref (He.ga K "is_key")) := T.glo (T.c.fact 55 rfl)
theorem ini_InvalidKey (T : Fx P w K mg) : CalI P w K mg base 1 (He.ga K "InvalidKey") "value" := by
  obtain ⟨fd, F⟩ := T.c.def_ 15 (d := d_InvalidKey_init) rfl
  have OX := oexB_ok (T.c.fact 57 rfl)
  obtain ⟨i1, i2⟩ := iniB_ok (T.c.fact 58 rfl)
  have sc : FnScope (["self", "value"] : List Str) (["self", "value"] : List Str) (defScope (d_InvalidKey_init).st) := ⟨rfl, rfl, rfl, by decide +kernel, rfl, by decide +kernel, by decide +kernel⟩
  refine ⟨⟨_, fd, (["self", "value"] : List Str), init_ok (k := 0) F sc rfl rfl OX (of_decide_eq_true (T.c.fact 56 rfl)) (fun cdv A outer s H E hr => pss_one (ps_ost (pv 0) (pv 1))), F.bindsN fun _ _ _ _ _ _ us hl => match us, hl with | [_, _], _ => rfl, i1, i2⟩, OX⟩
theorem g_InvalidKey (T : Fx P w K mg) : mg "InvalidKey" = some (.ref (He.ga K "InvalidKey")) := T.glo (T.c.fact 59 rfl)
theorem g_check_key (T : Fx P w K mg) : mg "check_key" = some (.ref (He.ga K "check_key")) := T.glo (T.c.fact 60 rfl)
theorem g_check_value (T : Fx P w K mg) : mg "check_value" = some (.ref (He.ga K "check_value")) := T.glo (T.c.fact 61 rfl)
theorem sb_Condition__Begins (T : Fx P w K mg) : ∀ d, inL [1] d = true → PySem.W.kitOne K (.ref ((G K sa).ga d)) (.ref ((G K sa).ga 11)) = some true ∧ TyC K ((G K sa).ga d) := inL_cons ⟨kicB_ok (T.c.fact 64 rfl), tycB_ok (T.c.fact 65 rfl)⟩ (inL_nil)
theorem g_Condition (T : Fx P w K mg) : mg "Condition" = some (.ref (He.ga K "Condition")) := T.glo (T.c.fact 66 rfl)
theorem ini_InvalidCondition (T : Fx P w K mg) : CalI P w K mg base 1 (He.ga K "InvalidCondition") "value" := by
  obtain ⟨fd, F⟩ := T.c.def_ 19 (d := d_InvalidCondition_init) rfl
  have OX := oexB_ok (T.c.fact 69 rfl)
  obtain ⟨i1, i2⟩ := iniB_ok (T.c.fact 70 rfl)
  have sc : FnScope (["self", "value"] : List Str) (["self", "value"] : List Str) (defScope (d_InvalidCondition_init).st) := ⟨rfl, rfl, rfl, by decide +kernel, rfl, by decide +kernel, by decide +kernel⟩
  refine ⟨⟨_, fd, (["self", "value"] : List Str), init_ok (k := 0) F sc rfl rfl OX (of_decide_eq_true (T.c.fact 68 rfl)) (fun cdv A outer s H E hr => pss_one (ps_ost (pv 0) (pv 1))), F.bindsN fun _ _ _ _ _ _ us hl => match us, hl with | [_, _], _ => rfl, i1, i2⟩, OX⟩
theorem g_InvalidCondition (T : Fx P w K mg) : mg "InvalidCondition" = some (.ref (He.ga K "InvalidCondition")) := T.glo (T.c.fact 71 rfl)
theorem g_check_condition (T : Fx P w K mg) : mg "check_condition" = some (.ref (He.ga K "check_condition")) := T.glo (T.c.fact 72 rfl)
theorem g_some_row (T : Fx P w K mg) : mg "some_row" = some (.ref (He.ga K "some_row")) := T.glo (T.c.fact 73 rfl)
theorem g_implies (T : Fx P w K mg) : mg "implies" = some (.ref (He.ga K "implies")) := T.glo (T.c.fact 74 rfl)
theorem g_are_alike (T : Fx P w K mg) : mg "are_alike" = some (.ref (He.ga K "are_alike")) := T.glo (T.c.fact 75 rfl)
theorem nst (T : Fx P w K mg) : ∀ c, (inL [12, 10, 8, 9, 7, 13]) c = true → PySem.W.subIn K (.ref ((G K sa).ga c)) (.type "StopIteration") = some false := inL_cons (nstB_ok (T.c.fact 81 rfl)) (inL_cons (nstB_ok (T.c.fact 80 rfl)) (inL_cons (nstB_ok (T.c.fact 79 rfl)) (inL_cons (nstB_ok (T.c.fact 78 rfl)) (inL_cons (nstB_ok (T.c.fact 77 rfl)) (inL_cons (nstB_ok (T.c.fact 76 rfl)) (inL_nil))))))
theorem g_matches (T : Fx P w K mg) : mg "matches" = some (.ref (He.ga K "matches")) := T.glo (T.c.fact 82 rfl)
theorem g_format_condition (T : Fx P w K mg) : mg "format_condition" = some (.ref (He.ga K "format_condition")) := T.glo (T.c.fact 83 rfl)
theorem g__law_call (T : Fx P w K mg) : mg "_law_call" = some (.ref (He.ga K "_law_call")) := T.glo (T.c.fact 84 rfl)
theorem fo_own_shape_2 (T : Fx P w K mg) : ∀ c, inL [1] c = true → Cls K ((G K sa).ga c) ∧ NoAttr K ((G K sa).ga c) ((G K sa).nm 0) := inL_cons ⟨He.cls_ok (T.c.fact 10 rfl), He.noat_ok (T.c.fact 11 rfl)⟩ (inL_nil)
theorem n_repr (T : Fx P w K mg) : mg "repr" = none := T.free (T.c.fact 86 rfl)
theorem n_ValueError (T : Fx P w K mg) : mg "ValueError" = none := T.free (T.c.fact 88 rfl)
theorem n_range (T : Fx P w K mg) : mg "range" = none := T.free (T.c.fact 128 rfl)
theorem sb_Condition__Begins_Opposite_Value (T : Fx P w K mg) : ∀ d, inL [1, 5, 6] d = true → PySem.W.kitOne K (.ref ((G K sa).ga d)) (.ref ((G K sa).ga 11)) = some true ∧ TyC K ((G K sa).ga d) := inL_cons ⟨kicB_ok (T.c.fact 64 rfl), tycB_ok (T.c.fact 65 rfl)⟩ (inL_cons ⟨kicB_ok (T.c.fact 131 rfl), tycB_ok (T.c.fact 132 rfl)⟩ (inL_cons ⟨kicB_ok (T.c.fact 129 rfl), tycB_ok (T.c.fact 130 rfl)⟩ (inL_nil)))
theorem fo_own_simple_3 (T : Fx P w K mg) : ∀ c, inL [1, 2, 3, 5, 6] c = true → Cls K ((G K sa).ga c) ∧ NoAttr K ((G K sa).ga c) ((G K sa).nm 1) := inL_cons ⟨He.cls_ok (T.c.fact 10 rfl), He.noat_ok (T.c.fact 17 rfl)⟩ (inL_cons ⟨He.cls_ok (T.c.fact 8 rfl), He.noat_ok (T.c.fact 16 rfl)⟩ (inL_cons ⟨He.cls_ok (T.c.fact 6 rfl), He.noat_ok (T.c.fact 15 rfl)⟩ (inL_cons ⟨He.cls_ok (T.c.fact 2 rfl), He.noat_ok (T.c.fact 13 rfl)⟩ (inL_cons ⟨He.cls_ok (T.c.fact 0 rfl), He.noat_ok (T.c.fact 12 rfl)⟩ (inL_nil)))))
theorem i_MOST_SIMPLE (T : Fx P w K mg) : ∃ t, mg "MOST_SIMPLE" = some (.int 30 t) := T.int (T.c.fact 143 rfl)
theorem ini_LimitExceeded (T : Fx P w K mg) : CalO P w K mg base 1 (He.ga K "LimitExceeded") "limit" := by
  obtain ⟨fd, F⟩ := T.c.def_ 29 (d := d_LimitExceeded_init) rfl
  have OX := ovB_ok (T.c.fact 145 rfl)
  obtain ⟨i1, i2⟩ := iniB_ok (T.c.fact 146 rfl)
  have sc : FnScope (["self", "limit"] : List Str) (["self", "limit"] : List Str) (defScope (d_LimitExceeded_init).st) := ⟨rfl, rfl, rfl, by decide +kernel, rfl, by decide +kernel, by decide +kernel⟩
  refine ⟨⟨_, fd, (["self", "limit"] : List Str), init_okO (k := 0) F sc rfl rfl OX (of_decide_eq_true (T.c.fact 144 rfl)) (fun cdv A outer s H E hr => pss_one (ps_ovst (pv 0) (pv 1))), F.bindsN fun _ _ _ _ _ _ us hl => match us, hl with | [_, _], _ => rfl, i1, i2⟩, OX⟩
theorem g_LimitExceeded (T : Fx P w K mg) : mg "LimitExceeded" = some (.ref (He.ga K "LimitExceeded")) := T.glo (T.c.fact 147 rfl)
theorem g_check_simple (T : Fx P w K mg) : mg "check_simple" = some (.ref (He.ga K "check_simple")) := T.glo (T.c.fact 148 rfl)
theorem fo_own_simple_4 (T : Fx P w K mg) : ∀ c, inL [1, 2, 3] c = true → Cls K ((G K sa).ga c) ∧ NoAttr K ((G K sa).ga c) ((G K sa).nm 1) := inL_cons ⟨He.cls_ok (T.c.fact 10 rfl), He.noat_ok (T.c.fact 17 rfl)⟩ (inL_cons ⟨He.cls_ok (T.c.fact 8 rfl), He.noat_ok (T.c.fact 16 rfl)⟩ (inL_cons ⟨He.cls_ok (T.c.fact 6 rfl), He.noat_ok (T.c.fact 15 rfl)⟩ (inL_nil)))
theorem fo_own_simple_5 (T : Fx P w K mg) : ∀ c, inL [6] c = true → Cls K ((G K sa).ga c) ∧ NoAttr K ((G K sa).ga c) ((G K sa).nm 1) := inL_cons ⟨He.cls_ok (T.c.fact 0 rfl), He.noat_ok (T.c.fact 12 rfl)⟩ (inL_nil)
theorem sc_Both_init_c (T : Fx P w K mg) : ∀ c, inL [2] c = true → SupC K ((G K sa).ga c) ((G K sa).ga 2) (He.ma K (He.ga K "Condition") "__init__") := inL_cons (supC_ok (T.c.fact 149 rfl)) inL_nil
theorem mk_Both (T : Fx P w K mg) : Mk K (He.ga K "Both") (He.ma K (He.ga K "Both") "__init__") := He.mkr_ok (T.c.fact 151 rfl)
theorem g_Both (T : Fx P w K mg) : mg "Both" = some (.ref (He.ga K "Both")) := T.glo (T.c.fact 152 rfl)
theorem bp_and_Begins_Both_Either__Value (T : Fx P w K mg) : ∀ c d, inP [(1, 6), (2, 6), (3, 6)] c d = true → B2 K .BitAnd ((G K sa).ga c) ((G K sa).ga d) := inP_cons (b2B_ok (op := .BitAnd) (T.c.fact 161 rfl)) (inP_cons (b2B_ok (op := .BitAnd) (T.c.fact 160 rfl)) (inP_cons (b2B_ok (op := .BitAnd) (T.c.fact 159 rfl)) (inP_nil)))
theorem sb_Condition__Begins_Opposite (T : Fx P w K mg) : ∀ d, inL [1, 5] d = true → PySem.W.kitOne K (.ref ((G K sa).ga d)) (.ref ((G K sa).ga 11)) = some true ∧ TyC K ((G K sa).ga d) := inL_cons ⟨kicB_ok (T.c.fact 64 rfl), tycB_ok (T.c.fact 65 rfl)⟩ (inL_cons ⟨kicB_ok (T.c.fact 131 rfl), tycB_ok (T.c.fact 132 rfl)⟩ (inL_nil))
theorem fo_own_simple_6 (T : Fx P w K mg) : ∀ c, inL [5] c = true → Cls K ((G K sa).ga c) ∧ NoAttr K ((G K sa).ga c) ((G K sa).nm 1) := inL_cons ⟨He.cls_ok (T.c.fact 2 rfl), He.noat_ok (T.c.fact 13 rfl)⟩ (inL_nil)
theorem sc_Either_init_c (T : Fx P w K mg) : ∀ c, inL [3] c = true → SupC K ((G K sa).ga c) ((G K sa).ga 3) (He.ma K (He.ga K "Condition") "__init__") := inL_cons (supC_ok (T.c.fact 162 rfl)) inL_nil
theorem mk_Either (T : Fx P w K mg) : Mk K (He.ga K "Either") (He.ma K (He.ga K "Either") "__init__") := He.mkr_ok (T.c.fact 164 rfl)
theorem g_Either (T : Fx P w K mg) : mg "Either" = some (.ref (He.ga K "Either")) := T.glo (T.c.fact 165 rfl)
theorem bp_or_Begins_Both_Either__Opposite (T : Fx P w K mg) : ∀ c d, inP [(1, 5), (2, 5), (3, 5)] c d = true → B2 K .BitOr ((G K sa).ga c) ((G K sa).ga d) := inP_cons (b2B_ok (op := .BitOr) (T.c.fact 174 rfl)) (inP_cons (b2B_ok (op := .BitOr) (T.c.fact 173 rfl)) (inP_cons (b2B_ok (op := .BitOr) (T.c.fact 172 rfl)) (inP_nil)))
theorem fo_own_simple_7 (T : Fx P w K mg) : ∀ c, inL [2, 4] c = true → Cls K ((G K sa).ga c) ∧ NoAttr K ((G K sa).ga c) ((G K sa).nm 1) := inL_cons ⟨He.cls_ok (T.c.fact 8 rfl), He.noat_ok (T.c.fact 16 rfl)⟩ (inL_cons ⟨He.cls_ok (T.c.fact 4 rfl), He.noat_ok (T.c.fact 14 rfl)⟩ (inL_nil))
theorem sc_Opposite_init_c (T : Fx P w K mg) : ∀ c, inL [5] c = true → SupC K ((G K sa).ga c) ((G K sa).ga 5) (He.ma K (He.ga K "Condition") "__init__") := inL_cons (supC_ok (T.c.fact 175 rfl)) inL_nil
theorem mk_Opposite (T : Fx P w K mg) : Mk K (He.ga K "Opposite") (He.ma K (He.ga K "Opposite") "__init__") := He.mkr_ok (T.c.fact 177 rfl)
theorem g_Opposite (T : Fx P w K mg) : mg "Opposite" = some (.ref (He.ga K "Opposite")) := T.glo (T.c.fact 178 rfl)
theorem bp_and_Begins_Both__Begins_Opposite (T : Fx P w K mg) : ∀ c d, inP [(1, 1), (1, 5), (2, 1), (2, 5)] c d = true → B2 K .BitAnd ((G K sa).ga c) ((G K sa).ga d) := inP_cons (b2B_ok (op := .BitAnd) (T.c.fact 186 rfl)) (inP_cons (b2B_ok (op := .BitAnd) (T.c.fact 185 rfl)) (inP_cons (b2B_ok (op := .BitAnd) (T.c.fact 184 rfl)) (inP_cons (b2B_ok (op := .BitAnd) (T.c.fact 183 rfl)) (inP_nil))))
theorem bp_or_Begins_Both__Begins_Opposite (T : Fx P w K mg) : ∀ c d, inP [(1, 1), (1, 5), (2, 1), (2, 5)] c d = true → B2 K .BitOr ((G K sa).ga c) ((G K sa).ga d) := inP_cons (b2B_ok (op := .BitOr) (T.c.fact 188 rfl)) (inP_cons (b2B_ok (op := .BitOr) (T.c.fact 174 rfl)) (inP_cons (b2B_ok (op := .BitOr) (T.c.fact 187 rfl)) (inP_cons (b2B_ok (op := .BitOr) (T.c.fact 173 rfl)) (inP_nil))))
theorem n_OverflowError (T : Fx P w K mg) : mg "OverflowError" = none := T.free (T.c.fact 190 rfl)
theorem g__law_joined (T : Fx P w K mg) : mg "_law_joined" = some (.ref (He.ga K "_law_joined")) := T.glo (T.c.fact 198 rfl)
theorem n_max (T : Fx P w K mg) : mg "max" = none := T.free (T.c.fact 199 rfl)
theorem n_min (T : Fx P w K mg) : mg "min" = none := T.free (T.c.fact 200 rfl)
theorem g__law_hand (T : Fx P w K mg) : mg "_law_hand" = some (.ref (He.ga K "_law_hand")) := T.glo (T.c.fact 201 rfl)
theorem g__law_limits_right (T : Fx P w K mg) : mg "_law_limits_right" = some (.ref (He.ga K "_law_limits_right")) := T.glo (T.c.fact 202 rfl)
theorem g__law_told (T : Fx P w K mg) : mg "_law_told" = some (.ref (He.ga K "_law_told")) := T.glo (T.c.fact 203 rfl)
theorem g__law_draw (T : Fx P w K mg) : mg "_law_draw" = some (.ref (He.ga K "_law_draw")) := T.glo (T.c.fact 204 rfl)
theorem g_law (T : Fx P w K mg) : mg "law" = some (.ref (He.ga K "law")) := T.glo (T.c.fact 205 rfl)
def z_Condition_init : Fn := zDef 3 (zSeq (zSetF (inL [1, 2, 3, 4, 5, 6]) 0 (zVar 0) (zVar 1)) (zSetF (inL [1, 2, 3, 4, 5, 6]) 1 (zVar 0) (zVar 2)))
theorem sc_Condition_init : FnScope (["self", "parts", "simple"] : List Str) (["self", "parts", "simple"] : List Str) (defScope (d_Condition_init).st) := ⟨rfl, rfl, rfl, by decide +kernel, rfl, by decide +kernel, by decide +kernel⟩
theorem ok_Condition_init_f (T : Fx P w K mg) : ∃ fd, (d_Condition_init).Is K fd ∧ FnOk P w K mg base (L2.CX P w) 2 ((d_Condition_init).loc.ad K) fd (["self", "parts", "simple"] : List Str) (spz (G K sa) 3 z_Condition_init) := by
  obtain ⟨fd, F⟩ := T.c.def_ 3 (d := d_Condition_init) rfl
  have nd : ((["self", "parts", "simple"] : List Str)).Nodup := (sc_Condition_init).nd
  refine ⟨fd, F, def_ok (k := 1) F sc_Condition_init (by decide) (fun cdv A outer s H E hr => ?_)⟩
  have tk := takes_of (X := cxOf (L2.CX P w) P w K mg base (["self", "parts", "simple"] : List Str) (d_Condition_init).qual (defScope (d_Condition_init).st) ((d_Condition_init).loc.ad K) cdv A outer s H E) rfl rfl rfl rfl
  have po := passes_of (X := cxOf (L2.CX P w) P w K mg base (["self", "parts", "simple"] : List Str) (d_Condition_init).qual (defScope (d_Condition_init).st) ((d_Condition_init).loc.ad K) cdv A outer s H E) rfl
  exact (zs_cons (q_setF (fo_own_shape_0 T) (z_var (pv 0)) (z_var (pv 1))) (zs_one (q_setF (fo_own_simple_1 T) (z_var (pv 0)) (z_var (pv 2)))))
theorem ok_Condition_init (T : Fx P w K mg) : Cal P w K mg base (G K sa) 2 ((d_Condition_init).loc.ad K) 3 z_Condition_init := by
  obtain ⟨fd, F, ok⟩ := ok_Condition_init_f (P := P) (base := base) (sa := sa) T
  exact ⟨fd, _, ok, F.kp, F.bindsN fun _ _ _ _ _ _ us hl => match us, hl with | [_, _, _], _ => rfl⟩
def z_Begins_init : Fn := zDefS 4 1 (zSeq (zIfS (zOrT (zNot (zTru (zIsi tbStr (zVar 1)))) (zOrT (zBl (zBin opGt (zCall opLen (zCons (zVar 1) zNil)) (zCon (.int 20)))) (zNot (zTru (zCall (opAll false) (zCons (zLc (zIStr (zVar 1)) (gNm 3) zYes (zBin (opIn false) (zVar 3) (zCon (.str "abcdefghijklmnopqrstuvwxyz0123456789"))) [3]) zNil)))))) (zRaise 7 2 (zCons (zVar 1) zNil)) zNext) (zSup (inL [1]) 3 z_Condition_init (zCons (zTup (zCons (zCon (.str "begins")) (zCons (zVar 1) zNil))) (zCons (zLst (zCons (zTup (zCons (zCon (.str "begins")) (zCons (zVar 1) zNil))) zNil)) zNil))))
theorem sc_Begins_init : NdefX.NScope (["self", "text", "__class__", "sign"] : List Str) (["self", "text"] : List Str) ["__class__"] (defScope (d_Begins_init).st) := ⟨rfl, rfl, rfl, by decide +kernel, rfl, by decide +kernel, by decide +kernel, by decide +kernel, by decide +kernel⟩
theorem ok_Begins_init (T : Fx P w K mg) : Cal P w K mg base (G K sa) 3 ((d_Begins_init).loc.ad K) 2 z_Begins_init := by
  obtain ⟨cc, fd, F⟩ := T.c.sup_ 2 (d := d_Begins_init) rfl
  have nd : ((["self", "text", "__class__", "sign"] : List Str)).Nodup := (sc_Begins_init).nd
  refine supdef_z (k := 2) (ps := (["self", "text"] : List Str)) (N := (["self", "text", "__class__", "sign"] : List Str)) (x0 := "self") T.po F (T.c.fact 30 rfl) rfl rfl rfl rfl rfl sc_Begins_init (by decide) (fun _ _ _ _ _ _ us hl => match us, hl with | [_, _], _ => rfl) (fun cda A outer s H E SD hr => ?_)
  have tk := takes_of (X := NdefX.ncx (L2.CX P w) P w K mg base (["self", "text", "__class__", "sign"] : List Str) ⟨(d_Begins_init).name, (d_Begins_init).qual, defArgs (d_Begins_init).st, defBody (d_Begins_init).st, defScope (d_Begins_init).st, [(("__class__" : Str), cc)], cda⟩ ((d_Begins_init).loc.ad K) A outer s H E) rfl rfl rfl rfl
  have po := passes_of (X := NdefX.ncx (L2.CX P w) P w K mg base (["self", "text", "__class__", "sign"] : List Str) ⟨(d_Begins_init).name, (d_Begins_init).qual, defArgs (d_Begins_init).st, defBody (d_Begins_init).st, defScope (d_Begins_init).st, [(("__class__" : Str), cc)], cda⟩ ((d_Begins_init).loc.ad K) A outer s H E) rfl
  exact (zsa_cons (zs_if (PW.pt (z_orT (z_notT (q_tru (q_isiB (n_isinstance T) (n_str T) bt_str tb_str (fun _ => rfl) (z_var (pv 1))))) (z_orT (q_cmpT op_gt oz_gt (q_cb call_len cz_len (n_len T) bt_len (q_cons (z_var (pv 1)) z_nil)) (q_gint (i_MAX_LENGTH T))) (z_or1 (z_notT (q_tru (q_cb (cr_all rfl) cz_all (n_all T) bt_all (q_cons (z_lc (pe_lc (own := [("sign", 3)]) (by rfl) nd (zi_str (pi_str (z_var (pv 1)))) (blkOk_by (N := (["self", "text", "__class__", "sign"] : List Str)) (sc := defScope (d_Begins_init).st) (own := [("sign", 3)]) (by decide +kernel)) (fun _ _ _ _ _ => (g_nm (pg_name (i := 3) nd (by rfl) (by exact .inl rfl)))) (fun _ _ _ _ _ => zts_nil) (fun _ _ _ _ _ => (q_cmp or_in oz_in (z_var (pv 3)) (q_gstr (s_CHARACTERS T)))))) z_nil)))))))) (zs_one (q_raise (ini_InvalidText T) (hr.mono (by decide)) tk (g_InvalidText T) (q_cons (z_var (pv 1)) z_nil))) zs_nil) (zsa_super SD (sc_Begins_init_c T) (ok_Condition_init T) (hr.mono (by decide)) tk (q_cons (z_tup (q_cons q_str (q_cons (z_var (pv 1)) z_nil))) (q_cons (z_lst (q_cons (z_tup (q_cons q_str (q_cons (z_var (pv 1)) z_nil))) z_nil)) z_nil)) (n_super T) rfl rfl rfl rfl rfl rfl rfl))
def z_is_integer : Fn := zDef 1 (zRet (zAnd (zIsi tbInt (zVar 0)) (zNotV (zIsi tbBool (zVar 0)))))
theorem sc_is_integer : FnScope (["value"] : List Str) (["value"] : List Str) (defScope (d_is_integer).st) := ⟨rfl, rfl, rfl, by decide +kernel, rfl, by decide +kernel, by decide +kernel⟩
theorem ok_is_integer_f (T : Fx P w K mg) : ∃ fd, (d_is_integer).Is K fd ∧ FnOk P w K mg base (L2.CX P w) 2 ((d_is_integer).loc.ad K) fd (["value"] : List Str) (spz (G K sa) 1 z_is_integer) := by
  obtain ⟨fd, F⟩ := T.c.def_ 8 (d := d_is_integer) rfl
  have nd : ((["value"] : List Str)).Nodup := (sc_is_integer).nd
  refine ⟨fd, F, def_ok (k := 1) F sc_is_integer (by decide) (fun cdv A outer s H E hr => ?_)⟩
  have tk := takes_of (X := cxOf (L2.CX P w) P w K mg base (["value"] : List Str) (d_is_integer).qual (defScope (d_is_integer).st) ((d_is_integer).loc.ad K) cdv A outer s H E) rfl rfl rfl rfl
  have po := passes_of (X := cxOf (L2.CX P w) P w K mg base (["value"] : List Str) (d_is_integer).qual (defScope (d_is_integer).st) ((d_is_integer).loc.ad K) cdv A outer s H E) rfl
  exact (zs_one (zs_ret (z_and (q_isiB (n_isinstance T) (n_int T) bt_int tb_int (fun _ => rfl) (z_var (pv 0))) (z_one (z_not (q_isiB (n_isinstance T) (n_bool T) bt_bool tb_bool (fun _ => rfl) (z_var (pv 0))))))))
theorem ok_is_integer (T : Fx P w K mg) : Cal P w K mg base (G K sa) 2 ((d_is_integer).loc.ad K) 1 z_is_integer := by
  obtain ⟨fd, F, ok⟩ := ok_is_integer_f (P := P) (base := base) (sa := sa) T
  exact ⟨fd, _, ok, F.kp, F.bindsN fun _ _ _ _ _ _ us hl => match us, hl with | [_], _ => rfl⟩
def z_in_range : Fn := zDef 3 (zRet (zAnd (zFn 1 z_is_integer [] (zCons (zVar 0) zNil)) (zChain opLe opLe (zVar 1) (zVar 0) (zVar 2))))
theorem sc_in_range : FnScope (["value", "least", "most"] : List Str) (["value", "least", "most"] : List Str) (defScope (d_in_range).st) := ⟨rfl, rfl, rfl, by decide +kernel, rfl, by decide +kernel, by decide +kernel⟩
theorem ok_in_range_f (T : Fx P w K mg) : ∃ fd, (d_in_range).Is K fd ∧ FnOk P w K mg base (L2.CX P w) 3 ((d_in_range).loc.ad K) fd (["value", "least", "most"] : List Str) (spz (G K sa) 3 z_in_range) := by
  obtain ⟨fd, F⟩ := T.c.def_ 7 (d := d_in_range) rfl
  have nd : ((["value", "least", "most"] : List Str)).Nodup := (sc_in_range).nd
  refine ⟨fd, F, def_ok (k := 2) F sc_in_range (by decide) (fun cdv A outer s H E hr => ?_)⟩
  have tk := takes_of (X := cxOf (L2.CX P w) P w K mg base (["value", "least", "most"] : List Str) (d_in_range).qual (defScope (d_in_range).st) ((d_in_range).loc.ad K) cdv A outer s H E) rfl rfl rfl rfl
  have po := passes_of (X := cxOf (L2.CX P w) P w K mg base (["value", "least", "most"] : List Str) (d_in_range).qual (defScope (d_in_range).st) ((d_in_range).loc.ad K) cdv A outer s H E) rfl
  exact (zs_one (zs_ret (z_and (q_call (ok_is_integer T) (hr.mono (by decide)) (ps_takes tk) (g_is_integer T) (q_cons (z_var (pv 0)) z_nil)) (z_one (z_chain op_le oz_le op_le oz_le (z_var (pv 1)) (z_var (pv 0)) (z_var (pv 2)) (by rfl))))))
theorem ok_in_range (T : Fx P w K mg) : Cal P w K mg base (G K sa) 3 ((d_in_range).loc.ad K) 3 z_in_range := by
  obtain ⟨fd, F, ok⟩ := ok_in_range_f (P := P) (base := base) (sa := sa) T
  exact ⟨fd, _, ok, F.kp, F.bindsN fun _ _ _ _ _ _ us hl => match us, hl with | [_, _, _], _ => rfl⟩
def z_check_number : Fn := zDef 3 (zIfS (zNot (zTru (zFn 3 z_in_range [] (zCons (zVar 0) (zCons (zVar 1) (zCons (zVar 2) zNil)))))) (zRaise 8 2 (zCons (zVar 0) zNil)) zNext)
theorem sc_check_number : FnScope (["value", "least", "most"] : List Str) (["value", "least", "most"] : List Str) (defScope (d_check_number).st) := ⟨rfl, rfl, rfl, by decide +kernel, rfl, by decide +kernel, by decide +kernel⟩
theorem ok_check_number_f (T : Fx P w K mg) : ∃ fd, (d_check_number).Is K fd ∧ FnOk P w K mg base (L2.CX P w) 4 ((d_check_number).loc.ad K) fd (["value", "least", "most"] : List Str) (spz (G K sa) 3 z_check_number) := by
  obtain ⟨fd, F⟩ := T.c.def_ 6 (d := d_check_number) rfl
  have nd : ((["value", "least", "most"] : List Str)).Nodup := (sc_check_number).nd
  refine ⟨fd, F, def_ok (k := 3) F sc_check_number (by decide) (fun cdv A outer s H E hr => ?_)⟩
  have tk := takes_of (X := cxOf (L2.CX P w) P w K mg base (["value", "least", "most"] : List Str) (d_check_number).qual (defScope (d_check_number).st) ((d_check_number).loc.ad K) cdv A outer s H E) rfl rfl rfl rfl
  have po := passes_of (X := cxOf (L2.CX P w) P w K mg base (["value", "least", "most"] : List Str) (d_check_number).qual (defScope (d_check_number).st) ((d_check_number).loc.ad K) cdv A outer s H E) rfl
  exact (zs_one (zs_if (z_notT (q_tru (q_call (ok_in_range T) (hr.mono (by decide)) (ps_takes tk) (g_in_range T) (q_cons (z_var (pv 0)) (q_cons (z_var (pv 1)) (q_cons (z_var (pv 2)) z_nil)))))) (zs_one (q_raise (ini_InvalidNumber T) (hr.mono (by decide)) tk (g_InvalidNumber T) (q_cons (z_var (pv 0)) z_nil))) zs_nil))
theorem ok_check_number (T : Fx P w K mg) : Cal P w K mg base (G K sa) 4 ((d_check_number).loc.ad K) 3 z_check_number := by
  obtain ⟨fd, F, ok⟩ := ok_check_number_f (P := P) (base := base) (sa := sa) T
  exact ⟨fd, _, ok, F.kp, F.bindsN fun _ _ _ _ _ _ us hl => match us, hl with | [_, _, _], _ => rfl⟩
def z_Length_init : Fn := zDefS 4 4 (zSeq (zExpr (zFn 3 z_check_number [] (zCons (zVar 1) (zCons (zCon (.int 1)) (zCons (zCon (.int 20)) zNil))))) (zSeq (zExpr (zFn 3 z_check_number [] (zCons (zVar 2) (zCons (zCon (.int 1)) (zCons (zCon (.int 20)) zNil))))) (zSeq (zIfS (zBl (zBin opGt (zVar 1) (zVar 2))) (zRaise2 9 3 4 (zCons (zVar 1) (zCons (zVar 2) zNil))) zNext) (zSup (inL [4]) 3 z_Condition_init (zCons (zTup (zCons (zCon (.str "length")) (zCons (zVar 1) (zCons (zVar 2) zNil)))) (zCons (zLst (zCons (zTup (zCons (zCon (.str "length")) (zCons (zVar 1) (zCons (zVar 2) zNil)))) zNil)) zNil))))))
theorem sc_Length_init : NdefX.NScope (["self", "least", "most", "__class__"] : List Str) (["self", "least", "most"] : List Str) ["__class__"] (defScope (d_Length_init).st) := ⟨rfl, rfl, rfl, by decide +kernel, rfl, by decide +kernel, by decide +kernel, by decide +kernel, by decide +kernel⟩
theorem ok_Length_init (T : Fx P w K mg) : Cal P w K mg base (G K sa) 5 ((d_Length_init).loc.ad K) 3 z_Length_init := by
  obtain ⟨cc, fd, F⟩ := T.c.sup_ 5 (d := d_Length_init) rfl
  have nd : ((["self", "least", "most", "__class__"] : List Str)).Nodup := (sc_Length_init).nd
  refine supdef_z (k := 4) (ps := (["self", "least", "most"] : List Str)) (N := (["self", "least", "most", "__class__"] : List Str)) (x0 := "self") T.po F (T.c.fact 48 rfl) rfl rfl rfl rfl rfl sc_Length_init (by decide) (fun _ _ _ _ _ _ us hl => match us, hl with | [_, _, _], _ => rfl) (fun cda A outer s H E SD hr => ?_)
  have tk := takes_of (X := NdefX.ncx (L2.CX P w) P w K mg base (["self", "least", "most", "__class__"] : List Str) ⟨(d_Length_init).name, (d_Length_init).qual, defArgs (d_Length_init).st, defBody (d_Length_init).st, defScope (d_Length_init).st, [(("__class__" : Str), cc)], cda⟩ ((d_Length_init).loc.ad K) A outer s H E) rfl rfl rfl rfl
  have po := passes_of (X := NdefX.ncx (L2.CX P w) P w K mg base (["self", "least", "most", "__class__"] : List Str) ⟨(d_Length_init).name, (d_Length_init).qual, defArgs (d_Length_init).st, defBody (d_Length_init).st, defScope (d_Length_init).st, [(("__class__" : Str), cc)], cda⟩ ((d_Length_init).loc.ad K) A outer s H E) rfl
  exact (zsa_cons (q_expr (q_call (ok_check_number T) (hr.mono (by decide)) (ps_takes tk) (g_check_number T) (q_cons (z_var (pv 1)) (q_cons q_int (q_cons (q_gint (i_MAX_LENGTH T)) z_nil))))) (zsa_cons (q_expr (q_call (ok_check_number T) (hr.mono (by decide)) (ps_takes tk) (g_check_number T) (q_cons (z_var (pv 2)) (q_cons q_int (q_cons (q_gint (i_MAX_LENGTH T)) z_nil))))) (zsa_cons (zs_if (q_cmpT op_gt oz_gt (z_var (pv 1)) (z_var (pv 2))) (zs_one (zs_raise2 (ini_InvalidRange T) (hr.mono (by decide)) rfl tk (by rfl) (g_InvalidRange T) (q_cons (z_var (pv 1)) (q_cons (z_var (pv 2)) z_nil)) (by decide) (by rfl) (by rfl))) zs_nil) (zsa_super SD (sc_Length_init_c T) (ok_Condition_init T) (hr.mono (by decide)) tk (q_cons (z_tup (q_cons q_str (q_cons (z_var (pv 1)) (q_cons (z_var (pv 2)) z_nil)))) (q_cons (z_lst (q_cons (z_tup (q_cons q_str (q_cons (z_var (pv 1)) (q_cons (z_var (pv 2)) z_nil)))) z_nil)) z_nil)) (n_super T) rfl rfl rfl rfl rfl rfl rfl))))
def z_Value_init : Fn := zDefS 5 6 (zSeq (zFor (zITup (zTup (zCons (zVar 1) (zCons (zVar 2) zNil)))) (gNm 4) (zIfS (zAndT (zBl (zBin (opIsN true) (zVar 4) (zCon .non))) (zNot (zTru (zFn 1 z_is_integer [] (zCons (zVar 4) zNil))))) (zRaise 8 2 (zCons (zVar 4) zNil)) zNext)) (zSeq (zIfS (zAndT (zBl (zBin (opIsN true) (zVar 1) (zCon .non))) (zAndT (zBl (zBin (opIsN true) (zVar 2) (zCon .non))) (zBl (zBin opGt (zVar 1) (zVar 2))))) (zRaise2 9 3 4 (zCons (zVar 1) (zCons (zVar 2) zNil))) zNext) (zSup (inL [6]) 3 z_Condition_init (zCons (zTup (zCons (zCon (.str "value")) (zCons (zVar 1) (zCons (zVar 2) zNil)))) (zCons (zLst (zCons (zTup (zCons (zCon (.str "value")) (zCons (zVar 1) (zCons (zVar 2) zNil)))) zNil)) zNil)))))
theorem sc_Value_init : NdefX.NScope (["self", "least", "most", "__class__", "bound"] : List Str) (["self", "least", "most"] : List Str) ["__class__"] (defScope (d_Value_init).st) := ⟨rfl, rfl, rfl, by decide +kernel, rfl, by decide +kernel, by decide +kernel, by decide +kernel, by decide +kernel⟩
theorem ok_Value_init (T : Fx P w K mg) : Cal P w K mg base (G K sa) 3 ((d_Value_init).loc.ad K) 3 z_Value_init := by
  obtain ⟨cc, fd, F⟩ := T.c.sup_ 11 (d := d_Value_init) rfl
  have nd : ((["self", "least", "most", "__class__", "bound"] : List Str)).Nodup := (sc_Value_init).nd
  refine supdef_z (k := 2) (ps := (["self", "least", "most"] : List Str)) (N := (["self", "least", "most", "__class__", "bound"] : List Str)) (x0 := "self") T.po F (T.c.fact 52 rfl) rfl rfl rfl rfl rfl sc_Value_init (by decide) (fun _ _ _ _ _ _ us hl => match us, hl with | [_, _, _], _ => rfl) (fun cda A outer s H E SD hr => ?_)
  have tk := takes_of (X := NdefX.ncx (L2.CX P w) P w K mg base (["self", "least", "most", "__class__", "bound"] : List Str) ⟨(d_Value_init).name, (d_Value_init).qual, defArgs (d_Value_init).st, defBody (d_Value_init).st, defScope (d_Value_init).st, [(("__class__" : Str), cc)], cda⟩ ((d_Value_init).loc.ad K) A outer s H E) rfl rfl rfl rfl
  have po := passes_of (X := NdefX.ncx (L2.CX P w) P w K mg base (["self", "least", "most", "__class__", "bound"] : List Str) ⟨(d_Value_init).name, (d_Value_init).qual, defArgs (d_Value_init).st, defBody (d_Value_init).st, defScope (d_Value_init).st, [(("__class__" : Str), cc)], cda⟩ ((d_Value_init).loc.ad K) A outer s H E) rfl
  exact (zsa_cons (zs_for gNm_wf (ps_for po (by rfl) (zi_tup (pi_tup (z_tup (q_cons (z_var (pv 1)) (q_cons (z_var (pv 2)) z_nil))))) (g_nm (pg_name (i := 4) nd (by rfl) (by exact .inl rfl))) (zs_one (zs_if (PW.pt (z_andT (q_cmpT op_notN oz_notN (z_var (pv 4)) q_non) (z_and1 (z_notT (q_tru (q_call (ok_is_integer T) (hr.mono (by decide)) (ps_takes tk) (g_is_integer T) (q_cons (z_var (pv 4)) z_nil))))))) (zs_one (q_raise (ini_InvalidNumber T) (hr.mono (by decide)) tk (g_InvalidNumber T) (q_cons (z_var (pv 4)) z_nil))) zs_nil)))) (zsa_cons (zs_if (PW.pt (z_andT (q_cmpT op_notN oz_notN (z_var (pv 1)) q_non) (z_andT (q_cmpT op_notN oz_notN (z_var (pv 2)) q_non) (z_and1 (q_cmpT op_gt oz_gt (z_var (pv 1)) (z_var (pv 2))))))) (zs_one (zs_raise2 (ini_InvalidRange T) (hr.mono (by decide)) rfl tk (by rfl) (g_InvalidRange T) (q_cons (z_var (pv 1)) (q_cons (z_var (pv 2)) z_nil)) (by decide) (by rfl) (by rfl))) zs_nil) (zsa_super SD (sc_Value_init_c T) (ok_Condition_init T) (hr.mono (by decide)) tk (q_cons (z_tup (q_cons q_str (q_cons (z_var (pv 1)) (q_cons (z_var (pv 2)) z_nil)))) (q_cons (z_lst (q_cons (z_tup (q_cons q_str (q_cons (z_var (pv 1)) (q_cons (z_var (pv 2)) z_nil)))) z_nil)) z_nil)) (n_super T) rfl rfl rfl rfl rfl rfl rfl)))
def z_is_key : Fn := zDef 2 (zSeq (zIfS (zOrT (zNot (zTru (zIsi tbStr (zVar 0)))) (zNot (zBl (zChain opLe opLe (zCon (.int 1)) (zCall opLen (zCons (zVar 0) zNil)) (zCon (.int 20)))))) (zRet (zCon (.bl false))) zNext) (zRet (zCall (opAll false) (zCons (zLc (zIStr (zVar 0)) (gNm 1) zYes (zBin (opIn false) (zVar 1) (zCon (.str "abcdefghijklmnopqrstuvwxyz0123456789"))) [1]) zNil))))
theorem sc_is_key : FnScope (["value", "sign"] : List Str) (["value"] : List Str) (defScope (d_is_key).st) := ⟨rfl, rfl, rfl, by decide +kernel, rfl, by decide +kernel, by decide +kernel⟩
theorem ok_is_key_f (T : Fx P w K mg) : ∃ fd, (d_is_key).Is K fd ∧ FnOk P w K mg base (L2.CX P w) 2 ((d_is_key).loc.ad K) fd (["value"] : List Str) (spz (G K sa) 1 z_is_key) := by
  obtain ⟨fd, F⟩ := T.c.def_ 14 (d := d_is_key) rfl
  have nd : ((["value", "sign"] : List Str)).Nodup := (sc_is_key).nd
  refine ⟨fd, F, def_ok (k := 1) F sc_is_key (by decide) (fun cdv A outer s H E hr => ?_)⟩
  have tk := takes_of (X := cxOf (L2.CX P w) P w K mg base (["value", "sign"] : List Str) (d_is_key).qual (defScope (d_is_key).st) ((d_is_key).loc.ad K) cdv A outer s H E) rfl rfl rfl rfl
  have po := passes_of (X := cxOf (L2.CX P w) P w K mg base (["value", "sign"] : List Str) (d_is_key).qual (defScope (d_is_key).st) ((d_is_key).loc.ad K) cdv A outer s H E) rfl
  exact (zs_cons (zs_if (PW.pt (z_orT (z_notT (q_tru (q_isiB (n_isinstance T) (n_str T) bt_str tb_str (fun _ => rfl) (z_var (pv 0))))) (z_or1 (z_notT (z_chainT op_le oz_le op_le oz_le q_int (q_cb call_len cz_len (n_len T) bt_len (q_cons (z_var (pv 0)) z_nil)) (q_gint (i_MAX_LENGTH T)) (by rfl)))))) (zs_one (zs_ret q_bl)) zs_nil) (zs_one (zs_ret (q_cb (cr_all rfl) cz_all (n_all T) bt_all (q_cons (z_lc (pe_lc (own := [("sign", 1)]) (by rfl) nd (zi_str (pi_str (z_var (pv 0)))) (blkOk_by (N := (["value", "sign"] : List Str)) (sc := defScope (d_is_key).st) (own := [("sign", 1)]) (by decide +kernel)) (fun _ _ _ _ _ => (g_nm (pg_name (i := 1) nd (by rfl) (by exact .inl rfl)))) (fun _ _ _ _ _ => zts_nil) (fun _ _ _ _ _ => (q_cmp or_in oz_in (z_var (pv 1)) (q_gstr (s_CHARACTERS T)))))) z_nil)))))
theorem ok_is_key (T : Fx P w K mg) : Cal P w K mg base (G K sa) 2 ((d_is_key).loc.ad K) 1 z_is_key := by
  obtain ⟨fd, F, ok⟩ := ok_is_key_f (P := P) (base := base) (sa := sa) T
  exact ⟨fd, _, ok, F.kp, F.bindsN fun _ _ _ _ _ _ us hl => match us, hl with | [_], _ => rfl⟩
def z_check_key : Fn := zDef 1 (zIfS (zNot (zTru (zFn 1 z_is_key [] (zCons (zVar 0) zNil)))) (zRaise 10 2 (zCons (zVar 0) zNil)) zNext)
theorem sc_check_key : FnScope (["value"] : List Str) (["value"] : List Str) (defScope (d_check_key).st) := ⟨rfl, rfl, rfl, by decide +kernel, rfl, by decide +kernel, by decide +kernel⟩
theorem ok_check_key_f (T : Fx P w K mg) : ∃ fd, (d_check_key).Is K fd ∧ FnOk P w K mg base (L2.CX P w) 3 ((d_check_key).loc.ad K) fd (["value"] : List Str) (spz (G K sa) 1 z_check_key) := by
  obtain ⟨fd, F⟩ := T.c.def_ 13 (d := d_check_key) rfl
  have nd : ((["value"] : List Str)).Nodup := (sc_check_key).nd
  refine ⟨fd, F, def_ok (k := 2) F sc_check_key (by decide) (fun cdv A outer s H E hr => ?_)⟩
  have tk := takes_of (X := cxOf (L2.CX P w) P w K mg base (["value"] : List Str) (d_check_key).qual (defScope (d_check_key).st) ((d_check_key).loc.ad K) cdv A outer s H E) rfl rfl rfl rfl
  have po := passes_of (X := cxOf (L2.CX P w) P w K mg base (["value"] : List Str) (d_check_key).qual (defScope (d_check_key).st) ((d_check_key).loc.ad K) cdv A outer s H E) rfl
  exact (zs_one (zs_if (z_notT (q_tru (q_call (ok_is_key T) (hr.mono (by decide)) (ps_takes tk) (g_is_key T) (q_cons (z_var (pv 0)) z_nil)))) (zs_one (q_raise (ini_InvalidKey T) (hr.mono (by decide)) tk (g_InvalidKey T) (q_cons (z_var (pv 0)) z_nil))) zs_nil))
theorem ok_check_key (T : Fx P w K mg) : Cal P w K mg base (G K sa) 3 ((d_check_key).loc.ad K) 1 z_check_key := by
  obtain ⟨fd, F, ok⟩ := ok_check_key_f (P := P) (base := base) (sa := sa) T
  exact ⟨fd, _, ok, F.kp, F.bindsN fun _ _ _ _ _ _ us hl => match us, hl with | [_], _ => rfl⟩
def z_check_value : Fn := zDef 1 (zIfS (zNot (zTru (zFn 1 z_is_integer [] (zCons (zVar 0) zNil)))) (zRaise 8 2 (zCons (zVar 0) zNil)) zNext)
theorem sc_check_value : FnScope (["value"] : List Str) (["value"] : List Str) (defScope (d_check_value).st) := ⟨rfl, rfl, rfl, by decide +kernel, rfl, by decide +kernel, by decide +kernel⟩
theorem ok_check_value_f (T : Fx P w K mg) : ∃ fd, (d_check_value).Is K fd ∧ FnOk P w K mg base (L2.CX P w) 3 ((d_check_value).loc.ad K) fd (["value"] : List Str) (spz (G K sa) 1 z_check_value) := by
  obtain ⟨fd, F⟩ := T.c.def_ 16 (d := d_check_value) rfl
  have nd : ((["value"] : List Str)).Nodup := (sc_check_value).nd
  refine ⟨fd, F, def_ok (k := 2) F sc_check_value (by decide) (fun cdv A outer s H E hr => ?_)⟩
  have tk := takes_of (X := cxOf (L2.CX P w) P w K mg base (["value"] : List Str) (d_check_value).qual (defScope (d_check_value).st) ((d_check_value).loc.ad K) cdv A outer s H E) rfl rfl rfl rfl
  have po := passes_of (X := cxOf (L2.CX P w) P w K mg base (["value"] : List Str) (d_check_value).qual (defScope (d_check_value).st) ((d_check_value).loc.ad K) cdv A outer s H E) rfl
  exact (zs_one (zs_if (z_notT (q_tru (q_call (ok_is_integer T) (hr.mono (by decide)) (ps_takes tk) (g_is_integer T) (q_cons (z_var (pv 0)) z_nil)))) (zs_one (q_raise (ini_InvalidNumber T) (hr.mono (by decide)) tk (g_InvalidNumber T) (q_cons (z_var (pv 0)) z_nil))) zs_nil))
theorem ok_check_value (T : Fx P w K mg) : Cal P w K mg base (G K sa) 3 ((d_check_value).loc.ad K) 1 z_check_value := by
  obtain ⟨fd, F, ok⟩ := ok_check_value_f (P := P) (base := base) (sa := sa) T
  exact ⟨fd, _, ok, F.kp, F.bindsN fun _ _ _ _ _ _ us hl => match us, hl with | [_], _ => rfl⟩
def z_Condition___call__ : Fn := zDef 3 (zSeq (zExpr (zFn 1 z_check_key [] (zCons (zVar 1) zNil))) (zSeq (zExpr (zFn 1 z_check_value [] (zCons (zVar 2) zNil))) zNever))
theorem sc_Condition___call__ : FnScope (["self", "key", "value"] : List Str) (["self", "key", "value"] : List Str) (defScope (d_Condition___call__).st) := ⟨rfl, rfl, rfl, by decide +kernel, rfl, by decide +kernel, by decide +kernel⟩
theorem ok_Condition___call___f (T : Fx P w K mg) : ∃ fd, (d_Condition___call__).Is K fd ∧ FnOk P w K mg base (L2.CX P w) 4 ((d_Condition___call__).loc.ad K) fd (["self", "key", "value"] : List Str) (spz (G K sa) 3 z_Condition___call__) := by
  obtain ⟨fd, F⟩ := T.c.def_ 12 (d := d_Condition___call__) rfl
  have nd : ((["self", "key", "value"] : List Str)).Nodup := (sc_Condition___call__).nd
  refine ⟨fd, F, def_ok (k := 3) F sc_Condition___call__ (by decide) (fun cdv A outer s H E hr => ?_)⟩
  have tk := takes_of (X := cxOf (L2.CX P w) P w K mg base (["self", "key", "value"] : List Str) (d_Condition___call__).qual (defScope (d_Condition___call__).st) ((d_Condition___call__).loc.ad K) cdv A outer s H E) rfl rfl rfl rfl
  have po := passes_of (X := cxOf (L2.CX P w) P w K mg base (["self", "key", "value"] : List Str) (d_Condition___call__).qual (defScope (d_Condition___call__).st) ((d_Condition___call__).loc.ad K) cdv A outer s H E) rfl
  exact (zs_cons (q_expr (q_call (ok_check_key T) (hr.mono (by decide)) (ps_takes tk) (g_check_key T) (q_cons (z_var (pv 1)) z_nil))) (zs_cons (q_expr (q_call (ok_check_value T) (hr.mono (by decide)) (ps_takes tk) (g_check_value T) (q_cons (z_var (pv 2)) z_nil))) zss_never))
theorem ok_Condition___call__ (T : Fx P w K mg) : Cal P w K mg base (G K sa) 4 ((d_Condition___call__).loc.ad K) 3 z_Condition___call__ := by
  obtain ⟨fd, F, ok⟩ := ok_Condition___call___f (P := P) (base := base) (sa := sa) T
  exact ⟨fd, _, ok, F.kp, F.bindsN fun _ _ _ _ _ _ us hl => match us, hl with | [_, _, _], _ => rfl⟩
def mt_call_0 : Nat → Option Fn := look [(1, z_Condition___call__)]
theorem mt_call_0_ok (T : Fx P w K mg) : ∀ c fn, mt_call_0 c = some fn → Cls K ((G K sa).ga c) ∧ ∃ f, Meth K ((G K sa).ga c) ((G K sa).nm 5) f ∧ Cal P w K mg base (G K sa) 4 f 3 fn := look_cons ⟨He.cls_ok (T.c.fact 10 rfl), _, He.meth_ok (T.c.fact 62 rfl), (Cal.at (eqmB_ok (T.c.fact 63 rfl)) ((ok_Condition___call__ T).mono (by decide : 4 ≤ 4)))⟩ (look_nil)
def z_check_condition : Fn := zDef 1 (zIfS (zNot (zTru (zIsi (tbS [1]) (zVar 0)))) (zRaise 12 2 (zCons (zVar 0) zNil)) zNext)
theorem sc_check_condition : FnScope (["value"] : List Str) (["value"] : List Str) (defScope (d_check_condition).st) := ⟨rfl, rfl, rfl, by decide +kernel, rfl, by decide +kernel, by decide +kernel⟩
theorem ok_check_condition_f (T : Fx P w K mg) : ∃ fd, (d_check_condition).Is K fd ∧ FnOk P w K mg base (L2.CX P w) 3 ((d_check_condition).loc.ad K) fd (["value"] : List Str) (spz (G K sa) 1 z_check_condition) := by
  obtain ⟨fd, F⟩ := T.c.def_ 18 (d := d_check_condition) rfl
  have nd : ((["value"] : List Str)).Nodup := (sc_check_condition).nd
  refine ⟨fd, F, def_ok (k := 2) F sc_check_condition (by decide) (fun cdv A outer s H E hr => ?_)⟩
  have tk := takes_of (X := cxOf (L2.CX P w) P w K mg base (["value"] : List Str) (d_check_condition).qual (defScope (d_check_condition).st) ((d_check_condition).loc.ad K) cdv A outer s H E) rfl rfl rfl rfl
  have po := passes_of (X := cxOf (L2.CX P w) P w K mg base (["value"] : List Str) (d_check_condition).qual (defScope (d_check_condition).st) ((d_check_condition).loc.ad K) cdv A outer s H E) rfl
  exact (zs_one (zs_if (z_notT (q_tru (q_isiS (x := "Condition") (c := 11) (n_isinstance T) (g_Condition T) rfl (T.c.fact 67 rfl) (sb_Condition__Begins T) (z_var (pv 0))))) (zs_one (q_raise (ini_InvalidCondition T) (hr.mono (by decide)) tk (g_InvalidCondition T) (q_cons (z_var (pv 0)) z_nil))) zs_nil))
theorem ok_check_condition (T : Fx P w K mg) : Cal P w K mg base (G K sa) 3 ((d_check_condition).loc.ad K) 1 z_check_condition := by
  obtain ⟨fd, F, ok⟩ := ok_check_condition_f (P := P) (base := base) (sa := sa) T
  exact ⟨fd, _, ok, F.kp, F.bindsN fun _ _ _ _ _ _ us hl => match us, hl with | [_], _ => rfl⟩
def z_some_row : Fn := zDef 1 (zSeq (zExpr (zFn 1 z_check_condition [] (zCons (zVar 0) zNil))) zNever)
theorem sc_some_row : FnScope (["condition"] : List Str) (["condition"] : List Str) (defScope (d_some_row).st) := ⟨rfl, rfl, rfl, by decide +kernel, rfl, by decide +kernel, by decide +kernel⟩
theorem ok_some_row_f (T : Fx P w K mg) : ∃ fd, (d_some_row).Is K fd ∧ FnOk P w K mg base (L2.CX P w) 4 ((d_some_row).loc.ad K) fd (["condition"] : List Str) (spz (G K sa) 1 z_some_row) := by
  obtain ⟨fd, F⟩ := T.c.def_ 17 (d := d_some_row) rfl
  have nd : ((["condition"] : List Str)).Nodup := (sc_some_row).nd
  refine ⟨fd, F, def_ok (k := 3) F sc_some_row (by decide) (fun cdv A outer s H E hr => ?_)⟩
  have tk := takes_of (X := cxOf (L2.CX P w) P w K mg base (["condition"] : List Str) (d_some_row).qual (defScope (d_some_row).st) ((d_some_row).loc.ad K) cdv A outer s H E) rfl rfl rfl rfl
  have po := passes_of (X := cxOf (L2.CX P w) P w K mg base (["condition"] : List Str) (d_some_row).qual (defScope (d_some_row).st) ((d_some_row).loc.ad K) cdv A outer s H E) rfl
  exact (zs_cons (q_expr (q_call (ok_check_condition T) (hr.mono (by decide)) (ps_takes tk) (g_check_condition T) (q_cons (z_var (pv 0)) z_nil))) zss_never)
theorem ok_some_row (T : Fx P w K mg) : Cal P w K mg base (G K sa) 4 ((d_some_row).loc.ad K) 1 z_some_row := by
  obtain ⟨fd, F, ok⟩ := ok_some_row_f (P := P) (base := base) (sa := sa) T
  exact ⟨fd, _, ok, F.kp, F.bindsN fun _ _ _ _ _ _ us hl => match us, hl with | [_], _ => rfl⟩
def z_implies : Fn := zDef 2 (zSeq (zExpr (zFn 1 z_check_condition [] (zCons (zVar 0) zNil))) (zSeq (zExpr (zFn 1 z_check_condition [] (zCons (zVar 1) zNil))) zNever))
theorem sc_implies : FnScope (["one", "other"] : List Str) (["one", "other"] : List Str) (defScope (d_implies).st) := ⟨rfl, rfl, rfl, by decide +kernel, rfl, by decide +kernel, by decide +kernel⟩
theorem ok_implies_f (T : Fx P w K mg) : ∃ fd, (d_implies).Is K fd ∧ FnOk P w K mg base (L2.CX P w) 4 ((d_implies).loc.ad K) fd (["one", "other"] : List Str) (spz (G K sa) 2 z_implies) := by
  obtain ⟨fd, F⟩ := T.c.def_ 20 (d := d_implies) rfl
  have nd : ((["one", "other"] : List Str)).Nodup := (sc_implies).nd
  refine ⟨fd, F, def_ok (k := 3) F sc_implies (by decide) (fun cdv A outer s H E hr => ?_)⟩
  have tk := takes_of (X := cxOf (L2.CX P w) P w K mg base (["one", "other"] : List Str) (d_implies).qual (defScope (d_implies).st) ((d_implies).loc.ad K) cdv A outer s H E) rfl rfl rfl rfl
  have po := passes_of (X := cxOf (L2.CX P w) P w K mg base (["one", "other"] : List Str) (d_implies).qual (defScope (d_implies).st) ((d_implies).loc.ad K) cdv A outer s H E) rfl
  exact (zs_cons (q_expr (q_call (ok_check_condition T) (hr.mono (by decide)) (ps_takes tk) (g_check_condition T) (q_cons (z_var (pv 0)) z_nil))) (zs_cons (q_expr (q_call (ok_check_condition T) (hr.mono (by decide)) (ps_takes tk) (g_check_condition T) (q_cons (z_var (pv 1)) z_nil))) zss_never))
theorem ok_implies (T : Fx P w K mg) : Cal P w K mg base (G K sa) 4 ((d_implies).loc.ad K) 2 z_implies := by
  obtain ⟨fd, F, ok⟩ := ok_implies_f (P := P) (base := base) (sa := sa) T
  exact ⟨fd, _, ok, F.kp, F.bindsN fun _ _ _ _ _ _ us hl => match us, hl with | [_, _], _ => rfl⟩
def z_are_alike : Fn := zDef 2 (zRet (zAnd (zFn 2 z_implies [] (zCons (zVar 0) (zCons (zVar 1) zNil))) zNo))
theorem sc_are_alike : FnScope (["one", "other"] : List Str) (["one", "other"] : List Str) (defScope (d_are_alike).st) := ⟨rfl, rfl, rfl, by decide +kernel, rfl, by decide +kernel, by decide +kernel⟩
theorem ok_are_alike_f (T : Fx P w K mg) : ∃ fd, (d_are_alike).Is K fd ∧ FnOk P w K mg base (L2.CX P w) 5 ((d_are_alike).loc.ad K) fd (["one", "other"] : List Str) (spz (G K sa) 2 z_are_alike) := by
  obtain ⟨fd, F⟩ := T.c.def_ 21 (d := d_are_alike) rfl
  have nd : ((["one", "other"] : List Str)).Nodup := (sc_are_alike).nd
  refine ⟨fd, F, def_ok (k := 4) F sc_are_alike (by decide) (fun cdv A outer s H E hr => ?_)⟩
  have tk := takes_of (X := cxOf (L2.CX P w) P w K mg base (["one", "other"] : List Str) (d_are_alike).qual (defScope (d_are_alike).st) ((d_are_alike).loc.ad K) cdv A outer s H E) rfl rfl rfl rfl
  have po := passes_of (X := cxOf (L2.CX P w) P w K mg base (["one", "other"] : List Str) (d_are_alike).qual (defScope (d_are_alike).st) ((d_are_alike).loc.ad K) cdv A outer s H E) rfl
  exact (zs_one (zs_ret (z_and (q_call (ok_implies T) (hr.mono (by decide)) (ps_takes tk) (g_implies T) (q_cons (z_var (pv 0)) (q_cons (z_var (pv 1)) z_nil))) (z_one z_no))))
theorem ok_are_alike (T : Fx P w K mg) : Cal P w K mg base (G K sa) 5 ((d_are_alike).loc.ad K) 2 z_are_alike := by
  obtain ⟨fd, F, ok⟩ := ok_are_alike_f (P := P) (base := base) (sa := sa) T
  exact ⟨fd, _, ok, F.kp, F.bindsN fun _ _ _ _ _ _ us hl => match us, hl with | [_, _], _ => rfl⟩
def z_matches : Fn := zDef 7 (zSeq (zExpr (zFn 1 z_check_condition [] (zCons (zVar 3) zNil))) zNever)
theorem sc_matches : GScope (["reader", "cursor", "most", "condition", "at", "page", "pair"] : List Str) (["reader", "cursor", "most", "condition", "at"] : List Str) (defScope (d_matches).st) := ⟨rfl, rfl, rfl, by decide +kernel, rfl, by decide +kernel, by decide +kernel⟩
theorem ok_matches (T : Fx P w K mg) : CalGR P w K mg base (G K sa) 4 ((d_matches).loc.ad K) 5 ([.non] : List W) z_matches := by
  obtain ⟨fd, F⟩ := T.c.def_ 22 (d := d_matches) rfl
  have nd : ((["reader", "cursor", "most", "condition", "at", "page", "pair"] : List Str)).Nodup := (sc_matches).nd
  obtain ⟨vs, rv, hb⟩ := F.binds0 (ps := (["reader", "cursor", "most", "condition", "at"] : List Str)) 4 (by simp [Df.kws, d_matches]) rfl (fun D doc pm an cdv ct us ks h1 h2 => match us, ks, h1, h2 with | [_, _, _, _], [_], _, _ => ⟨_, _, _, _, _, _, rfl, rfl, rfl⟩)
  refine ⟨fd, _, vs, _, def_okGR (k := 3) F sc_matches (by decide) (fun cdv A outer s H E pn hr => ?_), F.kp, hb, rv, fun _ => rfl, rfl⟩
  have tk := takes_gcx (P := P) (w := w) (K := K) (mg := mg) (base := base) (N := (["reader", "cursor", "most", "condition", "at", "page", "pair"] : List Str)) (qual := (d_matches).qual) (scope := defScope (d_matches).st) (f := (d_matches).loc.ad K) (cd := cdv) (A := A) (outer := outer) (s := s) (H := H) (E := E) (pn := pn)
  have po := owns_gcx (P := P) (w := w) (K := K) (mg := mg) (base := base) (N := (["reader", "cursor", "most", "condition", "at", "page", "pair"] : List Str)) (qual := (d_matches).qual) (scope := defScope (d_matches).st) (f := (d_matches).loc.ad K) (cd := cdv) (A := A) (outer := outer) (s := s) (H := H) (E := E) (pn := pn)
  exact (zs_cons (q_expr (q_call (ok_check_condition T) (hr.mono (by decide)) (ps_takes tk) (g_check_condition T) (q_cons (z_var (pv 3)) z_nil))) zss_never)
def z_format_condition : Fn := zDef 4 (zSeq (zExpr (zFn 1 z_check_condition [] (zCons (zVar 0) zNil))) zNever)
theorem sc_format_condition : FnScope (["condition", "bounds", "part", "bound"] : List Str) (["condition"] : List Str) (defScope (d_format_condition).st) := ⟨rfl, rfl, rfl, by decide +kernel, rfl, by decide +kernel, by decide +kernel⟩
theorem ok_format_condition_f (T : Fx P w K mg) : ∃ fd, (d_format_condition).Is K fd ∧ FnOk P w K mg base (L2.CX P w) 4 ((d_format_condition).loc.ad K) fd (["condition"] : List Str) (spz (G K sa) 1 z_format_condition) := by
  obtain ⟨fd, F⟩ := T.c.def_ 23 (d := d_format_condition) rfl
  have nd : ((["condition", "bounds", "part", "bound"] : List Str)).Nodup := (sc_format_condition).nd
  refine ⟨fd, F, def_ok (k := 3) F sc_format_condition (by decide) (fun cdv A outer s H E hr => ?_)⟩
  have tk := takes_of (X := cxOf (L2.CX P w) P w K mg base (["condition", "bounds", "part", "bound"] : List Str) (d_format_condition).qual (defScope (d_format_condition).st) ((d_format_condition).loc.ad K) cdv A outer s H E) rfl rfl rfl rfl
  have po := passes_of (X := cxOf (L2.CX P w) P w K mg base (["condition", "bounds", "part", "bound"] : List Str) (d_format_condition).qual (defScope (d_format_condition).st) ((d_format_condition).loc.ad K) cdv A outer s H E) rfl
  exact (zs_cons (q_expr (q_call (ok_check_condition T) (hr.mono (by decide)) (ps_takes tk) (g_check_condition T) (q_cons (z_var (pv 0)) z_nil))) zss_never)
theorem ok_format_condition (T : Fx P w K mg) : Cal P w K mg base (G K sa) 4 ((d_format_condition).loc.ad K) 1 z_format_condition := by
  obtain ⟨fd, F, ok⟩ := ok_format_condition_f (P := P) (base := base) (sa := sa) T
  exact ⟨fd, _, ok, F.kp, F.bindsN fun _ _ _ _ _ _ us hl => match us, hl with | [_], _ => rfl⟩
def z__law_call : Fn := zDef 4 (zSeq (zIfS (zBl (zBin (opEq false) (zVar 0) (zCon (.int 0)))) (zRet (zMk 1 2 z_Begins_init (zCons (zVar 1) zNil))) zNext) (zSeq (zIfS (zBl (zBin opLt (zVar 0) (zCon (.int 3)))) (zRet (zIf (zBl (zBin (opEq false) (zVar 0) (zCon (.int 1)))) (zMk 4 3 z_Length_init (zCons (zVar 1) (zCons (zVar 2) zNil))) (zMk 6 3 z_Value_init (zCons (zVar 1) (zCons (zVar 2) zNil))))) zNext) (zSeq (zIfS (zBl (zBin opLt (zVar 0) (zCon (.int 5)))) (zRet (zIf (zBl (zBin (opEq false) (zVar 0) (zCon (.int 3)))) (zOCall mt_call_0 3 (zMk 1 2 z_Begins_init (zCons (zCon (.str "a")) zNil)) (zCons (zVar 1) (zCons (zVar 2) zNil))) (zFn 1 z_some_row [] (zCons (zVar 1) zNil)))) zNext) (zSeq (zIfS (zBl (zBin opLt (zVar 0) (zCon (.int 7)))) (zRet (zIf (zBl (zBin (opEq false) (zVar 0) (zCon (.int 5)))) (zFn 2 z_implies [] (zCons (zVar 1) (zCons (zVar 2) zNil))) (zFn 2 z_are_alike [] (zCons (zVar 1) (zCons (zVar 2) zNil))))) zNext) (zRet (zIf (zBl (zBin (opEq false) (zVar 0) (zCon (.int 7)))) (zGen (inL [12, 10, 8, 9, 7, 13]) 5 z_matches ([.non] : List W) (zCons (zCon .non) (zCons (zCon .non) (zCons (zCon .non) (zCons (zVar 1) zNil))))) (zFn 1 z_format_condition [] (zCons (zVar 1) zNil))))))))
theorem sc__law_call : FnScope (["_law_door", "_law_one", "_law_two", "_law_item"] : List Str) (["_law_door", "_law_one", "_law_two"] : List Str) (defScope (d__law_call).st) := ⟨rfl, rfl, rfl, by decide +kernel, rfl, by decide +kernel, by decide +kernel⟩
theorem ok__law_call_f (T : Fx P w K mg) : ∃ fd, (d__law_call).Is K fd ∧ FnOk P w K mg base (L2.CX P w) 7 ((d__law_call).loc.ad K) fd (["_law_door", "_law_one", "_law_two"] : List Str) (spz (G K sa) 3 z__law_call) := by
  obtain ⟨fd, F⟩ := T.c.def_ 1 (d := d__law_call) rfl
  have nd : ((["_law_door", "_law_one", "_law_two", "_law_item"] : List Str)).Nodup := (sc__law_call).nd
  refine ⟨fd, F, def_ok (k := 6) F sc__law_call (by decide) (fun cdv A outer s H E hr => ?_)⟩
  have tk := takes_of (X := cxOf (L2.CX P w) P w K mg base (["_law_door", "_law_one", "_law_two", "_law_item"] : List Str) (d__law_call).qual (defScope (d__law_call).st) ((d__law_call).loc.ad K) cdv A outer s H E) rfl rfl rfl rfl
  have po := passes_of (X := cxOf (L2.CX P w) P w K mg base (["_law_door", "_law_one", "_law_two", "_law_item"] : List Str) (d__law_call).qual (defScope (d__law_call).st) ((d__law_call).loc.ad K) cdv A outer s H E) rfl
  exact (zs_cons (zs_if (q_cmpT (op_eqD hr.units) oz_eq (z_var (pv 0)) q_int) (zs_one (zs_ret (q_new (ok_Begins_init T) (mk_Begins T) (hr.mono (by decide)) (pse_takes tk) (g_Begins T) (q_cons (z_var (pv 1)) z_nil)))) zs_nil) (zs_cons (zs_if (q_cmpT op_lt oz_lt (z_var (pv 0)) q_int) (zs_one (zs_ret (z_if (q_cmpT (op_eqD hr.units) oz_eq (z_var (pv 0)) q_int) (q_new (ok_Length_init T) (mk_Length T) (hr.mono (by decide)) (pse_takes tk) (g_Length T) (q_cons (z_var (pv 1)) (q_cons (z_var (pv 2)) z_nil))) (q_new (ok_Value_init T) (mk_Value T) (hr.mono (by decide)) (pse_takes tk) (g_Value T) (q_cons (z_var (pv 1)) (q_cons (z_var (pv 2)) z_nil)))))) zs_nil) (zs_cons (zs_if (q_cmpT op_lt oz_lt (z_var (pv 0)) q_int) (zs_one (zs_ret (z_if (q_cmpT (op_eqD hr.units) oz_eq (z_var (pv 0)) q_int) (q_ocall (cc0 := 1) (f0 := z_Condition___call__) (mt_call_0_ok T) (hr.mono (by decide)) (pse_takes tk) (q_new (ok_Begins_init T) (mk_Begins T) (hr.mono (by decide)) (pse_takes tk) (g_Begins T) (q_cons q_str z_nil)) (q_cons (z_var (pv 1)) (q_cons (z_var (pv 2)) z_nil))) (q_call (ok_some_row T) (hr.mono (by decide)) (ps_takes tk) (g_some_row T) (q_cons (z_var (pv 1)) z_nil))))) zs_nil) (zs_cons (zs_if (q_cmpT op_lt oz_lt (z_var (pv 0)) q_int) (zs_one (zs_ret (z_if (q_cmpT (op_eqD hr.units) oz_eq (z_var (pv 0)) q_int) (q_call (ok_implies T) (hr.mono (by decide)) (ps_takes tk) (g_implies T) (q_cons (z_var (pv 1)) (q_cons (z_var (pv 2)) z_nil))) (q_call (ok_are_alike T) (hr.mono (by decide)) (ps_takes tk) (g_are_alike T) (q_cons (z_var (pv 1)) (q_cons (z_var (pv 2)) z_nil)))))) zs_nil) (zs_one (zs_ret (z_if (q_cmpT (op_eqD hr.units) oz_eq (z_var (pv 0)) q_int) (z_gen (ok_matches T) (nst T) (hr.mono (by decide)) tk rfl rfl (g_matches T) (q_cons q_non (q_cons q_non (q_cons q_non (q_cons (z_var (pv 1)) z_nil)))) (by decide +kernel)) (q_call (ok_format_condition T) (hr.mono (by decide)) (ps_takes tk) (g_format_condition T) (q_cons (z_var (pv 1)) z_nil)))))))))
theorem ok__law_call (T : Fx P w K mg) : Cal P w K mg base (G K sa) 7 ((d__law_call).loc.ad K) 3 z__law_call := by
  obtain ⟨fd, F, ok⟩ := ok__law_call_f (P := P) (base := base) (sa := sa) T
  exact ⟨fd, _, ok, F.kp, F.bindsN fun _ _ _ _ _ _ us hl => match us, hl with | [_, _, _], _ => rfl⟩
def z_Begins___repr__ : Fn := zDef 1 (zRet (zJ [(zCon (.str "Begins(")), (zFR (zBin opItem (zFld (inL [1]) 0 (zVar 0)) (zCon (.int 1)))), (zCon (.str ")"))] Str.empty))
theorem sc_Begins___repr__ : FnScope (["self"] : List Str) (["self"] : List Str) (defScope (d_Begins___repr__).st) := ⟨rfl, rfl, rfl, by decide +kernel, rfl, by decide +kernel, by decide +kernel⟩
theorem ok_Begins___repr___f (T : Fx P w K mg) : ∃ fd, (d_Begins___repr__).Is K fd ∧ FnOk P w K mg base (L2.CX P w) 2 ((d_Begins___repr__).loc.ad K) fd (["self"] : List Str) (spz (G K sa) 1 z_Begins___repr__) := by
  obtain ⟨fd, F⟩ := T.c.def_ 24 (d := d_Begins___repr__) rfl
  have nd : ((["self"] : List Str)).Nodup := (sc_Begins___repr__).nd
  refine ⟨fd, F, def_ok (k := 1) F sc_Begins___repr__ (by decide) (fun cdv A outer s H E hr => ?_)⟩
  have tk := takes_of (X := cxOf (L2.CX P w) P w K mg base (["self"] : List Str) (d_Begins___repr__).qual (defScope (d_Begins___repr__).st) ((d_Begins___repr__).loc.ad K) cdv A outer s H E) rfl rfl rfl rfl
  have po := passes_of (X := cxOf (L2.CX P w) P w K mg base (["self"] : List Str) (d_Begins___repr__).qual (defScope (d_Begins___repr__).st) ((d_Begins___repr__).loc.ad K) cdv A outer s H E) rfl
  exact (zs_one (zs_ret (z_joined (fs := [(zCon (.str "Begins(")), (zFR (zBin opItem (zFld (inL [1]) 0 (zVar 0)) (zCon (.int 1)))), (zCon (.str ")"))]) (PJ.cons q_str (PJ.cons (z_fr (q_sub (hu_of hr) (q_fld (fo_own_shape_2 T) (z_var (pv 0))) q_int)) (PJ.cons q_str PJ.nil))))))
theorem ok_Begins___repr__ (T : Fx P w K mg) : Cal P w K mg base (G K sa) 2 ((d_Begins___repr__).loc.ad K) 1 z_Begins___repr__ := by
  obtain ⟨fd, F, ok⟩ := ok_Begins___repr___f (P := P) (base := base) (sa := sa) T
  exact ⟨fd, _, ok, F.kp, F.bindsN fun _ _ _ _ _ _ us hl => match us, hl with | [_], _ => rfl⟩
def mw_repr_1 : Nat → Option Fn := look [(1, z_Begins___repr__)]
theorem ok_Begins___repr___w (T : Fx P w K mg) : CalW P w K mg base (G K sa) 1 ((d_Begins___repr__).loc.ad K) 1 z_Begins___repr__ := by
  obtain ⟨fd, F⟩ := T.c.def_ 24 (d := d_Begins___repr__) rfl
  have nd : ((["self"] : List Str)).Nodup := (sc_Begins___repr__).nd
  exact ⟨fd, _, def_okW (k := 0) F sc_Begins___repr__ (by decide) (fun cdv A outer s H E p hh => (zs_one (zs_ret (z_joined (fs := [(zCon (.str "Begins(")), (zFR (zBin opItem (zFld (inL [1]) 0 (zVar 0)) (zCon (.int 1)))), (zCon (.str ")"))]) (PJ.cons q_str (PJ.cons (z_fr (q_sub (huH_of hh) (q_fld (fo_own_shape_2 T) (z_var (pv 0))) q_int)) (PJ.cons q_str PJ.nil))))))), F.kp, F.bindsN fun _ _ _ _ _ _ us hl => match us, hl with | [_], _ => rfl⟩
theorem mw_repr_1_ok (T : Fx P w K mg) : ∀ c fn, mw_repr_1 c = some fn → Cls K ((G K sa).ga c) ∧ ∃ f, Meth K ((G K sa).ga c) ((G K sa).nm 6) f ∧ CalW P w K mg base (G K sa) 1 f 1 fn := look_cons ⟨He.cls_ok (T.c.fact 10 rfl), _, He.meth_ok (T.c.fact 85 rfl), (ok_Begins___repr___w T)⟩ (look_nil)
def z__law_told : Fn := zDef 4 (zTry [⟨7, yesOf [(12, false), (10, false), (8, false), (9, false), (7, true), (13, false)], 3, zSuite2 7 mw_repr_1 [.con (.str "text"), .rep 2, .isi true]⟩, ⟨8, yesOf [(12, false), (10, false), (8, true), (9, false), (7, false), (13, false)], 3, zSuite2 8 mw_repr_1 [.con (.str "number"), .rep 2, .isi true]⟩, ⟨9, yesOf [(12, false), (10, false), (8, false), (9, true), (7, false), (13, false)], 3, zSuite 9 [.con (.str "range"), .fld 3, .fld 4, .isi true]⟩, ⟨10, yesOf [(12, false), (10, true), (8, false), (9, false), (7, false), (13, false)], 3, zSuite2 10 mw_repr_1 [.con (.str "key"), .rep 2, .isi true]⟩, ⟨12, yesOf [(12, true), (10, false), (8, false), (9, false), (7, false), (13, false)], 3, zSuite2 12 mw_repr_1 [.con (.str "condition"), .rep 2, .isi true]⟩] (zRet (zLst (zCons (zCon (.str "told")) (zCons (zFn 3 z__law_call [] (zCons (zVar 0) (zCons (zVar 1) (zCons (zVar 2) zNil)))) zNil)))))
theorem sc__law_told : FnScope (["_law_door", "_law_one", "_law_two", "e"] : List Str) (["_law_door", "_law_one", "_law_two"] : List Str) (defScope (d__law_told).st) := ⟨rfl, rfl, rfl, by decide +kernel, rfl, by decide +kernel, by decide +kernel⟩
theorem ok__law_told_f (T : Fx P w K mg) : ∃ fd, (d__law_told).Is K fd ∧ FnG P w K mg base (L2.CX P w) 8 ((d__law_told).loc.ad K) fd (["_law_door", "_law_one", "_law_two"] : List Str) (spz (G K sa) 3 z__law_told) := by
  obtain ⟨fd, F⟩ := T.c.def_ 0 (d := d__law_told) rfl
  have nd : ((["_law_door", "_law_one", "_law_two", "e"] : List Str)).Nodup := (sc__law_told).nd
  refine ⟨fd, F, def_okG (k := 7) F sc__law_told (by decide) (fun cdv A outer s H E hgu hr => ?_)⟩
  have tk := takes_of (X := cxOf (L2.CX P w) P w K mg base (["_law_door", "_law_one", "_law_two", "e"] : List Str) (d__law_told).qual (defScope (d__law_told).st) ((d__law_told).loc.ad K) cdv A outer s H E) rfl rfl rfl rfl
  have po := passes_of (X := cxOf (L2.CX P w) P w K mg base (["_law_door", "_law_one", "_law_two", "e"] : List Str) (d__law_told).qual (defScope (d__law_told).st) ((d__law_told).loc.ad K) cdv A outer s H E) rfl
  exact (zs_one (zs_try rfl rfl nd tk (fun W pn xe tk po => (zs_one (zs_ret (z_lst (q_cons q_str (q_cons (q_call (ok__law_call T) (hr.mono (by decide)) (ps_takes tk) (g__law_call T) (q_cons (z_var (pv 0)) (q_cons (z_var (pv 1)) (q_cons (z_var (pv 2)) z_nil)))) z_nil)))))) (.cons (c := .ref (He.ga K "InvalidText")) (i := 3) rfl rfl ⟨rfl, rfl, .inl (g_InvalidText T)⟩ (fun a oe cls d pn hz hf => suq2 (G := G K sa) (c0 := 7) (cs := mw_repr_1) (els := [.con (.str "text"), .rep 2, .isi true]) hz (fun hz => su2_ok (el2_cons (el_lift (el_con pe_str (fun _ => rfl) rfl) (fun _ _ => rfl)) (el2_cons (el2_rep (pe_callB (callr_reprO hgu (hu200 hr) (runs_warm (mw_repr_1_ok T) (roomH_suite (hr.mono (by decide))) ⟨_, List.mem_cons_self⟩ rfl)) rfl (n_repr T) bt_repr (pa_cons (pe_xf (excB_ok (T.c.fact 87 rfl)).1 (of_decide_eq_true (T.c.fact 24 rfl)) hz hf (pv 3)) pa_nil))) (el2_cons (el_lift (el_isi (c := .ty "ValueError") (cv := .type "ValueError") (pe_callB (call_isEd (excB_ok (T.c.fact 87 rfl)).2 hz hf) rfl (n_isinstance T) boot_isi (pa_cons (pv 3) (pa_cons (pe_bltn rfl (n_ValueError T) bt_ValueError rfl) pa_nil))) (fun _ h => h) (of_decide_eq_true (T.c.fact 89 rfl))) (fun _ _ => rfl)) el2_nil (by rfl)) (by rfl)) (by rfl)))) (.cons (c := .ref (He.ga K "InvalidNumber")) (i := 3) rfl rfl ⟨rfl, rfl, .inl (g_InvalidNumber T)⟩ (fun a oe cls d pn hz hf => suq2 (G := G K sa) (c0 := 8) (cs := mw_repr_1) (els := [.con (.str "number"), .rep 2, .isi true]) hz (fun hz => su2_ok (el2_cons (el_lift (el_con pe_str (fun _ => rfl) rfl) (fun _ _ => rfl)) (el2_cons (el2_rep (pe_callB (callr_reprO hgu (hu200 hr) (runs_warm (mw_repr_1_ok T) (roomH_suite (hr.mono (by decide))) ⟨_, List.mem_cons_self⟩ rfl)) rfl (n_repr T) bt_repr (pa_cons (pe_xf (excB_ok (T.c.fact 90 rfl)).1 (of_decide_eq_true (T.c.fact 37 rfl)) hz hf (pv 3)) pa_nil))) (el2_cons (el_lift (el_isi (c := .ty "ValueError") (cv := .type "ValueError") (pe_callB (call_isEd (excB_ok (T.c.fact 90 rfl)).2 hz hf) rfl (n_isinstance T) boot_isi (pa_cons (pv 3) (pa_cons (pe_bltn rfl (n_ValueError T) bt_ValueError rfl) pa_nil))) (fun _ h => h) (of_decide_eq_true (T.c.fact 91 rfl))) (fun _ _ => rfl)) el2_nil (by rfl)) (by rfl)) (by rfl)))) (.cons (c := .ref (He.ga K "InvalidRange")) (i := 3) rfl rfl ⟨rfl, rfl, .inl (g_InvalidRange T)⟩ (fun a oe cls d pn hz hf => suq (G := G K sa) (c0 := 9) (els := [.con (.str "range"), .fld 3, .fld 4, .isi true]) hz (fun hz => su_ok (el_cons (el_con pe_str (fun _ => rfl) rfl) (el_cons (el_fld (pe_xf (excB_ok (T.c.fact 92 rfl)).1 (of_decide_eq_true (T.c.fact 42 rfl)) hz hf (pv 3))) (el_cons (el_fld (pe_xf (excB_ok (T.c.fact 92 rfl)).1 (of_decide_eq_true (T.c.fact 43 rfl)) hz hf (pv 3))) (el_cons (el_isi (c := .ty "ValueError") (cv := .type "ValueError") (pe_callB (call_isEd (excB_ok (T.c.fact 92 rfl)).2 hz hf) rfl (n_isinstance T) boot_isi (pa_cons (pv 3) (pa_cons (pe_bltn rfl (n_ValueError T) bt_ValueError rfl) pa_nil))) (fun _ h => h) (of_decide_eq_true (T.c.fact 93 rfl))) el_nil (by rfl)) (by rfl)) (by rfl)) (by rfl)))) (.cons (c := .ref (He.ga K "InvalidKey")) (i := 3) rfl rfl ⟨rfl, rfl, .inl (g_InvalidKey T)⟩ (fun a oe cls d pn hz hf => suq2 (G := G K sa) (c0 := 10) (cs := mw_repr_1) (els := [.con (.str "key"), .rep 2, .isi true]) hz (fun hz => su2_ok (el2_cons (el_lift (el_con pe_str (fun _ => rfl) rfl) (fun _ _ => rfl)) (el2_cons (el2_rep (pe_callB (callr_reprO hgu (hu200 hr) (runs_warm (mw_repr_1_ok T) (roomH_suite (hr.mono (by decide))) ⟨_, List.mem_cons_self⟩ rfl)) rfl (n_repr T) bt_repr (pa_cons (pe_xf (excB_ok (T.c.fact 94 rfl)).1 (of_decide_eq_true (T.c.fact 56 rfl)) hz hf (pv 3)) pa_nil))) (el2_cons (el_lift (el_isi (c := .ty "ValueError") (cv := .type "ValueError") (pe_callB (call_isEd (excB_ok (T.c.fact 94 rfl)).2 hz hf) rfl (n_isinstance T) boot_isi (pa_cons (pv 3) (pa_cons (pe_bltn rfl (n_ValueError T) bt_ValueError rfl) pa_nil))) (fun _ h => h) (of_decide_eq_true (T.c.fact 95 rfl))) (fun _ _ => rfl)) el2_nil (by rfl)) (by rfl)) (by rfl)))) (.cons (c := .ref (He.ga K "InvalidCondition")) (i := 3) rfl rfl ⟨rfl, rfl, .inl (g_InvalidCondition T)⟩ (fun a oe cls d pn hz hf => suq2 (G := G K sa) (c0 := 12) (cs := mw_repr_1) (els := [.con (.str "condition"), .rep 2, .isi true]) hz (fun hz => su2_ok (el2_cons (el_lift (el_con pe_str (fun _ => rfl) rfl) (fun _ _ => rfl)) (el2_cons (el2_rep (pe_callB (callr_reprO hgu (hu200 hr) (runs_warm (mw_repr_1_ok T) (roomH_suite (hr.mono (by decide))) ⟨_, List.mem_cons_self⟩ rfl)) rfl (n_repr T) bt_repr (pa_cons (pe_xf (excB_ok (T.c.fact 96 rfl)).1 (of_decide_eq_true (T.c.fact 68 rfl)) hz hf (pv 3)) pa_nil))) (el2_cons (el_lift (el_isi (c := .ty "ValueError") (cv := .type "ValueError") (pe_callB (call_isEd (excB_ok (T.c.fact 96 rfl)).2 hz hf) rfl (n_isinstance T) boot_isi (pa_cons (pv 3) (pa_cons (pe_bltn rfl (n_ValueError T) bt_ValueError rfl) pa_nil))) (fun _ h => h) (of_decide_eq_true (T.c.fact 97 rfl))) (fun _ _ => rfl)) el2_nil (by rfl)) (by rfl)) (by rfl)))) .nil))))) ⟨rfl, rfl, rfl, (yes_cons (of_decide_eq_true (T.c.fact 127 rfl)) (yes_cons (of_decide_eq_true (T.c.fact 126 rfl)) (yes_cons (of_decide_eq_true (T.c.fact 125 rfl)) (yes_cons (of_decide_eq_true (T.c.fact 124 rfl)) (yes_cons (of_decide_eq_true (T.c.fact 123 rfl)) (yes_cons (of_decide_eq_true (T.c.fact 122 rfl)) yes_nil)))))), ⟨rfl, rfl, rfl, (yes_cons (of_decide_eq_true (T.c.fact 121 rfl)) (yes_cons (of_decide_eq_true (T.c.fact 120 rfl)) (yes_cons (of_decide_eq_true (T.c.fact 119 rfl)) (yes_cons (of_decide_eq_true (T.c.fact 118 rfl)) (yes_cons (of_decide_eq_true (T.c.fact 117 rfl)) (yes_cons (of_decide_eq_true (T.c.fact 116 rfl)) yes_nil)))))), ⟨rfl, rfl, rfl, (yes_cons (of_decide_eq_true (T.c.fact 115 rfl)) (yes_cons (of_decide_eq_true (T.c.fact 114 rfl)) (yes_cons (of_decide_eq_true (T.c.fact 113 rfl)) (yes_cons (of_decide_eq_true (T.c.fact 112 rfl)) (yes_cons (of_decide_eq_true (T.c.fact 111 rfl)) (yes_cons (of_decide_eq_true (T.c.fact 110 rfl)) yes_nil)))))), ⟨rfl, rfl, rfl, (yes_cons (of_decide_eq_true (T.c.fact 109 rfl)) (yes_cons (of_decide_eq_true (T.c.fact 108 rfl)) (yes_cons (of_decide_eq_true (T.c.fact 107 rfl)) (yes_cons (of_decide_eq_true (T.c.fact 106 rfl)) (yes_cons (of_decide_eq_true (T.c.fact 105 rfl)) (yes_cons (of_decide_eq_true (T.c.fact 104 rfl)) yes_nil)))))), ⟨rfl, rfl, rfl, (yes_cons (of_decide_eq_true (T.c.fact 103 rfl)) (yes_cons (of_decide_eq_true (T.c.fact 102 rfl)) (yes_cons (of_decide_eq_true (T.c.fact 101 rfl)) (yes_cons (of_decide_eq_true (T.c.fact 100 rfl)) (yes_cons (of_decide_eq_true (T.c.fact 99 rfl)) (yes_cons (of_decide_eq_true (T.c.fact 98 rfl)) yes_nil)))))), True.intro⟩⟩⟩⟩⟩))
theorem ok__law_told (T : Fx P w K mg) : CalG P w K mg base (G K sa) 8 ((d__law_told).loc.ad K) 3 z__law_told := by
  obtain ⟨fd, F, ok⟩ := ok__law_told_f (P := P) (base := base) (sa := sa) T
  exact ⟨fd, _, ok, F.kp, F.bindsN fun _ _ _ _ _ _ us hl => match us, hl with | [_, _, _], _ => rfl⟩
def z_Condition___len__ : Fn := zDef 1 (zRet (zCall opLen (zCons (zFld (inL [1, 2, 3, 5, 6]) 1 (zVar 0)) zNil)))
theorem sc_Condition___len__ : FnScope (["self"] : List Str) (["self"] : List Str) (defScope (d_Condition___len__).st) := ⟨rfl, rfl, rfl, by decide +kernel, rfl, by decide +kernel, by decide +kernel⟩
theorem ok_Condition___len___f (T : Fx P w K mg) : ∃ fd, (d_Condition___len__).Is K fd ∧ FnOk P w K mg base (L2.CX P w) 2 ((d_Condition___len__).loc.ad K) fd (["self"] : List Str) (spz (G K sa) 1 z_Condition___len__) := by
  obtain ⟨fd, F⟩ := T.c.def_ 28 (d := d_Condition___len__) rfl
  have nd : ((["self"] : List Str)).Nodup := (sc_Condition___len__).nd
  refine ⟨fd, F, def_ok (k := 1) F sc_Condition___len__ (by decide) (fun cdv A outer s H E hr => ?_)⟩
  have tk := takes_of (X := cxOf (L2.CX P w) P w K mg base (["self"] : List Str) (d_Condition___len__).qual (defScope (d_Condition___len__).st) ((d_Condition___len__).loc.ad K) cdv A outer s H E) rfl rfl rfl rfl
  have po := passes_of (X := cxOf (L2.CX P w) P w K mg base (["self"] : List Str) (d_Condition___len__).qual (defScope (d_Condition___len__).st) ((d_Condition___len__).loc.ad K) cdv A outer s H E) rfl
  exact (zs_one (zs_ret (q_cb call_len cz_len (n_len T) bt_len (q_cons (q_fld (fo_own_simple_3 T) (z_var (pv 0))) z_nil))))
theorem ok_Condition___len__ (T : Fx P w K mg) : Cal P w K mg base (G K sa) 2 ((d_Condition___len__).loc.ad K) 1 z_Condition___len__ := by
  obtain ⟨fd, F, ok⟩ := ok_Condition___len___f (P := P) (base := base) (sa := sa) T
  exact ⟨fd, _, ok, F.kp, F.bindsN fun _ _ _ _ _ _ us hl => match us, hl with | [_], _ => rfl⟩
def mt_len_2 : Nat → Option Fn := look [(1, z_Condition___len__), (2, z_Condition___len__), (3, z_Condition___len__)]
def mt_len_3 : Nat → Option Fn := look [(1, z_Condition___len__), (5, z_Condition___len__), (6, z_Condition___len__)]
theorem mt_len_2_ok (T : Fx P w K mg) : ∀ c fn, mt_len_2 c = some fn → Cls K ((G K sa).ga c) ∧ ∃ f, Meth K ((G K sa).ga c) ((G K sa).nm 7) f ∧ Cal P w K mg base (G K sa) 2 f 1 fn := look_cons ⟨He.cls_ok (T.c.fact 10 rfl), _, He.meth_ok (T.c.fact 137 rfl), (Cal.at (eqmB_ok (T.c.fact 138 rfl)) ((ok_Condition___len__ T).mono (by decide : 2 ≤ 2)))⟩ (look_cons ⟨He.cls_ok (T.c.fact 8 rfl), _, He.meth_ok (T.c.fact 135 rfl), (Cal.at (eqmB_ok (T.c.fact 136 rfl)) ((ok_Condition___len__ T).mono (by decide : 2 ≤ 2)))⟩ (look_cons ⟨He.cls_ok (T.c.fact 6 rfl), _, He.meth_ok (T.c.fact 133 rfl), (Cal.at (eqmB_ok (T.c.fact 134 rfl)) ((ok_Condition___len__ T).mono (by decide : 2 ≤ 2)))⟩ (look_nil)))
theorem mt_len_3_ok (T : Fx P w K mg) : ∀ c fn, mt_len_3 c = some fn → Cls K ((G K sa).ga c) ∧ ∃ f, Meth K ((G K sa).ga c) ((G K sa).nm 7) f ∧ Cal P w K mg base (G K sa) 2 f 1 fn := look_cons ⟨He.cls_ok (T.c.fact 10 rfl), _, He.meth_ok (T.c.fact 137 rfl), (Cal.at (eqmB_ok (T.c.fact 138 rfl)) ((ok_Condition___len__ T).mono (by decide : 2 ≤ 2)))⟩ (look_cons ⟨He.cls_ok (T.c.fact 2 rfl), _, He.meth_ok (T.c.fact 141 rfl), (Cal.at (eqmB_ok (T.c.fact 142 rfl)) ((ok_Condition___len__ T).mono (by decide : 2 ≤ 2)))⟩ (look_cons ⟨He.cls_ok (T.c.fact 0 rfl), _, He.meth_ok (T.c.fact 139 rfl), (Cal.at (eqmB_ok (T.c.fact 140 rfl)) ((ok_Condition___len__ T).mono (by decide : 2 ≤ 2)))⟩ (look_nil)))
def z_check_simple : Fn := zDef 2 (zIfS (zBl (zBin opGt (zBin opAdd (zCall (opLenO mt_len_2) (zCons (zVar 0) zNil)) (zCall (opLenO mt_len_3) (zCons (zVar 1) zNil))) (zCon (.int 30)))) (zRaise 13 8 (zCons (zCon (.int 30)) zNil)) zNext)
theorem sc_check_simple : FnScope (["one", "other"] : List Str) (["one", "other"] : List Str) (defScope (d_check_simple).st) := ⟨rfl, rfl, rfl, by decide +kernel, rfl, by decide +kernel, by decide +kernel⟩
theorem ok_check_simple_f (T : Fx P w K mg) : ∃ fd, (d_check_simple).Is K fd ∧ FnOk P w K mg base (L2.CX P w) 4 ((d_check_simple).loc.ad K) fd (["one", "other"] : List Str) (spz (G K sa) 2 z_check_simple) := by
  obtain ⟨fd, F⟩ := T.c.def_ 27 (d := d_check_simple) rfl
  have nd : ((["one", "other"] : List Str)).Nodup := (sc_check_simple).nd
  refine ⟨fd, F, def_ok (k := 3) F sc_check_simple (by decide) (fun cdv A outer s H E hr => ?_)⟩
  have tk := takes_of (X := cxOf (L2.CX P w) P w K mg base (["one", "other"] : List Str) (d_check_simple).qual (defScope (d_check_simple).st) ((d_check_simple).loc.ad K) cdv A outer s H E) rfl rfl rfl rfl
  have po := passes_of (X := cxOf (L2.CX P w) P w K mg base (["one", "other"] : List Str) (d_check_simple).qual (defScope (d_check_simple).st) ((d_check_simple).loc.ad K) cdv A outer s H E) rfl
  exact (zs_one (zs_if (q_cmpT op_gt oz_gt (z_bin or_add oz_add (q_lenO (mt_len_2_ok T) (hr.mono (by decide)) (pse_takes tk) (n_len T) (q_cons (z_var (pv 0)) z_nil)) (q_lenO (mt_len_3_ok T) (hr.mono (by decide)) (pse_takes tk) (n_len T) (q_cons (z_var (pv 1)) z_nil))) (q_gint (i_MOST_SIMPLE T))) (zs_one (zs_raiseO (ini_LimitExceeded T) (hr.mono (by decide)) rfl tk (by rfl) (g_LimitExceeded T) (q_cons (q_gint (i_MOST_SIMPLE T)) z_nil) (by decide) (by rfl) (by rfl))) zs_nil))
theorem ok_check_simple (T : Fx P w K mg) : Cal P w K mg base (G K sa) 4 ((d_check_simple).loc.ad K) 2 z_check_simple := by
  obtain ⟨fd, F, ok⟩ := ok_check_simple_f (P := P) (base := base) (sa := sa) T
  exact ⟨fd, _, ok, F.kp, F.bindsN fun _ _ _ _ _ _ us hl => match us, hl with | [_, _], _ => rfl⟩
def z_Both_init : Fn := zDefS 4 2 (zSup (inL [2]) 3 z_Condition_init (zCons (zTup (zCons (zCon (.str "and")) (zCons (zVar 1) (zCons (zVar 2) zNil)))) (zCons (zBin opAdd (zFld (inL [1, 2, 3]) 1 (zVar 1)) (zFld (inL [6]) 1 (zVar 2))) zNil)))
theorem sc_Both_init : NdefX.NScope (["self", "one", "other", "__class__"] : List Str) (["self", "one", "other"] : List Str) ["__class__"] (defScope (d_Both_init).st) := ⟨rfl, rfl, rfl, by decide +kernel, rfl, by decide +kernel, by decide +kernel, by decide +kernel, by decide +kernel⟩
theorem ok_Both_init (T : Fx P w K mg) : Cal P w K mg base (G K sa) 3 ((d_Both_init).loc.ad K) 3 z_Both_init := by
  obtain ⟨cc, fd, F⟩ := T.c.sup_ 30 (d := d_Both_init) rfl
  have nd : ((["self", "one", "other", "__class__"] : List Str)).Nodup := (sc_Both_init).nd
  refine supdef_z (k := 2) (ps := (["self", "one", "other"] : List Str)) (N := (["self", "one", "other", "__class__"] : List Str)) (x0 := "self") T.po F (T.c.fact 150 rfl) rfl rfl rfl rfl rfl sc_Both_init (by decide) (fun _ _ _ _ _ _ us hl => match us, hl with | [_, _, _], _ => rfl) (fun cda A outer s H E SD hr => ?_)
  have tk := takes_of (X := NdefX.ncx (L2.CX P w) P w K mg base (["self", "one", "other", "__class__"] : List Str) ⟨(d_Both_init).name, (d_Both_init).qual, defArgs (d_Both_init).st, defBody (d_Both_init).st, defScope (d_Both_init).st, [(("__class__" : Str), cc)], cda⟩ ((d_Both_init).loc.ad K) A outer s H E) rfl rfl rfl rfl
  have po := passes_of (X := NdefX.ncx (L2.CX P w) P w K mg base (["self", "one", "other", "__class__"] : List Str) ⟨(d_Both_init).name, (d_Both_init).qual, defArgs (d_Both_init).st, defBody (d_Both_init).st, defScope (d_Both_init).st, [(("__class__" : Str), cc)], cda⟩ ((d_Both_init).loc.ad K) A outer s H E) rfl
  exact (zsa_super SD (sc_Both_init_c T) (ok_Condition_init T) (hr.mono (by decide)) tk (q_cons (z_tup (q_cons q_str (q_cons (z_var (pv 1)) (q_cons (z_var (pv 2)) z_nil)))) (q_cons (z_bin or_add oz_add (q_fld (fo_own_simple_4 T) (z_var (pv 1))) (q_fld (fo_own_simple_5 T) (z_var (pv 2)))) z_nil)) (n_super T) rfl rfl rfl rfl rfl rfl rfl)
def z_Condition___and__ : Fn := zDef 2 (zSeq (zIfS (zNot (zTru (zIsi (tbS [1, 5, 6]) (zVar 1)))) zNever zNext) (zSeq (zExpr (zFn 2 z_check_simple [] (zCons (zVar 0) (zCons (zVar 1) zNil)))) (zRet (zMk 2 3 z_Both_init (zCons (zVar 0) (zCons (zVar 1) zNil))))))
theorem sc_Condition___and__ : FnScope (["self", "other"] : List Str) (["self", "other"] : List Str) (defScope (d_Condition___and__).st) := ⟨rfl, rfl, rfl, by decide +kernel, rfl, by decide +kernel, by decide +kernel⟩
theorem ok_Condition___and___f (T : Fx P w K mg) : ∃ fd, (d_Condition___and__).Is K fd ∧ FnOk P w K mg base (L2.CX P w) 5 ((d_Condition___and__).loc.ad K) fd (["self", "other"] : List Str) (spz (G K sa) 2 z_Condition___and__) := by
  obtain ⟨fd, F⟩ := T.c.def_ 26 (d := d_Condition___and__) rfl
  have nd : ((["self", "other"] : List Str)).Nodup := (sc_Condition___and__).nd
  refine ⟨fd, F, def_ok (k := 4) F sc_Condition___and__ (by decide) (fun cdv A outer s H E hr => ?_)⟩
  have tk := takes_of (X := cxOf (L2.CX P w) P w K mg base (["self", "other"] : List Str) (d_Condition___and__).qual (defScope (d_Condition___and__).st) ((d_Condition___and__).loc.ad K) cdv A outer s H E) rfl rfl rfl rfl
  have po := passes_of (X := cxOf (L2.CX P w) P w K mg base (["self", "other"] : List Str) (d_Condition___and__).qual (defScope (d_Condition___and__).st) ((d_Condition___and__).loc.ad K) cdv A outer s H E) rfl
  exact (zs_cons (zs_if (z_notT (q_tru (q_isiS (x := "Condition") (c := 11) (n_isinstance T) (g_Condition T) rfl (T.c.fact 67 rfl) (sb_Condition__Begins_Opposite_Value T) (z_var (pv 1))))) zss_never zs_nil) (zs_cons (q_expr (q_call (ok_check_simple T) (hr.mono (by decide)) (ps_takes tk) (g_check_simple T) (q_cons (z_var (pv 0)) (q_cons (z_var (pv 1)) z_nil)))) (zs_one (zs_ret (q_new (ok_Both_init T) (mk_Both T) (hr.mono (by decide)) (pse_takes tk) (g_Both T) (q_cons (z_var (pv 0)) (q_cons (z_var (pv 1)) z_nil)))))))
theorem ok_Condition___and__ (T : Fx P w K mg) : Cal P w K mg base (G K sa) 5 ((d_Condition___and__).loc.ad K) 2 z_Condition___and__ := by
  obtain ⟨fd, F, ok⟩ := ok_Condition___and___f (P := P) (base := base) (sa := sa) T
  exact ⟨fd, _, ok, F.kp, F.bindsN fun _ _ _ _ _ _ us hl => match us, hl with | [_, _], _ => rfl⟩
def mt_and_4 : Nat → Option Fn := look [(1, z_Condition___and__), (2, z_Condition___and__), (3, z_Condition___and__)]
theorem mt_and_4_ok (T : Fx P w K mg) : ∀ c fn, mt_and_4 c = some fn → Cls K ((G K sa).ga c) ∧ ∃ f, Meth K ((G K sa).ga c) ((G K sa).nm 9) f ∧ Cal P w K mg base (G K sa) 5 f 2 fn := look_cons ⟨He.cls_ok (T.c.fact 10 rfl), _, He.meth_ok (T.c.fact 157 rfl), (Cal.at (eqmB_ok (T.c.fact 158 rfl)) ((ok_Condition___and__ T).mono (by decide : 5 ≤ 5)))⟩ (look_cons ⟨He.cls_ok (T.c.fact 8 rfl), _, He.meth_ok (T.c.fact 155 rfl), (Cal.at (eqmB_ok (T.c.fact 156 rfl)) ((ok_Condition___and__ T).mono (by decide : 5 ≤ 5)))⟩ (look_cons ⟨He.cls_ok (T.c.fact 6 rfl), _, He.meth_ok (T.c.fact 153 rfl), (Cal.at (eqmB_ok (T.c.fact 154 rfl)) ((ok_Condition___and__ T).mono (by decide : 5 ≤ 5)))⟩ (look_nil)))
def z_Either_init : Fn := zDefS 4 3 (zSup (inL [3]) 3 z_Condition_init (zCons (zTup (zCons (zCon (.str "or")) (zCons (zVar 1) (zCons (zVar 2) zNil)))) (zCons (zBin opAdd (zFld (inL [1, 2, 3]) 1 (zVar 1)) (zFld (inL [5]) 1 (zVar 2))) zNil)))
theorem sc_Either_init : NdefX.NScope (["self", "one", "other", "__class__"] : List Str) (["self", "one", "other"] : List Str) ["__class__"] (defScope (d_Either_init).st) := ⟨rfl, rfl, rfl, by decide +kernel, rfl, by decide +kernel, by decide +kernel, by decide +kernel, by decide +kernel⟩
theorem ok_Either_init (T : Fx P w K mg) : Cal P w K mg base (G K sa) 3 ((d_Either_init).loc.ad K) 3 z_Either_init := by
  obtain ⟨cc, fd, F⟩ := T.c.sup_ 32 (d := d_Either_init) rfl
  have nd : ((["self", "one", "other", "__class__"] : List Str)).Nodup := (sc_Either_init).nd
  refine supdef_z (k := 2) (ps := (["self", "one", "other"] : List Str)) (N := (["self", "one", "other", "__class__"] : List Str)) (x0 := "self") T.po F (T.c.fact 163 rfl) rfl rfl rfl rfl rfl sc_Either_init (by decide) (fun _ _ _ _ _ _ us hl => match us, hl with | [_, _, _], _ => rfl) (fun cda A outer s H E SD hr => ?_)
  have tk := takes_of (X := NdefX.ncx (L2.CX P w) P w K mg base (["self", "one", "other", "__class__"] : List Str) ⟨(d_Either_init).name, (d_Either_init).qual, defArgs (d_Either_init).st, defBody (d_Either_init).st, defScope (d_Either_init).st, [(("__class__" : Str), cc)], cda⟩ ((d_Either_init).loc.ad K) A outer s H E) rfl rfl rfl rfl
  have po := passes_of (X := NdefX.ncx (L2.CX P w) P w K mg base (["self", "one", "other", "__class__"] : List Str) ⟨(d_Either_init).name, (d_Either_init).qual, defArgs (d_Either_init).st, defBody (d_Either_init).st, defScope (d_Either_init).st, [(("__class__" : Str), cc)], cda⟩ ((d_Either_init).loc.ad K) A outer s H E) rfl
  exact (zsa_super SD (sc_Either_init_c T) (ok_Condition_init T) (hr.mono (by decide)) tk (q_cons (z_tup (q_cons q_str (q_cons (z_var (pv 1)) (q_cons (z_var (pv 2)) z_nil)))) (q_cons (z_bin or_add oz_add (q_fld (fo_own_simple_4 T) (z_var (pv 1))) (q_fld (fo_own_simple_6 T) (z_var (pv 2)))) z_nil)) (n_super T) rfl rfl rfl rfl rfl rfl rfl)
def z_Condition___or__ : Fn := zDef 2 (zSeq (zIfS (zNot (zTru (zIsi (tbS [1, 5]) (zVar 1)))) zNever zNext) (zSeq (zExpr (zFn 2 z_check_simple [] (zCons (zVar 0) (zCons (zVar 1) zNil)))) (zRet (zMk 3 3 z_Either_init (zCons (zVar 0) (zCons (zVar 1) zNil))))))
theorem sc_Condition___or__ : FnScope (["self", "other"] : List Str) (["self", "other"] : List Str) (defScope (d_Condition___or__).st) := ⟨rfl, rfl, rfl, by decide +kernel, rfl, by decide +kernel, by decide +kernel⟩
theorem ok_Condition___or___f (T : Fx P w K mg) : ∃ fd, (d_Condition___or__).Is K fd ∧ FnOk P w K mg base (L2.CX P w) 5 ((d_Condition___or__).loc.ad K) fd (["self", "other"] : List Str) (spz (G K sa) 2 z_Condition___or__) := by
  obtain ⟨fd, F⟩ := T.c.def_ 31 (d := d_Condition___or__) rfl
  have nd : ((["self", "other"] : List Str)).Nodup := (sc_Condition___or__).nd
  refine ⟨fd, F, def_ok (k := 4) F sc_Condition___or__ (by decide) (fun cdv A outer s H E hr => ?_)⟩
  have tk := takes_of (X := cxOf (L2.CX P w) P w K mg base (["self", "other"] : List Str) (d_Condition___or__).qual (defScope (d_Condition___or__).st) ((d_Condition___or__).loc.ad K) cdv A outer s H E) rfl rfl rfl rfl
  have po := passes_of (X := cxOf (L2.CX P w) P w K mg base (["self", "other"] : List Str) (d_Condition___or__).qual (defScope (d_Condition___or__).st) ((d_Condition___or__).loc.ad K) cdv A outer s H E) rfl
  exact (zs_cons (zs_if (z_notT (q_tru (q_isiS (x := "Condition") (c := 11) (n_isinstance T) (g_Condition T) rfl (T.c.fact 67 rfl) (sb_Condition__Begins_Opposite T) (z_var (pv 1))))) zss_never zs_nil) (zs_cons (q_expr (q_call (ok_check_simple T) (hr.mono (by decide)) (ps_takes tk) (g_check_simple T) (q_cons (z_var (pv 0)) (q_cons (z_var (pv 1)) z_nil)))) (zs_one (zs_ret (q_new (ok_Either_init T) (mk_Either T) (hr.mono (by decide)) (pse_takes tk) (g_Either T) (q_cons (z_var (pv 0)) (q_cons (z_var (pv 1)) z_nil)))))))
theorem ok_Condition___or__ (T : Fx P w K mg) : Cal P w K mg base (G K sa) 5 ((d_Condition___or__).loc.ad K) 2 z_Condition___or__ := by
  obtain ⟨fd, F, ok⟩ := ok_Condition___or___f (P := P) (base := base) (sa := sa) T
  exact ⟨fd, _, ok, F.kp, F.bindsN fun _ _ _ _ _ _ us hl => match us, hl with | [_, _], _ => rfl⟩
def mt_or_5 : Nat → Option Fn := look [(1, z_Condition___or__), (2, z_Condition___or__), (3, z_Condition___or__)]
theorem mt_or_5_ok (T : Fx P w K mg) : ∀ c fn, mt_or_5 c = some fn → Cls K ((G K sa).ga c) ∧ ∃ f, Meth K ((G K sa).ga c) ((G K sa).nm 10) f ∧ Cal P w K mg base (G K sa) 5 f 2 fn := look_cons ⟨He.cls_ok (T.c.fact 10 rfl), _, He.meth_ok (T.c.fact 170 rfl), (Cal.at (eqmB_ok (T.c.fact 171 rfl)) ((ok_Condition___or__ T).mono (by decide : 5 ≤ 5)))⟩ (look_cons ⟨He.cls_ok (T.c.fact 8 rfl), _, He.meth_ok (T.c.fact 168 rfl), (Cal.at (eqmB_ok (T.c.fact 169 rfl)) ((ok_Condition___or__ T).mono (by decide : 5 ≤ 5)))⟩ (look_cons ⟨He.cls_ok (T.c.fact 6 rfl), _, He.meth_ok (T.c.fact 166 rfl), (Cal.at (eqmB_ok (T.c.fact 167 rfl)) ((ok_Condition___or__ T).mono (by decide : 5 ≤ 5)))⟩ (look_nil)))
def z_Opposite_init : Fn := zDefS 3 5 (zSup (inL [5]) 3 z_Condition_init (zCons (zTup (zCons (zCon (.str "not")) (zCons (zVar 1) zNil))) (zCons (zFld (inL [2, 4]) 1 (zVar 1)) zNil)))
theorem sc_Opposite_init : NdefX.NScope (["self", "one", "__class__"] : List Str) (["self", "one"] : List Str) ["__class__"] (defScope (d_Opposite_init).st) := ⟨rfl, rfl, rfl, by decide +kernel, rfl, by decide +kernel, by decide +kernel, by decide +kernel, by decide +kernel⟩
theorem ok_Opposite_init (T : Fx P w K mg) : Cal P w K mg base (G K sa) 3 ((d_Opposite_init).loc.ad K) 2 z_Opposite_init := by
  obtain ⟨cc, fd, F⟩ := T.c.sup_ 34 (d := d_Opposite_init) rfl
  have nd : ((["self", "one", "__class__"] : List Str)).Nodup := (sc_Opposite_init).nd
  refine supdef_z (k := 2) (ps := (["self", "one"] : List Str)) (N := (["self", "one", "__class__"] : List Str)) (x0 := "self") T.po F (T.c.fact 176 rfl) rfl rfl rfl rfl rfl sc_Opposite_init (by decide) (fun _ _ _ _ _ _ us hl => match us, hl with | [_, _], _ => rfl) (fun cda A outer s H E SD hr => ?_)
  have tk := takes_of (X := NdefX.ncx (L2.CX P w) P w K mg base (["self", "one", "__class__"] : List Str) ⟨(d_Opposite_init).name, (d_Opposite_init).qual, defArgs (d_Opposite_init).st, defBody (d_Opposite_init).st, defScope (d_Opposite_init).st, [(("__class__" : Str), cc)], cda⟩ ((d_Opposite_init).loc.ad K) A outer s H E) rfl rfl rfl rfl
  have po := passes_of (X := NdefX.ncx (L2.CX P w) P w K mg base (["self", "one", "__class__"] : List Str) ⟨(d_Opposite_init).name, (d_Opposite_init).qual, defArgs (d_Opposite_init).st, defBody (d_Opposite_init).st, defScope (d_Opposite_init).st, [(("__class__" : Str), cc)], cda⟩ ((d_Opposite_init).loc.ad K) A outer s H E) rfl
  exact (zsa_super SD (sc_Opposite_init_c T) (ok_Condition_init T) (hr.mono (by decide)) tk (q_cons (z_tup (q_cons q_str (q_cons (z_var (pv 1)) z_nil))) (q_cons (q_fld (fo_own_simple_7 T) (z_var (pv 1))) z_nil)) (n_super T) rfl rfl rfl rfl rfl rfl rfl)
def z_Condition___invert__ : Fn := zDef 1 (zRet (zMk 5 2 z_Opposite_init (zCons (zVar 0) zNil)))
theorem sc_Condition___invert__ : FnScope (["self"] : List Str) (["self"] : List Str) (defScope (d_Condition___invert__).st) := ⟨rfl, rfl, rfl, by decide +kernel, rfl, by decide +kernel, by decide +kernel⟩
theorem ok_Condition___invert___f (T : Fx P w K mg) : ∃ fd, (d_Condition___invert__).Is K fd ∧ FnOk P w K mg base (L2.CX P w) 5 ((d_Condition___invert__).loc.ad K) fd (["self"] : List Str) (spz (G K sa) 1 z_Condition___invert__) := by
  obtain ⟨fd, F⟩ := T.c.def_ 33 (d := d_Condition___invert__) rfl
  have nd : ((["self"] : List Str)).Nodup := (sc_Condition___invert__).nd
  refine ⟨fd, F, def_ok (k := 4) F sc_Condition___invert__ (by decide) (fun cdv A outer s H E hr => ?_)⟩
  have tk := takes_of (X := cxOf (L2.CX P w) P w K mg base (["self"] : List Str) (d_Condition___invert__).qual (defScope (d_Condition___invert__).st) ((d_Condition___invert__).loc.ad K) cdv A outer s H E) rfl rfl rfl rfl
  have po := passes_of (X := cxOf (L2.CX P w) P w K mg base (["self"] : List Str) (d_Condition___invert__).qual (defScope (d_Condition___invert__).st) ((d_Condition___invert__).loc.ad K) cdv A outer s H E) rfl
  exact (zs_one (zs_ret (q_new (ok_Opposite_init T) (mk_Opposite T) (hr.mono (by decide)) (pse_takes tk) (g_Opposite T) (q_cons (z_var (pv 0)) z_nil))))
theorem ok_Condition___invert__ (T : Fx P w K mg) : Cal P w K mg base (G K sa) 5 ((d_Condition___invert__).loc.ad K) 1 z_Condition___invert__ := by
  obtain ⟨fd, F, ok⟩ := ok_Condition___invert___f (P := P) (base := base) (sa := sa) T
  exact ⟨fd, _, ok, F.kp, F.bindsN fun _ _ _ _ _ _ us hl => match us, hl with | [_], _ => rfl⟩
def mt_invert_6 : Nat → Option Fn := look [(4, z_Condition___invert__)]
def mt_len_7 : Nat → Option Fn := look [(2, z_Condition___len__)]
def mt_invert_8 : Nat → Option Fn := look [(2, z_Condition___invert__)]
def mt_len_9 : Nat → Option Fn := look [(5, z_Condition___len__)]
def mt_and_10 : Nat → Option Fn := look [(1, z_Condition___and__), (2, z_Condition___and__)]
def mt_or_11 : Nat → Option Fn := look [(1, z_Condition___or__), (2, z_Condition___or__)]
theorem mt_invert_6_ok (T : Fx P w K mg) : ∀ c fn, mt_invert_6 c = some fn → Cls K ((G K sa).ga c) ∧ ∃ f, Meth K ((G K sa).ga c) ((G K sa).nm 11) f ∧ Cal P w K mg base (G K sa) 5 f 1 fn := look_cons ⟨He.cls_ok (T.c.fact 4 rfl), _, He.meth_ok (T.c.fact 179 rfl), (Cal.at (eqmB_ok (T.c.fact 180 rfl)) ((ok_Condition___invert__ T).mono (by decide : 5 ≤ 5)))⟩ (look_nil)
theorem mt_len_7_ok (T : Fx P w K mg) : ∀ c fn, mt_len_7 c = some fn → Cls K ((G K sa).ga c) ∧ ∃ f, Meth K ((G K sa).ga c) ((G K sa).nm 7) f ∧ Cal P w K mg base (G K sa) 2 f 1 fn := look_cons ⟨He.cls_ok (T.c.fact 8 rfl), _, He.meth_ok (T.c.fact 135 rfl), (Cal.at (eqmB_ok (T.c.fact 136 rfl)) ((ok_Condition___len__ T).mono (by decide : 2 ≤ 2)))⟩ (look_nil)
theorem mt_invert_8_ok (T : Fx P w K mg) : ∀ c fn, mt_invert_8 c = some fn → Cls K ((G K sa).ga c) ∧ ∃ f, Meth K ((G K sa).ga c) ((G K sa).nm 11) f ∧ Cal P w K mg base (G K sa) 5 f 1 fn := look_cons ⟨He.cls_ok (T.c.fact 8 rfl), _, He.meth_ok (T.c.fact 181 rfl), (Cal.at (eqmB_ok (T.c.fact 182 rfl)) ((ok_Condition___invert__ T).mono (by decide : 5 ≤ 5)))⟩ (look_nil)
theorem mt_len_9_ok (T : Fx P w K mg) : ∀ c fn, mt_len_9 c = some fn → Cls K ((G K sa).ga c) ∧ ∃ f, Meth K ((G K sa).ga c) ((G K sa).nm 7) f ∧ Cal P w K mg base (G K sa) 2 f 1 fn := look_cons ⟨He.cls_ok (T.c.fact 2 rfl), _, He.meth_ok (T.c.fact 141 rfl), (Cal.at (eqmB_ok (T.c.fact 142 rfl)) ((ok_Condition___len__ T).mono (by decide : 2 ≤ 2)))⟩ (look_nil)
theorem mt_and_10_ok (T : Fx P w K mg) : ∀ c fn, mt_and_10 c = some fn → Cls K ((G K sa).ga c) ∧ ∃ f, Meth K ((G K sa).ga c) ((G K sa).nm 9) f ∧ Cal P w K mg base (G K sa) 5 f 2 fn := look_cons ⟨He.cls_ok (T.c.fact 10 rfl), _, He.meth_ok (T.c.fact 157 rfl), (Cal.at (eqmB_ok (T.c.fact 158 rfl)) ((ok_Condition___and__ T).mono (by decide : 5 ≤ 5)))⟩ (look_cons ⟨He.cls_ok (T.c.fact 8 rfl), _, He.meth_ok (T.c.fact 155 rfl), (Cal.at (eqmB_ok (T.c.fact 156 rfl)) ((ok_Condition___and__ T).mono (by decide : 5 ≤ 5)))⟩ (look_nil))
theorem mt_or_11_ok (T : Fx P w K mg) : ∀ c fn, mt_or_11 c = some fn → Cls K ((G K sa).ga c) ∧ ∃ f, Meth K ((G K sa).ga c) ((G K sa).nm 10) f ∧ Cal P w K mg base (G K sa) 5 f 2 fn := look_cons ⟨He.cls_ok (T.c.fact 10 rfl), _, He.meth_ok (T.c.fact 170 rfl), (Cal.at (eqmB_ok (T.c.fact 171 rfl)) ((ok_Condition___or__ T).mono (by decide : 5 ≤ 5)))⟩ (look_cons ⟨He.cls_ok (T.c.fact 8 rfl), _, He.meth_ok (T.c.fact 168 rfl), (Cal.at (eqmB_ok (T.c.fact 169 rfl)) ((ok_Condition___or__ T).mono (by decide : 5 ≤ 5)))⟩ (look_nil))
def z__law_joined : Fn := zDef 4 (zTry [⟨13, yesOf [(12, false), (10, false), (8, false), (9, false), (7, false), (13, true)], 3, zSuite 13 [.con (.str "limit"), .fld 8, .isi true]⟩] (zRet (zIf (zBl (zBin (opEq false) (zVar 0) (zCon (.int 0)))) (zBin (opOwn mt_and_10 (inP [(1, 1), (1, 5), (2, 1), (2, 5)])) (zVar 1) (zVar 2)) (zBin (opOwn mt_or_11 (inP [(1, 1), (1, 5), (2, 1), (2, 5)])) (zVar 1) (zVar 2)))))
theorem sc__law_joined : FnScope (["_law_door", "_law_one", "_law_other", "e"] : List Str) (["_law_door", "_law_one", "_law_other"] : List Str) (defScope (d__law_joined).st) := ⟨rfl, rfl, rfl, by decide +kernel, rfl, by decide +kernel, by decide +kernel⟩
theorem ok__law_joined_f (T : Fx P w K mg) : ∃ fd, (d__law_joined).Is K fd ∧ FnOk P w K mg base (L2.CX P w) 6 ((d__law_joined).loc.ad K) fd (["_law_door", "_law_one", "_law_other"] : List Str) (spz (G K sa) 3 z__law_joined) := by
  obtain ⟨fd, F⟩ := T.c.def_ 35 (d := d__law_joined) rfl
  have nd : ((["_law_door", "_law_one", "_law_other", "e"] : List Str)).Nodup := (sc__law_joined).nd
  refine ⟨fd, F, def_ok (k := 5) F sc__law_joined (by decide) (fun cdv A outer s H E hr => ?_)⟩
  have tk := takes_of (X := cxOf (L2.CX P w) P w K mg base (["_law_door", "_law_one", "_law_other", "e"] : List Str) (d__law_joined).qual (defScope (d__law_joined).st) ((d__law_joined).loc.ad K) cdv A outer s H E) rfl rfl rfl rfl
  have po := passes_of (X := cxOf (L2.CX P w) P w K mg base (["_law_door", "_law_one", "_law_other", "e"] : List Str) (d__law_joined).qual (defScope (d__law_joined).st) ((d__law_joined).loc.ad K) cdv A outer s H E) rfl
  exact (zs_one (zs_try rfl rfl nd tk (fun W pn xe tk po => (zs_one (zs_ret (z_if (q_cmpT (op_eqD hr.units) oz_eq (z_var (pv 0)) q_int) (z_own2S (mt_and_10_ok T) (by kernel_rfl) (bp_and_Begins_Both__Begins_Opposite T) (hr.mono (by decide)) (ps_takes tk) (z_var (pv 1)) (z_var (pv 2))) (z_own2S (mt_or_11_ok T) (by kernel_rfl) (bp_or_Begins_Both__Begins_Opposite T) (hr.mono (by decide)) (ps_takes tk) (z_var (pv 1)) (z_var (pv 2))))))) (.cons (c := .ref (He.ga K "LimitExceeded")) (i := 3) rfl rfl ⟨rfl, rfl, .inl (g_LimitExceeded T)⟩ (fun a oe cls d pn hz hf => suq (G := G K sa) (c0 := 13) (els := [.con (.str "limit"), .fld 8, .isi true]) hz (fun hz => su_ok (el_cons (el_con pe_str (fun _ => rfl) rfl) (el_cons (el_fld (pe_xf (excB_ok (T.c.fact 189 rfl)).1 (of_decide_eq_true (T.c.fact 144 rfl)) hz hf (pv 3))) (el_cons (el_isi (c := .ty "OverflowError") (cv := .type "OverflowError") (pe_callB (call_isEd (excB_ok (T.c.fact 189 rfl)).2 hz hf) rfl (n_isinstance T) boot_isi (pa_cons (pv 3) (pa_cons (pe_bltn rfl (n_OverflowError T) bt_OverflowError rfl) pa_nil))) (fun _ h => h) (of_decide_eq_true (T.c.fact 191 rfl))) el_nil (by rfl)) (by rfl)) (by rfl)))) .nil) ⟨rfl, rfl, rfl, (yes_cons (of_decide_eq_true (T.c.fact 197 rfl)) (yes_cons (of_decide_eq_true (T.c.fact 196 rfl)) (yes_cons (of_decide_eq_true (T.c.fact 195 rfl)) (yes_cons (of_decide_eq_true (T.c.fact 194 rfl)) (yes_cons (of_decide_eq_true (T.c.fact 193 rfl)) (yes_cons (of_decide_eq_true (T.c.fact 192 rfl)) yes_nil)))))), True.intro⟩))
theorem ok__law_joined (T : Fx P w K mg) : Cal P w K mg base (G K sa) 6 ((d__law_joined).loc.ad K) 3 z__law_joined := by
  obtain ⟨fd, F, ok⟩ := ok__law_joined_f (P := P) (base := base) (sa := sa) T
  exact ⟨fd, _, ok, F.kp, F.bindsN fun _ _ _ _ _ _ us hl => match us, hl with | [_, _, _], _ => rfl⟩
def z__law_limits_right : Fn := zDef 3 (zSeq (zAsg (zMk 1 2 z_Begins_init (zCons (zCon (.str "a")) zNil)) (gNm 0)) (zSeq (zFor (zIRng (zCons (zCon (.int 29)) zNil)) (gNm 1) (zAsg (zBin opItem (zLst (zCons (zBin (opOwn mt_and_4 (inP [(1, 6), (2, 6), (3, 6)])) (zVar 0) (zMk 6 3 z_Value_init (zCons (zVar 1) (zCons (zCon .non) zNil)))) (zCons (zBin (opOwn mt_or_5 (inP [(1, 5), (2, 5), (3, 5)])) (zVar 0) (zUn1 (opOwn1 mt_invert_6) (zMk 4 3 z_Length_init (zCons (zCon (.int 1)) (zCons (zCon (.int 2)) zNil))))) zNil))) (zBin opMod (zVar 1) (zCon (.int 2)))) (gNm 0))) (zSeq (zIfS (zOrT (zBl (zBin (opEq true) (zCall (opLenO mt_len_7) (zCons (zVar 0) zNil)) (zCon (.int 30)))) (zBl (zBin (opEq true) (zCall (opLenO mt_len_9) (zCons (zUn1 (opOwn1 mt_invert_8) (zVar 0)) zNil)) (zCon (.int 30))))) zNever zNext) (zSeq (zFor (zIRng (zCons (zCon (.int 2)) zNil)) (gNm 2) (zSeq (zIfS (zBl (zBin (opEq true) (zFn 3 z__law_joined [] (zCons (zVar 2) (zCons (zVar 0) (zCons (zMk 1 2 z_Begins_init (zCons (zCon (.str "b")) zNil)) zNil)))) (zLst (zCons (zCon (.str "limit")) (zCons (zCon (.int 30)) (zCons (zCon (.bl true)) zNil)))))) zNever zNext) (zIfS (zBl (zBin (opEq true) (zFn 3 z__law_joined [] (zCons (zVar 2) (zCons (zMk 1 2 z_Begins_init (zCons (zCon (.str "b")) zNil)) (zCons (zUn1 (opOwn1 mt_invert_8) (zVar 0)) zNil)))) (zLst (zCons (zCon (.str "limit")) (zCons (zCon (.int 30)) (zCons (zCon (.bl true)) zNil)))))) zNever zNext))) (zRet (zCon (.bl true)))))))
theorem sc__law_limits_right : FnScope (["_law_found", "_law_turn", "_law_door"] : List Str) ([] : List Str) (defScope (d__law_limits_right).st) := ⟨rfl, rfl, rfl, by decide +kernel, rfl, by decide +kernel, by decide +kernel⟩
theorem ok__law_limits_right_f (T : Fx P w K mg) : ∃ fd, (d__law_limits_right).Is K fd ∧ FnOk P w K mg base (L2.CX P w) 7 ((d__law_limits_right).loc.ad K) fd ([] : List Str) (spz (G K sa) 0 z__law_limits_right) := by
  obtain ⟨fd, F⟩ := T.c.def_ 25 (d := d__law_limits_right) rfl
  have nd : ((["_law_found", "_law_turn", "_law_door"] : List Str)).Nodup := (sc__law_limits_right).nd
  refine ⟨fd, F, def_ok (k := 6) F sc__law_limits_right (by decide) (fun cdv A outer s H E hr => ?_)⟩
  have tk := takes_of (X := cxOf (L2.CX P w) P w K mg base (["_law_found", "_law_turn", "_law_door"] : List Str) (d__law_limits_right).qual (defScope (d__law_limits_right).st) ((d__law_limits_right).loc.ad K) cdv A outer s H E) rfl rfl rfl rfl
  have po := passes_of (X := cxOf (L2.CX P w) P w K mg base (["_law_found", "_law_turn", "_law_door"] : List Str) (d__law_limits_right).qual (defScope (d__law_limits_right).st) ((d__law_limits_right).loc.ad K) cdv A outer s H E) rfl
  exact (zs_cons (zs_set (ps_set (i := 0) nd (by rfl) (by exact .inl rfl) (q_new (ok_Begins_init T) (mk_Begins T) (hr.mono (by decide)) (pse_takes tk) (g_Begins T) (q_cons q_str z_nil)))) (zs_cons (zs_for gNm_wf (ps_for po (by rfl) (zi_rng (pi_range1 (by rfl) (n_range T) (q_cons q_int z_nil))) (g_nm (pg_name (i := 1) nd (by rfl) (by exact .inl rfl))) (zs_one (zs_set (ps_set (i := 0) nd (by rfl) (by exact .inl rfl) (q_sub (hu_of hr) (z_lst (q_cons (z_own2S (mt_and_4_ok T) (by kernel_rfl) (bp_and_Begins_Both_Either__Value T) (hr.mono (by decide)) (ps_takes tk) (z_var (pv 0)) (q_new (ok_Value_init T) (mk_Value T) (hr.mono (by decide)) (pse_takes tk) (g_Value T) (q_cons (z_var (pv 1)) (q_cons q_non z_nil)))) (q_cons (z_own2S (mt_or_5_ok T) (by kernel_rfl) (bp_or_Begins_Both_Either__Opposite T) (hr.mono (by decide)) (ps_takes tk) (z_var (pv 0)) (z_inv1 (mt_invert_6_ok T) rfl (hr.mono (by decide)) (pse_takes tk) (q_new (ok_Length_init T) (mk_Length T) (hr.mono (by decide)) (pse_takes tk) (g_Length T) (q_cons q_int (q_cons q_int z_nil))))) z_nil))) (z_bin op_mod oz_mod (z_var (pv 1)) q_int))))))) (zs_cons (zs_if (PW.pt (z_orT (q_cmpT (op_neD hr.units) oz_ne (q_lenO (mt_len_7_ok T) (hr.mono (by decide)) (pse_takes tk) (n_len T) (q_cons (z_var (pv 0)) z_nil)) q_int) (z_or1 (q_cmpT (op_neD hr.units) oz_ne (q_lenO (mt_len_9_ok T) (hr.mono (by decide)) (pse_takes tk) (n_len T) (q_cons (z_inv1 (mt_invert_8_ok T) rfl (hr.mono (by decide)) (pse_takes tk) (z_var (pv 0))) z_nil)) q_int)))) zss_never zs_nil) (zs_cons (zs_for gNm_wf (ps_for po (by rfl) (zi_rng (pi_range1 (by rfl) (n_range T) (q_cons q_int z_nil))) (g_nm (pg_name (i := 2) nd (by rfl) (by exact .inl rfl))) (zs_cons (zs_if (q_cmpT (op_neD hr.units) oz_ne (q_call (ok__law_joined T) (hr.mono (by decide)) (ps_takes tk) (g__law_joined T) (q_cons (z_var (pv 2)) (q_cons (z_var (pv 0)) (q_cons (q_new (ok_Begins_init T) (mk_Begins T) (hr.mono (by decide)) (pse_takes tk) (g_Begins T) (q_cons q_str z_nil)) z_nil)))) (z_lst (q_cons q_str (q_cons q_int (q_cons q_bl z_nil))))) zss_never zs_nil) (zs_one (zs_if (q_cmpT (op_neD hr.units) oz_ne (q_call (ok__law_joined T) (hr.mono (by decide)) (ps_takes tk) (g__law_joined T) (q_cons (z_var (pv 2)) (q_cons (q_new (ok_Begins_init T) (mk_Begins T) (hr.mono (by decide)) (pse_takes tk) (g_Begins T) (q_cons q_str z_nil)) (q_cons (z_inv1 (mt_invert_8_ok T) rfl (hr.mono (by decide)) (pse_takes tk) (z_var (pv 0))) z_nil)))) (z_lst (q_cons q_str (q_cons q_int (q_cons q_bl z_nil))))) zss_never zs_nil))))) (zs_one (zs_ret q_bl))))))
theorem ok__law_limits_right (T : Fx P w K mg) : Cal P w K mg base (G K sa) 7 ((d__law_limits_right).loc.ad K) 0 z__law_limits_right := by
  obtain ⟨fd, F, ok⟩ := ok__law_limits_right_f (P := P) (base := base) (sa := sa) T
  exact ⟨fd, _, ok, F.kp, F.bindsN fun _ _ _ _ _ _ us hl => match us, hl with | [], _ => rfl⟩
def z__law_draw : Fn := zDef 3 (zSeq (zIfS (zBl (zBin opGt (zBin opItem (zVar 0) (zCon (.int 0))) (zCon (.int 0)))) (zSeq (zAsg (zBin opMod (zBin opItem (zVar 0) (zCon (.int 0))) (zVar 1)) (gNm 2)) (zSeq (zLSet (zVar 0) (zCon (.int 0)) (zBin opFDiv (zBin opItem (zVar 0) (zCon (.int 0))) (zVar 1))) (zRet (zVar 2)))) zNext) (zSeq (zLSet (zVar 0) (zCon (.int 1)) (zBin opMod (zBin opAdd (zBin opMul (zBin opItem (zVar 0) (zCon (.int 1))) (zCon (.int 48271))) (zCon (.int 11))) (zCon (.int 2147483647)))) (zRet (zBin opMod (zBin opFDiv (zBin opMod (zBin opMul (zBin opItem (zVar 0) (zCon (.int 1))) (zBin opItem (zVar 0) (zCon (.int 1)))) (zCon (.int 2147483629))) (zCon (.int 64))) (zVar 1)))))
theorem sc__law_draw : FnScope (["_law_pool", "_law_size", "_law_found"] : List Str) (["_law_pool", "_law_size"] : List Str) (defScope (d__law_draw).st) := ⟨rfl, rfl, rfl, by decide +kernel, rfl, by decide +kernel, by decide +kernel⟩
theorem ok__law_draw_f (T : Fx P w K mg) : ∃ fd, (d__law_draw).Is K fd ∧ FnOk P w K mg base (L2.CX P w) 2 ((d__law_draw).loc.ad K) fd (["_law_pool", "_law_size"] : List Str) (spz (G K sa) 2 z__law_draw) := by
  obtain ⟨fd, F⟩ := T.c.def_ 38 (d := d__law_draw) rfl
  have nd : ((["_law_pool", "_law_size", "_law_found"] : List Str)).Nodup := (sc__law_draw).nd
  refine ⟨fd, F, def_ok (k := 1) F sc__law_draw (by decide) (fun cdv A outer s H E hr => ?_)⟩
  have tk := takes_of (X := cxOf (L2.CX P w) P w K mg base (["_law_pool", "_law_size", "_law_found"] : List Str) (d__law_draw).qual (defScope (d__law_draw).st) ((d__law_draw).loc.ad K) cdv A outer s H E) rfl rfl rfl rfl
  have po := passes_of (X := cxOf (L2.CX P w) P w K mg base (["_law_pool", "_law_size", "_law_found"] : List Str) (d__law_draw).qual (defScope (d__law_draw).st) ((d__law_draw).loc.ad K) cdv A outer s H E) rfl
  exact (zs_cons (zs_if (q_cmpT op_gt oz_gt (q_sub (hu_of hr) (z_var (pv 0)) q_int) q_int) (zs_cons (zs_set (ps_set (i := 2) nd (by rfl) (by exact .inl rfl) (z_bin op_mod oz_mod (q_sub (hu_of hr) (z_var (pv 0)) q_int) (z_var (pv 1))))) (zs_cons (zs_lset (ps_asg (z_bin op_fdiv oz_fdiv (q_sub (hu_of hr) (z_var (pv 0)) q_int) (z_var (pv 1))) (pg_sub (z_var (pv 0)) q_int set_list))) (zs_one (zs_ret (z_var (pv 2)))))) zs_nil) (zs_cons (zs_lset (ps_asg (z_bin op_mod oz_mod (z_bin or_add oz_add (z_bin or_mul oz_mul (q_sub (hu_of hr) (z_var (pv 0)) q_int) q_int) q_int) q_int) (pg_sub (z_var (pv 0)) q_int set_list))) (zs_one (zs_ret (z_bin op_mod oz_mod (z_bin op_fdiv oz_fdiv (z_bin op_mod oz_mod (z_bin or_mul oz_mul (q_sub (hu_of hr) (z_var (pv 0)) q_int) (q_sub (hu_of hr) (z_var (pv 0)) q_int)) q_int) q_int) (z_var (pv 1)))))))
theorem ok__law_draw (T : Fx P w K mg) : Cal P w K mg base (G K sa) 2 ((d__law_draw).loc.ad K) 2 z__law_draw := by
  obtain ⟨fd, F, ok⟩ := ok__law_draw_f (P := P) (base := base) (sa := sa) T
  exact ⟨fd, _, ok, F.kp, F.bindsN fun _ _ _ _ _ _ us hl => match us, hl with | [_, _], _ => rfl⟩
def mt_repr_12 : Nat → Option Fn := look [(1, z_Begins___repr__)]
theorem ok_draw (T : Fx P w K mg) : Cal P w K mg base (G K sa) 2 ((d__law_draw).loc.ad K) 2 zDraw := by
  have c := ok__law_draw (P := P) (base := base) (sa := sa) T
  have e : z__law_draw = zDrawL := rfl
  rw [e] at c
  exact c.imp draw_imp
theorem mt_repr_12_ok (T : Fx P w K mg) : ∀ c fn, mt_repr_12 c = some fn → Cls K ((G K sa).ga c) ∧ ∃ f, Meth K ((G K sa).ga c) ((G K sa).nm 6) f ∧ Cal P w K mg base (G K sa) 2 f 1 fn := look_cons ⟨He.cls_ok (T.c.fact 10 rfl), _, He.meth_ok (T.c.fact 85 rfl), ((ok_Begins___repr__ T).mono (by decide : 2 ≤ 2))⟩ (look_nil)
theorem sc_hand : FnScope (["_law_script", "_law_k", "_law_cell", "_law_seed"] : List Str) (["_law_script", "_law_k"] : List Str) (defScope (d__law_hand).st) := ⟨rfl, rfl, rfl, by decide +kernel, rfl, by decide +kernel, by decide +kernel⟩
theorem ok_hand (T : Fx P w K mg) : ∃ fd, (d__law_hand).Is K fd ∧ FnOk P w K mg base (L2.CX P w) 2 ((d__law_hand).loc.ad K) fd (["_law_script", "_law_k"] : List Str) (spHand K) := by
  obtain ⟨fd, F⟩ := T.c.def_ 37 (d := d__law_hand) rfl
  have nd : ((["_law_script", "_law_k", "_law_cell", "_law_seed"] : List Str)).Nodup := sc_hand.nd
  refine ⟨fd, F, FunD.ok (k := 1) F sc_hand (fun vs H Q E h => ?_) (fun cdv A outer s H vs Q E hr hsp => ⟨_, pss_cons (ps_set (i := 2) nd (by rfl) (by exact .inl rfl) (pe_ix ix_list (pe_op op_cat (pe_slice sl_list (pv 0) (po_some (pv 1)) (po_some (pe_op op_add (pv 1) pe_int))) (pe_lst (pa_cons pe_int pa_nil))) pe_int (by intro _ _; rfl)))
    (pss_cons (ps_set (i := 3) nd (by rfl) (by exact .inl rfl) (pe_op op_mod (pe_op op_mul (pe_op op_add (pe_op op_add (pe_op op_mod (pv 2) pe_int) (pe_op op_mul pe_int (pv 1))) pe_int) pe_int) pe_int))
      (pss_one (ps_ret (pe_lst (pa_cons (pe_op op_mul (pe_callTy call_int1 (by rfl) (n_int T) bt_int (pa_cons (pe_cmpR op_ge (pv 2) (pe_op op_pow pe_int pe_int) (nomark _)) pa_nil)) (pv 2)) (pa_cons (pv 3) pa_nil)))))), ?_⟩)⟩
  · obtain ⟨a, k, ns, rfl, _⟩ := h
    rfl
  · obtain ⟨a, k, ns, rfl, k0, k1, hl, hS, hq⟩ := hsp
    exact hand_pure k0 k1 hl hS hq
def zl_1 : ZS := (zIfS (zNot (zTru (zFn 0 z__law_limits_right [] zNil))) zNever zNext)
def zl_b1 : ZS := (zAsg (zBin opItem (zLst (zCons (zCon .non) (zCons (zCon (.int 5)) (zCons (zCon (.str "A")) (zCons (zCon (.str "a b")) (zCons (zBin opMulS (zCon (.str "a")) (zCon (.int 21))) (zCons (zLst (zCons (zCon (.str "a")) zNil)) (zCons (zTup (zCons (zCon (.str "a")) zNil)) (zCons (zCon (.str "!")) (zCons (zCon (.bl true)) zNil)))))))))) (zFn 2 zDraw [] (zCons (zVar 2) (zCons (zCon (.int 9)) zNil)))) (gNm 3))
def zl_b2 : ZS := (zIfS (zBl (zBin (opEq true) (zFn 3 z__law_told [] (zCons (zCon (.int 0)) (zCons (zVar 3) (zCons (zCon (.int 0)) zNil)))) (zLst (zCons (zCon (.str "text")) (zCons (zCall (opReprO mt_repr_12) (zCons (zVar 3) zNil)) (zCons (zCon (.bl true)) zNil)))))) zNever zNext)
def zl_b3 : ZS := (zAsg (zBin opItem (zLst (zCons (zCon .non) (zCons (zCon (.int 0)) (zCons (zNeg (zCon (.int 1))) (zCons (zCon (.int 21)) (zCons (zCon (.bl true)) (zCons (zCon (.str "1")) (zCons (zTup (zCons (zCon (.int 1)) zNil)) zNil)))))))) (zFn 2 zDraw [] (zCons (zVar 2) (zCons (zCon (.int 7)) zNil)))) (gNm 4))
def zl_b4 : ZS := (zIfS (zBl (zBin (opEq true) (zLc (zITup (zTup (zCons (zVar 4) (zCons (zCon (.int 5)) zNil)))) (gNm 5) zYes (zFn 3 z__law_told [] (zCons (zCon (.int 1)) (zCons (zVar 4) (zCons (zVar 5) zNil)))) [5]) (zBin opMul (zLst (zCons (zLst (zCons (zCon (.str "number")) (zCons (zCall (opReprO mt_repr_12) (zCons (zVar 4) zNil)) (zCons (zCon (.bl true)) zNil)))) zNil)) (zCon (.int 2))))) zNever zNext)
def zl_b5 : ZS := (zIfS (zOrT (zBl (zBin (opEq true) (zFn 3 z__law_told [] (zCons (zCon (.int 1)) (zCons (zCon (.int 3)) (zCons (zVar 4) zNil)))) (zLst (zCons (zCon (.str "number")) (zCons (zCall (opReprO mt_repr_12) (zCons (zVar 4) zNil)) (zCons (zCon (.bl true)) zNil)))))) (zBl (zBin (opEq true) (zFn 3 z__law_told [] (zCons (zCon (.int 1)) (zCons (zCon (.int 3)) (zCons (zCon (.int 2)) zNil)))) (zLst (zCons (zCon (.str "range")) (zCons (zCon (.int 3)) (zCons (zCon (.int 2)) (zCons (zCon (.bl true)) zNil)))))))) zNever zNext)
def zl_b6 : ZS := (zAsg (zBin opItem (zLst (zCons (zCon (.bl true)) (zCons (zCon (.str "1")) (zCons (zTup (zCons (zCon (.int 1)) zNil)) (zCons (zLst zNil) (zCons zDNew zNil)))))) (zFn 2 zDraw [] (zCons (zVar 2) (zCons (zCon (.int 5)) zNil)))) (gNm 4))
def zl_b7 : ZS := (zIfS (zBl (zBin (opEq true) (zLst (zCons (zFn 3 z__law_told [] (zCons (zCon (.int 2)) (zCons (zVar 4) (zCons (zVar 4) zNil)))) (zCons (zFn 3 z__law_told [] (zCons (zCon (.int 2)) (zCons (zCon .non) (zCons (zVar 4) zNil)))) zNil))) (zBin opMul (zLst (zCons (zLst (zCons (zCon (.str "number")) (zCons (zCall (opReprO mt_repr_12) (zCons (zVar 4) zNil)) (zCons (zCon (.bl true)) zNil)))) zNil)) (zCon (.int 2))))) zNever zNext)
def zl_b8 : ZS := (zAsg (zBin opSub (zFn 2 zDraw [] (zCons (zVar 2) (zCons (zCon (.int 99)) zNil))) (zCon (.int 50))) (gNm 6))
def zl_b9 : ZS := (zIfS (zOrT (zBl (zBin (opEq true) (zFn 3 z__law_told [] (zCons (zCon (.int 2)) (zCons (zVar 6) (zCons (zBin opSub (zVar 6) (zCon (.int 1))) zNil)))) (zLst (zCons (zCon (.str "range")) (zCons (zVar 6) (zCons (zBin opSub (zVar 6) (zCon (.int 1))) (zCons (zCon (.bl true)) zNil))))))) (zBl (zBin (opEq true) (zBin opItem (zFn 3 z__law_told [] (zCons (zCon (.int 2)) (zCons (zVar 6) (zCons (zVar 6) zNil)))) (zCon (.int 0))) (zCon (.str "told"))))) zNever zNext)
def zl_b10 : ZS := (zAsg (zBin opItem (zLst (zCons (zCon .non) (zCons (zCon (.int 5)) (zCons (zCon (.str "")) (zCons (zCon (.str "A")) (zCons (zLst (zCons (zCon (.str "a")) zNil)) (zCons (zBin opMulS (zCon (.str "a")) (zCon (.int 21))) (zCons zDNew zNil)))))))) (zFn 2 zDraw [] (zCons (zVar 2) (zCons (zCon (.int 7)) zNil)))) (gNm 7))
def zl_b11 : ZS := (zIfS (zBl (zBin (opEq true) (zFn 3 z__law_told [] (zCons (zCon (.int 3)) (zCons (zVar 7) (zCons (zCon .non) zNil)))) (zLst (zCons (zCon (.str "key")) (zCons (zCall (opReprO mt_repr_12) (zCons (zVar 7) zNil)) (zCons (zCon (.bl true)) zNil)))))) zNever zNext)
def zl_b12 : ZS := (zAsg (zBin opItem (zLst (zCons (zCon .non) (zCons (zCon (.bl true)) (zCons (zCon (.str "1")) (zCons (zTup (zCons (zCon (.int 1)) zNil)) zNil))))) (zFn 2 zDraw [] (zCons (zVar 2) (zCons (zCon (.int 4)) zNil)))) (gNm 8))
def zl_b13 : ZS := (zIfS (zBl (zBin (opEq true) (zFn 3 z__law_told [] (zCons (zCon (.int 3)) (zCons (zCon (.str "a")) (zCons (zVar 8) zNil)))) (zLst (zCons (zCon (.str "number")) (zCons (zCall (opReprO mt_repr_12) (zCons (zVar 8) zNil)) (zCons (zCon (.bl true)) zNil)))))) zNever zNext)
def zl_b14 : ZS := (zAsg (zBin opItem (zLst (zCons (zCon .non) (zCons (zCon (.int 5)) (zCons (zCon (.str "Begins")) (zCons (zTup (zCons (zCon (.str "begins")) (zCons (zCon (.str "a")) zNil))) (zCons (zLst (zCons (zMk 1 2 z_Begins_init (zCons (zCon (.str "a")) zNil)) zNil)) (zCons (zCon (.bl true)) zNil))))))) (zFn 2 zDraw [] (zCons (zVar 2) (zCons (zCon (.int 6)) zNil)))) (gNm 9))
def zl_b15 : ZS := (zIfS (zBl (zBin (opEq true) (zLc (zITup (zTup (zCons (zCon (.int 4)) (zCons (zCon (.int 5)) (zCons (zCon (.int 6)) (zCons (zCon (.int 7)) (zCons (zCon (.int 8)) zNil))))))) (gNm 10) zYes (zFn 3 z__law_told [] (zCons (zVar 10) (zCons (zVar 9) (zCons (zCon (.int 7)) zNil)))) [10]) (zBin opMul (zLst (zCons (zLst (zCons (zCon (.str "condition")) (zCons (zCall (opReprO mt_repr_12) (zCons (zVar 9) zNil)) (zCons (zCon (.bl true)) zNil)))) zNil)) (zCon (.int 5))))) zNever zNext)
def zl_b16 : ZS := (zIfS (zBl (zBin (opEq true) (zLc (zITup (zTup (zCons (zCon (.int 5)) (zCons (zCon (.int 6)) zNil)))) (gNm 10) zYes (zFn 3 z__law_told [] (zCons (zVar 10) (zCons (zMk 1 2 z_Begins_init (zCons (zCon (.str "a")) zNil)) (zCons (zVar 9) zNil)))) [10]) (zBin opMul (zLst (zCons (zLst (zCons (zCon (.str "condition")) (zCons (zCall (opReprO mt_repr_12) (zCons (zVar 9) zNil)) (zCons (zCon (.bl true)) zNil)))) zNil)) (zCon (.int 2))))) zNever zNext)
def zl_ret : ZS := (zRet (zAnd (zBin (opEq false) (zBin opItem (zFn 3 z__law_told [] (zCons (zCon (.int 0)) (zCons (zCon (.str "")) (zCons (zCon (.int 0)) zNil)))) (zCon (.int 0))) (zCon (.str "told"))) (zBin (opEq false) (zBin opItem (zFn 3 z__law_told [] (zCons (zCon (.int 0)) (zCons (zBin opMulS (zCon (.str "z9")) (zCon (.int 10))) (zCons (zCon (.int 0)) zNil)))) (zCon (.int 0))) (zCon (.str "told")))))
def tLB (K : PySem.W.Frag) (sa : Addr) (E : XK) : TS := (tSeq (tzS (G K sa) (WofE E) zl_b1) (tSeq (tzS (G K sa) (WofE E) zl_b2) (tSeq (tzS (G K sa) (WofE E) zl_b3) (tSeq (tzS (G K sa) (WofE E) zl_b4) (tSeq (tzS (G K sa) (WofE E) zl_b5) (tSeq (tzS (G K sa) (WofE E) zl_b6) (tSeq (tzS (G K sa) (WofE E) zl_b7) (tSeq (tzS (G K sa) (WofE E) zl_b8) (tSeq (tzS (G K sa) (WofE E) zl_b9) (tSeq (tzS (G K sa) (WofE E) zl_b10) (tSeq (tzS (G K sa) (WofE E) zl_b11) (tSeq (tzS (G K sa) (WofE E) zl_b12) (tSeq (tzS (G K sa) (WofE E) zl_b13) (tSeq (tzS (G K sa) (WofE E) zl_b14) (tSeq (tzS (G K sa) (WofE E) zl_b15) (tzS (G K sa) (WofE E) zl_b16))))))))))))))))
def tLaw (K : PySem.W.Frag) (sa : Addr) (E : XK) : TS := tSeq (tzS (G K sa) (WofE E) zl_1) (tSeq (tFor (tTurns K 1 8) (gName 1) (tSeq (tHand K (WofE E) 1 2) (tLB K sa E))) (tzS (G K sa) (WofE E) zl_ret))
def spLaw (K : PySem.W.Frag) : Sp := fun vs H Q _ => ∃ (a : Addr) (ns : List Int), vs = [.ref a] ∧ ns.length ≤ 16777216 ∧ SqL K H a (ns.map V.int) ∧ ∀ H', Q (.bl true) H'
theorem sc_law : FnScope (["_law_script", "_law_k", "_law_pool", "_law_text", "_law_number", "_law_most", "_law_low", "_law_key", "_law_value", "_law_odd", "_law_door"] : List Str) (["_law_script"] : List Str) (defScope (d_law).st) := ⟨rfl, rfl, rfl, by decide +kernel, rfl, by decide +kernel, by decide +kernel⟩
def TurnOk : Prop := ∃ (s1 : ZSt) (h1 : VH), zl_1 (some (.glo 0) :: List.replicate (11 - 1) none) ⟨0, []⟩ = .nx s1 h1 ∧ s1[0]? = some (some (.glo 0)) ∧ s1[1]? = some none ∧ s1[2]? = some none ∧ isT (zl_ret s1 h1) = true ∧
  ∀ (K : PySem.W.Frag) (sa : Addr) (E : XK) (D : Ends) (r2 : Rho) (H2 : Hp) (σ2 : L2.St), HRel (G K sa) r2 (h1.push (.orc [])) H2 → SRel (G K sa) r2 (h1.n + 1) (s1.set 2 (some (.ref h1.n))) σ2 → (∀ r3 H3 σ3, Back (G K sa) h1 s1 r2 H2 r3 H3 σ3 → D.nx σ3 H3) → tLB K sa E D σ2 H2
theorem law_def (T : Fx P w K mg) : ∃ fd, (d_law).Is K fd := T.c.def_ 36 (d := d_law) rfl
theorem ok_law (hturn : TurnOk) (T : Fx P w K mg) {fd : FuncData} (F : (d_law).Is K fd) : FnG P w K mg base (L2.CX P w) 9 ((d_law).loc.ad K) fd (["_law_script"] : List Str) (spLaw K) := by
  obtain ⟨fdh, Fh, okh⟩ := ok_hand (P := P) (base := base) T
  have bh : Binds K fdh (["_law_script", "_law_k"] : List Str) [] := Fh.bindsN fun _ _ _ _ _ _ us hl => match us, hl with | [_, _], _ => rfl
  obtain ⟨s1, h1, e1, c0, ck, cp, er, turn⟩ := hturn
  have nd : ((["_law_script", "_law_k", "_law_pool", "_law_text", "_law_number", "_law_most", "_law_low", "_law_key", "_law_value", "_law_odd", "_law_door"] : List Str)).Nodup := sc_law.nd
  refine fnG_ok (k := 8) F sc_law (fun vs H Q E h => ?_) (fun cdv A outer s H vs Q E hgu hr hsp => ?_)
  · obtain ⟨a, ns, rfl, _⟩ := h
    rfl
  · obtain ⟨sa, ns, rfl, hl, hS, hQ⟩ := hsp
    have tk := takes_of (X := cxOf (L2.CX P w) P w K mg base (["_law_script", "_law_k", "_law_pool", "_law_text", "_law_number", "_law_most", "_law_low", "_law_key", "_law_value", "_law_odd", "_law_door"] : List Str) (d_law).qual (defScope (d_law).st) ((d_law).loc.ad K) cdv A outer s H E) rfl rfl rfl rfl
    have po := passes_of (X := cxOf (L2.CX P w) P w K mg base (["_law_script", "_law_k", "_law_pool", "_law_text", "_law_number", "_law_most", "_law_low", "_law_key", "_law_value", "_law_odd", "_law_door"] : List Str) (d_law).qual (defScope (d_law).st) ((d_law).loc.ad K) cdv A outer s H E) rfl
    refine ⟨tLaw K sa E, ?_, law_pure (N := (["_law_script", "_law_k", "_law_pool", "_law_text", "_law_number", "_law_most", "_law_low", "_law_key", "_law_value", "_law_odd", "_law_door"] : List Str)) hS hl (by decide) (by decide) (by decide) rfl (by decide) e1 c0 ck cp (turn K sa E) er hQ⟩
    exact pss_cons (show PS _ _ (tzS (G K sa) (WofE E) zl_1) from (zs_if (z_notT (q_tru (q_call0 (ok__law_limits_right T) (hr.mono (by decide)) (pse_takes tk) (g__law_limits_right T)))) zss_never zs_nil)) (pss_cons (ps_for po (by rfl) (pi_range1 (by rfl) (n_range T) (pa_cons (pe_callB (call_max2 (by rfl)) (by rfl) (n_max T) bt_max (pa_cons pe_int (pa_cons (pe_callB (call_min2 (by rfl)) (by rfl) (n_min T) bt_min (pa_cons (pe_callB call_len (by rfl) (n_len T) bt_len (pa_cons (pv 0) pa_nil)) (pa_cons pe_int pa_nil))) pa_nil))) pa_nil)) (pg_name (i := 1) nd (by rfl) (by exact .inl rfl))
      (pss_cons (ps_set (i := 2) nd (by rfl) (by exact .inl rfl) (pe_callS okh (hr.mono (by decide)) (by rfl) (g__law_hand T) Fh.kp bh (fun σ => passAt tk σ) (pa_cons (pv 0) (pa_cons (pv 1) pa_nil)))) (pss_cons (show PS _ _ (tzS (G K sa) (WofE E) zl_b1) from (zs_set (ps_set (i := 3) nd (by rfl) (by exact .inl rfl) (q_sub (hu_of hr) (z_lst (q_cons q_non (q_cons q_int (q_cons q_str (q_cons q_str (q_cons (z_bin op_mulS oz_mulS q_str q_int) (q_cons (z_lst (q_cons q_str z_nil)) (q_cons (z_tup (q_cons q_str z_nil)) (q_cons q_str (q_cons q_bl z_nil)))))))))) (q_call (ok_draw T) (hr.mono (by decide)) (ps_takes tk) (g__law_draw T) (q_cons (z_var (pv 2)) (q_cons q_int z_nil))))))) (pss_cons (show PS _ _ (tzS (G K sa) (WofE E) zl_b2) from (zs_if (q_cmpT (op_neD hr.units) oz_ne (q_callG (ok__law_told T) hgu (hr.mono (by decide)) (ps_takes tk) (g__law_told T) (q_cons q_int (q_cons (z_var (pv 3)) (q_cons q_int z_nil)))) (z_lst (q_cons q_str (q_cons (q_reprO hgu (mt_repr_12_ok T) (hr.mono (by decide)) (pse_takes tk) (n_repr T) bt_repr (q_cons (z_var (pv 3)) z_nil)) (q_cons q_bl z_nil))))) zss_never zs_nil)) (pss_cons (show PS _ _ (tzS (G K sa) (WofE E) zl_b3) from (zs_set (ps_set (i := 4) nd (by rfl) (by exact .inr rfl) (q_sub (hu_of hr) (z_lst (q_cons q_non (q_cons q_int (q_cons (z_neg q_int) (q_cons q_int (q_cons q_bl (q_cons q_str (q_cons (z_tup (q_cons q_int z_nil)) z_nil)))))))) (q_call (ok_draw T) (hr.mono (by decide)) (ps_takes tk) (g__law_draw T) (q_cons (z_var (pv 2)) (q_cons q_int z_nil))))))) (pss_cons (show PS _ _ (tzS (G K sa) (WofE E) zl_b4) from (zs_if (q_cmpT (op_neD hr.units) oz_ne (z_lc (pe_lc (own := [("_law_most", 5)]) (by rfl) nd (zi_tup (pi_tup (z_tup (q_cons (z_var (pv 4)) (q_cons q_int z_nil))))) (blkOk_by (N := (["_law_script", "_law_k", "_law_pool", "_law_text", "_law_number", "_law_most", "_law_low", "_law_key", "_law_value", "_law_odd", "_law_door"] : List Str)) (sc := defScope (d_law).st) (own := [("_law_most", 5)]) (by decide +kernel)) (fun _ _ _ _ _ => (g_nm (pg_name (i := 5) nd (by rfl) (by exact .inl rfl)))) (fun _ _ _ _ _ => zts_nil) (fun _ _ _ _ _ => (q_callG (ok__law_told T) hgu (hr.mono (by decide)) ps_none (g__law_told T) (q_cons q_int (q_cons (z_var (pv 4)) (q_cons (z_var (pv 5)) z_nil))))))) (z_bin or_mul oz_mul (z_lst (q_cons (z_lst (q_cons q_str (q_cons (q_reprO hgu (mt_repr_12_ok T) (hr.mono (by decide)) (pse_takes tk) (n_repr T) bt_repr (q_cons (z_var (pv 4)) z_nil)) (q_cons q_bl z_nil)))) z_nil)) q_int)) zss_never zs_nil)) (pss_cons (show PS _ _ (tzS (G K sa) (WofE E) zl_b5) from (zs_if (PW.pt (z_orT (q_cmpT (op_neD hr.units) oz_ne (q_callG (ok__law_told T) hgu (hr.mono (by decide)) (ps_takes tk) (g__law_told T) (q_cons q_int (q_cons q_int (q_cons (z_var (pv 4)) z_nil)))) (z_lst (q_cons q_str (q_cons (q_reprO hgu (mt_repr_12_ok T) (hr.mono (by decide)) (pse_takes tk) (n_repr T) bt_repr (q_cons (z_var (pv 4)) z_nil)) (q_cons q_bl z_nil))))) (z_or1 (q_cmpT (op_neD hr.units) oz_ne (q_callG (ok__law_told T) hgu (hr.mono (by decide)) (ps_takes tk) (g__law_told T) (q_cons q_int (q_cons q_int (q_cons q_int z_nil)))) (z_lst (q_cons q_str (q_cons q_int (q_cons q_int (q_cons q_bl z_nil))))))))) zss_never zs_nil)) (pss_cons (show PS _ _ (tzS (G K sa) (WofE E) zl_b6) from (zs_set (ps_set (i := 4) nd (by rfl) (by exact .inr rfl) (q_sub (hu_of hr) (z_lst (q_cons q_bl (q_cons q_str (q_cons (z_tup (q_cons q_int z_nil)) (q_cons (z_lst z_nil) (q_cons (z_dnew pe_dnewK) z_nil)))))) (q_call (ok_draw T) (hr.mono (by decide)) (ps_takes tk) (g__law_draw T) (q_cons (z_var (pv 2)) (q_cons q_int z_nil))))))) (pss_cons (show PS _ _ (tzS (G K sa) (WofE E) zl_b7) from (zs_if (q_cmpT (op_neD hr.units) oz_ne (z_lst (q_cons (q_callG (ok__law_told T) hgu (hr.mono (by decide)) (ps_takes tk) (g__law_told T) (q_cons q_int (q_cons (z_var (pv 4)) (q_cons (z_var (pv 4)) z_nil)))) (q_cons (q_callG (ok__law_told T) hgu (hr.mono (by decide)) (ps_takes tk) (g__law_told T) (q_cons q_int (q_cons q_non (q_cons (z_var (pv 4)) z_nil)))) z_nil))) (z_bin or_mul oz_mul (z_lst (q_cons (z_lst (q_cons q_str (q_cons (q_reprO hgu (mt_repr_12_ok T) (hr.mono (by decide)) (pse_takes tk) (n_repr T) bt_repr (q_cons (z_var (pv 4)) z_nil)) (q_cons q_bl z_nil)))) z_nil)) q_int)) zss_never zs_nil)) (pss_cons (show PS _ _ (tzS (G K sa) (WofE E) zl_b8) from (zs_set (ps_set (i := 6) nd (by rfl) (by exact .inl rfl) (z_bin op_sub oz_sub (q_call (ok_draw T) (hr.mono (by decide)) (ps_takes tk) (g__law_draw T) (q_cons (z_var (pv 2)) (q_cons q_int z_nil))) q_int)))) (pss_cons (show PS _ _ (tzS (G K sa) (WofE E) zl_b9) from (zs_if (PW.pt (z_orT (q_cmpT (op_neD hr.units) oz_ne (q_callG (ok__law_told T) hgu (hr.mono (by decide)) (ps_takes tk) (g__law_told T) (q_cons q_int (q_cons (z_var (pv 6)) (q_cons (z_bin op_sub oz_sub (z_var (pv 6)) q_int) z_nil)))) (z_lst (q_cons q_str (q_cons (z_var (pv 6)) (q_cons (z_bin op_sub oz_sub (z_var (pv 6)) q_int) (q_cons q_bl z_nil)))))) (z_or1 (q_cmpT (op_neD hr.units) oz_ne (q_sub (hu_of hr) (q_callG (ok__law_told T) hgu (hr.mono (by decide)) (ps_takes tk) (g__law_told T) (q_cons q_int (q_cons (z_var (pv 6)) (q_cons (z_var (pv 6)) z_nil)))) q_int) q_str)))) zss_never zs_nil)) (pss_cons (show PS _ _ (tzS (G K sa) (WofE E) zl_b10) from (zs_set (ps_set (i := 7) nd (by rfl) (by exact .inl rfl) (q_sub (hu_of hr) (z_lst (q_cons q_non (q_cons q_int (q_cons q_str (q_cons q_str (q_cons (z_lst (q_cons q_str z_nil)) (q_cons (z_bin op_mulS oz_mulS q_str q_int) (q_cons (z_dnew pe_dnewK) z_nil)))))))) (q_call (ok_draw T) (hr.mono (by decide)) (ps_takes tk) (g__law_draw T) (q_cons (z_var (pv 2)) (q_cons q_int z_nil))))))) (pss_cons (show PS _ _ (tzS (G K sa) (WofE E) zl_b11) from (zs_if (q_cmpT (op_neD hr.units) oz_ne (q_callG (ok__law_told T) hgu (hr.mono (by decide)) (ps_takes tk) (g__law_told T) (q_cons q_int (q_cons (z_var (pv 7)) (q_cons q_non z_nil)))) (z_lst (q_cons q_str (q_cons (q_reprO hgu (mt_repr_12_ok T) (hr.mono (by decide)) (pse_takes tk) (n_repr T) bt_repr (q_cons (z_var (pv 7)) z_nil)) (q_cons q_bl z_nil))))) zss_never zs_nil)) (pss_cons (show PS _ _ (tzS (G K sa) (WofE E) zl_b12) from (zs_set (ps_set (i := 8) nd (by rfl) (by exact .inl rfl) (q_sub (hu_of hr) (z_lst (q_cons q_non (q_cons q_bl (q_cons q_str (q_cons (z_tup (q_cons q_int z_nil)) z_nil))))) (q_call (ok_draw T) (hr.mono (by decide)) (ps_takes tk) (g__law_draw T) (q_cons (z_var (pv 2)) (q_cons q_int z_nil))))))) (pss_cons (show PS _ _ (tzS (G K sa) (WofE E) zl_b13) from (zs_if (q_cmpT (op_neD hr.units) oz_ne (q_callG (ok__law_told T) hgu (hr.mono (by decide)) (ps_takes tk) (g__law_told T) (q_cons q_int (q_cons q_str (q_cons (z_var (pv 8)) z_nil)))) (z_lst (q_cons q_str (q_cons (q_reprO hgu (mt_repr_12_ok T) (hr.mono (by decide)) (pse_takes tk) (n_repr T) bt_repr (q_cons (z_var (pv 8)) z_nil)) (q_cons q_bl z_nil))))) zss_never zs_nil)) (pss_cons (show PS _ _ (tzS (G K sa) (WofE E) zl_b14) from (zs_set (ps_set (i := 9) nd (by rfl) (by exact .inr rfl) (q_sub (hu_of hr) (z_lst (q_cons q_non (q_cons q_int (q_cons q_str (q_cons (z_tup (q_cons q_str (q_cons q_str z_nil))) (q_cons (z_lst (q_cons (q_new (ok_Begins_init T) (mk_Begins T) (hr.mono (by decide)) (pse_takes tk) (g_Begins T) (q_cons q_str z_nil)) z_nil)) (q_cons q_bl z_nil))))))) (q_call (ok_draw T) (hr.mono (by decide)) (ps_takes tk) (g__law_draw T) (q_cons (z_var (pv 2)) (q_cons q_int z_nil))))))) (pss_cons (show PS _ _ (tzS (G K sa) (WofE E) zl_b15) from (zs_if (q_cmpT (op_neD hr.units) oz_ne (z_lc (pe_lc (own := [("_law_door", 10)]) (by rfl) nd (zi_tup (pi_tup (z_tup (q_cons q_int (q_cons q_int (q_cons q_int (q_cons q_int (q_cons q_int z_nil)))))))) (blkOk_by (N := (["_law_script", "_law_k", "_law_pool", "_law_text", "_law_number", "_law_most", "_law_low", "_law_key", "_law_value", "_law_odd", "_law_door"] : List Str)) (sc := defScope (d_law).st) (own := [("_law_door", 10)]) (by decide +kernel)) (fun _ _ _ _ _ => (g_nm (pg_name (i := 10) nd (by rfl) (by exact .inl rfl)))) (fun _ _ _ _ _ => zts_nil) (fun _ _ _ _ _ => (q_callG (ok__law_told T) hgu (hr.mono (by decide)) ps_none (g__law_told T) (q_cons (z_var (pv 10)) (q_cons (z_var (pv 9)) (q_cons q_int z_nil))))))) (z_bin or_mul oz_mul (z_lst (q_cons (z_lst (q_cons q_str (q_cons (q_reprO hgu (mt_repr_12_ok T) (hr.mono (by decide)) (pse_takes tk) (n_repr T) bt_repr (q_cons (z_var (pv 9)) z_nil)) (q_cons q_bl z_nil)))) z_nil)) q_int)) zss_never zs_nil)) (pss_one (show PS _ _ (tzS (G K sa) (WofE E) zl_b16) from (zs_if (q_cmpT (op_neD hr.units) oz_ne (z_lc (pe_lc (own := [("_law_door", 10)]) (by rfl) nd (zi_tup (pi_tup (z_tup (q_cons q_int (q_cons q_int z_nil))))) (blkOk_by (N := (["_law_script", "_law_k", "_law_pool", "_law_text", "_law_number", "_law_most", "_law_low", "_law_key", "_law_value", "_law_odd", "_law_door"] : List Str)) (sc := defScope (d_law).st) (own := [("_law_door", 10)]) (by decide +kernel)) (fun _ _ _ _ _ => (g_nm (pg_name (i := 10) nd (by rfl) (by exact .inl rfl)))) (fun _ _ _ _ _ => zts_nil) (fun _ _ _ _ _ => (q_callG (ok__law_told T) hgu (hr.mono (by decide)) ps_none (g__law_told T) (q_cons (z_var (pv 10)) (q_cons (q_new (ok_Begins_init T) (mk_Begins T) (hr.mono (by decide)) pse_none (g_Begins T) (q_cons q_str z_nil)) (q_cons (z_var (pv 9)) z_nil))))))) (z_bin or_mul oz_mul (z_lst (q_cons (z_lst (q_cons q_str (q_cons (q_reprO hgu (mt_repr_12_ok T) (hr.mono (by decide)) (pse_takes tk) (n_repr T) bt_repr (q_cons (z_var (pv 9)) z_nil)) (q_cons q_bl z_nil)))) z_nil)) q_int)) zss_never zs_nil))))))))))))))))))))
      (pss_one (show PS _ _ (tzS (G K sa) (WofE E) zl_ret) from (zs_ret (z_and (q_cmp (op_eqD hr.units) oz_eq (q_sub (hu_of hr) (q_callG (ok__law_told T) hgu (hr.mono (by decide)) (ps_takes tk) (g__law_told T) (q_cons q_int (q_cons q_str (q_cons q_int z_nil)))) q_int) q_str) (z_one (q_cmp (op_eqD hr.units) oz_eq (q_sub (hu_of hr) (q_callG (ok__law_told T) hgu (hr.mono (by decide)) (ps_takes tk) (g__law_told T) (q_cons q_int (q_cons (z_bin op_mulS oz_mulS q_str q_int) (q_cons q_int z_nil)))) q_int) q_str)))))))
end
end Zx

namespace Zx
open PySem PySem.Spec PyProof.Rows L2 Zd
def u1 : RS := zl_1 (some (.glo 0) :: List.replicate (11 - 1) none) ⟨0, []⟩
def us : ZSt := nxS u1
def uh : VH := nxH u1
def us0 : ZSt := us.set 2 (some (.ref uh.n))
def uh0 : VH := uh.push (.orc [])
def pv_ (m d : Nat) : VH := uh0.set uh.n (.orc [((m : Int), (d : Int))])
def back (x : RS) : Bool := endsAt x us0 uh0 && Nat.ble (uh.n + 1) uh0.n
def backL (x : RS) : Bool := endsAt x us uh
theorem k0 : (isN u1 && isT (zl_ret us uh) && isO (uh0.get uh.n)) = true := by decide +kernel
theorem ks0 : us[0]? = some (some (.glo 0)) := by decide +kernel
theorem ksk : us[1]? = some none := by decide +kernel
theorem ksp : us[2]? = some none := by decide +kernel
def q1 (d : Nat) : RS := zl_b1 us0 (pv_ 9 d)
def q2 (d : Nat) : RS := zl_b2 (nxS (q1 d)) (nxH (q1 d))
def c0 (d : Nat) : Bool := isN (q1 d) && back (q2 d)
theorem k_0 : allN 9 c0 = true := by decide +kernel
def q3 (d : Nat) : RS := zl_b3 us0 (pv_ 7 d)
def q4 (d : Nat) : RS := zl_b4 (nxS (q3 d)) (nxH (q3 d))
def q5 (d : Nat) : RS := zl_b5 (nxS (q4 d)) (nxH (q4 d))
def c1 (d : Nat) : Bool := isN (q3 d) && isN (q4 d) && back (q5 d)
theorem k_1 : allN 7 c1 = true := by decide +kernel
def q6 (d : Nat) : RS := zl_b6 us0 (pv_ 5 d)
def q7 (d : Nat) : RS := zl_b7 (nxS (q6 d)) (nxH (q6 d))
def c2 (d : Nat) : Bool := isN (q6 d) && back (q7 d)
theorem k_2 : allN 5 c2 = true := by decide +kernel
def q8 (d : Nat) : RS := zl_b8 us0 (pv_ 99 d)
def q9 (d : Nat) : RS := zl_b9 (nxS (q8 d)) (nxH (q8 d))
def c3 (d : Nat) : Bool := isN (q8 d) && back (q9 d)
theorem k_3 : allN 99 c3 = true := by decide +kernel
def q10 (d : Nat) : RS := zl_b10 us0 (pv_ 7 d)
def q11 (d : Nat) : RS := zl_b11 (nxS (q10 d)) (nxH (q10 d))
def c4 (d : Nat) : Bool := isN (q10 d) && back (q11 d)
theorem k_4 : allN 7 c4 = true := by decide +kernel
def q12 (d : Nat) : RS := zl_b12 us0 (pv_ 4 d)
def q13 (d : Nat) : RS := zl_b13 (nxS (q12 d)) (nxH (q12 d))
def c5 (d : Nat) : Bool := isN (q12 d) && back (q13 d)
theorem k_5 : allN 4 c5 = true := by decide +kernel
def q14 (d : Nat) : RS := zl_b14 us0 (pv_ 6 d)
def q15 (d : Nat) : RS := zl_b15 (nxS (q14 d)) (nxH (q14 d))
def q16 (d : Nat) : RS := zl_b16 (nxS (q15 d)) (nxH (q15 d))
def c6 (d : Nat) : Bool := isN (q14 d) && isN (q15 d) && backL (q16 d)
theorem k_6 : allN 6 c6 = true := by decide +kernel
theorem turn_ok : TurnOk := by
  have h0 := k0
  simp only [Bool.and_eq_true] at h0
  obtain ⟨⟨h01, h02⟩, h03⟩ := h0
  refine ⟨us, uh, isN_eq h01, ks0, ksk, ksp, h02, fun K sa E D r2 H2 σ2 HR S hb => ?_⟩
  have A0 : At (G K sa) (uh.n + 1) r2 H2 us0 uh0 r2 H2 σ2 := At.start (h := uh0) HR S
  obtain ⟨d0, hd0, A⟩ := A0.draw 9 (by decide) h03
  have h0 := allN_at k_0 hd0
  unfold c0 at h0
  simp only [Bool.and_eq_true] at h0
  obtain ⟨g0_1, g0_2⟩ := h0
  refine A.go (z := zl_b1) g0_1 fun r' H' σ' A => ?_
  refine A.run (z := zl_b2) (s2 := us0) (h2 := uh0) g0_2 fun r' H' σ' A1 => ?_
  obtain ⟨d1, hd1, A⟩ := A1.draw 7 (by decide) h03
  have h1 := allN_at k_1 hd1
  unfold c1 at h1
  simp only [Bool.and_eq_true] at h1
  obtain ⟨⟨g1_3, g1_4⟩, g1_5⟩ := h1
  refine A.go (z := zl_b3) g1_3 fun r' H' σ' A => ?_
  refine A.go (z := zl_b4) g1_4 fun r' H' σ' A => ?_
  refine A.run (z := zl_b5) (s2 := us0) (h2 := uh0) g1_5 fun r' H' σ' A2 => ?_
  obtain ⟨d2, hd2, A⟩ := A2.draw 5 (by decide) h03
  have h2 := allN_at k_2 hd2
  unfold c2 at h2
  simp only [Bool.and_eq_true] at h2
  obtain ⟨g2_6, g2_7⟩ := h2
  refine A.go (z := zl_b6) g2_6 fun r' H' σ' A => ?_
  refine A.run (z := zl_b7) (s2 := us0) (h2 := uh0) g2_7 fun r' H' σ' A3 => ?_
  obtain ⟨d3, hd3, A⟩ := A3.draw 99 (by decide) h03
  have h3 := allN_at k_3 hd3
  unfold c3 at h3
  simp only [Bool.and_eq_true] at h3
  obtain ⟨g3_8, g3_9⟩ := h3
  refine A.go (z := zl_b8) g3_8 fun r' H' σ' A => ?_
  refine A.run (z := zl_b9) (s2 := us0) (h2 := uh0) g3_9 fun r' H' σ' A4 => ?_
  obtain ⟨d4, hd4, A⟩ := A4.draw 7 (by decide) h03
  have h4 := allN_at k_4 hd4
  unfold c4 at h4
  simp only [Bool.and_eq_true] at h4
  obtain ⟨g4_10, g4_11⟩ := h4
  refine A.go (z := zl_b10) g4_10 fun r' H' σ' A => ?_
  refine A.run (z := zl_b11) (s2 := us0) (h2 := uh0) g4_11 fun r' H' σ' A5 => ?_
  obtain ⟨d5, hd5, A⟩ := A5.draw 4 (by decide) h03
  have h5 := allN_at k_5 hd5
  unfold c5 at h5
  simp only [Bool.and_eq_true] at h5
  obtain ⟨g5_12, g5_13⟩ := h5
  refine A.go (z := zl_b12) g5_12 fun r' H' σ' A => ?_
  refine A.run (z := zl_b13) (s2 := us0) (h2 := uh0) g5_13 fun r' H' σ' A6 => ?_
  obtain ⟨d6, hd6, A⟩ := A6.draw 6 (by decide) h03
  have h6 := allN_at k_6 hd6
  unfold c6 at h6
  simp only [Bool.and_eq_true] at h6
  obtain ⟨⟨g6_14, g6_15⟩, g6_16⟩ := h6
  refine A.go (z := zl_b14) g6_14 fun r' H' σ' A => ?_
  refine A.go (z := zl_b15) g6_15 fun r' H' σ' A => ?_
  exact A.runL (z := zl_b16) (s2 := us) (h2 := uh) g6_16 fun r3 H3 σ3 x1 x2 x3 x4 => hb r3 H3 σ3 ⟨x1, x2, fun i hi => x3 i (Nat.lt_succ_of_lt hi), x4⟩
end Zx

namespace Zx
open PySem PySem.Spec PyProof.Rows L2 Zd
theorem law_bind {K : PySem.W.Frag} {fd : FuncData} (F : d_law.Is K fd) (s : Shared) (u : Value) : BindsTo s fd ⟨[u], []⟩ [("_law_script", u)] :=
  (FunD.bindsA (ps := ["_law_script"]) F fun _ _ _ _ _ _ us hl => match us, hl with | [_], _ => rfl) s [u] rfl
end Zx
open PySem PySem.W PySem.Calls PyProof.Rows
set_option maxHeartbeats 0 in
theorem PySem.Challenge.cw_arccursors_k75_errors_of_conditions_holds : PySem.Challenge.rw_arccursors_k75_errors_of_conditions.Holds := by
  w_on; o_law
  refine HandSHeadRun.head_any (r := OpenLaw.row PySem.Challenge.rw_arccursors_k75_errors_of_conditions) (q := view (OpenLaw.row PySem.Challenge.rw_arccursors_k75_errors_of_conditions).prog [114]) (H := Zx.hk) (ob := Zx.ob) (M := 20000) (loose := Zx.loose) (d := HandSHeadRun.topDef (OpenLaw.row PySem.Challenge.rw_arccursors_k75_errors_of_conditions).prog 114) (kwd := []) Zx.ob_eq
    (by kernel_rfl) (fun s => by kernel_rfl) Zx.run (by kernel_rfl) (by kernel_rfl) (by kernel_rfl) (by rfl) (by first | assumption | decide +kernel) (by decide +kernel) ⟨rfl, rfl, rfl, rfl, rfl, by decide +kernel⟩ ?hw ?hc
  case hw => w_witness2
  case hc =>
    refine Zd.walkG (l := PySem.Challenge.rw_arccursors_k75_errors_of_conditions) (n := 63) (k := 9) (x := "_law_script") rfl (by decide) (by kernel_rfl) ⟨rfl, by decide, by decide⟩ ?F
    intro w mg fa h Y Ns hmg0
    obtain ⟨K, KX, c⟩ := Y
    have T : Zx.Fx (PySem.Challenge.rw_arccursors_k75_errors_of_conditions).prog w K mg := ⟨⟨c, h, KX, Ns⟩, ⟨by kernel_rfl, by kernel_rfl⟩⟩
    have hmg : mg ("law" : PySem.Str) = some (.ref fa) := by
      have e : (HandSHeadRun.topDef (OpenLaw.row PySem.Challenge.rw_arccursors_k75_errors_of_conditions).prog 114).name = ("law" : PySem.Str) := by kernel_rfl
      rw [← e]
      exact hmg0
    have e := hmg.symm.trans (Zx.g_law T)
    cases e
    obtain ⟨fd, F⟩ := Zx.law_def T
    exact ⟨K, fd, Zx.spLaw K, KX, fun s u => Zx.law_bind F s u, fun H a ns hl _ hS => ⟨a, ns, rfl, by omega, hS, fun _ => rfl⟩, fun base inK nsb => Zx.ok_law (P := (PySem.Challenge.rw_arccursors_k75_errors_of_conditions).prog) (base := base) Zx.turn_ok T F⟩
