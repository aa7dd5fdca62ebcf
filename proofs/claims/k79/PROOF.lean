import PyProof.Rows.All
import Wide.All
import OpenK.AllK
import Wide.FinOn
import HandS.ForMost
import HandS.ForExc
import HandS.Words
import HandS.HeadHook2
import HandS.Head0
import HandS.Head1
import HandS.Head2
import HandS.ExcField
import HandS.IsInst
import HandS.Property
import HandS.Defaults
import HandS.CallSlots
import KE.DataEq
import HandS.TupAny
import HandS.Text
import HandS.Conv
import HandS.RaiseMore
import HandS.MakeKwOnly
import HandS.Flow
import HandS.Deep
import HandS.SetKeys
import HandS.SetBool
import HandS.Strs
import HandS.Small
import PyProof.Rows.SortShellAny
import HandS.SetFor
import HandS.OwnEq
import HandS.ClsMeth
import HandS.HeadEnd
import PyProof.ReprRoads
import HandS.ExcInit
import HandS.ExcIs
import KE.KExcSuper
import KE.KSuper
import HandS.ExcSuper
import KE.KExcIs
import HandS.Ends
import PySem.Challenge.RW_tiedsteps_k79_delays_refused
set_option Elab.async false
set_option linter.all false
section
set_option Elab.async false
set_option linter.all false
set_option maxRecDepth 100000
set_option maxHeartbeats 2000000
namespace DL
open PySem PySem.Spec PyProof.Rows L2
abbrev FnG : Type := Option (Str × Str × Arguments × FuncBody × Scope × Addr × List Str × Addr)
def fnG (K : PySem.W.Frag) (a : Addr) : FnG := match K.lookup a with
  | some ⟨_, _, .func fd, _⟩ => some (fd.name, fd.qualname, fd.params, fd.body, fd.scope, fd.globals, fd.closure.map (·.1), fd.builtins)
  | _ => none
structure Df where
  at_ : PySem.W.Frag → Addr
  name : Str
  qual : Str
  st : Stmt
  clo : List Str := []
  kwd : List (Str × V) := []
def Df.val (d : Df) : FnG := some (d.name, d.qual, defArgs d.st, .stmts (defBody d.st), defScope d.st, mainGlobals, d.clo, builtinsNs)
def Df.ok (K : PySem.W.Frag) (d : Df) : Bool := PySem.W.keepIn K (.ref (d.at_ K)) && (match K.lookup (d.at_ K) with
  | some ⟨_, _, .func fd, _⟩ => PySem.W.codeIn K fd.code d.qual && (He.dflB K fd.defaults [] && He.kwdB K fd.kwdefaults d.kwd)
  | _ => false)
def stG (g : Addr → Option Obj) (l : List Addr) : List Addr := l.flatMap fun a => match g a with
  | some o => He.refsD o
  | none => []
def asP (xf xc : List Str) (g : Addr → Option Obj) : List Addr :=
  [mainGlobals, cStatics] ++ (xf.map fun x => He.ga (He.frG g [mainGlobals]) x) ++ stG g (xf.map fun x => He.ga (He.frG g [mainGlobals]) x) ++ stG g (stG g (stG g (stG g (xc.map fun x => He.ga (He.frG g [mainGlobals]) x))))
abbrev AlG : Type := Bool × List FnG
def fnGs (K : PySem.W.Frag) : List Df → List FnG
  | [] => []
  | d :: r => fnG K (d.at_ K) :: fnGs K r
def valGs : List Df → List FnG
  | [] => []
  | d :: r => d.val :: valGs r
theorem fnGs_at {K : PySem.W.Frag} : ∀ {fn : List Df} {i : Nat} {d : Df}, fnGs K fn = valGs fn → fn[i]? = some d → fnG K (d.at_ K) = d.val
  | [], _, _, _, h => by simp at h
  | e :: r, 0, d, q, h => by
    have h : e = d := by simpa using h
    subst h
    exact (List.cons.inj q).1
  | e :: r, i + 1, d, q, h => fnGs_at (i := i) (List.cons.inj q).2 (by simpa using h)
def obsK (ex : List (PySem.W.Frag → Bool)) (fn : List Df) (K : PySem.W.Frag) : AlG := ((ex.all fun f => f K) && fn.all fun d => d.ok K, fnGs K fn)
def valG (fn : List Df) : AlG := (true, valGs fn)
def SaysK (ex : List (PySem.W.Frag → Bool)) (fn : List Df) (K : PySem.W.Frag) : Prop := obsK ex fn K = valG fn
abbrev Sel : Type := (Addr → Option Obj) → List Addr
def obsKG (n : Sel) (ex : List (PySem.W.Frag → Bool)) (fn : List Df) (g : Addr → Option Obj) : AlG := obsK ex fn (He.frG g (n g))
def hookK (n : Sel) (ex : List (PySem.W.Frag → Bool)) (fn : List Df) : PySem.W.Hook where
  α := AlG
  obs := fun s => obsKG n ex fn s.heap.get?
  val := fun _ => valG fn
  says := fun _ h => ∃ K : PySem.W.Frag, K.In h ∧ SaysK ex fn K
  of := fun _ _ e => ⟨_, He.frG_in, e⟩
  keeps := fun _ _ _ ⟨K, hK, c⟩ k => ⟨K, PySem.W.Frag.In.keeps hK k, c⟩
theorem obsKG_eq {n : Sel} {ex : List (PySem.W.Frag → Bool)} {fn : List Df} {g : Addr → Option Obj} {s : Shared} (h : ∀ a, g a = s.heap.get? a) : obsKG n ex fn g = (hookK n ex fn).obs s := by
  have e : g = s.heap.get? := funext h
  rw [e] <;> rfl
def prP (K : PySem.W.Frag) (C m : Str) : Addr := match PySem.W.recIn K (He.ma K (He.ga K C) m) "property" with
  | some (.ref g :: _) => g
  | _ => 0
def prB (K : PySem.W.Frag) (C m : Str) : Bool := He.eqO (PySem.W.findIn K (.ref (He.ga K C)) m) (some (some (.ref (He.ma K (He.ga K C) m)))) &&
  (He.eqO (PySem.W.specialIn K (.ref (He.ma K (He.ga K C) m)) "__get__") (some (some (.builtin "property.__get__"))) && (decide (PySem.W.takesIn K (.ref (He.ma K (He.ga K C) m)) = some true) &&
    (match PySem.W.recIn K (He.ma K (He.ga K C) m) "property" with
      | some (.ref _ :: _) => true
      | _ => false)))
def stA (K : PySem.W.Frag) (C m : Str) : Addr := match PySem.W.findCls K (.ref (He.ga K C)) (.type "type") m with
  | some (.get _ (.ref p) _ _) => p
  | _ => 0
def stP (K : PySem.W.Frag) (C m : Str) : Addr := match PySem.W.recIn K (stA K C m) "staticmethod" with
  | some (.ref g :: _) => g
  | _ => 0
def stB (K : PySem.W.Frag) (C m : Str) : Bool := PySem.W.readsIn K (He.ga K C) (.type "type") && (He.eqO (PySem.W.specialIn K (.ref (He.ga K C)) "__getattribute__") (some (some (.builtin "type.__getattribute__"))) &&
  ((match PySem.W.findCls K (.ref (He.ga K C)) (.type "type") m with
    | some (.get (.builtin b) (.ref _) .none (.ref c)) => decide (b = "staticmethod.__get__") && decide (c = He.ga K C)
    | _ => false) && ((match PySem.W.recIn K (stA K C m) "staticmethod" with
      | some (.ref _ :: _) => true
      | _ => false))))
def isiCB (K : PySem.W.Frag) (x : Str) : Bool := (He.Fa.cls x).ok K && (He.eqO (PySem.W.findIn K (.ref (He.ga K x)) "__class__") (some (some (.builtin "object.__class__"))) && (He.eqO (PySem.W.specialIn K (.builtin "object.__class__") "__get__") (some (some (.builtin "getset_descriptor.__get__"))) &&
  (decide (PySem.W.takesIn K (.builtin "object.__class__") = some true) && (decide (PySem.W.mroIn K (He.ga K x) (.type "object") = some true) && (["NoneType", "bool", "int", "str", "tuple", "list", "dict"].all fun n => decide (PySem.W.kitOne K (.type n) (.ref (He.ga K x)) = some false))))))
def excIB (K : PySem.W.Frag) (C : Addr) : Bool := (PySem.W.clsIn K C).isSome && (He.eqO (PySem.W.findIn K (.ref C) "__getattribute__") (some (some (.builtin "BaseException.__getattribute__"))) && (He.eqO (PySem.W.findIn K (.ref C) "__getattr__") (some none) &&
  (decide (PySem.W.subIn K (.ref C) (.type "BaseException") = some true) && (He.eqO (PySem.W.findIn K (.ref C) "__class__") (some (some (.builtin "object.__class__"))) && (He.eqO (PySem.W.specialIn K (.builtin "object.__class__") "__get__") (some (some (.builtin "getset_descriptor.__get__"))) &&
    (decide (PySem.W.takesIn K (.builtin "object.__class__") = some true) && decide (PySem.W.mroIn K C (.type "object") = some true)))))))
def oexB (K : PySem.W.Frag) (C : Addr) : Bool := (match K.lookup C with
  | some ⟨.type t, _, .cls cd, sl⟩ => (match cd.mro, sl.toList with
    | .ref C' :: bm, [_, _, _, _, some (.builtin n), _] => decide (t = "type") && (decide (C' = C) && (decide (n = "ValueError.__new__") && (!cd.hasDel && (cd.hasDict && PySem.HandSPX.refsVE bm))))
    | _, _ => false)
  | _ => false) && (He.eqO (PySem.W.findIn K (.ref C) "__setattr__") (some (some (.builtin "object.__setattr__"))) && (decide (PySem.W.subIn K (.ref C) (.type "BaseException") = some true) && (decide (PySem.W.typeIn K (.ref C) = some (.type "type")) && PySem.W.keepIn K (.ref C))))
def xiB (K : PySem.W.Frag) (C f : Addr) (fld file : Str) : Bool := (match K.lookup f with
  | some ⟨_, _, .func fd, _⟩ => (match fd.closure with
      | [(_, cc)] => (match K.lookup cc with
        | some ⟨_, _, .cell (some (.ref D)), _⟩ => decide (D = C)
        | _ => false)
      | _ => false) && (match fd.code with
      | .ref cda => (match K.lookup cda with
        | some ⟨_, _, .fields vs, _⟩ => (match (vs[2]? : Option Value) with
          | some (Value.str fl _) => decide (fl = file)
          | _ => false)
        | _ => false)
      | _ => false)
  | _ => false) && (decide (PySem.W.mroIn K C (.ref C) = some true) && (He.eqO (PySem.W.ks_superIn K C C "__init__") (some (some (.builtin "ValueError.__init__"))) && (He.eqO (PySem.W.nsIn K cStatics "thirdparty.any") (some none) &&
  (decide (PySem.W.subIn K (.ref C) (.type "ValueError") = some true) && (oexB K C && He.eqO (PySem.W.findIn K (.ref C) fld) (some none))))))

theorem fnGs_app {K : PySem.W.Frag} : ∀ a b : List Df, fnGs K (a ++ b) = fnGs K a ++ fnGs K b
  | [], _ => rfl
  | x :: r, b => by show fnG K (x.at_ K) :: fnGs K (r ++ b) = _; rw [fnGs_app r b]; rfl
theorem valGs_app : ∀ a b : List Df, valGs (a ++ b) = valGs a ++ valGs b
  | [], _ => rfl
  | x :: r, b => by show x.val :: valGs (r ++ b) = _; rw [valGs_app r b]; rfl
theorem obs_join {ex1 ex2 : List (PySem.W.Frag → Bool)} {fn1 fn2 : List Df} {K : PySem.W.Frag} (h1 : obsK ex1 fn1 K = valG fn1) (h2 : obsK ex2 fn2 K = valG fn2) : obsK (ex1 ++ ex2) (fn1 ++ fn2) K = valG (fn1 ++ fn2) := by
  obtain ⟨a1, b1⟩ := Prod.mk.inj h1
  obtain ⟨a2, b2⟩ := Prod.mk.inj h2
  obtain ⟨c1, d1⟩ := He.ba a1
  obtain ⟨c2, d2⟩ := He.ba a2
  unfold obsK valG
  rw [List.all_append, List.all_append, c1, c2, d1, d2, fnGs_app, b1, b2, valGs_app]
  rfl
theorem run_join {α β : Type} {x : Option PySem.W.SharedT} {f : PySem.W.SharedT → α} {g : PySem.W.SharedT → β} {a : α} {b : β} {n : Sel} {ex1 ex2 : List (PySem.W.Frag → Bool)} {fn1 fn2 : List Df}
    (h1 : x.map (fun s => (f s, g s, obsKG n ex1 fn1 (HandSHeadRun.getT s))) = some (a, b, valG fn1)) (h2 : x.map (fun s => obsKG n ex2 fn2 (HandSHeadRun.getT s)) = some (valG fn2)) :
    x.map (fun s => (f s, g s, obsKG n (ex1 ++ ex2) (fn1 ++ fn2) (HandSHeadRun.getT s))) = some (a, b, valG (fn1 ++ fn2)) := by
  cases x with
  | none => cases h1
  | some s =>
    simp only [Option.map_some, Option.some.injEq, Prod.mk.injEq] at h1 h2 ⊢
    exact ⟨h1.1, h1.2.1, obs_join h1.2.2 h2⟩
end DL
end
section
set_option Elab.async false
set_option linter.all false
set_option maxRecDepth 100000
namespace G
open PySem PySem.Spec PyProof.Rows L2 DL
def top (i : Nat) : Stmt := PySem.Challenge.pw_tiedsteps_k79_delays_refused.main.body.getD i (.Pass ⟨0, 0, 0, 0⟩)
def cbody : Stmt → List Stmt
  | .ClassDef _ _ _ b _ _ _ _ _ _ _ => b
  | _ => []
def meth (i j : Nat) : Stmt := (cbody (top i)).getD j (.Pass ⟨0, 0, 0, 0⟩)
end G
end
section
set_option Elab.async false
set_option linter.all false
set_option maxRecDepth 100000
set_option maxHeartbeats 0
namespace G
open PySem PySem.Spec PyProof.Rows L2 DL
def FILE : Str := PySem.Challenge.pw_tiedsteps_k79_delays_refused.main.file
def ex0 : List (PySem.W.Frag → Bool) := [
  fun K => He.Fa.ok K (.free ("bool" : Str)),
  fun K => He.Fa.ok K (.free ("enumerate" : Str)),
  fun K => He.Fa.ok K (.free ("int" : Str)),
  fun K => He.Fa.ok K (.free ("isinstance" : Str)),
  fun K => He.Fa.ok K (.free ("len" : Str)),
  fun K => He.Fa.ok K (.free ("list" : Str)),
  fun K => He.Fa.ok K (.free ("max" : Str)),
  fun K => He.Fa.ok K (.free ("range" : Str)),
  fun K => He.Fa.ok K (.free ("repr" : Str)),
  fun K => He.Fa.ok K (.free ("set" : Str)),
  fun K => He.Fa.ok K (.free ("sorted" : Str)),
  fun K => He.Fa.ok K (.free ("str" : Str)),
  fun K => He.Fa.ok K (.free ("sum" : Str)),
  fun K => He.Fa.ok K (.free ("tuple" : Str)),
  fun K => He.Fa.ok K (.str ("AT_ONCE" : Str) (" := " : Str))]
def ex1 : List (PySem.W.Frag → Bool) := [
  fun K => He.Fa.ok K (.str ("AT_THE_END" : Str) (" <= " : Str)),
  fun K => He.Fa.ok K (.str ("DIGITS" : Str) ("0123456789" : Str)),
  fun K => He.Fa.ok K (.str ("LETTERS" : Str) ("abcdefghijklmnopqrstuvwxyz" : Str)),
  fun K => He.Fa.ok K (.int ("MOST_AT_ONCE" : Str) 8),
  fun K => He.Fa.ok K (.int ("MOST_CONSTANT" : Str) 9),
  fun K => He.Fa.ok K (.int ("MOST_CONSTANTS" : Str) 2),
  fun K => He.Fa.ok K (.int ("MOST_DEEDS" : Str) 4),
  fun K => He.Fa.ok K (.int ("MOST_DEPTH" : Str) 3),
  fun K => He.Fa.ok K (.int ("MOST_INPUTS" : Str) 3),
  fun K => He.Fa.ok K (.int ("MOST_LETTERS" : Str) 8),
  fun K => He.Fa.ok K (.int ("MOST_PROCESSES" : Str) 5),
  fun K => He.Fa.ok K (.int ("MOST_VARIABLES" : Str) 5),
  fun K => He.Fa.ok K (.int ("MOST_WAITS" : Str) 4),
  fun K => He.Fa.ok K (.str ("RESERVED" : Str) ("turn" : Str)),
  fun K => He.Fa.ok K (.glo ("SIGNS" : Str))]
def ex2 : List (PySem.W.Frag → Bool) := [
  fun K => He.tupB K ("SIGNS" : Str) [.str ("(" : Str), .str ("=" : Str), .str ("?" : Str), .str (":" : Str), .str (")" : Str)],
  fun K => He.Fa.ok K (.cls ("Term" : Str)),
  fun K => He.Fa.ok K (.cls ("Deed" : Str)),
  fun K => He.Fa.ok K (.cls ("Process" : Str)),
  fun K => He.Fa.ok K (.cls ("Program" : Str)),
  fun K => He.Fa.ok K (.noat ("Term" : Str) ("tree" : Str)),
  fun K => He.Fa.ok K (.noat ("Deed" : Str) ("is_late" : Str)),
  fun K => He.Fa.ok K (.noat ("Deed" : Str) ("source" : Str)),
  fun K => He.Fa.ok K (.noat ("Deed" : Str) ("target" : Str)),
  fun K => He.Fa.ok K (.noat ("Process" : Str) ("done" : Str)),
  fun K => He.Fa.ok K (.noat ("Process" : Str) ("title" : Str)),
  fun K => He.Fa.ok K (.noat ("Process" : Str) ("waited" : Str)),
  fun K => He.Fa.ok K (.noat ("Program" : Str) ("given" : Str)),
  fun K => He.Fa.ok K (.noat ("Program" : Str) ("line" : Str)),
  fun K => He.Fa.ok K (.noat ("Program" : Str) ("numbers" : Str))]
def ex3 : List (PySem.W.Frag → Bool) := [
  fun K => He.Fa.ok K (.noat ("Program" : Str) ("titles" : Str)),
  fun K => He.Fa.ok K (.noat ("Program" : Str) ("words" : Str)),
  fun K => He.Fa.ok K (.glo ("Term" : Str)),
  fun K => He.Fa.ok K (.glo ("Deed" : Str)),
  fun K => He.Fa.ok K (.glo ("Process" : Str)),
  fun K => He.Fa.ok K (.glo ("Program" : Str)),
  fun K => He.Fa.ok K (.glo ("NoPlace" : Str)),
  fun K => isiCB K ("Term" : Str),
  fun K => isiCB K ("Deed" : Str),
  fun K => isiCB K ("Process" : Str),
  fun K => isiCB K ("Program" : Str),
  fun K => oexB K (He.ga K ("NoPlace" : Str)),
  fun K => He.eqO (PySem.W.findIn K (.ref (He.ga K ("NoPlace" : Str))) ("__init__" : Str)) (some (some (.ref (He.ma K (He.ga K ("NoPlace" : Str)) ("__init__" : Str))))),
  fun K => decide (PySem.W.typeIn K (.ref (He.ma K (He.ga K ("NoPlace" : Str)) ("__init__" : Str))) = some (.type "function")),
  fun K => xiB K (He.ga K ("NoPlace" : Str)) (He.ma K (He.ga K ("NoPlace" : Str)) ("__init__" : Str)) ("value" : Str) FILE]
def ex4 : List (PySem.W.Frag → Bool) := [
  fun K => He.Fa.ok K (.free ("super" : Str)),
  fun K => He.Fa.ok K (.exm ("NoPlace" : Str) ("NoPlace" : Str) true),
  fun K => xfB K (He.ga K ("NoPlace" : Str)),
  fun K => He.eqO (PySem.W.findIn K (.ref (He.ga K ("NoPlace" : Str))) ("value" : Str)) (some none),
  fun K => excIB K (He.ga K ("NoPlace" : Str)),
  fun K => decide (PySem.W.kitOne K (.ref (He.ga K ("NoPlace" : Str))) (.ref (He.ga K ("TiedError" : Str))) = some true),
  fun K => He.Fa.ok K (.glo ("TiedError" : Str)),
  fun K => He.Fa.ok K (.glo ("is_whole" : Str)),
  fun K => He.Fa.ok K (.glo ("is_number" : Str)),
  fun K => He.Fa.ok K (.glo ("is_word" : Str)),
  fun K => He.Fa.ok K (.glo ("is_digit" : Str)),
  fun K => He.Fa.ok K (.glo ("are_unlike_words" : Str)),
  fun K => He.Fa.ok K (.glo ("ascending_words" : Str)),
  fun K => He.Fa.ok K (.glo ("ascending_numbers" : Str)),
  fun K => He.Fa.ok K (.glo ("word_at" : Str))]
def ex5 : List (PySem.W.Frag → Bool) := [
  fun K => He.Fa.ok K (.glo ("plan_at" : Str)),
  fun K => He.Fa.ok K (.glo ("leaves_of" : Str)),
  fun K => He.Fa.ok K (.glo ("plan_of" : Str)),
  fun K => He.Fa.ok K (.mkr ("Term" : Str)),
  fun K => He.Fa.ok K (.meth ("Term" : Str) ("variables" : Str)),
  fun K => He.Fa.ok K (.meth ("Term" : Str) ("constants" : Str)),
  fun K => He.Fa.ok K (.meth ("Term" : Str) ("__eq__" : Str)),
  fun K => He.Fa.ok K (.glo ("deed_parts" : Str)),
  fun K => He.Fa.ok K (.mkr ("Deed" : Str)),
  fun K => stB K ("Deed" : Str) ("of" : Str),
  fun K => prB K ("Deed" : Str) ("variable" : Str),
  fun K => prB K ("Deed" : Str) ("term" : Str),
  fun K => prB K ("Deed" : Str) ("late" : Str),
  fun K => He.Fa.ok K (.meth ("Deed" : Str) ("__eq__" : Str)),
  fun K => He.Fa.ok K (.glo ("deeds_of" : Str))]
def ex6 : List (PySem.W.Frag → Bool) := [
  fun K => He.Fa.ok K (.mkr ("Process" : Str)),
  fun K => prB K ("Process" : Str) ("name" : Str),
  fun K => He.Fa.ok K (.meth ("Process" : Str) ("reads" : Str)),
  fun K => He.Fa.ok K (.meth ("Process" : Str) ("writes" : Str)),
  fun K => He.Fa.ok K (.meth ("Process" : Str) ("constants" : Str)),
  fun K => He.Fa.ok K (.meth ("Process" : Str) ("variables" : Str)),
  fun K => He.Fa.ok K (.meth ("Process" : Str) ("at_once" : Str)),
  fun K => He.Fa.ok K (.meth ("Process" : Str) ("__eq__" : Str)),
  fun K => He.Fa.ok K (.glo ("are_processes" : Str)),
  fun K => He.Fa.ok K (.glo ("are_inputs" : Str)),
  fun K => He.Fa.ok K (.glo ("all_variables" : Str)),
  fun K => He.Fa.ok K (.glo ("all_constants" : Str)),
  fun K => He.Fa.ok K (.glo ("first_wrong" : Str)),
  fun K => He.Fa.ok K (.mkr ("Program" : Str)),
  fun K => He.Fa.ok K (.meth ("Program" : Str) ("__eq__" : Str))]
def ex7 : List (PySem.W.Frag → Bool) := [
  fun K => He.Fa.ok K (.meth ("Program" : Str) ("places" : Str)),
  fun K => He.Fa.ok K (.glo ("is_place" : Str)),
  fun K => He.Fa.ok K (.meth ("Program" : Str) ("look_at_places" : Str)),
  fun K => He.Fa.ok K (.meth ("Program" : Str) ("delayed" : Str)),
  fun K => He.Fa.ok K (.glo ("look_at_most" : Str)),
  fun K => He.Fa.ok K (.glo ("is_sole" : Str)),
  fun K => He.Fa.ok K (.glo ("helps" : Str)),
  fun K => He.Fa.ok K (.glo ("_law_pool" : Str)),
  fun K => He.Fa.ok K (.glo ("_law_take" : Str)),
  fun K => He.Fa.ok K (.glo ("_law_one" : Str)),
  fun K => He.Fa.ok K (.glo ("_law_turned" : Str)),
  fun K => He.Fa.ok K (.glo ("_law_words" : Str)),
  fun K => He.Fa.ok K (.glo ("_law_tree" : Str)),
  fun K => He.Fa.ok K (.glo ("_law_tree_text" : Str)),
  fun K => He.Fa.ok K (.glo ("_law_deed_text" : Str))]
def ex8 : List (PySem.W.Frag → Bool) := [
  fun K => He.Fa.ok K (.glo ("_law_deeds_drawn" : Str)),
  fun K => He.Fa.ok K (.glo ("_law_less_at_once" : Str)),
  fun K => He.Fa.ok K (.glo ("_law_plain" : Str)),
  fun K => He.Fa.ok K (.glo ("_law_names" : Str)),
  fun K => He.Fa.ok K (.glo ("_law_made_process" : Str)),
  fun K => He.Fa.ok K (.glo ("_law_made" : Str)),
  fun K => He.Fa.ok K (.glo ("_law_places" : Str)),
  fun K => He.Fa.ok K (.glo ("_law_refused" : Str)),
  fun K => He.Fa.ok K (.glo ("law" : Str))]
def exA : List (PySem.W.Frag → Bool) := ex0 ++ ex1 ++ ex2 ++ ex3 ++ ex4
def exB : List (PySem.W.Frag → Bool) := ex5 ++ ex6 ++ ex7 ++ ex8
def ex : List (PySem.W.Frag → Bool) := exA ++ exB
def fn0 : List Df := [
  ⟨fun K => (He.ma K (He.ga K ("NoPlace" : Str)) ("__init__" : Str)), ("__init__" : Str), ("NoPlace.__init__" : Str), meth 10 0, [("__class__" : Str)], []⟩,
  ⟨fun K => He.ga K ("is_whole" : Str), ("is_whole" : Str), ("is_whole" : Str), (top 17), [], []⟩,
  ⟨fun K => He.ga K ("is_number" : Str), ("is_number" : Str), ("is_number" : Str), (top 18), [], []⟩,
  ⟨fun K => He.ga K ("is_word" : Str), ("is_word" : Str), ("is_word" : Str), (top 19), [], []⟩,
  ⟨fun K => He.ga K ("is_digit" : Str), ("is_digit" : Str), ("is_digit" : Str), (top 20), [], []⟩,
  ⟨fun K => He.ga K ("are_unlike_words" : Str), ("are_unlike_words" : Str), ("are_unlike_words" : Str), (top 21), [], []⟩,
  ⟨fun K => He.ga K ("ascending_words" : Str), ("ascending_words" : Str), ("ascending_words" : Str), (top 23), [], []⟩,
  ⟨fun K => He.ga K ("ascending_numbers" : Str), ("ascending_numbers" : Str), ("ascending_numbers" : Str), (top 24), [], []⟩,
  ⟨fun K => He.ga K ("word_at" : Str), ("word_at" : Str), ("word_at" : Str), (top 29), [], []⟩,
  ⟨fun K => He.ga K ("plan_at" : Str), ("plan_at" : Str), ("plan_at" : Str), (top 30), [], []⟩,
  ⟨fun K => He.ga K ("leaves_of" : Str), ("leaves_of" : Str), ("leaves_of" : Str), (top 33), [], []⟩,
  ⟨fun K => He.ga K ("plan_of" : Str), ("plan_of" : Str), ("plan_of" : Str), (top 36), [], []⟩,
  ⟨fun K => He.ma K (He.ga K ("Term" : Str)) ("__init__" : Str), ("__init__" : Str), ("Term.__init__" : Str), (meth 37 0), [], []⟩,
  ⟨fun K => He.ma K (He.ga K ("Term" : Str)) ("variables" : Str), ("variables" : Str), ("Term.variables" : Str), (meth 37 5), [], []⟩,
  ⟨fun K => He.ma K (He.ga K ("Term" : Str)) ("constants" : Str), ("constants" : Str), ("Term.constants" : Str), (meth 37 6), [], []⟩]
def fn1 : List Df := [
  ⟨fun K => He.ma K (He.ga K ("Term" : Str)) ("__eq__" : Str), ("__eq__" : Str), ("Term.__eq__" : Str), (meth 37 12), [], []⟩,
  ⟨fun K => He.ga K ("deed_parts" : Str), ("deed_parts" : Str), ("deed_parts" : Str), (top 44), [], []⟩,
  ⟨fun K => He.ma K (He.ga K ("Deed" : Str)) ("__init__" : Str), ("__init__" : Str), ("Deed.__init__" : Str), (meth 45 0), [], []⟩,
  ⟨fun K => stP K ("Deed" : Str) ("of" : Str), ("of" : Str), ("Deed.of" : Str), (meth 45 1), [], []⟩,
  ⟨fun K => prP K ("Deed" : Str) ("variable" : Str), ("variable" : Str), ("Deed.variable" : Str), (meth 45 2), [], []⟩,
  ⟨fun K => prP K ("Deed" : Str) ("term" : Str), ("term" : Str), ("Deed.term" : Str), (meth 45 3), [], []⟩,
  ⟨fun K => prP K ("Deed" : Str) ("late" : Str), ("late" : Str), ("Deed.late" : Str), (meth 45 4), [], []⟩,
  ⟨fun K => He.ma K (He.ga K ("Deed" : Str)) ("__eq__" : Str), ("__eq__" : Str), ("Deed.__eq__" : Str), (meth 45 7), [], []⟩,
  ⟨fun K => He.ga K ("deeds_of" : Str), ("deeds_of" : Str), ("deeds_of" : Str), (top 46), [], []⟩,
  ⟨fun K => He.ma K (He.ga K ("Process" : Str)) ("__init__" : Str), ("__init__" : Str), ("Process.__init__" : Str), (meth 47 0), [], []⟩,
  ⟨fun K => prP K ("Process" : Str) ("name" : Str), ("name" : Str), ("Process.name" : Str), (meth 47 1), [], []⟩,
  ⟨fun K => He.ma K (He.ga K ("Process" : Str)) ("reads" : Str), ("reads" : Str), ("Process.reads" : Str), (meth 47 5), [], []⟩,
  ⟨fun K => He.ma K (He.ga K ("Process" : Str)) ("writes" : Str), ("writes" : Str), ("Process.writes" : Str), (meth 47 6), [], []⟩,
  ⟨fun K => He.ma K (He.ga K ("Process" : Str)) ("constants" : Str), ("constants" : Str), ("Process.constants" : Str), (meth 47 8), [], []⟩,
  ⟨fun K => He.ma K (He.ga K ("Process" : Str)) ("variables" : Str), ("variables" : Str), ("Process.variables" : Str), (meth 47 9), [], []⟩]
def fn2 : List Df := [
  ⟨fun K => He.ma K (He.ga K ("Process" : Str)) ("at_once" : Str), ("at_once" : Str), ("Process.at_once" : Str), (meth 47 10), [], []⟩,
  ⟨fun K => He.ma K (He.ga K ("Process" : Str)) ("__eq__" : Str), ("__eq__" : Str), ("Process.__eq__" : Str), (meth 47 17), [], []⟩,
  ⟨fun K => He.ga K ("are_processes" : Str), ("are_processes" : Str), ("are_processes" : Str), (top 54), [], []⟩,
  ⟨fun K => He.ga K ("are_inputs" : Str), ("are_inputs" : Str), ("are_inputs" : Str), (top 55), [], []⟩,
  ⟨fun K => He.ga K ("all_variables" : Str), ("all_variables" : Str), ("all_variables" : Str), (top 56), [], []⟩,
  ⟨fun K => He.ga K ("all_constants" : Str), ("all_constants" : Str), ("all_constants" : Str), (top 57), [], []⟩,
  ⟨fun K => He.ga K ("first_wrong" : Str), ("first_wrong" : Str), ("first_wrong" : Str), (top 58), [], []⟩,
  ⟨fun K => He.ma K (He.ga K ("Program" : Str)) ("__init__" : Str), ("__init__" : Str), ("Program.__init__" : Str), (meth 59 0), [], []⟩,
  ⟨fun K => He.ma K (He.ga K ("Program" : Str)) ("__eq__" : Str), ("__eq__" : Str), ("Program.__eq__" : Str), (meth 59 12), [], []⟩,
  ⟨fun K => He.ma K (He.ga K ("Program" : Str)) ("places" : Str), ("places" : Str), ("Program.places" : Str), (meth 59 16), [], []⟩,
  ⟨fun K => He.ga K ("is_place" : Str), ("is_place" : Str), ("is_place" : Str), (top 60), [], []⟩,
  ⟨fun K => He.ma K (He.ga K ("Program" : Str)) ("look_at_places" : Str), ("look_at_places" : Str), ("Program.look_at_places" : Str), (meth 59 17), [], []⟩,
  ⟨fun K => He.ma K (He.ga K ("Program" : Str)) ("delayed" : Str), ("delayed" : Str), ("Program.delayed" : Str), (meth 59 18), [], []⟩,
  ⟨fun K => He.ga K ("look_at_most" : Str), ("look_at_most" : Str), ("look_at_most" : Str), (top 82), [], []⟩,
  ⟨fun K => He.ga K ("is_sole" : Str), ("is_sole" : Str), ("is_sole" : Str), (top 92), [], []⟩]
def fn3 : List Df := [
  ⟨fun K => He.ga K ("helps" : Str), ("helps" : Str), ("helps" : Str), (top 95), [], []⟩,
  ⟨fun K => He.ga K ("_law_pool" : Str), ("_law_pool" : Str), ("_law_pool" : Str), (top 97), [], []⟩,
  ⟨fun K => He.ga K ("_law_take" : Str), ("_law_take" : Str), ("_law_take" : Str), (top 98), [], []⟩,
  ⟨fun K => He.ga K ("_law_one" : Str), ("_law_one" : Str), ("_law_one" : Str), (top 99), [], []⟩,
  ⟨fun K => He.ga K ("_law_turned" : Str), ("_law_turned" : Str), ("_law_turned" : Str), (top 100), [], []⟩,
  ⟨fun K => He.ga K ("_law_words" : Str), ("_law_words" : Str), ("_law_words" : Str), (top 101), [], []⟩,
  ⟨fun K => He.ga K ("_law_tree" : Str), ("_law_tree" : Str), ("_law_tree" : Str), (top 102), [], []⟩,
  ⟨fun K => He.ga K ("_law_tree_text" : Str), ("_law_tree_text" : Str), ("_law_tree_text" : Str), (top 103), [], []⟩,
  ⟨fun K => He.ga K ("_law_deed_text" : Str), ("_law_deed_text" : Str), ("_law_deed_text" : Str), (top 104), [], []⟩,
  ⟨fun K => He.ga K ("_law_deeds_drawn" : Str), ("_law_deeds_drawn" : Str), ("_law_deeds_drawn" : Str), (top 105), [], []⟩,
  ⟨fun K => He.ga K ("_law_less_at_once" : Str), ("_law_less_at_once" : Str), ("_law_less_at_once" : Str), (top 107), [], []⟩,
  ⟨fun K => He.ga K ("_law_plain" : Str), ("_law_plain" : Str), ("_law_plain" : Str), (top 106), [], []⟩,
  ⟨fun K => He.ga K ("_law_names" : Str), ("_law_names" : Str), ("_law_names" : Str), (top 108), [], []⟩,
  ⟨fun K => He.ga K ("_law_made_process" : Str), ("_law_made_process" : Str), ("_law_made_process" : Str), (top 109), [], []⟩,
  ⟨fun K => He.ga K ("_law_made" : Str), ("_law_made" : Str), ("_law_made" : Str), (top 110), [], []⟩]
def fn4 : List Df := [
  ⟨fun K => He.ga K ("_law_places" : Str), ("_law_places" : Str), ("_law_places" : Str), (top 111), [], []⟩,
  ⟨fun K => He.ga K ("_law_refused" : Str), ("_law_refused" : Str), ("_law_refused" : Str), (top 112), [], []⟩,
  ⟨fun K => He.ga K ("law" : Str), ("law" : Str), ("law" : Str), (top 113), [], []⟩]
def fnA : List Df := fn0 ++ fn1 ++ fn2
def fnB : List Df := fn3 ++ fn4
def fn : List Df := fnA ++ fnB
def names0 : List Str := [("_wall" : Str), ("__name__" : Str), ("TiedError" : Str), ("NoTerm" : Str), ("NoDeed" : Str), ("NoProcess" : Str), ("NoProgram" : Str), ("NoPattern" : Str), ("NoStart" : Str), ("NoNumber" : Str), ("NoPlace" : Str), ("TooMany" : Str), ("NoName" : Str), ("LETTERS" : Str), ("DIGITS" : Str)]
def names1 : List Str := [("MOST_LETTERS" : Str), ("is_whole" : Str), ("is_number" : Str), ("is_word" : Str), ("is_digit" : Str), ("are_unlike_words" : Str), ("are_numbers" : Str), ("ascending_words" : Str), ("ascending_numbers" : Str), ("MOST_DEPTH" : Str), ("MOST_CONSTANT" : Str), ("SIGNS" : Str), ("word_at" : Str), ("plan_at" : Str), ("depth_of" : Str)]
def names2 : List Str := [("text_of" : Str), ("leaves_of" : Str), ("value_of" : Str), ("stands_in" : Str), ("plan_of" : Str), ("Term" : Str), ("MOST_WAITS" : Str), ("MOST_DEEDS" : Str), ("RESERVED" : Str), ("AT_ONCE" : Str), ("AT_THE_END" : Str), ("deed_parts" : Str), ("Deed" : Str), ("deeds_of" : Str), ("Process" : Str)]
def names3 : List Str := [("MOST_PROCESSES" : Str), ("MOST_INPUTS" : Str), ("MOST_VARIABLES" : Str), ("MOST_CONSTANTS" : Str), ("MOST_AT_ONCE" : Str), ("are_processes" : Str), ("are_inputs" : Str), ("all_variables" : Str), ("all_constants" : Str), ("first_wrong" : Str), ("Program" : Str), ("is_place" : Str), ("waiters" : Str), ("is_pattern" : Str), ("values_by" : Str)]
def names4 : List Str := [("values_of" : Str), ("all_patterns" : Str), ("patterns" : Str), ("TURN" : Str), ("is_changed" : Str), ("awake_by" : Str), ("start_state" : Str), ("values_in" : Str), ("moves" : Str), ("is_end" : Str), ("Play" : Str), ("behind" : Str), ("PARTS" : Str), ("RINGS" : Str), ("MOST_STATES" : Str)]
def names5 : List Str := [("look_at_most" : Str), ("chosen" : Str), ("all_changed" : Str), ("starts" : Str), ("starts_verdicts" : Str), ("Graph" : Str), ("is_below" : Str), ("ascending_tuples" : Str), ("graph_of" : Str), ("faults" : Str), ("is_sole" : Str), ("Verdict" : Str), ("helps" : Str), ("_law_pool" : Str), ("_law_take" : Str)]
def names6 : List Str := [("_law_one" : Str), ("_law_turned" : Str), ("_law_words" : Str), ("_law_tree" : Str), ("_law_tree_text" : Str), ("_law_deed_text" : Str), ("_law_deeds_drawn" : Str), ("_law_plain" : Str), ("_law_less_at_once" : Str), ("_law_names" : Str), ("_law_made_process" : Str), ("_law_made" : Str), ("_law_places" : Str), ("_law_refused" : Str)]
def names : List Str := names0 ++ names1 ++ names2 ++ names3 ++ names4 ++ names5 ++ names6
abbrev R : PySem.W.OpenRow := PySem.W.OpenLaw.row PySem.Challenge.rw_tiedsteps_k79_delays_refused
def xf : List Str := [("is_whole" : Str), ("is_number" : Str), ("is_word" : Str), ("is_digit" : Str), ("are_unlike_words" : Str), ("ascending_words" : Str), ("ascending_numbers" : Str), ("word_at" : Str), ("plan_at" : Str), ("leaves_of" : Str), ("plan_of" : Str), ("deed_parts" : Str), ("deeds_of" : Str), ("are_processes" : Str), ("are_inputs" : Str), ("all_variables" : Str), ("all_constants" : Str), ("first_wrong" : Str), ("is_place" : Str), ("look_at_most" : Str), ("is_sole" : Str), ("helps" : Str), ("_law_pool" : Str), ("_law_take" : Str), ("_law_one" : Str), ("_law_turned" : Str), ("_law_words" : Str), ("_law_tree" : Str), ("_law_tree_text" : Str), ("_law_deed_text" : Str), ("_law_deeds_drawn" : Str), ("_law_less_at_once" : Str), ("_law_plain" : Str), ("_law_names" : Str), ("_law_made_process" : Str), ("_law_made" : Str), ("_law_places" : Str), ("_law_refused" : Str), ("law" : Str), ("SIGNS" : Str)]
def xc : List Str := [("Term" : Str), ("Deed" : Str), ("Process" : Str), ("Program" : Str), ("NoPlace" : Str), ("TiedError" : Str)]
abbrev hk : PySem.W.Hook := hookK (asP xf xc) ex fn
def ob (s : PySem.W.SharedT) : AlG := obsKG (asP xf xc) ex fn (HandSHeadRun.getT s)
theorem ob_eq (s : PySem.W.SharedT) : ob s = hk.obs s.abs := obsKG_eq (HandSHeadRun.getT_eq s)
theorem run0 (w : World) : HandSHeadRun.RunEq R (PySem.W.view R.prog [113]) (hookK (asP xf xc) ([] : List (PySem.W.Frag → Bool)) ([] : List Df)) (fun s => obsKG (asP xf xc) ([] : List (PySem.W.Frag → Bool)) ([] : List Df) (HandSHeadRun.getT s)) 9800 names w := by
  intro os
  kernel_rfl
theorem runA (w : World) (os : OsState) : (HandSHeadRun.endF (HandSHeadRun.stepQ (HandSHeadRun.denQ HandSHeadRun.tabQ) R.prog w) 9800 R.prog w os).map (fun s => obsKG (asP xf xc) exA fnA (HandSHeadRun.getT s)) = some (valG fnA) := by
  kernel_rfl
theorem runB (w : World) (os : OsState) : (HandSHeadRun.endF (HandSHeadRun.stepQ (HandSHeadRun.denQ HandSHeadRun.tabQ) R.prog w) 9800 R.prog w os).map (fun s => obsKG (asP xf xc) exB fnB (HandSHeadRun.getT s)) = some (valG fnB) := by
  kernel_rfl
theorem run (w : World) : HandSHeadRun.RunEq R (PySem.W.view R.prog [113]) hk ob 9800 names w := fun os => run_join (ex1 := exA) (fn1 := fnA) (run_join (ex1 := []) (fn1 := []) (run0 w os) (runA w os)) (runB w os)
end G
end
section
set_option Elab.async false
set_option linter.all false
set_option maxRecDepth 100000
namespace DL
open PySem PySem.Spec PyProof.Rows L2
/-! ### deep values -/
inductive D where
  | non
  | bl (b : Bool)
  | int (i : Int)
  | str (s : Str)
  | tup (l : List D)
  | lst (l : List D)
  | dic (l : List (Key × D))
  | obj (k : Nat) (l : List (Str × D))
  | scr (l : List Int)
structure Cfg where
  P : Program
  w : World
  K : PySem.W.Frag
  cls : Nat → Addr
mutual
inductive Is (c : Cfg) (F : Hp) : V → D → Prop
  | non : Is c F .non .non
  | bl (b : Bool) : Is c F (.bl b) (.bl b)
  | int (i : Int) : Is c F (.int i) (.int i)
  | str (s : Str) : Is c F (.str s) (.str s)
  | tup {a : Addr} {vs : List V} {ds : List D} : SqT c.K F a vs → IsL c F vs ds → Is c F (.ref a) (.tup ds)
  | lst {a : Addr} {vs : List V} {ds : List D} : F a = some (.lst vs) → IsL c F vs ds → Is c F (.ref a) (.lst ds)
  | scr {a : Addr} {ns : List Int} : SqL c.K F a (ns.map V.int) → Is c F (.ref a) (.scr ns)
  | dic {a : Addr} {vs : List (Key × V)} {ds : List (Key × D)} : F a = some (.dK vs) → IsK c F vs ds → Is c F (.ref a) (.dic ds)
  | obj {a dx : Addr} {k : Nat} {vs : List (Str × V)} {ds : List (Str × D)} : F a = some (.ins (c.cls k) dx vs) → IsF c F vs ds → Is c F (.ref a) (.obj k ds)
inductive IsL (c : Cfg) (F : Hp) : List V → List D → Prop
  | nil : IsL c F [] []
  | cons {v : V} {d : D} {vs : List V} {ds : List D} : Is c F v d → IsL c F vs ds → IsL c F (v :: vs) (d :: ds)
inductive IsK (c : Cfg) (F : Hp) : List (Key × V) → List (Key × D) → Prop
  | nil : IsK c F [] []
  | cons {k : Key} {v : V} {d : D} {vs : List (Key × V)} {ds : List (Key × D)} : Is c F v d → IsK c F vs ds → IsK c F ((k, v) :: vs) ((k, d) :: ds)
inductive IsF (c : Cfg) (F : Hp) : List (Str × V) → List (Str × D) → Prop
  | nil : IsF c F [] []
  | cons {k : Str} {v : V} {d : D} {vs : List (Str × V)} {ds : List (Str × D)} : Is c F v d → IsF c F vs ds → IsF c F ((k, v) :: vs) ((k, d) :: ds)
end
def Le (F H : Hp) : Prop := ∀ a o, F a = some o → H a = some o
theorem Le.refl (F : Hp) : Le F F := fun _ _ h => h
theorem Le.trans {F G H : Hp} (a : Le F G) (b : Le G H) : Le F H := fun c o h => b c o (a c o h)
theorem Le.sqL {K : PySem.W.Frag} {F H : Hp} {a : Addr} {xs : List V} (e : Le F H) (h : SqL K F a xs) : SqL K H a xs := by
  rcases h with (h | ⟨o, h⟩) | h
  · exact .inl (.inl (e _ _ h))
  · exact .inl (.inr ⟨o, e _ _ h⟩)
  · exact .inr h
theorem Le.sqT {K : PySem.W.Frag} {F H : Hp} {a : Addr} {xs : List V} (e : Le F H) (h : SqT K F a xs) : SqT K H a xs := by
  rcases h with (h | ⟨o, h⟩) | h
  · exact .inl (.inl (e _ _ h))
  · exact .inl (.inr ⟨o, e _ _ h⟩)
  · exact .inr h
section
variable {c : Cfg} {F F' : Hp} (e : Le F F')
include e
mutual
theorem Is.mono : ∀ {v : V} {d : D}, Is c F v d → Is c F' v d
  | _, _, .non => .non
  | _, _, .bl b => .bl b
  | _, _, .int i => .int i
  | _, _, .str s => .str s
  | _, _, .tup h l => .tup (e.sqT h) (IsL.mono l)
  | _, _, .lst h l => .lst (e _ _ h) (IsL.mono l)
  | _, _, .scr h => .scr (e.sqL h)
  | _, _, .dic h l => .dic (e _ _ h) (IsK.mono l)
  | _, _, .obj h l => .obj (e _ _ h) (IsF.mono l)
theorem IsL.mono : ∀ {v : List V} {d : List D}, IsL c F v d → IsL c F' v d
  | _, _, .nil => .nil
  | _, _, .cons h l => .cons (Is.mono h) (IsL.mono l)
theorem IsK.mono : ∀ {v : List (Key × V)} {d : List (Key × D)}, IsK c F v d → IsK c F' v d
  | _, _, .nil => .nil
  | _, _, .cons h l => .cons (Is.mono h) (IsK.mono l)
theorem IsF.mono : ∀ {v : List (Str × V)} {d : List (Str × D)}, IsF c F v d → IsF c F' v d
  | _, _, .nil => .nil
  | _, _, .cons h l => .cons (Is.mono h) (IsF.mono l)
end
end
section
variable {c : Cfg} {F : Hp}
theorem IsL.length : ∀ {v : List V} {d : List D}, IsL c F v d → v.length = d.length
  | _, _, .nil => rfl
  | _, _, .cons _ l => congrArg Nat.succ (IsL.length l)
theorem IsL.get : ∀ {v : List V} {d : List D} {i : Nat} {x : V}, IsL c F v d → v[i]? = some x → ∃ y, d[i]? = some y ∧ Is c F x y
  | _, _, _, _, .nil, e => by simp at e
  | _, _, 0, _, .cons h _, e => by simp at e; subst e; exact ⟨_, rfl, h⟩
  | _, _, i + 1, x, .cons _ l, e => by
    obtain ⟨y, h1, h2⟩ := IsL.get (i := i) (x := x) l (by simpa using e)
    exact ⟨y, by simpa using h1, h2⟩
theorem IsL.getD : ∀ {v : List V} {d : List D} {i : Nat} {y : D}, IsL c F v d → d[i]? = some y → ∃ x, v[i]? = some x ∧ Is c F x y
  | _, _, _, _, .nil, e => by simp at e
  | _, _, 0, _, .cons h _, e => by simp at e; subst e; exact ⟨_, rfl, h⟩
  | _, _, i + 1, x, .cons _ l, e => by
    obtain ⟨y, h1, h2⟩ := IsL.getD (i := i) (y := x) l (by simpa using e)
    exact ⟨y, by simpa using h1, h2⟩
theorem IsL.append : ∀ {v w : List V} {d e : List D}, IsL c F v d → IsL c F w e → IsL c F (v ++ w) (d ++ e)
  | _, _, _, _, .nil, s => s
  | _, _, _, _, .cons r t, s => .cons r (IsL.append t s)
theorem IsL.take : ∀ {v : List V} {d : List D} (n : Nat), IsL c F v d → IsL c F (v.take n) (d.take n)
  | _, _, 0, _ => .nil
  | _, _, _ + 1, .nil => .nil
  | _, _, n + 1, .cons r t => .cons r (IsL.take n t)
theorem IsL.drop : ∀ {v : List V} {d : List D} (n : Nat), IsL c F v d → IsL c F (v.drop n) (d.drop n)
  | _, _, 0, r => r
  | _, _, _ + 1, .nil => .nil
  | _, _, n + 1, .cons _ t => IsL.drop n t
theorem IsL.set {x : V} {y : D} (r : Is c F x y) : ∀ {v : List V} {d : List D} (i : Nat), IsL c F v d → IsL c F (v.set i x) (d.set i y)
  | _, _, _, .nil => .nil
  | _, _, 0, .cons _ t => .cons r t
  | _, _, i + 1, .cons q t => .cons q (IsL.set r i t)
theorem IsL.one {x : V} {y : D} (r : Is c F x y) : IsL c F [x] [y] := .cons r .nil
theorem IsF.lookup {f : Str} : ∀ {v : List (Str × V)} {d : List (Str × D)}, IsF c F v d →
    (v.lookup f = none ∧ d.lookup f = none) ∨ ∃ x y, v.lookup f = some x ∧ d.lookup f = some y ∧ Is c F x y
  | _, _, .nil => .inl ⟨rfl, rfl⟩
  | _, _, .cons (k := k) (v := v) (d := d) h l => by
    show (((k, v) :: _).lookup f = none ∧ ((k, d) :: _).lookup f = none) ∨ _
    by_cases e : f = k
    · have e' : (f == k) = true := beq_iff_eq.mpr e
      exact .inr ⟨v, d, by simp only [List.lookup, e'], by simp only [List.lookup, e'], h⟩
    · have e' : (f == k) = false := beq_eq_false_iff_ne.mpr e
      rcases IsF.lookup (f := f) l with ⟨a, b⟩ | ⟨x, y, a, b, i⟩
      · exact .inl ⟨by simp only [List.lookup, e']; exact a, by simp only [List.lookup, e']; exact b⟩
      · exact .inr ⟨x, y, by simp only [List.lookup, e']; exact a, by simp only [List.lookup, e']; exact b, i⟩
theorem IsF.length : ∀ {v : List (Str × V)} {d : List (Str × D)}, IsF c F v d → v.length = d.length
  | _, _, .nil => rfl
  | _, _, .cons _ l => congrArg Nat.succ (IsF.length l)
/-- a field stored -/
def putD (f : Str) (v : D) : List (Str × D) → List (Str × D)
  | [] => [(f, v)]
  | (g, x) :: r => if g = f then (g, v) :: r else (g, x) :: putD f v r
theorem IsF.put {f : Str} {x : V} {y : D} (r : Is c F x y) : ∀ {v : List (Str × V)} {d : List (Str × D)}, IsF c F v d → IsF c F (putF f x v) (putD f y d)
  | _, _, .nil => .cons r .nil
  | _, _, .cons (k := k) h l => by
    unfold putF putD
    by_cases e : k = f
    · rw [if_pos e, if_pos e]; exact .cons r l
    · rw [if_neg e, if_neg e]; exact .cons h (IsF.put r l)
theorem IsK.length : ∀ {v : List (Key × V)} {d : List (Key × D)}, IsK c F v d → v.length = d.length
  | _, _, .nil => rfl
  | _, _, .cons _ l => congrArg Nat.succ (IsK.length l)
end
/-! ### the local names -/
inductive Ent where
  | no
  | fz (d : D)
  | ow (l : List D)
  | pin (l : List D)
  | ob (k : Nat) (l : List (Str × D))
  | dc (l : List (Key × D))
abbrev Env := List Ent
abbrev Zs := Nat → Option Addr
def EntOk (c : Cfg) (F H : Hp) (z : Option Addr) (x : Option (Option V)) (ap : Option Addr) : Ent → Prop
  | .no => z = none
  | .fz d => z = none ∧ ∃ v, x = some (some v) ∧ Is c F v d
  | .ow ds => ∃ p vs, z = some p ∧ x = some (some (.ref p)) ∧ H p = some (.lst vs) ∧ IsL c F vs ds
  | .pin ds => ∃ p vs, ap = some p ∧ z = some p ∧ x = some (some (.ref p)) ∧ H p = some (.lst vs) ∧ IsL c F vs ds
  | .ob k ds => ∃ p dx fs, ap = some p ∧ z = some p ∧ x = some (some (.ref p)) ∧ H p = some (.ins (c.cls k) dx fs) ∧ IsF c F fs ds
  | .dc ds => ∃ p vs, z = some p ∧ x = some (some (.ref p)) ∧ H p = some (.dK vs) ∧ IsK c F vs ds
structure At (c : Cfg) (A Z : Zs) (H F : Hp) (σ : L2.St) (ρ : Env) : Prop where
  sub : Le F H
  len : σ.length = ρ.length
  ent : ∀ i e, ρ[i]? = some e → EntOk c F H (Z i) σ[i]? (A i) e
  out : ∀ i, ρ.length ≤ i → Z i = none
  inj : ∀ i j a, Z i = some a → Z j = some a → i = j
  nf : ∀ i a, Z i = some a → F a = none
structure Step (Z : Zs) (H F : Hp) (Z' : Zs) (H' F' : Hp) : Prop where
  keep : ∀ a o, H a = some o → (∀ i, Z i ≠ some a) → H' a = some o ∧ F' a = F a
  mono : Le F F'
  foot : ∀ j a, Z' j = some a → (∃ i, Z i = some a) ∨ H a = none
/-- the heap has grown by things that may be frozen -/
structure Grow (H F H' F' : Hp) : Prop where
  keep : ∀ a o, H a = some o → H' a = some o ∧ F' a = F a
  sub : Le F' H'
section
variable {c : Cfg} {A Z Z' Z'' : Zs} {H F H' F' H'' F'' : Hp} {σ : L2.St} {ρ : Env}
theorem Grow.refl (h : Le F H) : Grow H F H F := ⟨fun _ _ e => ⟨e, rfl⟩, h⟩
theorem Grow.trans (a : Grow H F H' F') (b : Grow H' F' H'' F'') : Grow H F H'' F'' :=
  ⟨fun x o e => ⟨(b.keep x o (a.keep x o e).1).1, ((b.keep x o (a.keep x o e).1).2).trans (a.keep x o e).2⟩, b.sub⟩
theorem Grow.mono (g : Grow H F H' F') (h : Le F H) : Le F F' := fun a o e => by
  rw [(g.keep a o (h a o e)).2]; exact e
theorem Grow.le (g : Grow H F H' F') : Le H H' := fun a o e => (g.keep a o e).1
/-- a new thing, frozen -/
theorem Grow.new {p : Addr} {o : HO} (h : Le F H) (n : H p = none) : Grow H F (upd H p o) (upd F p o) := by
  refine ⟨fun a u e => ?_, fun a u e => ?_⟩
  · have ne : a ≠ p := ne_of_none e n
    exact ⟨by rw [upd_ne ne]; exact e, by rw [upd_ne ne]⟩
  · by_cases q : a = p
    · subst q; rw [upd_same] at e ⊢; exact e
    · rw [upd_ne q] at e ⊢; exact h a u e
/-- a new thing, not frozen -/
theorem Grow.lay {p : Addr} {o : HO} (h : Le F H) (n : H p = none) : Grow H F (upd H p o) F := by
  refine ⟨fun a u e => ?_, fun a u e => ?_⟩
  · have ne : a ≠ p := ne_of_none e n
    exact ⟨by rw [upd_ne ne]; exact e, rfl⟩
  · rw [upd_ne (ne_of_none (h a u e) n)]; exact h a u e
theorem none_of_le (h : Le F H) {p : Addr} (n : H p = none) : F p = none := by
  cases e : F p with
  | none => rfl
  | some o => rw [h p o e] at n; cases n
theorem Step.refl : Step Z H F Z H F := ⟨fun _ _ e _ => ⟨e, rfl⟩, Le.refl _, fun j a e => .inl ⟨j, e⟩⟩
theorem Step.trans (x : Step Z H F Z' H' F') (y : Step Z' H' F' Z'' H'' F'') : Step Z H F Z'' H'' F'' := by
  refine ⟨fun a o e n => ?_, x.mono.trans y.mono, fun j a e => ?_⟩
  · obtain ⟨e1, f1⟩ := x.keep a o e n
    have n1 : ∀ i, Z' i ≠ some a := fun i q => by
      rcases x.foot i a q with ⟨j, q⟩ | q
      · exact n j q
      · rw [e] at q; cases q
    obtain ⟨e2, f2⟩ := y.keep a o e1 n1
    exact ⟨e2, f2.trans f1⟩
  · rcases y.foot j a e with ⟨i, q⟩ | q
    · exact x.foot i a q
    · cases e0 : H a with
      | none => exact .inr rfl
      | some o =>
        by_cases n : ∃ i, Z i = some a
        · exact .inl n
        · obtain ⟨e1, _⟩ := x.keep a o e0 (fun i z => n ⟨i, z⟩)
          rw [q] at e1; cases e1
theorem Step.grow (g : Grow H F H' F') (h : Le F H) : Step Z H F Z H' F' :=
  ⟨fun a o e _ => g.keep a o e, g.mono h, fun j a e => .inl ⟨j, e⟩⟩
theorem EntOk.grow {z x ap} {e : Ent} (g : Grow H F H' F') (h : Le F H) (k : EntOk c F H z x ap e) : EntOk c F' H' z x ap e := by
  have m := g.mono h
  cases e with
  | no => exact k
  | fz d => obtain ⟨a, v, b, i⟩ := k; exact ⟨a, v, b, i.mono m⟩
  | ow ds => obtain ⟨p, vs, a, b, q, i⟩ := k; exact ⟨p, vs, a, b, (g.keep _ _ q).1, i.mono m⟩
  | pin ds => obtain ⟨p, vs, a0, a, b, q, i⟩ := k; exact ⟨p, vs, a0, a, b, (g.keep _ _ q).1, i.mono m⟩
  | ob n ds => obtain ⟨p, dx, fs, a0, a, b, q, i⟩ := k; exact ⟨p, dx, fs, a0, a, b, (g.keep _ _ q).1, i.mono m⟩
  | dc ds => obtain ⟨p, vs, a, b, q, i⟩ := k; exact ⟨p, vs, a, b, (g.keep _ _ q).1, i.mono m⟩
/-- an owned thing stands -/
theorem At.there (at_ : At c A Z H F σ ρ) {i : Nat} {a : Addr} (h : Z i = some a) : ∃ o, H a = some o := by
  by_cases hi : i < ρ.length
  · have k := at_.ent i _ (List.getElem?_eq_getElem hi)
    revert k
    cases ρ[i] with
    | no => intro k; rw [show Z i = none from k] at h; cases h
    | fz d => intro k; rw [k.1] at h; cases h
    | ow ds => rintro ⟨p, vs, a0, b, q, i⟩; rw [a0] at h; cases h; exact ⟨_, q⟩
    | pin ds => rintro ⟨p, vs, _, a0, b, q, i⟩; rw [a0] at h; cases h; exact ⟨_, q⟩
    | ob n ds => rintro ⟨p, dx, fs, _, a0, b, q, i⟩; rw [a0] at h; cases h; exact ⟨_, q⟩
    | dc ds => rintro ⟨p, vs, a0, b, q, i⟩; rw [a0] at h; cases h; exact ⟨_, q⟩
  · rw [at_.out i (by omega)] at h; cases h
theorem At.grow (at_ : At c A Z H F σ ρ) (g : Grow H F H' F') : At c A Z H' F' σ ρ := by
  refine ⟨g.sub, at_.len, fun i e q => (at_.ent i e q).grow g at_.sub, at_.out, at_.inj, fun i a q => ?_⟩
  obtain ⟨o, ho⟩ := at_.there q
  rw [(g.keep a o ho).2]; exact at_.nf i a q
/-- a slot's owned list is frozen -/
theorem EntOk.sub {z x ap} {e : Ent} (m : Le F F') (k : EntOk c F H z x ap e) : EntOk c F' H z x ap e := by
  cases e with
  | no => exact k
  | fz d => obtain ⟨a, v, b, i⟩ := k; exact ⟨a, v, b, i.mono m⟩
  | ow ds => obtain ⟨p, vs, a, b, q, i⟩ := k; exact ⟨p, vs, a, b, q, i.mono m⟩
  | pin ds => obtain ⟨p, vs, a0, a, b, q, i⟩ := k; exact ⟨p, vs, a0, a, b, q, i.mono m⟩
  | ob n ds => obtain ⟨p, dx, fs, a0, a, b, q, i⟩ := k; exact ⟨p, dx, fs, a0, a, b, q, i.mono m⟩
  | dc ds => obtain ⟨p, vs, a, b, q, i⟩ := k; exact ⟨p, vs, a, b, q, i.mono m⟩
theorem le_upd {p : Addr} {o : HO} (n : F p = none) : Le F (upd F p o) := fun a u e => by rw [upd_ne (ne_of_none e n)]; exact e
theorem le_upd_of {p : Addr} {o : HO} (h : Le F H) (q : H p = some o) : Le (upd F p o) H := fun a u e => by
  by_cases z : a = p
  · subst z; rw [upd_same] at e; cases e; exact q
  · rw [upd_ne z] at e; exact h a u e
/-- forget slot i's ownership (Z), freezing what it held or not: general form -/
def Zs.put (Z : Zs) (i : Nat) (z : Option Addr) : Zs := fun j => if j = i then z else Z j
theorem put_same {i : Nat} {z : Option Addr} : Zs.put Z i z i = z := by unfold Zs.put; rw [if_pos rfl]
theorem put_ne {i j : Nat} {z : Option Addr} (h : j ≠ i) : Zs.put Z i z j = Z j := by unfold Zs.put; rw [if_neg h]
/-- slot i gets another value and entry -/
theorem At.set (at_ : At c A Z H F σ ρ) {i : Nat} {x : Option V} {e : Ent} {z : Option Addr} (hi : i < ρ.length) (k : EntOk c F H z (some x) (A i) e)
    (hz : ∀ a, z = some a → F a = none ∧ ∀ j, j ≠ i → Z j ≠ some a) : At c A (Z.put i z) H F (σ.set i x) (ρ.set i e) := by
  refine ⟨at_.sub, by rw [List.length_set, List.length_set]; exact at_.len, fun j u q => ?_, fun j q => ?_, fun j l a q1 q2 => ?_, fun j a q => ?_⟩
  · by_cases e1 : j = i
    · subst e1
      rw [List.getElem?_set_self hi] at q
      cases q
      rw [put_same, List.getElem?_set_self (by rw [at_.len]; exact hi)]
      exact k
    · rw [List.getElem?_set_ne (Ne.symm e1)] at q
      rw [put_ne e1, List.getElem?_set_ne (Ne.symm e1)]
      exact at_.ent j u q
  · rw [List.length_set] at q
    rw [put_ne (by omega)]
    exact at_.out j q
  · by_cases e1 : j = i
    · subst e1
      by_cases e2 : l = j
      · exact e2.symm
      · rw [put_same] at q1; rw [put_ne e2] at q2
        exact absurd q2 ((hz a q1).2 l e2)
    · by_cases e2 : l = i
      · subst e2
        rw [put_same] at q2; rw [put_ne e1] at q1
        exact absurd q1 ((hz a q2).2 j e1)
      · rw [put_ne e1] at q1; rw [put_ne e2] at q2
        exact at_.inj j l a q1 q2
  · by_cases e1 : j = i
    · subst e1; rw [put_same] at q; exact (hz a q).1
    · rw [put_ne e1] at q; exact at_.nf j a q
/-- slot i's owned thing at p goes into the frozen part; its entry becomes e -/
theorem At.freeze (at_ : At c A Z H F σ ρ) {i : Nat} {p : Addr} {o : HO} {e : Ent} (hi : i < ρ.length) (hz : Z i = some p) (ho : H p = some o)
    (k : EntOk c (upd F p o) H none σ[i]? (A i) e) : At c A (Z.put i none) H (upd F p o) σ (ρ.set i e) := by
  have fp := at_.nf i p hz
  refine ⟨le_upd_of at_.sub ho, by rw [List.length_set]; exact at_.len, fun j u q => ?_, fun j q => ?_, fun j l a q1 q2 => ?_, fun j a q => ?_⟩
  · by_cases e1 : j = i
    · subst e1
      rw [List.getElem?_set_self hi] at q
      cases q
      rw [put_same]
      exact k
    · rw [List.getElem?_set_ne (Ne.symm e1)] at q
      rw [put_ne e1]
      exact (at_.ent j u q).sub (le_upd fp)
  · rw [List.length_set] at q
    rw [put_ne (by omega)]
    exact at_.out j q
  · by_cases e1 : j = i
    · subst e1; rw [put_same] at q1; cases q1
    · by_cases e2 : l = i
      · subst e2; rw [put_same] at q2; cases q2
      · rw [put_ne e1] at q1; rw [put_ne e2] at q2
        exact at_.inj j l a q1 q2
  · by_cases e1 : j = i
    · subst e1; rw [put_same] at q; cases q
    · rw [put_ne e1] at q
      have : a ≠ p := fun z => e1 (at_.inj j i p (by rw [← z]; exact q) hz)
      rw [upd_ne this]
      exact at_.nf j a q
theorem Step.freeze {i : Nat} {p : Addr} {o : HO} (hz : Z i = some p) (fp : F p = none) : Step Z H F (Z.put i none) H (upd F p o) := by
  refine ⟨fun a u e n => ⟨e, ?_⟩, le_upd fp, fun j a q => ?_⟩
  · rw [upd_ne (fun z => n i (by rw [z]; exact hz))]
  · by_cases e1 : j = i
    · subst e1; rw [put_same] at q; cases q
    · rw [put_ne e1] at q; exact .inl ⟨j, q⟩
end
end DL
end
section
set_option Elab.async false
set_option linter.all false
set_option maxRecDepth 100000
namespace DL
open PySem PySem.Spec L2
/-! ### results -/
inductive Res (α : Type) where
  | ok (a : α) (ρ : Env)
  | er (k : Nat) (fs : List (Str × D)) (ρ : Env)
  | stuck
abbrev M (α : Type) := Env → Res α
def Res.bd {α β : Type} (r : Res α) (f : α → M β) : Res β := match r with
  | .ok a ρ => f a ρ
  | .er k fs ρ => .er k fs ρ
  | .stuck => .stuck
def bd {α β : Type} (m : M α) (f : α → M β) : M β := fun ρ => (m ρ).bd f
def rt {α : Type} (a : α) : M α := fun ρ => .ok a ρ
def stuck {α : Type} : M α := fun _ => .stuck
def opt {α : Type} (o : Option α) : M α := match o with
  | some a => rt a
  | none => stuck
theorem bd_ok {α β : Type} {a : α} {ρ : Env} {f : α → M β} : (Res.ok a ρ).bd f = f a ρ := rfl
/-- what an exception's own dict holds -/
def ExcAt (c : Cfg) (F : Hp) (dx : Addr) (fs : List (Str × D)) : Prop := ∃ vs, F dx = some (.xd vs) ∧ IsF c F vs fs
theorem ExcAt.mono {c : Cfg} {F F' : Hp} {dx : Addr} {fs : List (Str × D)} (e : Le F F') (x : ExcAt c F dx fs) : ExcAt c F' dx fs :=
  let ⟨vs, h, i⟩ := x
  ⟨vs, e _ _ h, i.mono e⟩
def Post (c : Cfg) (A : Zs) (W : WX) (σ : L2.St) (Z : Zs) (H F : Hp) {α : Type} (r : Res α) (K : α → Env → Prop) : Prop := match r with
  | .ok a ρ' => K a ρ'
  | .er k fs ρ' => ∀ dx H' F' Z', At c A Z' H' F' σ ρ' → ExcAt c F' dx fs → Step Z H F Z' H' F' → W (.ref (c.cls k)) (some dx) σ H'
  | .stuck => False
section
variable {c : Cfg} {A Z Z1 : Zs} {W : WX} {σ : L2.St} {H F H1 F1 : Hp} {α β : Type}
theorem Post.bind {r : Res α} {f : α → M β} {K : β → Env → Prop} (h : Post c A W σ Z H F (r.bd f) K) : Post c A W σ Z H F r (fun a ρ1 => Post c A W σ Z H F (f a ρ1) K) := by
  cases r with
  | ok a ρ => exact h
  | er k fs ρ => exact h
  | stuck => exact h
theorem Post.imp {r : Res α} {K K' : α → Env → Prop} (h : Post c A W σ Z H F r K) (hk : ∀ a ρ, K a ρ → K' a ρ) : Post c A W σ Z H F r K' := by
  cases r with
  | ok a ρ => exact hk _ _ h
  | er k fs ρ => exact h
  | stuck => exact h
theorem Post.from_ {r : Res α} {K K' : α → Env → Prop} (st : Step Z H F Z1 H1 F1) (h : Post c A W σ Z H F r K) (hk : ∀ a ρ, K a ρ → K' a ρ) : Post c A W σ Z1 H1 F1 r K' := by
  cases r with
  | ok a ρ => exact hk _ _ h
  | er k fs ρ => exact fun dx H' F' Z' a x s => h dx H' F' Z' a x (st.trans s)
  | stuck => exact h
theorem Post.opt {o : Option α} {ρ : Env} {K : α → Env → Prop} (h : Post c A W σ Z H F (opt o ρ) K) : ∃ a, o = some a ∧ K a ρ := by
  cases o with
  | some a => exact ⟨a, rfl, h⟩
  | none => exact h.elim
end
/-! ### readings -/
def KF (c : Cfg) (A : Zs) (σ : L2.St) (Z : Zs) (H F : Hp) (Q : VK) (d : D) (ρ' : Env) : Prop := ∀ v H' F' Z', At c A Z' H' F' σ ρ' → Is c F' v d → Step Z H F Z' H' F' → Q v H'
def tF (c : Cfg) (W : WX) (g : M D) : TE := fun σ H Q => ∃ A Z F ρ, At c A Z H F σ ρ ∧ Post c A W σ Z H F (g ρ) (KF c A σ Z H F Q)
/-- what a value denotes now: a list's, a dict's items are frozen, itself perhaps not -/
def Has (c : Cfg) (F H : Hp) (v : V) : D → Prop
  | .lst ds => ∃ p vs, v = .ref p ∧ H p = some (.lst vs) ∧ IsL c F vs ds
  | .dic ds => ∃ p vs, v = .ref p ∧ H p = some (.dK vs) ∧ IsK c F vs ds
  | d => Is c F v d
theorem Is.has {c : Cfg} {F H : Hp} {v : V} {d : D} (i : Is c F v d) (h : Le F H) : Has c F H v d := by
  cases i with
  | lst a b => exact ⟨_, _, rfl, h _ _ a, b⟩
  | scr a => exact .scr a
  | dic a b => exact ⟨_, _, rfl, h _ _ a, b⟩
  | non => exact .non
  | bl b => exact .bl b
  | int i => exact .int i
  | str s => exact .str s
  | tup a b => exact .tup a b
  | obj a b => exact .obj a b
def KH (c : Cfg) (A : Zs) (σ : L2.St) (Z : Zs) (H F : Hp) (Q : VK) (d : D) (ρ' : Env) : Prop := ∀ v H' F' Z', At c A Z' H' F' σ ρ' → Has c F' H' v d → Step Z H F Z' H' F' → Q v H'
def tH (c : Cfg) (W : WX) (g : M D) : TE := fun σ H Q => ∃ A Z F ρ, At c A Z H F σ ρ ∧ Post c A W σ Z H F (g ρ) (KH c A σ Z H F Q)
def KFs (c : Cfg) (A : Zs) (σ : L2.St) (Z : Zs) (H F : Hp) (Q : List V → Hp → Prop) (d : List D) (ρ' : Env) : Prop := ∀ v H' F' Z', At c A Z' H' F' σ ρ' → IsL c F' v d → Step Z H F Z' H' F' → Q v H'
def tFs (c : Cfg) (W : WX) (g : M (List D)) : TA := fun σ H Q => ∃ A Z F ρ, At c A Z H F σ ρ ∧ Post c A W σ Z H F (g ρ) (KFs c A σ Z H F Q)
def KT (c : Cfg) (A : Zs) (σ : L2.St) (Z : Zs) (H F : Hp) (Q : Bool → Hp → Prop) (d : Bool) (ρ' : Env) : Prop := ∀ H' F' Z', At c A Z' H' F' σ ρ' → Step Z H F Z' H' F' → Q d H'
def tT (c : Cfg) (W : WX) (g : M Bool) : TT := fun σ H Q => ∃ A Z F ρ, At c A Z H F σ ρ ∧ Post c A W σ Z H F (g ρ) (KT c A σ Z H F Q)
/-- a new or known thing: its entry e, its own address z -/
def KE (c : Cfg) (A : Zs) (σ : L2.St) (Z : Zs) (H F : Hp) (Q : VK) (e : Ent) (ρ' : Env) : Prop := ∀ v z H' F' Z', At c A Z' H' F' σ ρ' → EntOk c F' H' z (some (some v)) none e →
  (∀ a, z = some a → F' a = none ∧ (∀ j, Z' j ≠ some a) ∧ ((∃ i, Z i = some a) ∨ H a = none)) → Step Z H F Z' H' F' → Q v H'
def tE (c : Cfg) (W : WX) (g : M Ent) : TE := fun σ H Q => ∃ A Z F ρ, At c A Z H F σ ρ ∧ Post c A W σ Z H F (g ρ) (KE c A σ Z H F Q)
inductive Fl where
  | nx
  | ret (d : D)
  | bk
  | ct
def PostS (c : Cfg) (A : Zs) (W : WX) (Z : Zs) (H F : Hp) (r : Res Fl) (Dn : Ends) : Prop := match r with
  | .ok .nx ρ' => ∀ σ' H' F' Z', At c A Z' H' F' σ' ρ' → Step Z H F Z' H' F' → Dn.nx σ' H'
  | .ok (.ret d) ρ' => ∀ v σ' H' F' Z', At c A Z' H' F' σ' ρ' → Is c F' v d → Step Z H F Z' H' F' → Dn.rt v H'
  | .ok .bk ρ' => ∀ σ' H' F' Z', At c A Z' H' F' σ' ρ' → Step Z H F Z' H' F' → Dn.bk σ' H'
  | .ok .ct ρ' => ∀ σ' H' F' Z', At c A Z' H' F' σ' ρ' → Step Z H F Z' H' F' → Dn.ct σ' H'
  | .er k fs ρ' => ∀ dx σ' H' F' Z', At c A Z' H' F' σ' ρ' → ExcAt c F' dx fs → Step Z H F Z' H' F' → W (.ref (c.cls k)) (some dx) σ' H'
  | .stuck => False
def tS (c : Cfg) (W : WX) (g : M Fl) : TS := fun Dn σ H => ∃ A Z F ρ, At c A Z H F σ ρ ∧ PostS c A W Z H F (g ρ) Dn
section
variable {c : Cfg} {A Z Z1 : Zs} {W : WX} {H F H1 F1 : Hp}
theorem PostS.from_ {r : Res Fl} {Dn : Ends} (st : Step Z H F Z1 H1 F1) (h : PostS c A W Z H F r Dn) : PostS c A W Z1 H1 F1 r Dn := by
  cases r with
  | ok a ρ =>
    cases a with
    | nx => exact fun σ' H' F' Z' a s => h σ' H' F' Z' a (st.trans s)
    | ret d => exact fun v σ' H' F' Z' a i s => h v σ' H' F' Z' a i (st.trans s)
    | bk => exact fun σ' H' F' Z' a s => h σ' H' F' Z' a (st.trans s)
    | ct => exact fun σ' H' F' Z' a s => h σ' H' F' Z' a (st.trans s)
  | er k fs ρ => exact fun dx σ' H' F' Z' a x s => h dx σ' H' F' Z' a x (st.trans s)
  | stuck => exact h
end
/-! ### weaker readings -/
section
variable {X : Cx}
theorem PEi {e : Expr} {t t' : TE} (h : PE X e t) (k : ∀ σ H Q, t' σ H Q → t σ H Q) : PE X e t' := ⟨fun pins s σ H Q I q => h.run pins s σ H Q I (k σ H Q q)⟩
theorem PTi {e : Expr} {t t' : TT} (h : PT X e t) (k : ∀ σ H Q, t' σ H Q → t σ H Q) : PT X e t' := ⟨fun pins s σ H Q I q => h.run pins s σ H Q I (k σ H Q q)⟩
theorem PWi {e : Expr} {t t' : TT} (h : PW X e t) (k : ∀ σ H Q, t' σ H Q → t σ H Q) : PW X e t' := ⟨fun wh pins s σ H Q I q => h.run wh pins s σ H Q I (k σ H Q q)⟩
theorem PAi {e : List Expr} {t t' : TA} (h : PA X e t) (k : ∀ σ H Q, t' σ H Q → t σ H Q) : PA X e t' := ⟨fun pos pins s σ H Q I q => h.run pos pins s σ H Q I (k σ H Q q)⟩
theorem PSi {e : Stmt} {t t' : TS} (h : PS X e t) (k : ∀ D σ H, t' D σ H → t D σ H) : PS X e t' := ⟨fun pins s σ H D I q => h.run pins s σ H D I (k D σ H q)⟩
theorem PSsi {e : List Stmt} {t t' : TS} (h : PSs X e t) (k : ∀ D σ H, t' D σ H → t D σ H) : PSs X e t' := ⟨fun pins s σ H D I q => h.run pins s σ H D I (k D σ H q)⟩
end
section
variable {X : Cx} {c : Cfg} {W : WX} {e a b : Expr} {g ga gb : M D}
theorem f_h (h : PE X e (tF c W g)) : PE X e (tH c W g) := PEi h fun σ H Q ⟨A, Z, F, ρ, at_, p⟩ =>
  ⟨A, Z, F, ρ, at_, p.imp fun d ρ' k v H' F' Z' a i s => k v H' F' Z' a (i.has a.sub) s⟩
/-- a value that is known -/
theorem f_e (h : PE X e (tF c W g)) : PE X e (tE c W (bd g fun d => rt (.fz d))) := PEi h fun σ H Q ⟨A, Z, F, ρ, at_, p⟩ =>
  ⟨A, Z, F, ρ, at_, p.bind.imp fun d ρ' k v H' F' Z' a i s => k v none H' F' Z' a ⟨rfl, v, rfl, i⟩ (fun _ q => nomatch q) s⟩
def Ent.toD : Ent → Option D
  | .fz d => some d
  | .ow l => some (.lst l)
  | .dc l => some (.dic l)
  | _ => none
theorem foot_of {Z : Zs} {H F : Hp} {Z' : Zs} {H' F' : Hp} {p : Addr} {o : HO} (s : Step Z H F Z' H' F') (n : ∀ j, Z' j ≠ some p) (fp : F' p = none) (w : (∃ i, Z i = some p) ∨ H p = none) : Step Z H F Z' H' (upd F' p o) := by
  refine ⟨fun a u q m => ?_, s.mono.trans (le_upd fp), s.foot⟩
  obtain ⟨k1, k2⟩ := s.keep a u q m
  have ne : a ≠ p := fun z => by
    subst z
    rcases w with ⟨i, w⟩ | w
    · exact m i w
    · rw [w] at q; cases q
  exact ⟨k1, by rw [upd_ne ne]; exact k2⟩
theorem At.frz {A Z : Zs} {H F : Hp} {σ : L2.St} {ρ : Env} {p : Addr} {o : HO} (at_ : At c A Z H F σ ρ) (n : ∀ j, Z j ≠ some p) (fp : F p = none) (hp : H p = some o) : At c A Z H (upd F p o) σ ρ :=
  ⟨le_upd_of at_.sub hp, at_.len, fun i e q => (at_.ent i e q).sub (le_upd fp), at_.out, at_.inj, fun i a q => by rw [upd_ne (fun z => n i (by rw [← z]; exact q))]; exact at_.nf i a q⟩
/-- a new thing is frozen at once -/
theorem e_f {g : M Ent} (h : PE X e (tE c W g)) : PE X e (tF c W (bd g fun x => opt x.toD)) := PEi h fun σ H Q ⟨A, Z, F, ρ, at_, p⟩ => by
  refine ⟨A, Z, F, ρ, at_, p.bind.imp fun x ρ' k v z H' F' Z' a i w s => ?_⟩
  cases x with
  | fz d =>
    obtain ⟨_, v', q, i⟩ := i
    cases q
    exact k v H' F' Z' a i s
  | ow l =>
    obtain ⟨p, vs, e1, e2, hp, il⟩ := i
    cases e2
    obtain ⟨w1, w2, w3⟩ := w p e1
    exact k _ H' (upd F' p _) Z' (a.frz w2 w1 hp) (.lst upd_same (il.mono (le_upd w1))) (foot_of s w2 w1 w3)
  | dc l =>
    obtain ⟨p, vs, e1, e2, hp, il⟩ := i
    cases e2
    obtain ⟨w1, w2, w3⟩ := w p e1
    exact k _ H' (upd F' p _) Z' (a.frz w2 w1 hp) (.dic upd_same (il.mono (le_upd w1))) (foot_of s w2 w1 w3)
  | no => exact (show False from k).elim
  | pin l => exact (show False from k).elim
  | ob n l => exact (show False from k).elim
/-! ### names, constants -/
def eV (i : Nat) : M D := fun ρ => match ρ[i]? with
  | some (.fz d) => .ok d ρ
  | some (.ow l) => .ok (.lst l) (ρ.set i (.fz (.lst l)))
  | some (.dc l) => .ok (.dic l) (ρ.set i (.fz (.dic l)))
  | _ => .stuck
/-- a name, only looked at -/
def eB (i : Nat) : M D := fun ρ => match ρ[i]? with
  | some (.fz d) => .ok d ρ
  | some (.ow l) => .ok (.lst l) ρ
  | some (.pin l) => .ok (.lst l) ρ
  | some (.dc l) => .ok (.dic l) ρ
  | _ => .stuck
theorem lt_of_get {ρ : Env} {i : Nat} {e : Ent} (h : ρ[i]? = some e) : i < ρ.length := by
  rcases Nat.lt_or_ge i ρ.length with h1 | h1
  · exact h1
  · rw [List.getElem?_eq_none h1] at h; cases h
theorem d_v {i : Nat} {x : Str} {pos : Pos} (h : PE X (.Name x pos) (tVar i)) : PE X (.Name x pos) (tF c W (eV i)) := PEi h fun σ H Q ⟨A, Z, F, ρ, at_, p⟩ => by
  unfold eV at p
  cases q : ρ[i]? with
  | none => rw [q] at p; exact p.elim
  | some e =>
    rw [q] at p
    have k := at_.ent i e q
    have hi := lt_of_get q
    cases e with
    | fz d =>
      obtain ⟨_, v, e1, i1⟩ := k
      exact ⟨v, e1, p v H F Z at_ i1 .refl⟩
    | ow l =>
      obtain ⟨a, vs, e0, e1, hp, il⟩ := id k
      have fa := at_.nf i a e0
      refine ⟨.ref a, e1, p (.ref a) H (upd F a (.lst vs)) (Z.put i none) (at_.freeze hi e0 hp ?_) (.lst upd_same (il.mono (le_upd fa))) (.freeze e0 fa)⟩
      exact ⟨rfl, .ref a, e1, .lst upd_same (il.mono (le_upd fa))⟩
    | dc l =>
      obtain ⟨a, vs, e0, e1, hp, il⟩ := id k
      have fa := at_.nf i a e0
      refine ⟨.ref a, e1, p (.ref a) H (upd F a (.dK vs)) (Z.put i none) (at_.freeze hi e0 hp ?_) (.dic upd_same (il.mono (le_upd fa))) (.freeze e0 fa)⟩
      exact ⟨rfl, .ref a, e1, .dic upd_same (il.mono (le_upd fa))⟩
    | no => exact p.elim
    | pin l => exact p.elim
    | ob n l => exact p.elim
/-- slot i, as it stands -/
theorem At.look {A Z : Zs} {H F : Hp} {σ : L2.St} {ρ : Env} {i : Nat} {d : D} {ρ' : Env} (at_ : At c A Z H F σ ρ) (h : eB i ρ = .ok d ρ') : ρ' = ρ ∧ ∃ v, σ[i]? = some (some v) ∧ Has c F H v d := by
  unfold eB at h
  cases q : ρ[i]? with
  | none => rw [q] at h; cases h
  | some e =>
    rw [q] at h
    have k := at_.ent i e q
    cases e with
    | fz d' =>
      obtain ⟨_, v, e1, i1⟩ := k
      cases h
      exact ⟨rfl, v, e1, i1.has at_.sub⟩
    | ow l =>
      obtain ⟨a, vs, e0, e1, hp, il⟩ := k
      cases h
      exact ⟨rfl, .ref a, e1, a, vs, rfl, hp, il⟩
    | pin l =>
      obtain ⟨a, vs, _, e0, e1, hp, il⟩ := k
      cases h
      exact ⟨rfl, .ref a, e1, a, vs, rfl, hp, il⟩
    | dc l =>
      obtain ⟨a, vs, e0, e1, hp, il⟩ := k
      cases h
      exact ⟨rfl, .ref a, e1, a, vs, rfl, hp, il⟩
    | no => cases h
    | ob n l => cases h
theorem eB_cases (i : Nat) (ρ : Env) : eB i ρ = .stuck ∨ ∃ d, eB i ρ = .ok d ρ := by
  unfold eB
  cases ρ[i]? with
  | none => exact .inl rfl
  | some e => cases e <;> first | exact .inl rfl | exact .inr ⟨_, rfl⟩
theorem d_b {i : Nat} {x : Str} {pos : Pos} (h : PE X (.Name x pos) (tVar i)) : PE X (.Name x pos) (tH c W (eB i)) := PEi h fun σ H Q ⟨A, Z, F, ρ, at_, p⟩ => by
  rcases eB_cases i ρ with e | ⟨d, e⟩
  · rw [e] at p; exact p.elim
  · obtain ⟨_, v, e1, hs⟩ := at_.look e
    rw [e] at p
    exact ⟨v, e1, p v H F Z at_ hs .refl⟩
/-- a value that never changes -/
theorem d_c {v : V} {d : D} (h : PE X e (tC v)) (i : ∀ F, Is c F v d) : PE X e (tF c W (rt d)) := PEi h fun σ H Q ⟨A, Z, F, ρ, at_, p⟩ => p v H F Z at_ (i F) .refl
theorem d_int {i : Int} {j pos} : PE X (.Constant (.int i) j pos) (tF c W (rt (.int i))) := d_c pe_int fun _ => .int i
theorem d_bl {b : Bool} {j pos} : PE X (.Constant (.bool b) j pos) (tF c W (rt (.bl b))) := d_c pe_bl fun _ => .bl b
theorem d_non {j pos} : PE X (.Constant .none j pos) (tF c W (rt .non)) := d_c pe_non fun _ => .non
theorem d_str {s : Str} {j pos} : PE X (.Constant (.str s) j pos) (tF c W (rt (.str s))) := d_c pe_str fun _ => .str s
end
end DL
end
section
set_option Elab.async false
set_option linter.all false
set_option maxRecDepth 100000
namespace DL
open PySem PySem.Spec L2
section
variable {c : Cfg} {A Z Z1 : Zs} {W : WX} {σ : L2.St} {H F H1 F1 : Hp} {Q : VK} {d : D} {ρ : Env}
theorem KF.from_ (s1 : Step Z H F Z1 H1 F1) (k : KF c A σ Z H F Q d ρ) : KF c A σ Z1 H1 F1 Q d ρ := fun v H' F' Z' a i s => k v H' F' Z' a i (s1.trans s)
theorem KH.from_ (s1 : Step Z H F Z1 H1 F1) (k : KH c A σ Z H F Q d ρ) : KH c A σ Z1 H1 F1 Q d ρ := fun v H' F' Z' a i s => k v H' F' Z' a i (s1.trans s)
theorem KFs.from_ {Q : List V → Hp → Prop} {d : List D} (s1 : Step Z H F Z1 H1 F1) (k : KFs c A σ Z H F Q d ρ) : KFs c A σ Z1 H1 F1 Q d ρ := fun v H' F' Z' a i s => k v H' F' Z' a i (s1.trans s)
theorem KT.from_ {Q : Bool → Hp → Prop} {d : Bool} (s1 : Step Z H F Z1 H1 F1) (k : KT c A σ Z H F Q d ρ) : KT c A σ Z1 H1 F1 Q d ρ := fun H' F' Z' a s => k H' F' Z' a (s1.trans s)
theorem foot_from {a : Addr} (s1 : Step Z H F Z1 H1 F1) (w : (∃ i, Z1 i = some a) ∨ H1 a = none) : (∃ i, Z i = some a) ∨ H a = none := by
  rcases w with ⟨i, w⟩ | w
  · exact s1.foot i a w
  · cases e0 : H a with
    | none => exact .inr rfl
    | some o =>
      by_cases n : ∃ i, Z i = some a
      · exact .inl n
      · obtain ⟨e1, _⟩ := s1.keep a o e0 (fun i z => n ⟨i, z⟩)
        rw [w] at e1; cases e1
theorem KE.from_ {d : Ent} (s1 : Step Z H F Z1 H1 F1) (k : KE c A σ Z H F Q d ρ) : KE c A σ Z1 H1 F1 Q d ρ := fun v z H' F' Z' a i w s =>
  k v z H' F' Z' a i (fun b hb => let ⟨w1, w2, w3⟩ := w b hb; ⟨w1, w2, foot_from s1 w3⟩) (s1.trans s)
theorem KF.grow (k : KF c A σ Z H F Q d ρ) (a : At c A Z H F σ ρ) (g : Grow H F H1 F1) {v : V} (i : Is c F1 v d) : Q v H1 := k v H1 F1 Z (a.grow g) i (.grow g a.sub)
end
/-! ### operations by values -/
/-- f of two values gives what r says -/
def O2 (c : Cfg) (X : Cx) (f : Value → Value → Sem Value) (r : D → D → Option D) : Prop :=
  ∀ (pins : List (Addr × Obj)) (s : Shared) (σ : L2.St) (H F : Hp) (x y : V) (dx dy : D) (v u : Value) (z : D) (Q : VK), Inv X pins σ H s → Le F H → RelV x v → RelV y u → Has c F H x dx → Has c F H y dy → r dx dy = some z →
    (∀ x' H' F', Is c F' x' z → Grow H F H' F' → Q x' H') → wpAny (model X.prog X.w) X.A (f v u) (EP X pins σ Q) X.xe s
theorem O2.of {c : Cfg} {X : Cx} {f : Value → Value → Sem Value} {r : D → D → Option D} {R : R2} (h : OpR X f R)
    (k : ∀ (H F : Hp) (x y : V) (dx dy z : D) (Q : VK), Le F H → Has c F H x dx → Has c F H y dy → r dx dy = some z → (∀ x' H' F', Is c F' x' z → Grow H F H' F' → Q x' H') → R x y H Q) : O2 c X f r :=
  fun pins s σ H F x y dx dy v u z Q I le rx ry hx hy e q => h pins s σ H x y v u Q I rx ry (k H F x y dx dy z Q le hx hy e q)
section
variable {X : Cx} {c : Cfg} {W : WX} {a b : Expr} {ga gb : M D} {r : D → D → Option D} {f : Value → Value → Sem Value}
def m2 (r : D → D → Option D) (ga gb : M D) : M D := bd ga fun x => bd gb fun y => opt (r x y)
theorem run2 (ha : PE X a (tF c W ga)) (hb : PE X b (tH c W gb)) (ho : O2 c X f r) {pins : List (Addr × Obj)} {s : Shared} {σ : L2.St} {H : Hp} {Q : VK} (I : Inv X pins σ H s) (h : tF c W (m2 r ga gb) σ H Q) :
    wpAny (model X.prog X.w) X.A (eval a X.env) (fun v s₁ => wpAny (model X.prog X.w) X.A (eval b X.env) (fun u s₂ => wpAny (model X.prog X.w) X.A (f v u) (EP X pins σ Q) X.xe s₂) X.xe s₁) X.xe s := by
  obtain ⟨A, Z, F, ρ, at_, p⟩ := h
  refine thn (ha.run pins s σ H (fun x H1 => ∃ F1 Z1 ρ1 d, At c A Z1 H1 F1 σ ρ1 ∧ Is c F1 x d ∧ Post c A W σ Z1 H1 F1 ((bd gb fun y => opt (r d y)) ρ1) (KF c A σ Z1 H1 F1 Q)) I
    ⟨A, Z, F, ρ, at_, p.bind.imp fun d ρ1 q v H1 F1 Z1 a1 i1 s1 => ⟨F1, Z1, ρ1, d, a1, i1, q.from_ s1 fun _ _ k => k.from_ s1⟩⟩) fun v s1 ⟨x, H1, I1, r1, F1, Z1, ρ1, d, a1, i1, p1⟩ => ?_
  refine thn (hb.run pins s1 σ H1 (fun y H2 => ∃ F2 Z2 ρ2 e, At c A Z2 H2 F2 σ ρ2 ∧ Has c F2 H2 y e ∧ Is c F2 x d ∧ ∃ z, r d e = some z ∧ KF c A σ Z2 H2 F2 Q z ρ2) I1
    ⟨A, Z1, F1, ρ1, a1, p1.bind.imp fun e ρ2 q v H2 F2 Z2 a2 i2 s2 => let ⟨z, q1, q2⟩ := q.opt; ⟨F2, Z2, ρ2, e, a2, i2, i1.mono s2.mono, z, q1, q2.from_ s2⟩⟩) fun u s2 ⟨y, H2, I2, r2, F2, Z2, ρ2, e, a2, i2, i1', z, q1, q2⟩ => ?_
  exact ho pins s2 σ H2 F2 x y d e v u z Q I2 a2.sub r1 r2 (i1'.has a2.sub) i2 q1 fun x' H' F' i g => q2.grow a2 g i
/-- the left one a name that is only looked at -/
def m2B (r : D → D → Option D) (i : Nat) (gb : M D) : M D := bd (eB i) fun _ => bd gb fun y => bd (eB i) fun x => opt (r x y)
theorem run2B {i : Nat} {x : Str} {pos : Pos} (ha : PE X (.Name x pos) (tVar i)) (hb : PE X b (tH c W gb)) (ho : O2 c X f r) {pins : List (Addr × Obj)} {s : Shared} {σ : L2.St} {H : Hp} {Q : VK} (I : Inv X pins σ H s) (h : tF c W (m2B r i gb) σ H Q) :
    wpAny (model X.prog X.w) X.A (eval (.Name x pos) X.env) (fun v s₁ => wpAny (model X.prog X.w) X.A (eval b X.env) (fun u s₂ => wpAny (model X.prog X.w) X.A (f v u) (EP X pins σ Q) X.xe s₂) X.xe s₁) X.xe s := by
  obtain ⟨A, Z, F, ρ, at_, p⟩ := h
  unfold m2B bd at p
  rcases eB_cases i ρ with e0 | ⟨d0, e0⟩
  · rw [e0] at p; exact p.elim
  rw [e0] at p
  obtain ⟨_, v0, hv0, _⟩ := at_.look e0
  refine thn (ha.run pins s σ H (fun x H1 => x = v0 ∧ H1 = H) I ⟨v0, hv0, rfl, rfl⟩) fun v s1 ⟨x, H1, I1, r1, e1, e2⟩ => ?_
  subst e1 e2
  have p1 : Post c A W σ Z H1 F ((gb ρ).bd fun y => bd (eB i) fun x => opt (r x y)) (KF c A σ Z H1 F Q) := p
  refine thn (hb.run pins s1 σ H1 (fun y H2 => ∃ F2 Z2 ρ2 e d, At c A Z2 H2 F2 σ ρ2 ∧ Has c F2 H2 y e ∧ Has c F2 H2 x d ∧ ∃ z, r d e = some z ∧ KF c A σ Z2 H2 F2 Q z ρ2) I1
    ⟨A, Z, F, ρ, at_, p1.bind.imp fun e ρ2 q v H2 F2 Z2 a2 i2 s2 => ?_⟩) fun u s2 ⟨y, H2, I2, r2, F2, Z2, ρ2, e, d, a2, i2, i1', z, q1, q2⟩ => ?_
  · unfold bd at q
    rcases eB_cases i ρ2 with e3 | ⟨d, e3⟩
    · rw [e3] at q; exact q.elim
    · rw [e3] at q
      obtain ⟨_, v2, hv2, h2⟩ := a2.look e3
      rw [hv0] at hv2; cases hv2
      obtain ⟨z, q1, q2⟩ := (show Post c A W σ Z H1 F (opt (r d e) ρ2) (KF c A σ Z H1 F Q) from q).opt
      exact ⟨F2, Z2, ρ2, e, d, a2, i2, h2, z, q1, q2.from_ s2⟩
  · exact ho pins s2 σ H2 F2 x y d e v u z Q I2 a2.sub r1 r2 i1' i2 q1 fun x' H' F' i g => q2.grow a2 g i
variable {op : Operator} {cop : CmpOp} {pos : Pos}
theorem d_op (ho : O2 c X (binaryOp op) r) (ha : PE X a (tF c W ga)) (hb : PE X b (tH c W gb)) : PE X (.BinOp a op b pos) (tF c W (m2 r ga gb)) := ⟨fun pins s σ H Q I h => wpAny_BinOp (run2 ha hb ho I h)⟩
theorem d_opB {i : Nat} {x : Str} {p : Pos} (ho : O2 c X (binaryOp op) r) (ha : PE X (.Name x p) (tVar i)) (hb : PE X b (tH c W gb)) : PE X (.BinOp (.Name x p) op b pos) (tF c W (m2B r i gb)) := ⟨fun pins s σ H Q I h => wpAny_BinOp (run2B ha hb ho I h)⟩
theorem d_cmp (ho : O2 c X (compareOp cop) r) (ha : PE X a (tF c W ga)) (hb : PE X b (tH c W gb)) (hm : behindInMarks cop b = false) : PE X (.Compare a [cop] [b] pos) (tF c W (m2 r ga gb)) := ⟨fun pins s σ H Q I h => wpAny_Compare1 (run2 ha hb ho I h) hm⟩
theorem d_cmpB {i : Nat} {x : Str} {p : Pos} (ho : O2 c X (compareOp cop) r) (ha : PE X (.Name x p) (tVar i)) (hb : PE X b (tH c W gb)) (hm : behindInMarks cop b = false) : PE X (.Compare (.Name x p) [cop] [b] pos) (tF c W (m2B r i gb)) := ⟨fun pins s σ H Q I h => wpAny_Compare1 (run2B ha hb ho I h) hm⟩
end
/-! ### tests -/
def asB : D → Option Bool
  | .bl b => some b
  | _ => none
def mB (g : M D) : M Bool := bd g fun d => opt (asB d)
section
variable {X : Cx} {c : Cfg} {W : WX} {a b e t0 : Expr} {ga gb : M D} {ta tb : M Bool} {pos : Pos} {rest : List Expr}
/-- as a test, where its value is a bool -/
theorem t_val (h : PE X e (tF c W ga)) (he : ∀ whole, isTrue e X.env whole = (do let v ← whole; standAt e.pos; holding [v] (truthy v)) := by intro _; rfl) : PT X e (tT c W (mB ga)) :=
  PTi (pt_val h he) fun σ H Q ⟨A, Z, F, ρ, at_, p⟩ => ⟨A, Z, F, ρ, at_, p.bind.imp fun d ρ' q v H' F' Z' a i s => by
    obtain ⟨k, q1, q2⟩ := q.opt
    cases d with
    | bl k' => cases q1; cases i; exact ⟨_, rfl, q2 H' F' Z' a s⟩
    | _ => cases q1⟩
/-- a comparison as a test -/
theorem t_cmp {r : D → D → Option D} {cop : CmpOp} (ho : O2 c X (compareOp cop) r) (ha : PE X a (tF c W ga)) (hb : PE X b (tH c W gb)) (hm : behindInMarks cop b = false) : PT X (.Compare a [cop] [b] pos) (tT c W (mB (m2 r ga gb))) := by
  refine ⟨fun pins s σ H Q I h => ?_⟩
  have h' : tF c W (m2 r ga gb) σ H (fun x H1 => ∃ k, x = .bl k ∧ Q k H1) := by
    obtain ⟨A, Z, F, ρ, at_, p⟩ := h
    refine ⟨A, Z, F, ρ, at_, p.bind.imp fun d ρ' q v H' F' Z' a i s => ?_⟩
    obtain ⟨k, q1, q2⟩ := q.opt
    cases d with
    | bl k' => cases q1; cases i; exact ⟨_, rfl, q2 H' F' Z' a s⟩
    | _ => cases q1
  refine wpAny_isTrue_Compare1 (thn (run2 ha hb ho I h') fun v s1 h1 => thn h1 fun u s2 h2 => thn h2 fun w s3 ⟨x, H3, I3, r3, k, ek, q3⟩ => ?_) hm
  subst ek
  cases r3
  exact wpAny_truthy_bool ⟨H3, I3, q3⟩
theorem t_cmpB {r : D → D → Option D} {cop : CmpOp} {i : Nat} {x : Str} {p : Pos} (ho : O2 c X (compareOp cop) r) (ha : PE X (.Name x p) (tVar i)) (hb : PE X b (tH c W gb)) (hm : behindInMarks cop b = false) : PT X (.Compare (.Name x p) [cop] [b] pos) (tT c W (mB (m2B r i gb))) := by
  refine ⟨fun pins s σ H Q I h => ?_⟩
  have h' : tF c W (m2B r i gb) σ H (fun x H1 => ∃ k, x = .bl k ∧ Q k H1) := by
    obtain ⟨A, Z, F, ρ, at_, p⟩ := h
    refine ⟨A, Z, F, ρ, at_, p.bind.imp fun d ρ' q v H' F' Z' a i s => ?_⟩
    obtain ⟨k, q1, q2⟩ := q.opt
    cases d with
    | bl k' => cases q1; cases i; exact ⟨_, rfl, q2 H' F' Z' a s⟩
    | _ => cases q1
  refine wpAny_isTrue_Compare1 (thn (run2B ha hb ho I h') fun v s1 h1 => thn h1 fun u s2 h2 => thn h2 fun w s3 ⟨x, H3, I3, r3, k, ek, q3⟩ => ?_) hm
  subst ek
  cases r3
  exact wpAny_truthy_bool ⟨H3, I3, q3⟩
/-! and, or, not -/
def mAnd (ta tb : M Bool) : M Bool := bd ta fun x => if x = true then tb else rt false
def mOr (ta tb : M Bool) : M Bool := bd ta fun x => if x = true then rt true else tb
def mNot (ta : M Bool) : M Bool := bd ta fun x => rt (!x)
theorem t_not (ha : PT X a (tT c W ta)) : PT X (.UnaryOp .Not a pos) (tT c W (mNot ta)) := PTi (pt_not ha) fun σ H Q ⟨A, Z, F, ρ, at_, p⟩ => ⟨A, Z, F, ρ, at_, p.bind.imp fun d ρ' q => q⟩
theorem w_and1 (ha : PT X a (tT c W ta)) : PW X (.BoolOp .And [a] pos) (tT c W ta) := pw_and1 ha
theorem w_or1 (ha : PT X a (tT c W ta)) : PW X (.BoolOp .Or [a] pos) (tT c W ta) := pw_or1 ha
theorem w_and (ha : PT X a (tT c W ta)) (hb : PW X (.BoolOp .And (b :: rest) pos) (tT c W tb)) : PW X (.BoolOp .And (a :: b :: rest) pos) (tT c W (mAnd ta tb)) :=
  PWi (pw_and ha hb) fun σ H Q ⟨A, Z, F, ρ, at_, p⟩ => ⟨A, Z, F, ρ, at_, p.bind.imp fun d ρ' q H1 F1 Z1 a1 s1 => by
    cases d with
    | true => rw [if_pos rfl]; exact ⟨A, Z1, F1, ρ', a1, (show Post c A W σ Z H F (tb ρ') (KT c A σ Z H F Q) from q).from_ s1 fun _ _ k => k.from_ s1⟩
    | false => rw [if_neg Bool.false_ne_true]; exact (show KT c A σ Z H F Q false ρ' from q) H1 F1 Z1 a1 s1⟩
theorem w_or (ha : PT X a (tT c W ta)) (hb : PW X (.BoolOp .Or (b :: rest) pos) (tT c W tb)) : PW X (.BoolOp .Or (a :: b :: rest) pos) (tT c W (mOr ta tb)) :=
  PWi (pw_or ha hb) fun σ H Q ⟨A, Z, F, ρ, at_, p⟩ => ⟨A, Z, F, ρ, at_, p.bind.imp fun d ρ' q H1 F1 Z1 a1 s1 => by
    cases d with
    | true => rw [if_pos rfl]; exact (show KT c A σ Z H F Q true ρ' from q) H1 F1 Z1 a1 s1
    | false => rw [if_neg Bool.false_ne_true]; exact ⟨A, Z1, F1, ρ', a1, (show Post c A W σ Z H F (tb ρ') (KT c A σ Z H F Q) from q).from_ s1 fun _ _ k => k.from_ s1⟩⟩
theorem t_w (h : PW X e (tT c W ta)) : PT X e (tT c W ta) := h.pt
/-! .. as values -/
def vAnd (ga gb : M D) : M D := bd (mB ga) fun x => if x = true then gb else rt (.bl false)
def vOr (ga gb : M D) : M D := bd (mB ga) fun x => if x = true then rt (.bl true) else gb
def vNot (ga : M D) : M D := bd (mB ga) fun x => rt (.bl (!x))
theorem v_one {o : BoolOp} (h : PE X a (tF c W ga)) : PE X (.BoolOp o [a] pos) (tF c W ga) := pe_one h
theorem bl_of {σ : L2.St} {Z : Zs} {A : Zs} {H F : Hp} {d : D} {ρ' : Env} {K : Bool → Env → Prop} (q : Post c A W σ Z H F (opt (asB d) ρ') K) : ∃ k, d = .bl k ∧ K k ρ' := by
  obtain ⟨k, q1, q2⟩ := q.opt
  cases d with
  | bl k' => cases q1; exact ⟨_, rfl, q2⟩
  | _ => cases q1
theorem v_and (ha : PE X a (tF c W ga)) (hb : PE X (.BoolOp .And (b :: rest) pos) (tF c W gb)) : PE X (.BoolOp .And (a :: b :: rest) pos) (tF c W (vAnd ga gb)) :=
  PEi (pe_and ha hb) fun σ H Q ⟨A, Z, F, ρ, at_, p⟩ => ⟨A, Z, F, ρ, at_, (p.bind.imp fun d ρ' q => q).bind.imp fun d ρ' q v H1 F1 Z1 a1 i s1 => by
    obtain ⟨k, e1, q1⟩ := bl_of q
    subst e1
    cases i
    refine ⟨k, rfl, ?_⟩
    cases k with
    | true => rw [if_pos rfl]; exact ⟨A, Z1, F1, ρ', a1, (show Post c A W σ Z H F (gb ρ') (KF c A σ Z H F Q) from q1).from_ s1 fun _ _ k => k.from_ s1⟩
    | false => rw [if_neg Bool.false_ne_true]; exact (show KF c A σ Z H F Q (.bl false) ρ' from q1) _ H1 F1 Z1 a1 (.bl false) s1⟩
theorem v_or (ha : PE X a (tF c W ga)) (hb : PE X (.BoolOp .Or (b :: rest) pos) (tF c W gb)) : PE X (.BoolOp .Or (a :: b :: rest) pos) (tF c W (vOr ga gb)) :=
  PEi (pe_or ha hb) fun σ H Q ⟨A, Z, F, ρ, at_, p⟩ => ⟨A, Z, F, ρ, at_, (p.bind.imp fun d ρ' q => q).bind.imp fun d ρ' q v H1 F1 Z1 a1 i s1 => by
    obtain ⟨k, e1, q1⟩ := bl_of q
    subst e1
    cases i
    refine ⟨k, rfl, ?_⟩
    cases k with
    | true => rw [if_pos rfl]; exact (show KF c A σ Z H F Q (.bl true) ρ' from q1) _ H1 F1 Z1 a1 (.bl true) s1
    | false => rw [if_neg Bool.false_ne_true]; exact ⟨A, Z1, F1, ρ', a1, (show Post c A W σ Z H F (gb ρ') (KF c A σ Z H F Q) from q1).from_ s1 fun _ _ k => k.from_ s1⟩⟩
theorem v_not (ha : PE X a (tF c W ga)) : PE X (.UnaryOp .Not a pos) (tF c W (vNot ga)) :=
  PEi (pe_not ha) fun σ H Q ⟨A, Z, F, ρ, at_, p⟩ => ⟨A, Z, F, ρ, at_, (p.bind.imp fun d ρ' q => q).bind.imp fun d ρ' q v H1 F1 Z1 a1 i s1 => by
    obtain ⟨k, e1, q1⟩ := bl_of q
    subst e1
    cases i
    exact ⟨k, rfl, (show KF c A σ Z H F Q (.bl (!k)) ρ' from q1) _ H1 F1 Z1 a1 (.bl (!k)) s1⟩⟩
def mIf (t : M Bool) (ga gb : M D) : M D := bd t fun x => if x = true then ga else gb
theorem d_if (ht : PT X t0 (tT c W ta)) (ha : PE X a (tF c W ga)) (hb : PE X b (tF c W gb)) : PE X (.IfExp t0 a b pos) (tF c W (mIf ta ga gb)) :=
  PEi (pe_ifExp ht ha hb) fun σ H Q ⟨A, Z, F, ρ, at_, p⟩ => ⟨A, Z, F, ρ, at_, p.bind.imp fun d ρ' q H1 F1 Z1 a1 s1 => by
    cases d with
    | true => rw [if_pos rfl]; exact ⟨A, Z1, F1, ρ', a1, (show Post c A W σ Z H F (ga ρ') (KF c A σ Z H F Q) from q).from_ s1 fun _ _ k => k.from_ s1⟩
    | false => rw [if_neg Bool.false_ne_true]; exact ⟨A, Z1, F1, ρ', a1, (show Post c A W σ Z H F (gb ρ') (KF c A σ Z H F Q) from q).from_ s1 fun _ _ k => k.from_ s1⟩⟩
end
/-! ### statements -/
def sq (g h : M Fl) : M Fl := bd g fun f => match f with
  | .nx => h
  | f => rt f
def sIf (t : M Bool) (g h : M Fl) : M Fl := bd t fun x => if x = true then g else h
def sRet (g : M D) : M Fl := bd g fun d => rt (.ret d)
def sDrop (g : M D) : M Fl := bd g fun _ => rt .nx
def setE (i : Nat) (e : Ent) : M Fl := fun ρ => if i < ρ.length then .ok .nx (ρ.set i e) else .stuck
def sSet (i : Nat) (g : M Ent) : M Fl := bd g fun e => setE i e
def sSetF (i : Nat) (g : M D) : M Fl := bd g fun d => setE i (.fz d)
section
variable {X : Cx} {c : Cfg} {W : WX} {st : Stmt} {rest : List Stmt} {e t0 : Expr} {g h : M Fl} {ge : M D} {ta : M Bool} {pos : Pos}
theorem s_nil : PSs X [] (tS c W (rt .nx)) := PSsi pss_nil fun Dn σ H ⟨A, Z, F, ρ, at_, p⟩ => p σ H F Z at_ .refl
theorem sq_post {Z A : Zs} {H F : Hp} {ρ : Env} {Dn : Ends} (p : PostS c A W Z H F (sq g h ρ) Dn) : PostS c A W Z H F (g ρ) { Dn with nx := tS c W h Dn } := by
  unfold sq bd at p
  cases q : g ρ with
  | ok f ρ1 =>
    rw [q] at p
    cases f with
    | nx => exact fun σ' H' F' Z' a s => ⟨A, Z', F', ρ1, a, PostS.from_ s p⟩
    | ret d => exact p
    | bk => exact p
    | ct => exact p
  | er k fs ρ1 => rw [q] at p; exact p
  | stuck => rw [q] at p; exact p
theorem s_cons (h1 : PS X st (tS c W g)) (h2 : PSs X rest (tS c W h)) : PSs X (st :: rest) (tS c W (sq g h)) := PSsi (pss_cons h1 h2) fun Dn σ H ⟨A, Z, F, ρ, at_, p⟩ => ⟨A, Z, F, ρ, at_, sq_post p⟩
theorem s_one (h1 : PS X st (tS c W g)) : PSs X [st] (tS c W g) := pss_one h1
theorem s_pass : PS X (.Pass pos) (tS c W (rt .nx)) := PSi ps_pass fun Dn σ H ⟨A, Z, F, ρ, at_, p⟩ => p σ H F Z at_ .refl
theorem s_break : PS X (.Break pos) (tS c W (rt .bk)) := PSi ps_break fun Dn σ H ⟨A, Z, F, ρ, at_, p⟩ => p σ H F Z at_ .refl
theorem s_cont : PS X (.Continue pos) (tS c W (rt .ct)) := PSi ps_continue fun Dn σ H ⟨A, Z, F, ρ, at_, p⟩ => p σ H F Z at_ .refl
/-- an expression's reading where its end is a statement's -/
theorem PostS.of {α : Type} {A Z : Zs} {H F : Hp} {m : M α} {k : α → M Fl} {ρ : Env} {Dn : Ends} {σ : L2.St} (p : PostS c A W Z H F (bd m k ρ) Dn) (fr : ∀ kk fs ρ', m ρ = .er kk fs ρ' → True) :
    Post c A W σ Z H F (m ρ) (fun a ρ' => PostS c A W Z H F (k a ρ') Dn) := by
  unfold bd at p
  cases q : m ρ with
  | ok a ρ1 => rw [q] at p; exact p
  | er kk fs ρ1 => rw [q] at p; exact fun dx H' F' Z' a x s => p dx σ H' F' Z' a x s
  | stuck => rw [q] at p; exact p
theorem s_if {a b : List Stmt} (ht : PT X t0 (tT c W ta)) (ha : PSs X a (tS c W g)) (hb : PSs X b (tS c W h)) : PS X (.If t0 a b pos) (tS c W (sIf ta g h)) :=
  PSi (ps_if ht ha hb) fun Dn σ H ⟨A, Z, F, ρ, at_, p⟩ => ⟨A, Z, F, ρ, at_, (PostS.of (σ := σ) p fun _ _ _ _ => trivial).imp fun d ρ' q H1 F1 Z1 a1 s1 => by
    cases d with
    | true => rw [if_pos rfl]; exact ⟨A, Z1, F1, ρ', a1, PostS.from_ s1 (show PostS c A W Z H F (g ρ') Dn from q)⟩
    | false => rw [if_neg Bool.false_ne_true]; exact ⟨A, Z1, F1, ρ', a1, PostS.from_ s1 (show PostS c A W Z H F (h ρ') Dn from q)⟩⟩
theorem s_ret (he : PE X e (tF c W ge)) : PS X (.Return (some e) pos) (tS c W (sRet ge)) :=
  PSi (ps_ret he) fun Dn σ H ⟨A, Z, F, ρ, at_, p⟩ => ⟨A, Z, F, ρ, at_, (PostS.of (σ := σ) p fun _ _ _ _ => trivial).imp fun d ρ' q v H1 F1 Z1 a1 i1 s1 => (show PostS c A W Z H F (.ok (.ret d) ρ') Dn from q) v σ H1 F1 Z1 a1 i1 s1⟩
theorem s_retN : PS X (.Return none pos) (tS c W (rt (.ret .non))) := PSi ps_retN fun Dn σ H ⟨A, Z, F, ρ, at_, p⟩ => (show PostS c A W Z H F (.ok (.ret .non) ρ) Dn from p) .non σ H F Z at_ .non .refl
theorem s_expr (he : PE X e (tF c W ge)) (hs : swapsWith e none pos.line X.env = pure false := by rfl) : PS X (.Expr e pos) (tS c W (sDrop ge)) :=
  PSi (ps_expr he hs) fun Dn σ H ⟨A, Z, F, ρ, at_, p⟩ => ⟨A, Z, F, ρ, at_, (PostS.of (σ := σ) p fun _ _ _ _ => trivial).imp fun d ρ' q v H1 F1 Z1 a1 i1 s1 => (show PostS c A W Z H F (.ok .nx ρ') Dn from q) σ H1 F1 Z1 a1 s1⟩
/-- a slot is stored -/
theorem set_post {A Z : Zs} {H F : Hp} {ρ : Env} {i : Nat} {en : Ent} {z : Option Addr} {v : V} {σ : L2.St} {Dn : Ends} (p : PostS c A W Z H F (setE i en ρ) Dn) {H1 F1 : Hp} {Z1 : Zs} (a : At c A Z1 H1 F1 σ ρ) (k : EntOk c F1 H1 z (some (some v)) none en)
    (w : ∀ b, z = some b → F1 b = none ∧ (∀ j, Z1 j ≠ some b) ∧ ((∃ i, Z i = some b) ∨ H b = none)) (s : Step Z H F Z1 H1 F1) : Dn.nx (σ.set i (some v)) H1 := by
  unfold setE at p
  by_cases hi : i < ρ.length
  · rw [if_pos hi] at p
    have k' : EntOk c F1 H1 z (some (some v)) (A i) en := by
      cases en with
      | no => exact k
      | fz d => exact k
      | ow l => exact k
      | pin l => obtain ⟨_, _, q, _⟩ := k; cases q
      | ob n l => obtain ⟨_, _, _, q, _⟩ := k; cases q
      | dc l => exact k
    refine p _ H1 F1 _ (a.set hi k' fun b hb => ⟨(w b hb).1, fun j _ => (w b hb).2.1 j⟩) ⟨s.keep, s.mono, fun j b q => ?_⟩
    by_cases e1 : j = i
    · subst e1; rw [put_same] at q; exact (w b q).2.2
    · rw [put_ne e1] at q; exact s.foot j b q
  · rw [if_neg hi] at p; exact p.elim
theorem s_set {i : Nat} {x : Str} {pos' : Pos} {ge : M Ent} (hN : X.N.Nodup) (hi : X.N[i]? = some x) (hx : Loc X.env.scope x) (he : PE X e (tE c W ge)) (hs : swapsWith e (some (.Name x pos')) pos.line X.env = pure false := by rfl)
    (hf : X.fn x = true ∨ X.env.scope.names.lookup x = some .local := by first | exact .inl rfl | exact .inr rfl | assumption) : PS X (.Assign [.Name x pos'] e pos) (tS c W (sSet i ge)) :=
  PSi (ps_set hN hi hx he hs hf) fun Dn σ H ⟨A, Z, F, ρ, at_, p⟩ => ⟨A, Z, F, ρ, at_, (PostS.of (σ := σ) p fun _ _ _ _ => trivial).imp fun en ρ' q v z H1 F1 Z1 a1 i1 w1 s1 => set_post q a1 i1 w1 s1⟩
theorem s_setF {i : Nat} {x : Str} {pos' : Pos} (hN : X.N.Nodup) (hi : X.N[i]? = some x) (hx : Loc X.env.scope x) (he : PE X e (tF c W ge)) (hs : swapsWith e (some (.Name x pos')) pos.line X.env = pure false := by rfl)
    (hf : X.fn x = true ∨ X.env.scope.names.lookup x = some .local := by first | exact .inl rfl | exact .inr rfl | assumption) : PS X (.Assign [.Name x pos'] e pos) (tS c W (sSetF i ge)) :=
  PSi (ps_set hN hi hx he hs hf) fun Dn σ H ⟨A, Z, F, ρ, at_, p⟩ => ⟨A, Z, F, ρ, at_, (PostS.of (σ := σ) p fun _ _ _ _ => trivial).imp fun d ρ' q v H1 F1 Z1 a1 i1 s1 => set_post q a1 (z := none) ⟨rfl, v, rfl, i1⟩ (fun _ q => nomatch q) s1⟩
end
end DL
end
section
set_option Elab.async false
set_option linter.all false
set_option maxRecDepth 100000
namespace DL
open PySem PySem.Spec L2
/-! ### plain data -/
mutual
def D.plain : D → Bool
  | .non | .bl _ | .int _ | .str _ => true
  | .tup l => D.plainL l
  | .lst l => D.plainL l
  | .dic _ | .obj _ _ | .scr _ => false
def D.plainL : List D → Bool
  | [] => true
  | x :: xs => D.plain x && D.plainL xs
end
mutual
def D.py : D → PyData
  | .non => .none
  | .bl b => .bool b
  | .int i => .int i
  | .str s => .str s
  | .tup l => .tuple (D.pyL l)
  | .lst l => .list (D.pyL l)
  | .dic _ | .obj _ _ | .scr _ => .none
def D.pyL : List D → List PyData
  | [] => []
  | x :: xs => D.py x :: D.pyL xs
end
mutual
theorem py_plain : ∀ d : D, d.plain = true → d.py.plain = true
  | .non, _ => rfl
  | .bl _, _ => rfl
  | .int _, _ => rfl
  | .str _, _ => rfl
  | .tup l, h => by simp only [D.py, PyData.plain]; exact pyL_plain l (by simpa [D.plain] using h)
  | .lst l, h => by simp only [D.py, PyData.plain]; exact pyL_plain l (by simpa [D.plain] using h)
  | .dic _, h => by simp [D.plain] at h
  | .obj _ _, h => by simp [D.plain] at h
  | .scr _, h => by simp [D.plain] at h
theorem pyL_plain : ∀ l : List D, D.plainL l = true → PyData.plainAll (D.pyL l) = true
  | [], _ => rfl
  | x :: xs, h => by
    have h' : x.plain = true ∧ D.plainL xs = true := by simpa [D.plainL] using h
    simp only [D.pyL, PyData.plainAll, py_plain x h'.1, pyL_plain xs h'.2, Bool.and_self]
end
section
variable {c : Cfg} {F H : Hp} (le : Le F H)
include le
mutual
theorem Is.dp : ∀ {v : V} {d : D}, Is c F v d → d.plain = true → Dp c.K H v d.py
  | _, _, .non, _ => .non
  | _, _, .bl b, _ => .bl b
  | _, _, .int i, _ => .int i
  | _, _, .str s, _ => .str s
  | _, _, .tup h l, p => .tup (le.sqT h) (IsL.dp l (by simpa [D.plain] using p))
  | _, _, .lst h l, p => .lst (.of (le _ _ h)) (IsL.dp l (by simpa [D.plain] using p))
  | _, _, .scr _, p => by simp [D.plain] at p
  | _, _, .dic _ _, p => by simp [D.plain] at p
  | _, _, .obj _ _, p => by simp [D.plain] at p
theorem IsL.dp : ∀ {v : List V} {d : List D}, IsL c F v d → D.plainL d = true → DpAll c.K H v (D.pyL d)
  | _, _, .nil, _ => .nil
  | _, _, .cons (d := x) (ds := xs) h l, p => by
    have h' : x.plain = true ∧ D.plainL xs = true := by simpa [D.plainL] using p
    exact .cons (Is.dp h h'.1) (IsL.dp l h'.2)
end
theorem Has.dp {v : V} {d : D} (h : Has c F H v d) (p : d.plain = true) : Dp c.K H v d.py := by
  cases d with
  | lst l => obtain ⟨a, vs, e, q, i⟩ := h; subst e; exact .lst (.of q) (i.dp le (by simpa [D.plain] using p))
  | dic l => simp [D.plain] at p
  | scr l => simp [D.plain] at p
  | obj k l => simp [D.plain] at p
  | non => exact Is.dp le h p
  | bl b => exact Is.dp le h p
  | int i => exact Is.dp le h p
  | str s => exact Is.dp le h p
  | tup l => exact Is.dp le h p
end
/-! ### arithmetic, texts, lists joined -/
def rAdd : D → D → Option D
  | .int i, .int j => some (.int (i + j))
  | .str x, .str y => if x.length + y.length ≤ sizeLine then some (.str (x ++ y)) else none
  | .lst x, .lst y => if x.length + y.length ≤ sizeLine then some (.lst (x ++ y)) else none
  | .tup x, .tup y => if x.length + y.length ≤ sizeLine then some (.tup (x ++ y)) else none
  | _, _ => none
def rSub : D → D → Option D
  | .int i, .int j => some (.int (i - j))
  | _, _ => none
def inW (i : Int) : Bool := decide (-(2 ^ 64) < i) && decide (i < 2 ^ 64)
def rMul : D → D → Option D
  | .int i, .int j => if inW i || inW j then some (.int (i * j)) else none
  | _, _ => none
def rDiv : D → D → Option D
  | .int i, .int j => if 0 < j ∧ j < 1073741824 then some (.int (i / j)) else none
  | _, _ => none
def rMod : D → D → Option D
  | .int i, .int j => if 0 < j then some (.int (i % j)) else none
  | _, _ => none
def rPow : D → D → Option D
  | .int i, .int j => if 0 ≤ j ∧ j ≤ 1000000 ∧ i.natAbs < 2 ^ 64 then some (.int (i ^ j.toNat)) else none
  | _, _ => none
def rLt : D → D → Option D
  | .int i, .int j => some (.bl (decide (i < j)))
  | _, _ => none
def rLe : D → D → Option D
  | .int i, .int j => some (.bl (decide (i ≤ j)))
  | _, _ => none
def rGt : D → D → Option D
  | .int i, .int j => some (.bl (decide (j < i)))
  | _, _ => none
def rGe : D → D → Option D
  | .int i, .int j => some (.bl (decide (j ≤ i)))
  | _, _ => none
def D.isNon : D → Bool
  | .non => true
  | _ => false
def rIsN : D → D → Option D
  | d, .non => some (.bl d.isNon)
  | _, _ => none
def rIsNotN : D → D → Option D
  | d, .non => some (.bl (!d.isNon))
  | _, _ => none
def okEq (x y : D) : Bool := x.plain && y.plain && decide (min x.py.depth y.py.depth ≤ 60)
def rEq (x y : D) : Option D := if okEq x y then some (.bl (PyData.eqv x.py y.py)) else none
def rNe (x y : D) : Option D := if okEq x y then some (.bl (!PyData.eqv x.py y.py)) else none
def strIn (x y : Str) : Bool := !(Builtin.Str.occurrences y x 0 y.length 1).isEmpty
def okIn (x : D) (l : List D) : Bool := x.plain && D.plainL l && decide (min (PyData.depthAll (D.pyL l)) x.py.depth ≤ 60)
def anyEq (x : D) (l : List D) : Bool := (D.pyL l).any fun y => PyData.eqv y x.py
def rInB (x y : D) : Option Bool := match y with
  | .str z => (match x with
    | .str s => some (strIn s z)
    | _ => none)
  | .lst l => if okIn x l then some (anyEq x l) else none
  | .tup l => if okIn x l then some (anyEq x l) else none
  | _ => none
def rIn (x y : D) : Option D := (rInB x y).map .bl
def rNotIn (x y : D) : Option D := (rInB x y).map fun b => .bl (!b)
section
variable {c : Cfg} {X : Cx}
theorem has_int {F H : Hp} {v : V} {i : Int} (h : Has c F H v (.int i)) : v = .int i := by cases (show Is c F v (.int i) from h); rfl
theorem has_str {F H : Hp} {v : V} {i : Str} (h : Has c F H v (.str i)) : v = .str i := by cases (show Is c F v (.str i) from h); rfl
theorem has_bl {F H : Hp} {v : V} {i : Bool} (h : Has c F H v (.bl i)) : v = .bl i := by cases (show Is c F v (.bl i) from h); rfl
theorem has_non {F H : Hp} {v : V} (h : Has c F H v .non) : v = .non := by cases (show Is c F v .non from h); rfl
theorem has_tup {F H : Hp} {v : V} {l : List D} (h : Has c F H v (.tup l)) : ∃ a vs, v = .ref a ∧ SqT c.K F a vs ∧ IsL c F vs l := by
  cases (show Is c F v (.tup l) from h) with
  | tup a b => exact ⟨_, _, rfl, a, b⟩
theorem has_obj {F H : Hp} {v : V} {k : Nat} {l : List (Str × D)} (h : Has c F H v (.obj k l)) : ∃ a dx vs, v = .ref a ∧ F a = some (.ins (c.cls k) dx vs) ∧ IsF c F vs l := by
  cases (show Is c F v (.obj k l) from h) with
  | obj a b => exact ⟨_, _, _, rfl, a, b⟩
theorem has_scr {F H : Hp} {v : V} {l : List Int} (h : Has c F H v (.scr l)) : ∃ a, v = .ref a ∧ SqL c.K F a (l.map V.int) := by
  cases (show Is c F v (.scr l) from h) with
  | scr a => exact ⟨_, rfl, a⟩
theorem oI0 {op : Value → Value → Sem Value} {g : Int → Int → V} {r : D → D → Option D} {gd : Int → Int → D} (h : OpR X op (rI0 g)) (hr : ∀ x y z, r x y = some z → ∃ i j, x = .int i ∧ y = .int j ∧ z = gd i j) (hg : ∀ i j F, Is c F (g i j) (gd i j)) : O2 c X op r :=
  .of h fun H F x y dx dy z Q le hx hy e q => by
    obtain ⟨i, j, rfl, rfl, rfl⟩ := hr _ _ _ e
    exact ⟨i, j, has_int hx, has_int hy, q _ H F (hg i j F) (.refl le)⟩
theorem o_sub : O2 c X (binaryOp .Sub) rSub := oI0 (gd := fun i j => .int (i - j)) op_sub (fun x y z h => by
  unfold rSub at h; split at h <;> cases h; exact ⟨_, _, rfl, rfl, rfl⟩) fun i j F => .int _
theorem o_lt : O2 c X (compareOp .Lt) rLt := oI0 (gd := fun i j => .bl (decide (i < j))) op_lt (fun x y z h => by
  unfold rLt at h; split at h <;> cases h; exact ⟨_, _, rfl, rfl, rfl⟩) fun i j F => .bl _
theorem o_le : O2 c X (compareOp .LtE) rLe := oI0 (gd := fun i j => .bl (decide (i ≤ j))) op_le (fun x y z h => by
  unfold rLe at h; split at h <;> cases h; exact ⟨_, _, rfl, rfl, rfl⟩) fun i j F => .bl _
theorem o_gt : O2 c X (compareOp .Gt) rGt := oI0 (gd := fun i j => .bl (decide (j < i))) op_gt (fun x y z h => by
  unfold rGt at h; split at h <;> cases h; exact ⟨_, _, rfl, rfl, rfl⟩) fun i j F => .bl _
theorem o_ge : O2 c X (compareOp .GtE) rGe := oI0 (gd := fun i j => .bl (decide (j ≤ i))) op_ge (fun x y z h => by
  unfold rGe at h; split at h <;> cases h; exact ⟨_, _, rfl, rfl, rfl⟩) fun i j F => .bl _
theorem oI {op : Value → Value → Sem Value} {C : Int → Int → Prop} {g : Int → Int → V} {r : D → D → Option D} {gd : Int → Int → D} (h : OpR X op (rI C g)) (hr : ∀ x y z, r x y = some z → ∃ i j, x = .int i ∧ y = .int j ∧ C i j ∧ z = gd i j) (hg : ∀ i j F, Is c F (g i j) (gd i j)) : O2 c X op r :=
  .of h fun H F x y dx dy z Q le hx hy e q => by
    obtain ⟨i, j, rfl, rfl, hc, rfl⟩ := hr _ _ _ e
    exact ⟨i, j, has_int hx, has_int hy, hc, q _ H F (hg i j F) (.refl le)⟩
theorem o_mul : O2 c X (binaryOp .Mult) rMul := oI (gd := fun i j => .int (i * j)) op_mul (fun x y z h => by
  unfold rMul at h; split at h
  · rename_i i j
    by_cases hc : (inW i || inW j) = true
    · rw [if_pos hc] at h; cases h
      refine ⟨i, j, rfl, rfl, ?_, rfl⟩
      rcases Bool.or_eq_true_iff.mp hc with q | q
      · obtain ⟨a, b⟩ := Bool.and_eq_true_iff.mp q; exact .inl ⟨of_decide_eq_true a, of_decide_eq_true b⟩
      · obtain ⟨a, b⟩ := Bool.and_eq_true_iff.mp q; exact .inr ⟨of_decide_eq_true a, of_decide_eq_true b⟩
    · rw [if_neg hc] at h; cases h
  · cases h) fun i j F => .int _
theorem o_div : O2 c X (binaryOp .FloorDiv) rDiv := oI (gd := fun i j => .int (i / j)) op_fdiv (fun x y z h => by
  unfold rDiv at h; split at h
  · rename_i i j
    by_cases hc : 0 < j ∧ j < 1073741824
    · rw [if_pos hc] at h; cases h; exact ⟨i, j, rfl, rfl, hc, rfl⟩
    · rw [if_neg hc] at h; cases h
  · cases h) fun i j F => .int _
theorem o_mod : O2 c X (binaryOp .Mod) rMod := oI (gd := fun i j => .int (i % j)) op_mod (fun x y z h => by
  unfold rMod at h; split at h
  · rename_i i j
    by_cases hc : 0 < j
    · rw [if_pos hc] at h; cases h; exact ⟨i, j, rfl, rfl, hc, rfl⟩
    · rw [if_neg hc] at h; cases h
  · cases h) fun i j F => .int _
theorem o_pow : O2 c X (binaryOp .Pow) rPow := oI (gd := fun i j => .int (i ^ j.toNat)) op_pow (fun x y z h => by
  unfold rPow at h; split at h
  · rename_i i j
    by_cases hc : 0 ≤ j ∧ j ≤ 1000000 ∧ i.natAbs < 2 ^ 64
    · rw [if_pos hc] at h; cases h; exact ⟨i, j, rfl, rfl, hc, rfl⟩
    · rw [if_neg hc] at h; cases h
  · cases h) fun i j F => .int _
theorem o_add (hK : X.K = c.K) : O2 c X (binaryOp .Add) rAdd := by
  intro pins s σ H F x y dx dy v u z Q I le rx ry hx hy e q
  unfold rAdd at e
  split at e
  · cases e
    exact op_add pins s σ H x y v u Q I rx ry ⟨_, _, has_int hx, has_int hy, q _ H F (.int _) (.refl le)⟩
  · rename_i a b
    by_cases hz : a.length + b.length ≤ sizeLine
    · rw [if_pos hz] at e; cases e
      exact op_add_str pins s σ H x y v u Q I rx ry ⟨_, _, has_str hx, has_str hy, hz, q _ H F (.str _) (.refl le)⟩
    · rw [if_neg hz] at e; cases e
  · rename_i a b
    by_cases hz : a.length + b.length ≤ sizeLine
    · rw [if_pos hz] at e; cases e
      obtain ⟨p1, vs, rfl, h1, i1⟩ := hx
      obtain ⟨p2, ws, rfl, h2, i2⟩ := hy
      exact op_cat pins s σ H _ _ v u Q I rx ry ⟨p1, p2, vs, ws, rfl, rfl, h1, h2, by rw [i1.length, i2.length]; exact hz, fun p hp =>
        q _ _ _ (.lst upd_same ((i1.append i2).mono (le_upd (none_of_le le hp)))) (.new le hp)⟩
    · rw [if_neg hz] at e; cases e
  · rename_i a b
    by_cases hz : a.length + b.length ≤ sizeLine
    · rw [if_pos hz] at e; cases e
      obtain ⟨p1, vs, rfl, h1, i1⟩ := has_tup hx
      obtain ⟨p2, ws, rfl, h2, i2⟩ := has_tup hy
      refine op_catA pins s σ H _ _ v u Q I rx ry ⟨p1, p2, vs, ws, rfl, rfl, by rw [hK]; exact le.sqT h1, by rw [hK]; exact le.sqT h2, by rw [i1.length, i2.length]; exact hz, fun e1 => ?_, fun e1 e2 => ?_, fun e1 e2 p hp => ?_⟩
      · subst e1; cases i1; exact q _ H F (.tup h2 i2) (.refl le)
      · subst e2; cases i2; rw [List.append_nil] at q; exact q _ H F (.tup h1 i1) (.refl le)
      · exact q _ _ _ (.tup (.of upd_same) ((i1.append i2).mono (le_upd (none_of_le le hp)))) (.new le hp)
    · rw [if_neg hz] at e; cases e
  · cases e
end
end DL
end
section
set_option Elab.async false
set_option linter.all false
set_option maxRecDepth 100000
namespace DL
open PySem PySem.Spec L2
section
variable {c : Cfg} {X : Cx}
theorem fresh_foot {Z Z' : Zs} {H F H' F' : Hp} {p : Addr} (s : Step Z H F Z' H' F') (n : H' p = none) : (∃ i, Z i = some p) ∨ H p = none := by
  cases e0 : H p with
  | none => exact .inr rfl
  | some o =>
    by_cases w : ∃ i, Z i = some p
    · exact .inl w
    · have := (s.keep p o e0 (fun i z => w ⟨i, z⟩)).1
      rw [n] at this; cases this
theorem okEq_of {x y : D} (h : okEq x y = true) : x.plain = true ∧ y.plain = true ∧ min x.py.depth y.py.depth ≤ 60 := by
  unfold okEq at h
  obtain ⟨h1, h2⟩ := Bool.and_eq_true_iff.mp h
  obtain ⟨h3, h4⟩ := Bool.and_eq_true_iff.mp h1
  exact ⟨h3, h4, of_decide_eq_true h2⟩
theorem o_eq (hu : X.A.units + 64 < cLine) (hK : X.K = c.K) : O2 c X (compareOp .Eq) rEq := by
  intro pins s σ H F x y dx dy v u z Q I le rx ry hx hy e q
  unfold rEq at e
  by_cases hc : okEq dx dy = true
  · rw [if_pos hc] at e; cases e
    obtain ⟨p1, p2, hd⟩ := okEq_of hc
    have d1 := hx.dp le p1
    have d2 := hy.dp le p2
    rw [← hK] at d1 d2
    obtain ⟨as, r1⟩ := Dp.reads I _ _ _ d1 rx
    obtain ⟨bs, r2⟩ := Dp.reads I _ _ _ d2 ry
    exact SeqAt.eq_plain r1 r2 (py_plain _ p1) (py_plain _ p2) (by omega) ⟨.bl _, H, I, rfl, q _ H F (.bl _) (.refl le)⟩
  · rw [if_neg hc] at e; cases e
theorem o_ne (hu : X.A.units + 64 < cLine) (hK : X.K = c.K) : O2 c X (compareOp .NotEq) rNe := by
  intro pins s σ H F x y dx dy v u z Q I le rx ry hx hy e q
  unfold rNe at e
  by_cases hc : okEq dx dy = true
  · rw [if_pos hc] at e; cases e
    obtain ⟨p1, p2, hd⟩ := okEq_of hc
    have d1 := hx.dp le p1
    have d2 := hy.dp le p2
    rw [← hK] at d1 d2
    obtain ⟨as, r1⟩ := Dp.reads I _ _ _ d1 rx
    obtain ⟨bs, r2⟩ := Dp.reads I _ _ _ d2 ry
    exact SeqAt.ne_plain r1 r2 (py_plain _ p1) (py_plain _ p2) (by omega) ⟨.bl _, H, I, rfl, q _ H F (.bl _) (.refl le)⟩
  · rw [if_neg hc] at e; cases e
theorem okIn_of {x : D} {l : List D} (h : okIn x l = true) : x.plain = true ∧ D.plainL l = true ∧ min (PyData.depthAll (D.pyL l)) x.py.depth ≤ 60 := by
  unfold okIn at h
  obtain ⟨h1, h2⟩ := Bool.and_eq_true_iff.mp h
  obtain ⟨h3, h4⟩ := Bool.and_eq_true_iff.mp h1
  exact ⟨h3, h4, of_decide_eq_true h2⟩
theorem inB_cases {x y : D} {b : Bool} (h : rInB x y = some b) : (∃ s z, x = .str s ∧ y = .str z ∧ b = strIn s z) ∨ (∃ l, y = .lst l ∧ okIn x l = true ∧ b = anyEq x l) ∨ (∃ l, y = .tup l ∧ okIn x l = true ∧ b = anyEq x l) := by
  unfold rInB at h
  split at h
  · split at h
    · cases h; exact .inl ⟨_, _, rfl, rfl, rfl⟩
    · cases h
  · rename_i l
    by_cases hc : okIn x l = true
    · rw [if_pos hc] at h; cases h; exact .inr (.inl ⟨_, rfl, hc, rfl⟩)
    · rw [if_neg hc] at h; cases h
  · rename_i l
    by_cases hc : okIn x l = true
    · rw [if_pos hc] at h; cases h; exact .inr (.inr ⟨_, rfl, hc, rfl⟩)
    · rw [if_neg hc] at h; cases h
  · cases h
theorem o_in (hu : X.A.units + 64 < cLine) (hK : X.K = c.K) : O2 c X (compareOp .In) rIn := by
  intro pins s σ H F x y dx dy v u z Q I le rx ry hx hy e q
  unfold rIn at e
  obtain ⟨b, e1, rfl⟩ := Option.map_eq_some_iff.mp e
  rcases inB_cases e1 with ⟨s1, z1, rfl, rfl, rfl⟩ | ⟨l, rfl, hc, rfl⟩ | ⟨l, rfl, hc, rfl⟩
  · exact op_in_str pins s σ H x y v u Q I rx ry ⟨_, _, has_str hx, has_str hy, q _ H F (.bl _) (.refl le)⟩
  · obtain ⟨p1, p2, hd⟩ := okIn_of hc
    have d1 := hx.dp le p1
    have d2 := hy.dp le (by simpa [D.plain] using p2)
    rw [← hK] at d1 d2
    obtain ⟨as, r1⟩ := Dp.reads I _ _ _ d1 rx
    obtain ⟨bs, r2⟩ := Dp.reads I _ _ _ d2 ry
    exact SeqAt.in_list_data r2 r1 (pyL_plain _ p2) (py_plain _ p1) (by omega) ⟨.bl _, H, I, rfl, q _ H F (.bl _) (.refl le)⟩
  · obtain ⟨p1, p2, hd⟩ := okIn_of hc
    have d1 := hx.dp le p1
    have d2 := hy.dp le (by simpa [D.plain] using p2)
    rw [← hK] at d1 d2
    obtain ⟨as, r1⟩ := Dp.reads I _ _ _ d1 rx
    obtain ⟨bs, r2⟩ := Dp.reads I _ _ _ d2 ry
    exact SeqAt.in_tuple_data r2 r1 (pyL_plain _ p2) (py_plain _ p1) (by omega) ⟨.bl _, H, I, rfl, q _ H F (.bl _) (.refl le)⟩
theorem o_notIn (hu : X.A.units + 64 < cLine) (hK : X.K = c.K) : O2 c X (compareOp .NotIn) rNotIn := by
  intro pins s σ H F x y dx dy v u z Q I le rx ry hx hy e q
  unfold rNotIn at e
  obtain ⟨b, e1, rfl⟩ := Option.map_eq_some_iff.mp e
  rcases inB_cases e1 with ⟨s1, z1, rfl, rfl, rfl⟩ | ⟨l, rfl, hc, rfl⟩ | ⟨l, rfl, hc, rfl⟩
  · exact L2.op_notin_str pins s σ H x y v u Q I rx ry ⟨_, _, has_str hx, has_str hy, q _ H F (.bl _) (.refl le)⟩
  · obtain ⟨p1, p2, hd⟩ := okIn_of hc
    have d1 := hx.dp le p1
    have d2 := hy.dp le (by simpa [D.plain] using p2)
    rw [← hK] at d1 d2
    obtain ⟨as, r1⟩ := Dp.reads I _ _ _ d1 rx
    obtain ⟨bs, r2⟩ := Dp.reads I _ _ _ d2 ry
    exact SeqAt.notIn_list_data r2 r1 (pyL_plain _ p2) (py_plain _ p1) (by omega) ⟨.bl _, H, I, rfl, q _ H F (.bl _) (.refl le)⟩
  · obtain ⟨p1, p2, hd⟩ := okIn_of hc
    have d1 := hx.dp le p1
    have d2 := hy.dp le (by simpa [D.plain] using p2)
    rw [← hK] at d1 d2
    obtain ⟨as, r1⟩ := Dp.reads I _ _ _ d1 rx
    obtain ⟨bs, r2⟩ := Dp.reads I _ _ _ d2 ry
    exact SeqAt.notIn_tuple_data r2 r1 (pyL_plain _ p2) (py_plain _ p1) (by omega) ⟨.bl _, H, I, rfl, q _ H F (.bl _) (.refl le)⟩
theorem isNon_eq {F H : Hp} {v : V} {d : D} (h : Has c F H v d) : decide (v = .non) = d.isNon := by
  cases d with
  | lst l => obtain ⟨a, vs, e, _⟩ := h; subst e; rfl
  | dic l => obtain ⟨a, vs, e, _⟩ := h; subst e; rfl
  | non => rw [has_non h]; rfl
  | bl b => rw [has_bl h]; rfl
  | int b => rw [has_int h]; rfl
  | str b => rw [has_str h]; rfl
  | tup b => obtain ⟨a, vs, e, _⟩ := has_tup h; subst e; rfl
  | obj k b => obtain ⟨a, dx, vs, e, _⟩ := has_obj h; subst e; rfl
  | scr b => obtain ⟨a, e, _⟩ := has_scr h; subst e; rfl
theorem o_isN : O2 c X (compareOp .Is) rIsN := .of op_isN fun H F x y dx dy z Q le hx hy e q => by
  cases dy with
  | non => cases e; exact ⟨has_non hy, by rw [isNon_eq hx]; exact q _ H F (.bl _) (.refl le)⟩
  | _ => cases dx <;> cases e
theorem o_notN : O2 c X (compareOp .IsNot) rIsNotN := .of op_notN fun H F x y dx dy z Q le hx hy e q => by
  cases dy with
  | non => cases e; exact ⟨has_non hy, by rw [isNon_eq hx]; exact q _ H F (.bl _) (.refl le)⟩
  | _ => cases dx <;> cases e
/-! ### items, slices -/
def rIx : D → D → Option D
  | .lst l, .int i => atI l i
  | .tup l, .int i => atI l i
  | .scr l, .int i => (atI l i).map .int
  | .str s, .int i => if s.length ≤ sizeLine then (atI s.cps.toList i).map fun z => .str ⟨#[z]⟩ else none
  | _, _ => none
theorem atI_is {F : Hp} {vs : List V} {ds : List D} {i : Int} {d : D} (h : IsL c F vs ds) (e : atI ds i = some d) : ∃ v, atI vs i = some v ∧ Is c F v d := by
  unfold atI at e ⊢
  rw [h.length]
  cases q : ixN ds.length i with
  | none => rw [q] at e; cases e
  | some j =>
    rw [q] at e
    exact h.getD e
theorem o_ix {a b : Expr} (hK : X.K = c.K) (hs : PlainIx b) : O2 c X (PyProof.Rows.subscriptTail a b) rIx := by
  intro pins s σ H F x y dx dy v u z Q I le rx ry hx hy e q
  unfold rIx at e
  split at e
  · obtain ⟨p, vs, rfl, hp, il⟩ := hx
    obtain ⟨w, hw, iw⟩ := atI_is il e
    exact ix_list a b pins s σ H _ y v u Q I rx ry ⟨p, vs, _, w, rfl, has_int hy, .of hp, hw, q _ H F iw (.refl le)⟩ (hs _ _)
  · obtain ⟨p, vs, rfl, hp, il⟩ := has_tup hx
    obtain ⟨w, hw, iw⟩ := atI_is il e
    exact ix_tup a b pins s σ H _ y v u Q I rx ry ⟨p, vs, _, w, rfl, has_int hy, by rw [hK]; exact le.sqT hp, hw, q _ H F iw (.refl le)⟩ (hs _ _)
  · rename_i l i
    obtain ⟨p, rfl, hp⟩ := has_scr hx
    obtain ⟨n, e1, rfl⟩ := Option.map_eq_some_iff.mp e
    have e2 : atI (l.map V.int) i = some (V.int n) := by
      unfold atI at e1 ⊢
      rw [List.length_map]
      cases q : ixN l.length i with
      | none => rw [q] at e1; cases e1
      | some j =>
        rw [q] at e1
        have e1' : l[j]? = some n := e1
        show (l.map V.int)[j]? = _
        rw [List.getElem?_map, e1']; rfl
    exact ix_list a b pins s σ H _ y v u Q I rx ry ⟨p, _, _, _, rfl, has_int hy, by rw [hK]; exact le.sqL hp, e2, q _ H F (.int n) (.refl le)⟩ (hs _ _)
  · rename_i t i
    by_cases hz : t.length ≤ sizeLine
    · rw [if_pos hz] at e
      obtain ⟨n, e1, rfl⟩ := Option.map_eq_some_iff.mp e
      exact ix_str a b pins s σ H x y v u Q I rx ry ⟨_, _, n, has_str hx, has_int hy, hz, e1, q _ H F (.str _) (.refl le)⟩ (hs _ _)
    · rw [if_neg hz] at e; cases e
  · cases e
section
variable {W : WX} {a b lo hi : Expr} {ga gb gl gh : M D} {pos p2 p : Pos}
theorem d_ix (hK : X.K = c.K) (ha : PE X a (tF c W ga)) (hb : PE X b (tH c W gb)) (hs : PlainIx b := by intro _ _; rfl) : PE X (.Subscript a b pos) (tF c W (m2 rIx ga gb)) :=
  ⟨fun pins s σ H Q I h => PyProof.Rows.Subscript_ (run2 ha hb (o_ix hK hs) I h)⟩
theorem d_ixB {i : Nat} {x : Str} (hK : X.K = c.K) (ha : PE X (.Name x p) (tVar i)) (hb : PE X b (tH c W gb)) (hs : PlainIx b := by intro _ _; rfl) : PE X (.Subscript (.Name x p) b pos) (tF c W (m2B rIx i gb)) :=
  ⟨fun pins s σ H Q I h => PyProof.Rows.Subscript_ (run2B ha hb (o_ix hK hs) I h)⟩
/-- a slice's part -/
def asI : D → Option Int
  | .int i => some i
  | _ => none
def tO (c : Cfg) (W : WX) (g : M (Option Int)) : L2.St → Hp → (Option Int → Hp → Prop) → Prop := fun σ H Q => ∃ A Z F ρ, At c A Z H F σ ρ ∧ Post c A W σ Z H F (g ρ) (fun o ρ' => ∀ H' F' Z', At c A Z' H' F' σ ρ' → Step Z H F Z' H' F' → Q o H')
theorem POi {e : Option Expr} {t t' : L2.St → Hp → (Option Int → Hp → Prop) → Prop} (h : PO X e t) (k : ∀ σ H Q, t' σ H Q → t σ H Q) : PO X e t' := ⟨fun pins s σ H Q I q => h.run pins s σ H Q I (k σ H Q q)⟩
theorem o_none : PO X none (tO c W (rt none)) := POi po_none fun σ H Q ⟨A, Z, F, ρ, at_, p⟩ => p H F Z at_ .refl
theorem o_some (h : PE X a (tF c W ga)) : PO X (some a) (tO c W (bd ga fun d => bd (opt (asI d)) fun i => rt (some i))) := POi (po_some h) fun σ H Q ⟨A, Z, F, ρ, at_, p⟩ =>
  ⟨A, Z, F, ρ, at_, p.bind.imp fun d ρ' q v H' F' Z' a i s => by
    cases d with
    | int n => cases i; exact ⟨n, rfl, q H' F' Z' a s⟩
    | _ => exact (show False from q).elim⟩
def cutL {α : Type} (xs : List α) (lo hi : Option Int) : List α := (xs.drop (HT.sIx xs.length 0 lo)).take (HT.sIx xs.length xs.length hi - HT.sIx xs.length 0 lo)
theorem cutL_is {F : Hp} {vs : List V} {ds : List D} (h : IsL c F vs ds) (lo hi : Option Int) : IsL c F (cutV vs lo hi) (cutL ds lo hi) := by
  unfold cutV cutL
  rw [h.length]
  exact (h.drop _).take _
def rCut (d : D) (lo hi : Option Int) : Option D := match d with
  | .lst l => some (.lst (cutL l lo hi))
  | .tup l => some (.tup (cutL l lo hi))
  | .str s => if s.length ≤ sizeLine then some (.str (cutS s lo hi)) else none
  | _ => none
def mCut (ga : M D) (gl gh : M (Option Int)) : M D := bd ga fun x => bd gl fun lo => bd gh fun hi => opt (rCut x lo hi)
theorem cutL_whole {α : Type} {xs : List α} {lo hi : Option Int} (h : HT.sIx xs.length 0 lo = 0 ∧ HT.sIx xs.length xs.length hi = xs.length) : cutL xs lo hi = xs := by
  unfold cutL
  rw [h.1, h.2]
  simp
theorem sl_ok (hK : X.K = c.K) : SlR X (fun x lo hi H Q => ∃ F d z, Le F H ∧ Has c F H x d ∧ rCut d lo hi = some z ∧ ∀ x' H' F', Is c F' x' z → Grow H F H' F' → Q x' H') := by
  intro pins s σ H x v vl vu lo hi sl Q I rx hs pl pu h
  obtain ⟨F, d, z, le, hx, e, q⟩ := h
  unfold rCut at e
  split at e
  · cases e
    obtain ⟨p, vs, rfl, hp, il⟩ := hx
    exact sl_list pins s σ H _ v vl vu lo hi sl Q I rx hs pl pu ⟨p, vs, rfl, .of hp, fun r hr => q _ _ _ (.lst upd_same ((cutL_is il lo hi).mono (le_upd (none_of_le le hr)))) (.new le hr)⟩
  · cases e
    obtain ⟨p, vs, rfl, hp, il⟩ := has_tup hx
    refine sl_tupA pins s σ H _ v vl vu lo hi sl Q I rx hs pl pu ⟨p, vs, rfl, by rw [hK]; exact le.sqT hp, fun w => ?_, fun w r hr => ?_⟩
    · refine q _ H F ?_ (.refl le)
      rw [cutL_whole (by rw [← il.length]; exact w)]
      exact .tup hp il
    · exact q _ _ _ (.tup (.of upd_same) ((cutL_is il lo hi).mono (le_upd (none_of_le le hr)))) (.new le hr)
  · rename_i t
    by_cases hz : t.length ≤ sizeLine
    · rw [if_pos hz] at e; cases e
      exact sl_str pins s σ H x v vl vu lo hi sl Q I rx hs pl pu ⟨t, has_str hx, hz, q _ H F (.str _) (.refl le)⟩
    · rw [if_neg hz] at e; cases e
  · cases e
theorem d_cut {lo hi : Option Expr} {gl gh : M (Option Int)} (hK : X.K = c.K) (ha : PE X a (tF c W ga)) (hl : PO X lo (tO c W gl)) (hh : PO X hi (tO c W gh)) : PE X (.Subscript a (.Slice lo hi none p2) pos) (tF c W (mCut ga gl gh)) :=
  PEi (pe_slice (sl_ok hK) ha hl hh) fun σ H Q ⟨A, Z, F, ρ, at_, p⟩ => ⟨A, Z, F, ρ, at_, p.bind.imp fun d ρ1 q v H1 F1 Z1 a1 i1 s1 =>
    ⟨A, Z1, F1, ρ1, a1, (Post.bind q).from_ s1 fun l ρ2 q2 H2 F2 Z2 a2 s2 =>
      ⟨A, Z2, F2, ρ2, a2, (Post.bind q2).from_ (s1.trans s2) fun u ρ3 q3 H3 F3 Z3 a3 s3 => by
        obtain ⟨z, e, k⟩ := q3.opt
        exact ⟨F3, d, z, a3.sub, (i1.mono (s2.mono.trans s3.mono)).has a3.sub, e, fun x' H' F' i g => (k.from_ (s1.trans (s2.trans s3))).grow a3 g i⟩⟩⟩⟩
/-! ### calls of built-ins with one value -/
/-- what comes of one value, frozen -/
def rN (c : Cfg) (r : D → Option D) : List V → Hp → VK → Prop := fun xs H Q => ∃ F x d z, xs = [x] ∧ Le F H ∧ Has c F H x d ∧ r d = some z ∧ ∀ x' H' F', Is c F' x' z → Grow H F H' F' → Q x' H'
/-- .. a new list -/
def rNe1 (c : Cfg) (r : D → Option (List D)) : List V → Hp → VK → Prop := fun xs H Q => ∃ F x d l, xs = [x] ∧ Le F H ∧ Has c F H x d ∧ r d = some l ∧ ∀ p vs H1 F1, Grow H F H1 F1 → H1 p = none → IsL c F1 vs l → Q (.ref p) (upd H1 p (.lst vs))
theorem CallR.imp {f : Value} {r r' : List V → Hp → VK → Prop} (h : CallR X f r) (k : ∀ xs H Q, r' xs H Q → r xs H Q) : CallR X f r' := fun pins s σ H xs us Q I rv q => h pins s σ H xs us Q I rv (k xs H Q q)
variable {id T : String} {x : Str} {r : D → Option D} {rl : D → Option (List D)}
def m1 (r : D → Option D) (ga : M D) : M D := bd ga fun d => opt (r d)
def m1l (r : D → Option (List D)) (ga : M D) : M Ent := bd ga fun d => bd (opt (r d)) fun l => rt (.ow l)
theorem rd1 (ha : PE X a (tH c W ga)) (σ : L2.St) (H : Hp) (Q : VK) (h : tF c W (m1 r ga) σ H Q) : tCB (rN c r) (tCons (tH c W ga) tNil) σ H Q := by
  obtain ⟨A, Z, F, ρ, at_, p⟩ := h
  exact ⟨A, Z, F, ρ, at_, p.bind.imp fun d ρ1 q v H1 F1 Z1 a1 i1 s1 => by
    obtain ⟨z, e, k⟩ := q.opt
    exact ⟨F1, v, d, z, rfl, a1.sub, i1, e, fun x' H' F' i g => (k.from_ s1).grow a1 g i⟩⟩
theorem rd1l (ha : PE X a (tH c W ga)) (σ : L2.St) (H : Hp) (Q : VK) (h : tE c W (m1l rl ga) σ H Q) : tCB (rNe1 c rl) (tCons (tH c W ga) tNil) σ H Q := by
  obtain ⟨A, Z, F, ρ, at_, p⟩ := h
  refine ⟨A, Z, F, ρ, at_, p.bind.imp fun d ρ1 q v H1 F1 Z1 a1 i1 s1 => ?_⟩
  obtain ⟨l, e, k⟩ := (Post.bind q).opt
  refine ⟨F1, v, d, l, rfl, a1.sub, i1, e, fun p vs H2 F2 g n il => ?_⟩
  have a2 := a1.grow g
  have s2 := s1.trans (Step.grow g a1.sub)
  have np : ∀ j, Z1 j ≠ some p := fun j z => by obtain ⟨o, ho⟩ := a2.there z; rw [n] at ho; cases ho
  have hp0 := fresh_foot s2 n
  exact (show KE c A σ Z H F Q (.ow l) ρ1 from k) (.ref p) (some p) _ F2 Z1 (a2.grow (.lay a2.sub n)) ⟨p, vs, rfl, rfl, upd_same, il⟩
    (fun b hb => by cases hb; exact ⟨none_of_le a2.sub n, np, hp0⟩) (s2.trans (Step.grow (.lay a2.sub n) a2.sub))
end
end
end DL
end
section
set_option Elab.async false
set_option linter.all false
set_option maxRecDepth 100000
namespace DL
open PySem PySem.Spec L2
/-! ### argument lists, displays -/
def mNil : M (List D) := rt []
def mCons (g : M D) (gs : M (List D)) : M (List D) := bd g fun d => bd gs fun ds => rt (d :: ds)
section
variable {X : Cx} {c : Cfg} {W : WX} {e a b : Expr} {es : List Expr} {g ga gb : M D} {gs : M (List D)} {pos p : Pos}
theorem a_nil : PA X [] (tFs c W mNil) := PAi pa_nil fun σ H Q ⟨A, Z, F, ρ, at_, p⟩ => p [] H F Z at_ .nil .refl
theorem a_cons (ha : PE X e (tF c W g)) (hr : PA X es (tFs c W gs)) (hs : starEach (e :: es) X.env = (false, eval e X.env) :: starEach es X.env := by rfl) : PA X (e :: es) (tFs c W (mCons g gs)) :=
  PAi (pa_cons ha hr hs) fun σ H Q ⟨A, Z, F, ρ, at_, p⟩ => ⟨A, Z, F, ρ, at_, p.bind.imp fun d ρ1 q v H1 F1 Z1 a1 i1 s1 =>
    ⟨A, Z1, F1, ρ1, a1, (Post.bind q).from_ s1 fun ds ρ2 k vs H2 F2 Z2 a2 i2 s2 => (show KFs c A σ Z H F Q (d :: ds) ρ2 from k) (v :: vs) H2 F2 Z2 a2 (.cons (i1.mono s2.mono) i2) (s1.trans s2)⟩⟩
def short (ds : List D) : Option (List D) := if ds.length ≤ 1000 then some ds else none
theorem short_le {ds l : List D} (h : short ds = some l) : l = ds ∧ ds.length ≤ sizeLine := by
  unfold short at h
  by_cases q : ds.length ≤ 1000
  · rw [if_pos q] at h; cases h
    exact ⟨rfl, Nat.le_trans q (by decide)⟩
  · rw [if_neg q] at h; cases h
def mTup (gs : M (List D)) : M D := bd gs fun ds => bd (opt (short ds)) fun l => rt (.tup l)
def mLst (gs : M (List D)) : M Ent := bd gs fun ds => bd (opt (short ds)) fun l => rt (.ow l)
theorem d_tup {x1} (h : PA X es (tFs c W gs)) : PE X (.Tuple es x1 pos) (tF c W (mTup gs)) := PEi (pe_tup h) fun σ H Q ⟨A, Z, F, ρ, at_, p⟩ =>
  ⟨A, Z, F, ρ, at_, p.bind.imp fun ds ρ1 q vs H1 F1 Z1 a1 i1 s1 => by
    obtain ⟨l, e, k⟩ := (Post.bind q).opt
    obtain ⟨rfl, hz⟩ := short_le e
    exact ⟨by rw [i1.length]; exact hz, fun r hr => ((show KF c A σ Z H F Q (.tup l) ρ1 from k).from_ s1).grow a1 (.new a1.sub hr) (.tup (.of upd_same) (i1.mono (le_upd (none_of_le a1.sub hr))))⟩⟩
/-- a new list at r -/
theorem KE.new {A Z Z1 : Zs} {σ : L2.St} {H F H1 F1 : Hp} {Q : VK} {l : List D} {ρ1 : Env} {vs : List V} {r : Addr} (k : KE c A σ Z H F Q (.ow l) ρ1) (a1 : At c A Z1 H1 F1 σ ρ1) (s1 : Step Z H F Z1 H1 F1) (i1 : IsL c F1 vs l) (hr : H1 r = none) :
    Q (.ref r) (upd H1 r (.lst vs)) :=
  k (.ref r) (some r) _ F1 Z1 (a1.grow (.lay a1.sub hr)) ⟨r, vs, rfl, rfl, upd_same, i1⟩ (fun b hb => by
    cases hb
    exact ⟨none_of_le a1.sub hr, (fun j z => by obtain ⟨o, ho⟩ := a1.there z; rw [hr] at ho; cases ho), fresh_foot s1 hr⟩) (s1.trans (Step.grow (.lay a1.sub hr) a1.sub))
theorem KE.newD {A Z Z1 : Zs} {σ : L2.St} {H F H1 F1 : Hp} {Q : VK} {l : List (Key × D)} {ρ1 : Env} {vs : List (Key × V)} {r : Addr} (k : KE c A σ Z H F Q (.dc l) ρ1) (a1 : At c A Z1 H1 F1 σ ρ1) (s1 : Step Z H F Z1 H1 F1) (i1 : IsK c F1 vs l) (hr : H1 r = none) :
    Q (.ref r) (upd H1 r (.dK vs)) :=
  k (.ref r) (some r) _ F1 Z1 (a1.grow (.lay a1.sub hr)) ⟨r, vs, rfl, rfl, upd_same, i1⟩ (fun b hb => by
    cases hb
    exact ⟨none_of_le a1.sub hr, (fun j z => by obtain ⟨o, ho⟩ := a1.there z; rw [hr] at ho; cases ho), fresh_foot s1 hr⟩) (s1.trans (Step.grow (.lay a1.sub hr) a1.sub))
theorem e_lst (h : PA X es (tFs c W gs)) : PE X (.List es pos) (tE c W (mLst gs)) := PEi (pe_lst h) fun σ H Q ⟨A, Z, F, ρ, at_, p⟩ =>
  ⟨A, Z, F, ρ, at_, p.bind.imp fun ds ρ1 q vs H1 F1 Z1 a1 i1 s1 => by
    obtain ⟨l, e, k⟩ := (Post.bind q).opt
    obtain ⟨rfl, hz⟩ := short_le e
    exact ⟨by rw [i1.length]; exact hz, fun r hr => KE.new k a1 s1 i1 hr⟩⟩
theorem e_dic0 : PE X (.Dict [] [] pos) (tE c W (rt (.dc []))) := PEi pe_dnewK fun σ H Q ⟨A, Z, F, ρ, at_, p⟩ r hr => KE.newD p at_ .refl .nil hr
/-! ### calls of built-ins -/
variable {id T : String} {x : Str} {r : D → Option D} {rl : D → Option (List D)}
theorem d_b1 (hc : CallR X (.builtin id) (rN c r)) (hg : Gl X x) (hm : X.mg x = none) (hv : bootBuiltins x = some (.builtin id)) (ha : PE X a (tH c W ga)) (hn : x ≠ "__name__" := by decide) (hdb : (x == ("__debug__" : Str)) = false := by decide)
    (he : starEach (a :: []) X.env = (false, eval a X.env) :: starEach [] X.env := by rfl) : PE X (.Call (.Name x p) [a] [] pos) (tF c W (m1 r ga)) := PEi (pe_callB hc hg hm hv (pa_cons ha pa_nil he) hn hdb he) (rd1 ha)
theorem d_t1 (hc : CallR X (.type T) (rN c r)) (hg : Gl X x) (hm : X.mg x = none) (hv : bootBuiltins x = some (.type T)) (ha : PE X a (tH c W ga)) (hn : x ≠ "__name__" := by decide) (hdb : (x == ("__debug__" : Str)) = false := by decide)
    (he : starEach (a :: []) X.env = (false, eval a X.env) :: starEach [] X.env := by rfl) : PE X (.Call (.Name x p) [a] [] pos) (tF c W (m1 r ga)) := PEi (pe_callTy hc hg hm hv (pa_cons ha pa_nil he) hn hdb he) (rd1 ha)
theorem e_b1 (hc : CallR X (.builtin id) (rNe1 c rl)) (hg : Gl X x) (hm : X.mg x = none) (hv : bootBuiltins x = some (.builtin id)) (ha : PE X a (tH c W ga)) (hn : x ≠ "__name__" := by decide) (hdb : (x == ("__debug__" : Str)) = false := by decide)
    (he : starEach (a :: []) X.env = (false, eval a X.env) :: starEach [] X.env := by rfl) : PE X (.Call (.Name x p) [a] [] pos) (tE c W (m1l rl ga)) := PEi (pe_callB hc hg hm hv (pa_cons ha pa_nil he) hn hdb he) (rd1l ha)
theorem e_t1 (hc : CallR X (.type T) (rNe1 c rl)) (hg : Gl X x) (hm : X.mg x = none) (hv : bootBuiltins x = some (.type T)) (ha : PE X a (tH c W ga)) (hn : x ≠ "__name__" := by decide) (hdb : (x == ("__debug__" : Str)) = false := by decide)
    (he : starEach (a :: []) X.env = (false, eval a X.env) :: starEach [] X.env := by rfl) : PE X (.Call (.Name x p) [a] [] pos) (tE c W (m1l rl ga)) := PEi (pe_callTy hc hg hm hv (pa_cons ha pa_nil he) hn hdb he) (rd1l ha)
/-- several values, frozen -/
def rNs (c : Cfg) (r : List D → Option D) : List V → Hp → VK → Prop := fun xs H Q => ∃ F ds z, Le F H ∧ IsL c F xs ds ∧ r ds = some z ∧ ∀ x' H' F', Is c F' x' z → Grow H F H' F' → Q x' H'
def mNs (r : List D → Option D) (gs : M (List D)) : M D := bd gs fun ds => opt (r ds)
variable {rs : List D → Option D}
theorem rdN (σ : L2.St) (H : Hp) (Q : VK) (h : tF c W (mNs rs gs) σ H Q) : tCB (rNs c rs) (tFs c W gs) σ H Q := by
  obtain ⟨A, Z, F, ρ, at_, p⟩ := h
  exact ⟨A, Z, F, ρ, at_, p.bind.imp fun ds ρ1 q vs H1 F1 Z1 a1 i1 s1 => by
    obtain ⟨z, e, k⟩ := q.opt
    exact ⟨F1, ds, z, a1.sub, i1, e, fun x' H' F' i g => (k.from_ s1).grow a1 g i⟩⟩
theorem d_bN (hc : CallR X (.builtin id) (rNs c rs)) (hg : Gl X x) (hm : X.mg x = none) (hv : bootBuiltins x = some (.builtin id)) (ha : PA X (a :: es) (tFs c W gs)) (hn : x ≠ "__name__" := by decide) (hdb : (x == ("__debug__" : Str)) = false := by decide)
    (he : starEach (a :: es) X.env = (false, eval a X.env) :: starEach es X.env := by rfl) (hpl : (backTo pos (starEach es X.env)).any (·.1) = false := by rfl) : PE X (.Call (.Name x p) (a :: es) [] pos) (tF c W (mNs rs gs)) := PEi (pe_callB hc hg hm hv ha hn hdb he hpl) rdN
/-! which -/
def rLen : D → Option D
  | .str s => if s.length ≤ sizeLine then some (.int s.length) else none
  | .lst l => some (.int l.length)
  | .tup l => some (.int l.length)
  | .scr l => some (.int l.length)
  | .dic l => some (.int l.length)
  | _ => none
theorem call_lenV : CallR X (.builtin "len") (fun xs H Q => (∃ x n, xs = [x] ∧ LenV X.K x H n ∧ Q (.int n) H) ∨ ∃ a kvs, xs = [.ref a] ∧ H a = some (.dK kvs) ∧ Q (.int ((kvs.length : Nat) : Int)) H) := by
  intro pins s σ H xs us Q I rv h
  rcases h with h | ⟨a, kvs, h1, h2, h3⟩
  · exact call_len pins s σ H xs us Q I rv h
  · exact call_lenD pins s σ H xs us Q I rv ⟨a, kvs, h1, h2, h3⟩
theorem c_len (hK : X.K = c.K) : CallR X (.builtin "len") (rN c rLen) := CallR.imp call_lenV fun xs H Q ⟨F, x, d, z, e, le, hx, er, q⟩ => by
  unfold rLen at er
  split at er
  · rename_i t
    by_cases hz : t.length ≤ sizeLine
    · rw [if_pos hz] at er; cases er
      exact .inl ⟨x, t.length, e, by rw [has_str hx]; exact ⟨hz, rfl⟩, q _ H F (.int _) (.refl le)⟩
    · rw [if_neg hz] at er; cases er
  · cases er
    obtain ⟨p, vs, rfl, hp, il⟩ := hx
    exact .inl ⟨_, _, e, .inl ⟨vs, .of hp, rfl⟩, by rw [il.length]; exact q _ H F (.int _) (.refl le)⟩
  · cases er
    obtain ⟨p, vs, rfl, hp, il⟩ := has_tup hx
    exact .inl ⟨_, _, e, .inr ⟨vs, by rw [hK]; exact le.sqT hp, rfl⟩, by rw [il.length]; exact q _ H F (.int _) (.refl le)⟩
  · cases er
    rename_i l
    obtain ⟨p, rfl, hp⟩ := has_scr hx
    exact .inl ⟨_, l.length, e, .inl ⟨_, by rw [hK]; exact le.sqL hp, by rw [List.length_map]⟩, q _ H F (.int _) (.refl le)⟩
  · cases er
    obtain ⟨p, vs, rfl, hp, il⟩ := hx
    exact .inr ⟨p, vs, e, hp, by rw [il.length]; exact q _ H F (.int _) (.refl le)⟩
  · cases er
def rToInt : D → Option D
  | .int i => some (.int i)
  | .bl b => some (.int (if b then 1 else 0))
  | .str s => if s.length ≤ 640 then (PySem.intText? s).map .int else none
  | _ => none
theorem call_intV : CallR X (.type "int") (fun xs H Q => ((∃ i, xs = [.int i] ∧ Q (.int i) H) ∨ ∃ k, xs = [.bl k] ∧ Q (.int (if k then 1 else 0)) H) ∨ ∃ a n, xs = [.str a] ∧ PySem.intText? a = some n ∧ a.length ≤ 640 ∧ Q (.int n) H) := by
  intro pins s σ H xs us Q I rv h
  rcases h with h | ⟨a, n, h⟩
  · exact call_int1 pins s σ H xs us Q I rv h
  · exact call_int_str pins s σ H xs us Q I rv ⟨a, n, h⟩
theorem c_int : CallR X (.type "int") (rN c rToInt) := CallR.imp call_intV fun xs H Q ⟨F, x, d, z, e, le, hx, er, q⟩ => by
  unfold rToInt at er
  split at er
  · cases er
    exact .inl (.inl ⟨_, by rw [e, has_int hx], q _ H F (.int _) (.refl le)⟩)
  · cases er
    exact .inl (.inr ⟨_, by rw [e, has_bl hx], q _ H F (.int _) (.refl le)⟩)
  · rename_i t
    by_cases hz : t.length ≤ 640
    · rw [if_pos hz] at er
      obtain ⟨n, e1, rfl⟩ := Option.map_eq_some_iff.mp er
      exact .inr ⟨t, n, by rw [e, has_str hx], e1, hz, q _ H F (.int _) (.refl le)⟩
    · rw [if_neg hz] at er; cases er
  · cases er
def rToStr : D → Option D
  | .int i => if i.natAbs.log2 < 1920 then some (.str (toString i)) else none
  | .str s => some (.str s)
  | _ => none
theorem call_strV : CallR X (.type "str") (fun xs H Q => (∃ i, xs = [.int i] ∧ i.natAbs.log2 < 1920 ∧ Q (.str (toString i)) H) ∨ ∃ a, xs = [.str a] ∧ Q (.str a) H) := by
  intro pins s σ H xs us Q I rv h
  rcases h with h | h
  · exact call_str_int pins s σ H xs us Q I rv h
  · exact SkE.call_str_str pins s σ H xs us Q I rv h
theorem c_str : CallR X (.type "str") (rN c rToStr) := CallR.imp call_strV fun xs H Q ⟨F, x, d, z, e, le, hx, er, q⟩ => by
  unfold rToStr at er
  split at er
  · rename_i i
    by_cases hz : i.natAbs.log2 < 1920
    · rw [if_pos hz] at er; cases er
      exact .inl ⟨_, by rw [e, has_int hx], hz, q _ H F (.str _) (.refl le)⟩
    · rw [if_neg hz] at er; cases er
  · cases er
    exact .inr ⟨_, by rw [e, has_str hx], q _ H F (.str _) (.refl le)⟩
  · cases er
def rToList : D → Option (List D)
  | .lst l => some l
  | .tup l => some l
  | _ => none
theorem c_list (hK : X.K = c.K) : CallR X (.type "list") (rNe1 c rToList) := CallR.imp call_list_of fun xs H Q ⟨F, x, d, l, e, le, hx, er, q⟩ => by
  unfold rToList at er
  split at er
  · cases er
    obtain ⟨p, vs, rfl, hp, il⟩ := hx
    exact ⟨p, vs, e, .inl (.of hp), fun r hr => q r vs H F (.refl le) hr il⟩
  · cases er
    obtain ⟨p, vs, rfl, hp, il⟩ := has_tup hx
    exact ⟨p, vs, e, .inr (by rw [hK]; exact le.sqT hp), fun r hr => q r vs H F (.refl le) hr il⟩
  · cases er
def rToTup : D → Option D
  | .lst l => some (.tup l)
  | .tup l => some (.tup l)
  | _ => none
theorem c_tuple (hK : X.K = c.K) : CallR X (.type "tuple") (rN c rToTup) := CallR.imp call_tuple_of fun xs H Q ⟨F, x, d, z, e, le, hx, er, q⟩ => by
  unfold rToTup at er
  split at er
  · cases er
    obtain ⟨p, vs, rfl, hp, il⟩ := hx
    exact ⟨p, vs, e, .inl ⟨.of hp, fun r hr => q _ _ _ (.tup (.of upd_same) (il.mono (le_upd (none_of_le le hr)))) (.new le hr)⟩⟩
  · cases er
    obtain ⟨p, vs, rfl, hp, il⟩ := has_tup hx
    exact ⟨p, vs, e, .inr ⟨by rw [hK]; exact le.sqT hp, q _ H F (.tup hp il) (.refl le)⟩⟩
  · cases er
def rMax2 : List D → Option D
  | [.int i, .int j] => some (.int (if j > i then j else i))
  | _ => none
def rMin2 : List D → Option D
  | [.int i, .int j] => some (.int (if j < i then j else i))
  | _ => none
theorem isl2 {F : Hp} {xs : List V} {i j : Int} (h : IsL c F xs [.int i, .int j]) : xs = [.int i, .int j] := by
  cases h with
  | cons a t =>
    cases t with
    | cons b u => cases u; cases a; cases b; rfl
theorem c_max2 (hc : X.calm = true) : CallR X (.builtin "max") (rNs c rMax2) := CallR.imp (call_max2 hc) fun xs H Q ⟨F, ds, z, le, il, er, q⟩ => by
  unfold rMax2 at er
  split at er
  · cases er; exact ⟨_, _, isl2 il, q _ H F (.int _) (.refl le)⟩
  · cases er
theorem c_min2 (hc : X.calm = true) : CallR X (.builtin "min") (rNs c rMin2) := CallR.imp (call_min2 hc) fun xs H Q ⟨F, ds, z, le, il, er, q⟩ => by
  unfold rMin2 at er
  split at er
  · cases er; exact ⟨_, _, isl2 il, q _ H F (.int _) (.refl le)⟩
  · cases er
/-- a list of ints -/
def ints? : List D → Option (List Int)
  | [] => some []
  | .int i :: r => (ints? r).map (i :: ·)
  | _ :: _ => none
theorem ints_is {F : Hp} : ∀ {ds : List D} {ns : List Int} {vs : List V}, ints? ds = some ns → IsL c F vs ds → vs = ns.map V.int
  | [], ns, vs, h, i => by cases h; cases i; rfl
  | .int n :: r, ns, vs, h, i => by
    obtain ⟨ms, h1, h2⟩ := Option.map_eq_some_iff.mp (show (ints? r).map (n :: ·) = some ns from h)
    subst h2
    cases i with
    | cons a t => cases a; rw [ints_is h1 t]; rfl
  | .non :: r, ns, vs, h, i => by cases h
  | .bl _ :: r, ns, vs, h, i => by cases h
  | .str _ :: r, ns, vs, h, i => by cases h
  | .tup _ :: r, ns, vs, h, i => by cases h
  | .lst _ :: r, ns, vs, h, i => by cases h
  | .dic _ :: r, ns, vs, h, i => by cases h
  | .obj _ _ :: r, ns, vs, h, i => by cases h
  | .scr _ :: r, ns, vs, h, i => by cases h
def rSumL : D → Option D
  | .lst l => (ints? l).map fun ns => .int ns.sum
  | _ => none
theorem c_sum (hc : X.calm = true) : CallR X (.builtin "sum") (rN c rSumL) := CallR.imp (cr_sum hc) fun xs H Q ⟨F, x, d, z, e, le, hx, er, q⟩ => by
  unfold rSumL at er
  split at er
  · obtain ⟨ns, e1, rfl⟩ := Option.map_eq_some_iff.mp er
    obtain ⟨p, vs, rfl, hp, il⟩ := hx
    have ev := ints_is e1 il
    subst ev
    exact ⟨p, ns, e, .of hp, q _ H F (.int _) (.refl le)⟩
  · cases er
end
end DL
end
section
set_option Elab.async false
set_option linter.all false
set_option maxRecDepth 100000
namespace DL
open PySem PySem.Spec L2
/-! ### promises -/
inductive Out where
  | ok (d : D)
  | er (k : Nat) (fs : List (Str × D))
  | stuck
def lift : Out → M D
  | .ok d => rt d
  | .er k fs => fun ρ => .er k fs ρ
  | .stuck => stuck
/-- a def of frozen things -/
def spP (c : Cfg) (n : Nat) (m : List D → Out) : Sp := fun vs H Q E => vs.length = n ∧ ∃ F ds, Le F H ∧ IsL c F vs ds ∧ match m ds with
  | .ok d => ∀ v H' F', Grow H F H' F' → Is c F' v d → Q v H'
  | .er k fs => ∀ dx H' F', Grow H F H' F' → ExcAt c F' dx fs → E (.ref (c.cls k)) (some dx) H'
  | .stuck => False
/-- all but the thing at a has grown -/
structure GrowX (a : Addr) (H F H' F' : Hp) : Prop where
  keep : ∀ b o, H b = some o → b ≠ a → H' b = some o ∧ F' b = F b
  mono : Le F F'
  sub : Le F' H'
  off : F' a = none
inductive OutI where
  | ok (d : D) (l : List D)
  | er (k : Nat) (fs : List (Str × D)) (l : List D)
  | stuck
/-- a def whose first argument is a list that it may change -/
def spI (c : Cfg) (n : Nat) (m : List D → List D → OutI) : Sp := fun vs H Q E => vs.length = n + 1 ∧ ∃ a ws F xs ds es, vs = .ref a :: ws ∧ Le F H ∧ H a = some (.lst xs) ∧ F a = none ∧ IsL c F xs ds ∧ IsL c F ws es ∧ match m ds es with
  | .ok d l => ∀ v H' F' xs', GrowX a H F H' F' → H' a = some (.lst xs') → IsL c F' xs' l → Is c F' v d → Q v H'
  | .er k fs l => ∀ dx H' F' xs', GrowX a H F H' F' → H' a = some (.lst xs') → IsL c F' xs' l → ExcAt c F' dx fs → E (.ref (c.cls k)) (some dx) H'
  | .stuck => False
inductive OutF where
  | ok (fs : List (Str × D))
  | er (k : Nat) (fs : List (Str × D))
  | stuck
/-- an __init__ -/
def spN (c : Cfg) (k n : Nat) (m : List D → OutF) : Sp := fun vs H Q E => vs.length = n + 1 ∧ ∃ a dx ws F es, vs = .ref a :: ws ∧ Le F H ∧ H a = some (.ins (c.cls k) dx []) ∧ F a = none ∧ IsL c F ws es ∧ match m es with
  | .ok fs => ∀ H' F' dx' vs', GrowX a H F H' F' → H' a = some (.ins (c.cls k) dx' vs') → IsF c F' vs' fs → Q .non H'
  | .er j fs => ∀ d H' F', GrowX a H F H' F' → ExcAt c F' d fs → E (.ref (c.cls j)) (some d) H'
  | .stuck => False
/-- a def of the module, of frozen things -/
structure FnP (P : Program) (w : World) (K : PySem.W.Frag) (mg : Str → Option Value) (base : Heap) (c : Cfg) (k : Nat) (x : Str) (n : Nat) (m : List D → Out) : Prop where
  ex : ∃ f fd ps, FnOk P w K mg base (L2.CX P w) k f fd ps (spP c n m) ∧ mg x = some (.ref f) ∧ PySem.W.keepIn K (.ref f) = true ∧ Binds K fd ps []
structure FnI (P : Program) (w : World) (K : PySem.W.Frag) (mg : Str → Option Value) (base : Heap) (c : Cfg) (k : Nat) (x : Str) (n : Nat) (m : List D → List D → OutI) : Prop where
  ex : ∃ f fd ps, FnOk P w K mg base (L2.CX P w) k f fd ps (spI c n m) ∧ mg x = some (.ref f) ∧ PySem.W.keepIn K (.ref f) = true ∧ Binds K fd ps []
structure MtP (P : Program) (w : World) (K : PySem.W.Frag) (mg : Str → Option Value) (base : Heap) (c : Cfg) (k : Nat) (j : Nat) (x : Str) (n : Nat) (m : List D → Out) : Prop where
  ex : ∃ f fd ps, FnOk P w K mg base (L2.CX P w) k f fd ps (spP c (n + 1) m) ∧ Cls K (c.cls j) ∧ Meth K (c.cls j) x f ∧ Binds K fd ps []
/-- a property -/
structure PrP (P : Program) (w : World) (K : PySem.W.Frag) (mg : Str → Option Value) (base : Heap) (c : Cfg) (k : Nat) (j : Nat) (x : Str) (m : List D → Out) : Prop where
  ex : ∃ p f fd ps, FnOk P w K mg base (L2.CX P w) k f fd ps (spP c 1 m) ∧ Cls K (c.cls j) ∧ PropOf K (c.cls j) x p f ∧ Binds K fd ps []
structure MkP (P : Program) (w : World) (K : PySem.W.Frag) (mg : Str → Option Value) (base : Heap) (c : Cfg) (k : Nat) (j : Nat) (x : Str) (n : Nat) (m : List D → OutF) : Prop where
  ex : ∃ f fd ps, FnOk P w K mg base (L2.CX P w) k f fd ps (spN c j n m) ∧ Mk K (c.cls j) f ∧ mg x = some (.ref (c.cls j)) ∧ Binds K fd ps []
section
variable {X : Cx} {c : Cfg} {W : WX} {e o : Expr} {es : List Expr} {g go : M D} {gs : M (List D)} {pos p apos : Pos} {x : Str} {k n j : Nat} {m : List D → Out}
/-- what a pure callee's promise asks, from an argument list's reading -/
theorem callP {A Z Z1 : Zs} {σ : L2.St} {H F H1 F1 : Hp} {Q : VK} {ρ1 : Env} {vs : List V} {ds : List D} (hn : vs.length = n) (q : Post c A W σ Z H F (lift (m ds) ρ1) (KF c A σ Z H F Q)) (a1 : At c A Z1 H1 F1 σ ρ1) (i1 : IsL c F1 vs ds) (s1 : Step Z H F Z1 H1 F1) :
    spP c n m vs H1 Q (WE W σ) := by
  refine ⟨hn, F1, ds, a1.sub, i1, ?_⟩
  cases e : m ds with
  | ok d =>
    rw [e] at q
    exact fun v H' F' gr i => ((show KF c A σ Z H F Q d ρ1 from q).from_ s1).grow a1 gr i
  | er k fs =>
    rw [e] at q
    exact fun dx H' F' gr x => q dx H' F' Z1 (a1.grow gr) x (s1.trans (Step.grow gr a1.sub))
  | stuck => rw [e] at q; exact q
def mCall (m : List D → Out) (gs : M (List D)) : M D := bd gs fun ds => lift (m ds)
theorem FnOk.lenP {P : Program} {w : World} {K : PySem.W.Frag} {mg : Str → Option Value} {base : Heap} {CX : CXT} {f : Addr} {fd : FuncData} {ps : List Str} (F : FnOk P w K mg base CX k f fd ps (spP c n m)) (hm : ∃ vs H Q E, spP c n m vs H Q E) : n = ps.length := by
  obtain ⟨vs, H, Q, E, h⟩ := hm
  rw [← F.len vs H Q E h]; exact h.1.symm
theorem d_call (Fp : FnP X.prog X.w X.K X.mg X.base c k x n m) (hn : (e :: es).length = n) (hr : Room k X.A) (hg : Gl X x) (tk : Takes X W) (ha : PA X (e :: es) (tFs c W gs))
    (hdb : (x == ("__debug__" : Str)) = false := by decide) (he : starEach (e :: es) X.env = (false, eval e X.env) :: starEach es X.env := by rfl) (hpl : (backTo pos (starEach es X.env)).any (·.1) = false := by rfl) :
    PE X (.Call (.Name x p) (e :: es) [] pos) (tF c W (mCall m (bd gs fun ds => if ds.length = n then rt ds else stuck))) := by
  obtain ⟨f, fd, ps, F, hm, hk, hb⟩ := Fp.ex
  refine PEi (pe_callS (E := WE W) F hr hg hm hk hb (fun σ => passAt tk σ) ha hdb he hpl) fun σ H Q ⟨A, Z, F0, ρ, at_, p⟩ => ?_
  refine ⟨A, Z, F0, ρ, at_, p.bind.bind.imp fun ds ρ1 q vs H1 F1 Z1 a1 i1 s1 => ?_⟩
  by_cases hz : ds.length = n
  · rw [if_pos hz] at q
    exact callP (by rw [i1.length]; exact hz) q a1 i1 s1
  · rw [if_neg hz] at q
    exact (show False from q).elim
/-! ### attributes, methods, properties of frozen objects -/
def fldOf (j : Nat) (f : Str) : D → Option D
  | .obj k fs => if k = j then fs.lookup f else none
  | _ => none
theorem d_fld {f : Str} (cl : Cls X.K (c.cls j)) (na : NoAttr X.K (c.cls j) f) (hK : X.K = c.K) (he : PE X e (tF c W g)) (hb : attributeBase e f X.env (eval e X.env) = eval e X.env := by rfl) : PE X (.Attribute e f pos) (tF c W (m1 (fldOf j f) g)) :=
  PEi (pe_fld he hb) fun σ H Q ⟨A, Z, F, ρ, at_, p⟩ => ⟨A, Z, F, ρ, at_, p.bind.imp fun d ρ1 q v H1 F1 Z1 a1 i1 s1 => by
    obtain ⟨z, e1, k1⟩ := q.opt
    unfold fldOf at e1
    split at e1
    · rename_i kk fs
      by_cases hk : kk = j
      · rw [if_pos hk] at e1
        subst hk
        cases i1 with
        | obj h l =>
          rcases l.lookup (f := f) with ⟨_, q2⟩ | ⟨x, y, q1, q2, iy⟩
          · rw [q2] at e1; cases e1
          · rw [q2] at e1; cases e1
            exact ⟨_, _, _, _, x, rfl, a1.sub _ _ h, cl, na, q1, k1 x H1 F1 Z1 a1 iy s1⟩
      · rw [if_neg hk] at e1; cases e1
    · cases e1⟩
/-- the receiver of a method -/
def recv (j : Nat) (x : Str) (d : D) : Option D := match d with
  | .obj k fs => if k = j then (match fs.lookup x with
    | none => some d
    | some _ => none) else none
  | _ => none
theorem recv_ok {d z : D} {F : Hp} {v : V} (h : recv j x d = some z) (i : Is c F v d) : z = d ∧ ∃ a dx fs, v = .ref a ∧ F a = some (.ins (c.cls j) dx fs) ∧ fs.lookup x = none := by
  unfold recv at h
  split at h
  · rename_i kk fs
    by_cases hk : kk = j
    · rw [if_pos hk] at h
      subst hk
      cases i with
      | obj h1 l =>
        rcases l.lookup (f := x) with ⟨q1, q2⟩ | ⟨_, y, _, q2, _⟩
        · rw [q2] at h; cases h
          exact ⟨rfl, _, _, _, rfl, h1, q1⟩
        · rw [q2] at h; cases h
    · rw [if_neg hk] at h; cases h
  · cases h
def mMeth (j : Nat) (x : Str) (m : List D → Out) (go : M D) (gs : M (List D)) : M D := bd go fun d => bd (opt (recv j x d)) fun d => bd gs fun ds => lift (m (d :: ds))
theorem d_meth {pl : Sem Bool} (Mp : MtP X.prog X.w X.K X.mg X.base c k j x n m) (hr : Room k X.A) (tk : Takes X W) (ho : PE X o (tF c W go)) (ha : PA X (e :: es) (tFs c W gs))
    (hst : starEach (e :: es) X.env = (false, eval e X.env) :: starEach es X.env := by rfl) (hpl : (backTo pos (starEach es X.env)).any (·.1) = false := by rfl)
    (ht : eval (.Call (.Attribute o x apos) (e :: es) [] pos) X.env = (do
      let ov ← eval o X.env
      standAt apos.atName
      let (f, first) ← holding [ov] (getMethod ov x pl)
      callWith pos f first (backTo pos (starEach (e :: es) X.env)) (backToKw pos (keywordEach [] X.env))) := by rfl) :
    PE X (.Call (.Attribute o x apos) (e :: es) [] pos) (tF c W (mMeth j x m go (bd gs fun ds => if ds.length = n then rt ds else stuck))) := by
  obtain ⟨f, fd, ps, F, cl, hm, hb⟩ := Mp.ex
  refine ⟨fun pins s σ H Q I ⟨A, Z, F0, ρ, at_, p⟩ => ?_⟩
  refine PySem.W.methodCall_KW (pl := pl) (thn (ho.run pins s σ H (fun x0 H1 => ∃ F1 Z1 ρ1 d a dx fs, At c A Z1 H1 F1 σ ρ1 ∧ Is c F1 x0 d ∧ x0 = .ref a ∧ F1 a = some (.ins (c.cls j) dx fs) ∧ fs.lookup x = none ∧
      Post c A W σ Z1 H1 F1 ((bd (bd gs fun ds => if ds.length = n then rt ds else stuck) fun ds => lift (m (d :: ds))) ρ1) (KF c A σ Z1 H1 F1 Q)) I ⟨A, Z, F0, ρ, at_, p.bind.imp fun d ρ1 q v H1 F1 Z1 a1 i1 s1 => ?_⟩) fun u s1 ⟨x0, H1, I1, rx, F1, Z1, ρ1, d, a, dx, fs, a1, i1, ex, ea, l, q⟩ => ?_) ht
  · obtain ⟨z, e1, q1⟩ := (Post.bind q).opt
    obtain ⟨rfl, a, dx, fs, ev, ea, l⟩ := recv_ok e1 i1
    exact ⟨F1, Z1, ρ1, z, a, dx, fs, a1, i1, ev, ea, l, q1.from_ s1 fun _ _ k => k.from_ s1⟩
  · subst ex
    obtain rfl : u = Value.ref a := rx
    refine getmeth_ok I1 (a1.sub _ _ ea) cl hm l ?_
    refine PySem.W.callWith_K (first := [.ref a]) (h₀ := X.base) I.ok.mod.kin hm.kp (thn (ha.run pos pins s1 σ H1 (fun vs H2 => spP c (n + 1) m (.ref a :: vs) H2 Q (WE W σ)) I1 ⟨A, Z1, F1, ρ1, a1, q.bind.bind.imp fun ds ρ2 q vs H2 F2 Z2 a2 i2 s2 => ?_⟩) fun us s2 ⟨vs, H2, I2, r, q2⟩ => ⟨I2.kIn, ?_⟩) hst hpl
    · by_cases hz : ds.length = n
      · rw [if_pos hz] at q
        exact callP (by rw [List.length_cons, i2.length, hz]) q a2 (.cons (i1.mono s2.mono) i2) s2
      · rw [if_neg hz] at q
        exact (show False from q).elim
    · exact run_fnS (us := .ref a :: us) (vs := .ref a :: vs) (E := WE W) F hr hb (passAt tk σ) I2 (.cons rfl r) q2
def mMeth0 (j : Nat) (x : Str) (m : List D → Out) (go : M D) : M D := bd go fun d => bd (opt (recv j x d)) fun d => lift (m [d])
theorem d_meth0 {pl : Sem Bool} (Mp : MtP X.prog X.w X.K X.mg X.base c k j x 0 m) (hr : Room k X.A) (tk : Takes X W) (ho : PE X o (tF c W go))
    (ht : eval (.Call (.Attribute o x apos) [] [] pos) X.env = (do
      let ov ← eval o X.env
      standAt apos.atName
      let (f, first) ← holding [ov] (getMethod ov x pl)
      callWith pos f first (backTo pos (starEach [] X.env)) (backToKw pos (keywordEach [] X.env))) := by rfl) :
    PE X (.Call (.Attribute o x apos) [] [] pos) (tF c W (mMeth0 j x m go)) := by
  obtain ⟨f, fd, ps, F, cl, hm, hb⟩ := Mp.ex
  refine ⟨fun pins s σ H Q I ⟨A, Z, F0, ρ, at_, p⟩ => ?_⟩
  refine PySem.W.methodCall_KW (pl := pl) (thn (ho.run pins s σ H (fun x0 H1 => ∃ a dx fs F1, Le F1 H1 ∧ x0 = .ref a ∧ F1 a = some (.ins (c.cls j) dx fs) ∧ fs.lookup x = none ∧ spP c 1 m [.ref a] H1 Q (WE W σ)) I ⟨A, Z, F0, ρ, at_, p.bind.imp fun d ρ1 q v H1 F1 Z1 a1 i1 s1 => ?_⟩)
    fun u s1 ⟨x0, H1, I1, rx, a, dx, fs, F1, le1, ex, ea, l, q⟩ => ?_) ht
  · obtain ⟨z, e1, q1⟩ := (Post.bind q).opt
    obtain ⟨rfl, a, dx, fs, ev, ea, l⟩ := recv_ok e1 i1
    subst ev
    exact ⟨a, dx, fs, F1, a1.sub, rfl, ea, l, callP rfl q1 a1 (.one i1) s1⟩
  · subst ex
    obtain rfl : u = Value.ref a := rx
    refine getmeth_ok I1 (le1 _ _ ea) cl hm l ?_
    exact PySem.W.callWith_K0 (first := [.ref a]) I1.kIn hm.kp (run_fnS (us := [.ref a]) (vs := [.ref a]) (E := WE W) F hr hb (passAt tk σ) I1 (.cons rfl .nil) q)
/-- a property -/
def objOf (j : Nat) (d : D) : Option D := match d with
  | .obj k fs => if k = j then some d else none
  | _ => none
def okOf : Out → Option D
  | .ok d => some d
  | _ => none
def mProp (j : Nat) (m : List D → Out) (go : M D) : M D := bd go fun d => bd (opt (objOf j d)) fun d => opt (okOf (m [d]))
theorem d_prop {f : Str} (Pp : PrP X.prog X.w X.K X.mg X.base c k j f m) (hr : Room (k + 1) X.A) (ho : PE X o (tF c W go)) (hab : attributeBase o f X.env (eval o X.env) = eval o X.env := by rfl) : PE X (.Attribute o f pos) (tF c W (mProp j m go)) := by
  obtain ⟨pp, fa, fd, ps, F, cl, hp, hb⟩ := Pp.ex
  refine PEi (pe_prop (E := E0) (dvs := []) (ds := []) ho cl hp F hr hb .nil (fun _ _ _ _ _ _ _ h => by
    obtain ⟨_, _, _, _, _, _, _, _, _, _, _, _, z⟩ := h
    exact z.elim) hab) fun σ H Q ⟨A, Z, F0, ρ, at_, p⟩ => ⟨A, Z, F0, ρ, at_, p.bind.imp fun d ρ1 q v H1 F1 Z1 a1 i1 s1 => ?_⟩
  obtain ⟨z, e1, q1⟩ := (Post.bind q).opt
  obtain ⟨w, e2, q2⟩ := q1.opt
  unfold objOf at e1
  split at e1
  · rename_i kk fs
    by_cases hk : kk = j
    · rw [if_pos hk] at e1; cases e1
      subst hk
      cases i1 with
      | obj h l =>
        refine ⟨_, _, _, rfl, a1.sub _ _ h, rfl, F1, [.obj kk fs], a1.sub, .one (.obj h l), ?_⟩
        cases em : m [.obj kk fs] with
        | ok d' =>
          rw [em] at e2; cases e2
          exact fun v H' F' gr i => ((show KF c A σ Z H F0 Q _ ρ1 from q2).from_ s1).grow a1 gr i
        | er _ _ => rw [em] at e2; cases e2
        | stuck => rw [em] at e2; cases e2
    · rw [if_neg hk] at e1; cases e1
  · cases e1
end
end DL
end
section
set_option Elab.async false
set_option linter.all false
set_option maxRecDepth 100000
namespace DL
open PySem PySem.Spec L2
section
variable {c : Cfg} {A Z Z1 : Zs} {σ : L2.St} {H F H1 F1 H' F' : Hp} {ρ : Env} {a : Addr}
theorem EntOk.growX {z x ap} {e : Ent} (g : GrowX a H F H' F') (hz : z ≠ some a) (k : EntOk c F H z x ap e) : EntOk c F' H' z x ap e := by
  have m := g.mono
  cases e with
  | no => exact k
  | fz d => obtain ⟨q, v, b, i⟩ := k; exact ⟨q, v, b, i.mono m⟩
  | ow ds => obtain ⟨p, vs, q, b, h, i⟩ := k; exact ⟨p, vs, q, b, (g.keep _ _ h fun w => hz (by rw [q, w])).1, i.mono m⟩
  | pin ds => obtain ⟨p, vs, q0, q, b, h, i⟩ := k; exact ⟨p, vs, q0, q, b, (g.keep _ _ h fun w => hz (by rw [q, w])).1, i.mono m⟩
  | ob n ds => obtain ⟨p, dx, fs, q0, q, b, h, i⟩ := k; exact ⟨p, dx, fs, q0, q, b, (g.keep _ _ h fun w => hz (by rw [q, w])).1, i.mono m⟩
  | dc ds => obtain ⟨p, vs, q, b, h, i⟩ := k; exact ⟨p, vs, q, b, (g.keep _ _ h fun w => hz (by rw [q, w])).1, i.mono m⟩
/-- slot i's own thing at a has changed -/
theorem At.inout (at_ : At c A Z H F σ ρ) {i : Nat} {e : Ent} (hi : i < ρ.length) (hz : Z i = some a) (g : GrowX a H F H' F') (k : EntOk c F' H' (some a) σ[i]? (A i) e) : At c A Z H' F' σ (ρ.set i e) := by
  refine ⟨g.sub, by rw [List.length_set]; exact at_.len, fun j u q => ?_, fun j q => ?_, at_.inj, fun j b q => ?_⟩
  · by_cases e1 : j = i
    · subst e1
      rw [List.getElem?_set_self hi] at q
      cases q
      rw [hz]; exact k
    · rw [List.getElem?_set_ne (Ne.symm e1)] at q
      exact (at_.ent j u q).growX g fun w => e1 (at_.inj j i a w hz)
  · rw [List.length_set] at q; exact at_.out j q
  · by_cases e1 : b = a
    · subst e1; exact g.off
    · obtain ⟨o, ho⟩ := at_.there q
      rw [(g.keep b o ho e1).2]; exact at_.nf j b q
theorem Step.inout {i : Nat} (hz : Z i = some a) (g : GrowX a H F H' F') : Step Z H F Z H' F' :=
  ⟨fun b o e n => g.keep b o e fun w => n i (by rw [hz, w]), g.mono, fun j b e => .inl ⟨j, e⟩⟩
theorem GrowX.of {o : HO} (h : Le F H) (hH : H a = some o) (hF : F a = none) (o' : HO) : GrowX a H F (upd H a o') F := by
  refine ⟨fun b u e n => ⟨by rw [upd_ne n]; exact e, rfl⟩, .refl _, fun b u e => ?_, hF⟩
  rw [upd_ne (fun w => by rw [w, hF] at e; cases e)]
  exact h b u e
end
/-! ### a def that changes its first argument -/
def liftI (i : Nat) (m : List D → List D → OutI) (es : List D) : M D := fun ρ => match ρ[i]? with
  | some (.pin l) => (match m l es with
    | .ok d l' => .ok d (ρ.set i (.pin l'))
    | .er k fs l' => .er k fs (ρ.set i (.pin l'))
    | .stuck => .stuck)
  | some (.ow l) => (match m l es with
    | .ok d l' => .ok d (ρ.set i (.ow l'))
    | .er k fs l' => .er k fs (ρ.set i (.ow l'))
    | .stuck => .stuck)
  | _ => .stuck
/-- slot i holds a list of its own -/
def isOwn (i : Nat) : M Unit := fun ρ => match ρ[i]? with
  | some (.pin _) => .ok () ρ
  | some (.ow _) => .ok () ρ
  | _ => .stuck
def mCallI (i : Nat) (m : List D → List D → OutI) (n : Nat) (gs : M (List D)) : M D := bd (isOwn i) fun _ => bd gs fun es => if es.length = n then liftI i m es else stuck
section
variable {X : Cx} {c : Cfg} {W : WX} {e o : Expr} {es : List Expr} {g go : M D} {gs : M (List D)} {pos p apos : Pos} {x y : Str} {k n j i : Nat} {m : List D → List D → OutI}
theorem own_at {A Z : Zs} {H F : Hp} {σ : L2.St} {ρ : Env} (at_ : At c A Z H F σ ρ) (h : isOwn i ρ ≠ .stuck) : ∃ l a vs, (ρ[i]? = some (.pin l) ∨ ρ[i]? = some (.ow l)) ∧ Z i = some a ∧ σ[i]? = some (some (.ref a)) ∧ H a = some (.lst vs) ∧ IsL c F vs l ∧ F a = none := by
  unfold isOwn at h
  cases q : ρ[i]? with
  | none => rw [q] at h; exact absurd rfl h
  | some e =>
    have k := at_.ent i e q
    cases e with
    | pin l => obtain ⟨a, vs, _, h1, h2, h3, h4⟩ := k; exact ⟨l, a, vs, .inl rfl, h1, h2, h3, h4, at_.nf i a h1⟩
    | ow l => obtain ⟨a, vs, h1, h2, h3, h4⟩ := k; exact ⟨l, a, vs, .inr rfl, h1, h2, h3, h4, at_.nf i a h1⟩
    | _ => rw [q] at h; exact absurd rfl h
/-- what such a callee asks -/
theorem callI {A Z Z1 : Zs} {σ : L2.St} {H F H1 F1 : Hp} {Q : VK} {ρ1 : Env} {vs : List V} {ds : List D} {a : Addr} (hv : σ[i]? = some (some (.ref a))) (hn : ds.length = n) (q : Post c A W σ Z H F (liftI i m ds ρ1) (KF c A σ Z H F Q)) (a1 : At c A Z1 H1 F1 σ ρ1) (i1 : IsL c F1 vs ds) (s1 : Step Z H F Z1 H1 F1) :
    spI c n m (.ref a :: vs) H1 Q (WE W σ) := by
  have hs : isOwn i ρ1 ≠ .stuck := by
    intro h
    unfold liftI at q
    unfold isOwn at h
    cases e : ρ1[i]? with
    | none => rw [e] at q; exact q
    | some en =>
      rw [e] at q h
      cases en with
      | pin l => cases h
      | ow l => cases h
      | _ => exact q
  obtain ⟨l, b, xs, hl, hz, hb, hH, il, hF⟩ := own_at a1 hs
  rw [hv] at hb; cases hb
  have hi : i < ρ1.length := by rcases hl with h | h <;> exact lt_of_get h
  refine ⟨by rw [List.length_cons, i1.length, hn], a, vs, F1, xs, l, ds, rfl, a1.sub, hH, hF, il, i1, ?_⟩
  rcases hl with hl | hl
  · have ka : A i = some a := by obtain ⟨p, _, h0, h1, _⟩ := a1.ent i _ hl; rw [hz] at h1; cases h1; exact h0
    unfold liftI at q
    rw [hl] at q
    dsimp only at q
    cases e : m l ds with
    | ok d l' =>
      rw [e] at q
      intro v H' F' xs' gr hx ix iv
      exact (show KF c A σ Z H F Q d (ρ1.set i (.pin l')) from q) v H' F' Z1 (a1.inout hi hz gr ⟨a, xs', ka, rfl, hv, hx, ix⟩) iv (s1.trans (Step.inout hz gr))
    | er k fs l' =>
      rw [e] at q
      intro dx H' F' xs' gr hx ix iv
      exact q dx H' F' Z1 (a1.inout hi hz gr ⟨a, xs', ka, rfl, hv, hx, ix⟩) iv (s1.trans (Step.inout hz gr))
    | stuck => rw [e] at q; exact q
  · unfold liftI at q
    rw [hl] at q
    dsimp only at q
    cases e : m l ds with
    | ok d l' =>
      rw [e] at q
      intro v H' F' xs' gr hx ix iv
      exact (show KF c A σ Z H F Q d (ρ1.set i (.ow l')) from q) v H' F' Z1 (a1.inout hi hz gr ⟨a, xs', rfl, hv, hx, ix⟩) iv (s1.trans (Step.inout hz gr))
    | er k fs l' =>
      rw [e] at q
      intro dx H' F' xs' gr hx ix iv
      exact q dx H' F' Z1 (a1.inout hi hz gr ⟨a, xs', rfl, hv, hx, ix⟩) iv (s1.trans (Step.inout hz gr))
    | stuck => rw [e] at q; exact q
theorem d_callI (Fp : FnI X.prog X.w X.K X.mg X.base c k x n m) (hr : Room k X.A) (hg : Gl X x) (tk : Takes X W) (hv : PE X (.Name y p) (tVar i)) (ha : PA X es (tFs c W gs))
    (hdb : (x == ("__debug__" : Str)) = false := by decide) (he : starEach (.Name y p :: es) X.env = (false, eval (.Name y p) X.env) :: starEach es X.env := by rfl) (hpl : (backTo pos (starEach es X.env)).any (·.1) = false := by rfl) :
    PE X (.Call (.Name x apos) (.Name y p :: es) [] pos) (tF c W (mCallI i m n gs)) := by
  obtain ⟨f, fd, ps, F, hm, hk, hb⟩ := Fp.ex
  refine PEi (pe_callS (E := WE W) F hr hg hm hk hb (fun σ => passAt tk σ) (pa_cons hv ha he) hdb he hpl) fun σ H Q ⟨A, Z, F0, ρ, at_, p⟩ => ?_
  have hs : isOwn i ρ ≠ .stuck := by
    intro h
    unfold mCallI bd at p
    rw [h] at p
    exact p
  obtain ⟨l, a, xs, hl, hz, hb, hH, il, hF⟩ := own_at at_ hs
  have e0 : isOwn i ρ = .ok () ρ := by
    unfold isOwn
    rcases hl with h | h <;> rw [h]
  unfold mCallI bd at p
  rw [e0] at p
  have p1 : Post c A W σ Z H F0 ((gs ρ).bd fun es => if es.length = n then liftI i m es else stuck) (KF c A σ Z H F0 Q) := p
  refine ⟨.ref a, hb, A, Z, F0, ρ, at_, p1.bind.imp fun ds ρ1 q vs H1 F1 Z1 a1 i1 s1 => ?_⟩
  by_cases hn : ds.length = n
  · rw [if_pos hn] at q
    exact callI hb hn q a1 i1 s1
  · rw [if_neg hn] at q
    exact (show False from q).elim
/-! ### a new object -/
def liftF (j : Nat) : OutF → M D
  | .ok fs => rt (.obj j fs)
  | .er k fs => fun ρ => .er k fs ρ
  | .stuck => stuck
variable {mf : List D → OutF}
def mMake (j n : Nat) (mf : List D → OutF) (gs : M (List D)) : M D := bd gs fun ds => if ds.length = n then liftF j (mf ds) else stuck
theorem makeQ {A Z Z1 : Zs} {σ : L2.St} {H F H1 F1 : Hp} {Q : VK} {ρ1 : Env} {vs : List V} {ds : List D} (hn : ds.length = n) (q : Post c A W σ Z H F (liftF j (mf ds) ρ1) (KF c A σ Z H F Q)) (a1 : At c A Z1 H1 F1 σ ρ1) (i1 : IsL c F1 vs ds) (s1 : Step Z H F Z1 H1 F1) :
    ∀ x dx, H1 x = none → H1 dx = none → dx ≠ x → spN c j n mf (.ref x :: vs) (upd (upd H1 dx (.own x)) x (.ins (c.cls j) dx [])) (fun v H2 => v = .non ∧ Q (.ref x) H2) (WE W σ) := by
  intro x dx hx hdx hne
  have l1 : Le F1 (upd H1 dx (.own x)) := (Grow.lay (o := .own x) a1.sub hdx).sub
  have hx1 : (upd H1 dx (.own x)) x = none := by rw [upd_ne (Ne.symm hne)]; exact hx
  have l2 : Le F1 (upd (upd H1 dx (.own x)) x (.ins (c.cls j) dx [])) := (Grow.lay (o := .ins (c.cls j) dx []) l1 hx1).sub
  have fx : F1 x = none := none_of_le a1.sub hx
  refine ⟨by rw [List.length_cons, i1.length, hn], x, dx, vs, F1, ds, rfl, l2, upd_same, fx, i1, ?_⟩
  have keep : ∀ {H' F' : Hp}, GrowX x (upd (upd H1 dx (.own x)) x (.ins (c.cls j) dx [])) F1 H' F' → ∀ a o, H1 a = some o → H' a = some o ∧ F' a = F1 a := fun {H' F'} gr a o e => by
    have n1 : a ≠ x := ne_of_none e hx
    have n2 : a ≠ dx := ne_of_none e hdx
    exact gr.keep a o (by rw [upd_ne n1, upd_ne n2]; exact e) n1
  cases e : mf ds with
  | ok fs =>
    rw [e] at q
    intro H' F' dx' vs' gr hH' iF
    refine ⟨rfl, ?_⟩
    have fx' : F' x = none := gr.off
    have G : Grow H1 F1 H' (upd F' x (.ins (c.cls j) dx' vs')) := ⟨fun a o e => by
      obtain ⟨k1, k2⟩ := keep gr a o e
      exact ⟨k1, by rw [upd_ne (ne_of_none e hx)]; exact k2⟩, le_upd_of gr.sub hH'⟩
    exact ((show KF c A σ Z H F Q (.obj j fs) ρ1 from q).from_ s1).grow a1 G (.obj upd_same (iF.mono (le_upd fx')))
  | er k fs =>
    rw [e] at q
    intro d H' F' gr xx
    have G : Grow H1 F1 H' F' := ⟨fun a o e => keep gr a o e, gr.sub⟩
    exact q d H' F' Z1 (a1.grow G) xx (s1.trans (Step.grow G a1.sub))
  | stuck => rw [e] at q; exact q
/-- as run_make, the wish at the slots -/
theorem run_makeS {CX : CXT} {f C : Addr} {fd : FuncData} {ps : List Str} {sp : Sp} {E : L2.St → XK} {pins : List (Addr × Obj)} {σ : L2.St} {H : Hp} {s : Shared} {Q : VK} {us ws : List Value} {vs zs : List V} {ks : List Str} {gg : List Value → List Value → List Value} {gV : List V → List V → List V} (M : Mk X.K C f) (F : FnOk X.prog X.w X.K X.mg X.base CX k f fd ps sp) (hr : Room (k + 1) X.A)
    (hb : KBn X.K fd ps (n + 1) ks gg gV) (hx : PassesAt CX X σ (E σ)) (I : Inv X pins σ H s) (r : Vals vs us) (rz : Vals zs ws) (l1 : vs.length = n) (l2 : zs.length = ks.length)
    (h : ∀ x dx, H x = none → H dx = none → dx ≠ x → sp (gV (.ref x :: vs) zs) (upd (upd H dx (.own x)) x (.ins C dx [])) (fun v H2 => v = .non ∧ Q (.ref x) H2) (E σ)) :
    wpAny (model X.prog X.w) X.A (call (.ref C) us (ks.zip ws)) (EP X pins σ Q) X.xe s := by
  have hq := h (s.heap.objs.size + 1) s.heap.objs.size (I.hok.fresh (Nat.le_succ _)) (I.hok.fresh (Nat.le_refl _)) (Nat.ne_of_lt (Nat.lt_succ_self _))
  have I2 := Inv.made (C := C) I
  have r1 : Vals (V.ref (s.heap.objs.size + 1) :: vs) (Value.ref (s.heap.objs.size + 1) :: us) := .cons rfl r
  have r2 := hb.rel r1 rz
  have n1 : (Value.ref (s.heap.objs.size + 1) :: us).length = n + 1 := by
    rw [List.length_cons, ← r.length, l1]
  refine wpAny_call (make_map (f := f) I.kIn M.makes M.init (beq_iff_eq.mp M.fn) (codeAny_mono (F.run _ X.stack _ _ ⟨Value.ref (s.heap.objs.size + 1) :: us, ks.zip ws⟩ (gg (Value.ref (s.heap.objs.size + 1) :: us) ws) _ _ (E σ) (hr.make C us (ks.zip ws))
    (I2.env0.make C us (ks.zip ws)) (hb.to _ (Value.ref (s.heap.objs.size + 1) :: us) ws I2.kIn n1 (rz.length.symm.trans l2)) r2 hq) fun r s' hq' => ?_))
  cases r with
  | error e => exact hx pins _ _ e s' I2 hq'
  | ok fl =>
    cases fl with
    | ret u =>
      obtain ⟨v, H', I3, rv, ev, q3⟩ := I2.after hq'
      subst ev
      exact ⟨rv, ⟨V.ref (s.heap.objs.size + 1), H', I3, rfl, q3⟩⟩
    | next => exact False.elim hq'
    | brk => exact False.elim hq'
    | cont => exact False.elim hq'
theorem kbn_of {K : PySem.W.Frag} {fd : FuncData} {ps : List Str} {q : Nat} (hb : Binds K fd ps []) (hl : ps.length = q) : KBn K fd ps q [] (fun us _ => us) (fun vs _ => vs) :=
  ⟨fun s us ws h l1 l2 => by
    have b := hb s us h (by rw [List.append_nil, l1, hl])
    rw [List.append_nil] at b
    have e : ([] : List Str).zip ws = [] := rfl
    exact b, fun r _ => r⟩
theorem d_make (Mp : DL.MkP X.prog X.w X.K X.mg X.base c k j x n mf) (hr : Room (k + 1) X.A) (hg : Gl X x) (tk : Takes X W) (ha : PA X (e :: es) (tFs c W gs))
    (hdb : (x == ("__debug__" : Str)) = false := by decide) (he : starEach (e :: es) X.env = (false, eval e X.env) :: starEach es X.env := by rfl) (hpl : (backTo pos (starEach es X.env)).any (·.1) = false := by rfl) :
    PE X (.Call (.Name x p) (e :: es) [] pos) (tF c W (mMake j n mf gs)) := by
  obtain ⟨f, fd, ps, F, M, hm, hb⟩ := Mp.ex
  refine ⟨fun pins s σ H Q I ⟨A, Z, F0, ρ, at_, q⟩ => ?_⟩
  refine wpAny_Call_Name_kw (ld_glob I hg hm ?_ hdb)
  refine PySem.W.callWith_K (h₀ := X.base) I.ok.mod.kin M.kp (thn (ha.run pos pins s σ H (fun vs H1 => ∃ F1 Z1 ρ1 ds, At c A Z1 H1 F1 σ ρ1 ∧ IsL c F1 vs ds ∧ ds.length = n ∧ Post c A W σ Z1 H1 F1 (liftF j (mf ds) ρ1) (KF c A σ Z1 H1 F1 Q)) I
    ⟨A, Z, F0, ρ, at_, q.bind.imp fun ds ρ1 q vs H1 F1 Z1 a1 i1 s1 => ?_⟩) fun us s1 ⟨vs, H1, I1, r, F1, Z1, ρ1, ds, a1, i1, hn, q⟩ => ⟨I1.kIn, ?_⟩) he hpl
  · by_cases hn : ds.length = n
    · rw [if_pos hn] at q
      exact ⟨F1, Z1, ρ1, ds, a1, i1, hn, q.from_ s1 fun _ _ k => k.from_ s1⟩
    · rw [if_neg hn] at q
      exact (show False from q).elim
  · have h := makeQ hn q a1 i1 .refl
    have hps : ps.length = n + 1 := by
      obtain ⟨x0, dx0, h1, h2, h3⟩ : ∃ x dx, H1 x = none ∧ H1 dx = none ∧ dx ≠ x := ⟨s1.heap.objs.size + 1, s1.heap.objs.size, I1.hok.fresh (Nat.le_succ _), I1.hok.fresh (Nat.le_refl _), Nat.ne_of_lt (Nat.lt_succ_self _)⟩
      have := h x0 dx0 h1 h2 h3
      rw [← F.len _ _ _ _ this]; exact this.1
    exact run_makeS (ws := []) (zs := []) (ks := []) (E := WE W) (gV := fun vs _ => vs) M F hr (kbn_of hb hps) (passAt tk σ) I1 r .nil (by rw [i1.length, hn]) rfl h
end
end DL
end
section
set_option Elab.async false
set_option linter.all false
set_option maxRecDepth 100000
namespace DL
open PySem PySem.Spec L2
/-! ### targets -/
def PosT (c : Cfg) (A : Zs) (Z : Zs) (H F : Hp) (r : Res Unit) (Q : L2.St → Hp → Prop) : Prop := match r with
  | .ok _ ρ' => ∀ σ' H' F' Z', At c A Z' H' F' σ' ρ' → Step Z H F Z' H' F' → Q σ' H'
  | _ => False
def tG (c : Cfg) (gm : D → M Unit) : TG := fun v σ H Q => ∃ A Z F ρ d, At c A Z H F σ ρ ∧ Is c F v d ∧ PosT c A Z H F (gm d ρ) Q
def tGs (c : Cfg) (gm : List D → M Unit) : TGs := fun vs σ H Q => ∃ A Z F ρ ds, At c A Z H F σ ρ ∧ IsL c F vs ds ∧ PosT c A Z H F (gm ds ρ) Q
def setU (i : Nat) (e : Ent) : M Unit := fun ρ => if i < ρ.length then .ok () (ρ.set i e) else .stuck
def aName (i : Nat) : D → M Unit := fun d => setU i (.fz d)
def aNil : List D → M Unit := fun ds => match ds with
  | [] => rt ()
  | _ => stuck
def aCons (g : D → M Unit) (gs : List D → M Unit) : List D → M Unit := fun ds => match ds with
  | d :: r => bd (g d) fun _ => gs r
  | [] => stuck
def aTup (n : Nat) (gs : List D → M Unit) : D → M Unit := fun d => match d with
  | .tup l => if l.length = n then gs l else stuck
  | _ => stuck
def aLst (n : Nat) (gs : List D → M Unit) : D → M Unit := fun d => match d with
  | .lst l => if l.length = n then gs l else stuck
  | _ => stuck
section
variable {X : Cx} {c : Cfg} {W : WX} {tg : Expr} {tgs : List Expr} {pos : Pos} {gm : D → M Unit} {gms : List D → M Unit}
theorem PGi {t t' : TG} (h : PG X tg t) (k : ∀ v σ H Q, t' v σ H Q → t v σ H Q) : PG X tg t' := ⟨fun pins s σ H v u Q I r q => h.run pins s σ H v u Q I r (k v σ H Q q)⟩
theorem PGsi {t t' : TGs} (h : PGs X tgs t) (k : ∀ v σ H Q, t' v σ H Q → t v σ H Q) : PGs X tgs t' := ⟨fun pins s σ H v u Q I r q => h.run pins s σ H v u Q I r (k v σ H Q q)⟩
theorem setU_post {A Z : Zs} {H F : Hp} {σ : L2.St} {ρ : Env} {i : Nat} {v : V} {d : D} {Q : L2.St → Hp → Prop} (p : PosT c A Z H F (setU i (.fz d) ρ) Q) (a : At c A Z H F σ ρ) (iv : Is c F v d) : Q (σ.set i (some v)) H := by
  unfold setU at p
  by_cases hi : i < ρ.length
  · rw [if_pos hi] at p
    refine p _ H F _ (a.set (z := none) hi ⟨rfl, v, rfl, iv⟩ fun _ q => nomatch q) ⟨fun b o e n => ⟨e, rfl⟩, .refl _, fun j b q => ?_⟩
    by_cases e1 : j = i
    · subst e1; rw [put_same] at q; cases q
    · rw [put_ne e1] at q; exact .inl ⟨j, q⟩
  · rw [if_neg hi] at p; exact p.elim
theorem g_name {i : Nat} {x : Str} (hN : X.N.Nodup) (hi : X.N[i]? = some x) (hx : Loc X.env.scope x) (hf : X.fn x = true ∨ X.env.scope.names.lookup x = some .local := by first | exact .inl rfl | exact .inr rfl | assumption) : PG X (.Name x pos) (tG c (aName i)) :=
  PGi (pg_name hN hi hx hf) fun v σ H Q ⟨A, Z, F, ρ, d, at_, iv, p⟩ => setU_post p at_ iv
theorem g_nil : PGs X [] (tGs c aNil) := PGsi pgs_nil fun vs σ H Q ⟨A, Z, F, ρ, ds, at_, iv, p⟩ => by
  cases iv with
  | nil => exact ⟨rfl, p σ H F Z at_ .refl⟩
  | cons _ _ => exact p.elim
theorem PosT.from_ {A Z Z1 : Zs} {H F H1 F1 : Hp} {r : Res Unit} {Q : L2.St → Hp → Prop} (s : Step Z H F Z1 H1 F1) (p : PosT c A Z H F r Q) : PosT c A Z1 H1 F1 r Q := by
  cases r with
  | ok a ρ => exact fun σ' H' F' Z' a s' => p σ' H' F' Z' a (s.trans s')
  | er k fs ρ => exact p
  | stuck => exact p
theorem PosT.bind {A Z : Zs} {H F : Hp} {m : M Unit} {k : Unit → M Unit} {ρ : Env} {Q : L2.St → Hp → Prop} (p : PosT c A Z H F (bd m k ρ) Q) : ∃ ρ1, m ρ = .ok () ρ1 ∧ PosT c A Z H F (k () ρ1) Q := by
  unfold bd at p
  cases e : m ρ with
  | ok a ρ1 => rw [e] at p; exact ⟨ρ1, rfl, p⟩
  | er kk fs ρ1 => rw [e] at p; exact p.elim
  | stuck => rw [e] at p; exact p.elim
theorem g_cons (h1 : PG X tg (tG c gm)) (h2 : PGs X tgs (tGs c gms)) (hs : (assignEach (tg :: tgs) X.env).map (·.2) = assign tg X.env :: (assignEach tgs X.env).map (·.2) := by rfl) : PGs X (tg :: tgs) (tGs c (aCons gm gms)) :=
  PGsi (pgs_cons h1 h2 hs) fun vs σ H Q ⟨A, Z, F, ρ, ds, at_, iv, p⟩ => by
    cases iv with
    | nil => exact p.elim
    | cons i1 i2 =>
      obtain ⟨ρ1, e1, p1⟩ := PosT.bind p
      exact ⟨_, _, rfl, A, Z, F, ρ, _, at_, i1, by rw [e1]; exact fun σ' H' F' Z' a s => ⟨A, Z', F', ρ1, _, a, i2.mono s.mono, p1.from_ s⟩⟩
theorem g_tup {k n : Nat} (hc : X.calm = true) (hK : X.K = c.K) (h : PGs X tgs (tGs c gms)) (hn : (assignEach tgs X.env).length = n := by rfl) (hst : (assignEach tgs X.env).findIdx? (·.1) = none := by rfl) : PG X (.Tuple tgs k pos) (tG c (aTup n gms)) :=
  PGi (pg_tup hc h hn hst) fun v σ H Q ⟨A, Z, F, ρ, d, at_, iv, p⟩ => by
    unfold aTup at p
    split at p
    · rename_i l
      by_cases hl : l.length = n
      · rw [if_pos hl] at p
        cases iv with
        | tup a b => exact ⟨_, _, rfl, by rw [hK]; exact at_.sub.sqT a, by rw [b.length, hl], A, Z, F, ρ, l, at_, b, p⟩
      · rw [if_neg hl] at p; exact p.elim
    · exact p.elim
theorem g_lst {k n : Nat} (hc : X.calm = true) (h : PGs X tgs (tGs c gms)) (hn : (assignEach tgs X.env).length = n := by rfl) (hst : (assignEach tgs X.env).findIdx? (·.1) = none := by rfl) : PG X (.Tuple tgs k pos) (tG c (aLst n gms)) :=
  PGi (pg_lst hc h hn hst) fun v σ H Q ⟨A, Z, F, ρ, d, at_, iv, p⟩ => by
    unfold aLst at p
    split at p
    · rename_i l
      by_cases hl : l.length = n
      · rw [if_pos hl] at p
        cases iv with
        | lst a b => exact ⟨_, _, rfl, .of (at_.sub _ _ a), by rw [b.length, hl], A, Z, F, ρ, l, at_, b, p⟩
      · rw [if_neg hl] at p; exact p.elim
    · exact p.elim
/-- target = e -/
def sAsg (gm : D → M Unit) (g : M D) : M Fl := bd g fun d => bd (gm d) fun _ => rt .nx
theorem s_asg {e : Expr} {g : M D} (he : PE X e (tF c W g)) (hg : PG X tg (tG c gm)) (hs : swapsWithSole [tg] e pos.line X.env = pure false := by rfl) (hw : swappedStores [tg] e X.env = pure none := by rfl)
    (h1 : (assignEach [tg] X.env).map (·.2) = [assign tg X.env] := by rfl) (ner : ∀ d ρ k fs ρ', gm d ρ ≠ .er k fs ρ') : PS X (.Assign [tg] e pos) (tS c W (sAsg gm g)) :=
  PSi (ps_asg he hg hs hw h1) fun Dn σ H ⟨A, Z, F, ρ, at_, p⟩ => ⟨A, Z, F, ρ, at_, (PostS.of (σ := σ) p fun _ _ _ _ => trivial).imp fun d ρ1 q v H1 F1 Z1 a1 i1 s1 => ⟨A, Z1, F1, ρ1, d, a1, i1, by
    unfold bd at q
    cases e : gm d ρ1 with
    | ok u ρ2 => rw [e] at q; exact fun σ' H' F' Z' a s => (show PostS c A W Z H F (.ok .nx ρ2) Dn from q) σ' H' F' Z' a (s1.trans s)
    | er k fs ρ2 => exact absurd e (ner _ _ _ _ _)
    | stuck => rw [e] at q; exact q⟩⟩
end
/-! ### what is walked -/
/-- J yields what the ds denote -/
def Walks (c : Cfg) (J : It) (F : Hp) (ds : List D) : Prop := ∀ H1 F1, Le F F1 → Le F1 H1 → (∀ i d, ds[i]? = some d → J.go i H1 ∧ ∀ x H2, J.yld i H1 x H2 → ∃ F2, Grow H1 F1 H2 F2 ∧ Is c F2 x d) ∧ J.stop ds.length H1
def tI (c : Cfg) (W : WX) (g : M (List D)) : TI := fun σ H R => ∃ A Z F ρ, At c A Z H F σ ρ ∧ Post c A W σ Z H F (g ρ) (fun ds ρ' => ∀ J H' F' Z', At c A Z' H' F' σ ρ' → Step Z H F Z' H' F' → Walks c J F' ds → R J H')
def items : D → Option (List D)
  | .lst l => some l
  | _ => none
def itemsT : D → Option (List D)
  | .tup l => some l
  | _ => none
def signs (s : Str) : List D := s.cps.toList.map fun z => .str ⟨#[z]⟩
def itemsS : D → Option (List D)
  | .str s => if s.length ≤ sizeLine then some (signs s) else none
  | _ => none
section
variable {X : Cx} {c : Cfg} {W : WX} {tg e : Expr} {g : M D} {pos p : Pos}
theorem PIi {t t' : TI} (h : PI X tg e t) (k : ∀ σ H R, t' σ H R → t σ H R) : PI X tg e t' := ⟨fun pins s σ H R I q => h.run pins s σ H R I (k σ H R q)⟩
theorem i_list (h : PE X e (tF c W g)) : PI X tg e (tI c W (bd g fun d => opt (items d))) := PIi (pi_list h) fun σ H R ⟨A, Z, F, ρ, at_, p⟩ =>
  ⟨A, Z, F, ρ, at_, p.bind.imp fun d ρ1 q v H1 F1 Z1 a1 i1 s1 => by
    obtain ⟨l, e1, k⟩ := q.opt
    cases d with
    | lst l' =>
      cases e1
      cases i1 with
      | lst hp il =>
        refine ⟨_, rfl, ⟨_, .of (a1.sub _ _ hp)⟩, k _ H1 F1 Z1 a1 s1 fun H2 F2 l1 l2 => ⟨fun i d hd => ?_, _, .of (l2 _ _ (l1 _ _ hp)), Nat.le_of_eq il.length⟩⟩
        obtain ⟨x, hx, ix⟩ := il.getD hd
        have hs : SqL X.K H2 _ _ := .of (l2 _ _ (l1 _ _ hp))
        refine ⟨⟨_, x, hs, hx⟩, fun y H3 hy => ?_⟩
        obtain ⟨rfl, hy⟩ := hy
        have := hy _ hs
        rw [hx] at this; cases this
        exact ⟨F2, .refl l2, ix.mono l1⟩
    | _ => cases e1⟩
theorem i_tup (hK : X.K = c.K) (h : PE X e (tF c W g)) : PI X tg e (tI c W (bd g fun d => opt (itemsT d))) := PIi (pi_tup h) fun σ H R ⟨A, Z, F, ρ, at_, p⟩ =>
  ⟨A, Z, F, ρ, at_, p.bind.imp fun d ρ1 q v H1 F1 Z1 a1 i1 s1 => by
    obtain ⟨l, e1, k⟩ := q.opt
    cases d with
    | tup l' =>
      cases e1
      cases i1 with
      | tup hp il =>
        refine ⟨_, rfl, ⟨_, by rw [hK]; exact a1.sub.sqT hp⟩, k _ H1 F1 Z1 a1 s1 fun H2 F2 l1 l2 => ⟨fun i d hd => ?_, _, by rw [hK]; exact (l1.trans l2).sqT hp, Nat.le_of_eq il.length⟩⟩
        obtain ⟨x, hx, ix⟩ := il.getD hd
        have hs := (l1.trans l2).sqT hp
        rw [← hK] at hs
        refine ⟨⟨_, x, hs, hx⟩, fun y H3 hy => ?_⟩
        obtain ⟨rfl, hy⟩ := hy
        have := hy _ hs
        rw [hx] at this; cases this
        exact ⟨F2, .refl l2, ix.mono l1⟩
    | _ => cases e1⟩
theorem i_str (h : PE X e (tF c W g)) : PI X tg e (tI c W (bd g fun d => opt (itemsS d))) := PIi (pi_str h) fun σ H R ⟨A, Z, F, ρ, at_, p⟩ =>
  ⟨A, Z, F, ρ, at_, p.bind.imp fun d ρ1 q v H1 F1 Z1 a1 i1 s1 => by
    obtain ⟨l, e1, k⟩ := q.opt
    cases d with
    | str t =>
      cases i1
      have e2 : l = signs t := by
        unfold itemsS at e1
        dsimp only at e1
        by_cases hz : t.length ≤ sizeLine
        · rw [if_pos hz] at e1; cases e1; rfl
        · rw [if_neg hz] at e1; cases e1
      subst e2
      refine ⟨t, rfl, k _ H1 F1 Z1 a1 s1 fun H2 F2 l1 l2 => ⟨fun i d hd => ?_, ?_⟩⟩
      · unfold signs at hd
        rw [List.getElem?_map] at hd
        obtain ⟨z, hz, rfl⟩ := Option.map_eq_some_iff.mp hd
        have hz' : t.cps[i]? = some z := by rw [← Array.getElem?_toList]; exact hz
        refine ⟨(Array.getElem?_eq_some_iff.mp hz').1, fun y H3 hy => ?_⟩
        obtain ⟨rfl, z', h1, rfl⟩ := hy
        rw [hz'] at h1; cases h1
        exact ⟨F2, .refl l2, .str _⟩
      · show t.cps.size ≤ (signs t).length
        unfold signs
        rw [List.length_map, Array.length_toList]
        exact Nat.le_refl _
    | _ => cases e1⟩
def itemsA : D → Option (List D)
  | .lst l => some l
  | .tup l => some l
  | .str s => if s.length ≤ sizeLine then some (signs s) else none
  | _ => none
/-- a list, a tuple, a text -/
theorem i_seq (hK : X.K = c.K) (h : PE X e (tF c W g)) : PI X tg e (tI c W (bd g fun d => opt (itemsA d))) := ⟨fun pins s σ H R I ⟨A, Z, F, ρ, at_, p⟩ => by
  unfold bd at p
  cases q : g ρ with
  | er k fs ρ1 => rw [q] at p; exact (i_list h).run pins s σ H R I ⟨A, Z, F, ρ, at_, by unfold bd; rw [q]; exact p⟩
  | stuck => rw [q] at p; exact p.elim
  | ok d ρ1 =>
    rw [q] at p
    cases d with
    | lst l => exact (i_list h).run pins s σ H R I ⟨A, Z, F, ρ, at_, by unfold bd; rw [q]; exact p⟩
    | tup l => exact (i_tup hK h).run pins s σ H R I ⟨A, Z, F, ρ, at_, by unfold bd; rw [q]; exact p⟩
    | str l => exact (i_str h).run pins s σ H R I ⟨A, Z, F, ρ, at_, by unfold bd; rw [q]; exact p⟩
    | _ => exact p.elim⟩
/-- lo, lo + 1, .., n of them -/
def upI (lo : Int) (n : Nat) : List D := (List.range n).map fun (i : Nat) => D.int (lo + (i : Int))
theorem walks_r {F : Hp} {lo : Int} {n : Nat} : Walks c (Itr lo n) F (upI lo n) := fun H2 F2 l1 l2 => ⟨fun i d hd => by
    unfold upI at hd
    rw [List.getElem?_map] at hd
    obtain ⟨z, hz, rfl⟩ := Option.map_eq_some_iff.mp hd
    obtain ⟨h1, h2⟩ := List.getElem?_eq_some_iff.mp hz
    rw [List.length_range] at h1
    rw [List.getElem_range] at h2
    subst h2
    refine ⟨h1, fun y H3 hy => ?_⟩
    obtain ⟨rfl, rfl⟩ := hy
    exact ⟨F2, .refl l2, .int _⟩, by unfold upI; rw [List.length_map, List.length_range]; exact Nat.le_refl _⟩
def small62 (i : Int) : Bool := decide (-(2 ^ 62) ≤ i) && decide (i < 2 ^ 62)
theorem small62_of {i : Int} (h : small62 i = true) : -(2 ^ 62) ≤ i ∧ i < 2 ^ 62 := by
  obtain ⟨a, b⟩ := Bool.and_eq_true_iff.mp h
  exact ⟨of_decide_eq_true a, of_decide_eq_true b⟩
def rRange : List D → Option (List D)
  | [.int j] => if small62 j then some (upI 0 j.toNat) else none
  | [.int i, .int j] => if small62 i && small62 j then some (upI i (j - i).toNat) else none
  | _ => none
theorem i_range1 {a : Expr} {gs : M (List D)} (hg : Gl X "range") (hm : X.mg "range" = none) (ha : PA X [a] (tFs c W gs)) (hs : starEach [a] X.env = [(false, eval a X.env)] := by rfl) : PI X tg (.Call (.Name "range" p) [a] [] pos) (tI c W (bd gs fun ds => opt (if ds.length = 1 then rRange ds else none))) :=
  PIi (pi_range1 hg hm ha hs) fun σ H R ⟨A, Z, F, ρ, at_, p⟩ => ⟨A, Z, F, ρ, at_, p.bind.imp fun ds ρ1 q v H1 F1 Z1 a1 i1 s1 => by
    obtain ⟨l, e1, k⟩ := q.opt
    by_cases hl : ds.length = 1
    · rw [if_pos hl] at e1
      unfold rRange at e1
      split at e1
      · rename_i j
        by_cases hj : small62 j = true
        · rw [if_pos hj] at e1; cases e1
          obtain ⟨h1, h2⟩ := small62_of hj
          cases i1 with
          | cons i2 i3 =>
            cases i3; cases i2
            exact ⟨j, rfl, h1, h2, k _ H1 F1 Z1 a1 s1 walks_r⟩
        · rw [if_neg hj] at e1; cases e1
      · cases hl
      · cases e1
    · rw [if_neg hl] at e1; cases e1⟩
theorem i_range2 {a b : Expr} {gs : M (List D)} (hg : Gl X "range") (hm : X.mg "range" = none) (ha : PA X [a, b] (tFs c W gs)) (hs : starEach [a, b] X.env = [(false, eval a X.env), (false, eval b X.env)] := by rfl) (hs2 : starEach [b] X.env = [(false, eval b X.env)] := by rfl) :
    PI X tg (.Call (.Name "range" p) [a, b] [] pos) (tI c W (bd gs fun ds => opt (if ds.length = 2 then rRange ds else none))) :=
  PIi (pi_range2 hg hm ha hs hs2) fun σ H R ⟨A, Z, F, ρ, at_, p⟩ => ⟨A, Z, F, ρ, at_, p.bind.imp fun ds ρ1 q v H1 F1 Z1 a1 i1 s1 => by
    obtain ⟨l, e1, k⟩ := q.opt
    by_cases hl : ds.length = 2
    · rw [if_pos hl] at e1
      unfold rRange at e1
      split at e1
      · cases hl
      · rename_i i j
        by_cases hj : (small62 i && small62 j) = true
        · rw [if_pos hj] at e1; cases e1
          obtain ⟨ha, hb⟩ := Bool.and_eq_true_iff.mp hj
          obtain ⟨h1, h2⟩ := small62_of ha
          obtain ⟨h3, h4⟩ := small62_of hb
          have ev := isl2 i1
          subst ev
          exact ⟨i, j, rfl, ⟨h1, h2, h3, h4⟩, k _ H1 F1 Z1 a1 s1 walks_r⟩
        · rw [if_neg hj] at e1; cases e1
      · cases e1
    · rw [if_neg hl] at e1; cases e1⟩
/-- enumerate of a list -/
def enumD (l : List D) : List D := l.zipIdx.map fun p => .tup [.int (p.2 : Nat), p.1]
theorem i_enum {a : Expr} {ga : M D} {elts : List Expr} {kk : Nat} {tpos : Pos} (hg : Gl X "enumerate") (hm : X.mg "enumerate" = none) (ha : PE X a (tF c W ga)) (hs : starEach [a] X.env = [(false, eval a X.env)] := by rfl) :
    PI X (.Tuple elts kk tpos) (.Call (.Name "enumerate" p) [a] [] pos) (tI c W (bd ga fun d => bd (opt (items d)) fun l => rt (enumD l))) :=
  PIi (pi_enum hg hm (pa_cons ha pa_nil hs) hs) fun σ H R ⟨A, Z, F, ρ, at_, p⟩ => ⟨A, Z, F, ρ, at_, p.bind.imp fun d ρ1 q v H1 F1 Z1 a1 i1 s1 => by
    obtain ⟨l, e1, k⟩ := (Post.bind q).opt
    cases d with
    | lst l' =>
      cases e1
      cases i1 with
      | lst hp il =>
        refine ⟨_, _, rfl, .of (a1.sub _ _ hp), (show ∀ J H' F' Z', At c A Z' H' F' σ ρ1 → Step Z H F Z' H' F' → Walks c J F' (enumD l) → R J H' from k) _ H1 F1 Z1 a1 s1 fun H2 F2 l1 l2 => ⟨fun i d hd => ?_, _, .of (l2 _ _ (l1 _ _ hp)), ?_⟩⟩
        · unfold enumD at hd
          rw [List.getElem?_map, List.getElem?_zipIdx] at hd
          cases hd0 : l[i]? with
          | none => rw [hd0] at hd; cases hd
          | some dd =>
            rw [hd0] at hd
            obtain ⟨x, hx, ix⟩ := il.getD hd0
            have hs : SqL X.K H2 _ _ := .of (l2 _ _ (l1 _ _ hp))
            refine ⟨⟨_, x, hs, hx⟩, fun y H3 hy => ?_⟩
            obtain ⟨T, x', rfl, hT, rfl, hy⟩ := hy
            have := hy _ hs
            rw [hx] at this; cases this
            have ed : d = .tup [.int (i : Nat), dd] := by
              simp only [Option.map_some, Option.some.injEq] at hd
              rw [← hd, Nat.zero_add]
            subst ed
            exact ⟨upd F2 T _, .new l2 hT, .tup (.of upd_same) (.cons (.int _) (.one ((ix.mono l1).mono (le_upd (none_of_le l2 hT)))))⟩
        · unfold enumD
          rw [List.length_map, List.length_zipIdx]
          exact Nat.le_of_eq il.length
    | _ => cases e1⟩
def zipD (l r : List D) : List D := (l.zip r).map fun p => .tup [p.1, p.2]
def rZip : List D → Option (List D)
  | [.lst l, .lst r] => some (zipD l r)
  | _ => none
theorem i_zip {a b : Expr} {gs : M (List D)} {elts : List Expr} {kk : Nat} {tpos : Pos} (hg : Gl X "zip") (hm : X.mg "zip" = none) (ha : PA X [a, b] (tFs c W gs)) (hs : starEach [a, b] X.env = (false, eval a X.env) :: starEach [b] X.env := by rfl) (hpl : (backTo pos (starEach [b] X.env)).any (·.1) = false := by rfl) :
    PI X (.Tuple elts kk tpos) (.Call (.Name "zip" p) [a, b] [] pos) (tI c W (bd gs fun ds => opt (rZip ds))) :=
  PIi (pi_zip hg hm ha hs hpl) fun σ H R ⟨A, Z, F, ρ, at_, p⟩ => ⟨A, Z, F, ρ, at_, p.bind.imp fun ds ρ1 q v H1 F1 Z1 a1 i1 s1 => by
    obtain ⟨l, e1, k⟩ := q.opt
    unfold rZip at e1
    split at e1
    · rename_i l1 l2
      cases e1
      cases i1 with
      | cons ia ib =>
        cases ib with
        | cons ib ic =>
          cases ic
          cases ia with
          | lst hp il =>
            cases ib with
            | lst hq jl =>
              refine ⟨_, _, _, _, rfl, .of (a1.sub _ _ hp), .of (a1.sub _ _ hq), k _ H1 F1 Z1 a1 s1 fun H2 F2 k1 k2 => ⟨fun i d hd => ?_, _, _, .of (k2 _ _ (k1 _ _ hp)), .of (k2 _ _ (k1 _ _ hq)), ?_⟩⟩
              · unfold zipD at hd
                rw [List.getElem?_map] at hd
                obtain ⟨⟨d1, d2⟩, hz, rfl⟩ := Option.map_eq_some_iff.mp hd
                obtain ⟨hd1, hd2⟩ := List.getElem?_zip_eq_some.mp hz
                obtain ⟨x, hx, ix⟩ := il.getD hd1
                obtain ⟨y, hy, iy⟩ := jl.getD hd2
                have hs1 : SqL X.K H2 _ _ := .of (k2 _ _ (k1 _ _ hp))
                have hs2 : SqL X.K H2 _ _ := .of (k2 _ _ (k1 _ _ hq))
                refine ⟨⟨_, _, x, y, hs1, hs2, hx, hy⟩, fun z H3 hz => ?_⟩
                obtain ⟨T, x', y', rfl, hT, rfl, h1, h2⟩ := hz
                have e1 := h1 _ hs1
                have e2 := h2 _ hs2
                rw [hx] at e1; cases e1
                rw [hy] at e2; cases e2
                have m := le_upd (o := .tup [x, y]) (none_of_le k2 hT)
                exact ⟨upd F2 T _, .new k2 hT, .tup (.of upd_same) (.cons ((ix.mono k1).mono m) (.one ((iy.mono k1).mono m)))⟩
              · unfold zipD
                rw [List.length_map, List.length_zip, il.length, jl.length]
                omega
    · cases e1⟩
end
/-! ### for, while -/
def sFor (ga : D → M Unit) (gb : M Fl) : List D → M Fl
  | [] => rt .nx
  | d :: r => bd (ga d) fun _ => bd gb fun f => match f with
    | .nx => sFor ga gb r
    | .ct => sFor ga gb r
    | .bk => rt .nx
    | .ret d => rt (.ret d)
def mFor (gi : M (List D)) (ga : D → M Unit) (gb : M Fl) : M Fl := bd gi fun ds => sFor ga gb ds
def sWhile (t : M Bool) (gb : M Fl) : Nat → M Fl
  | 0 => stuck
  | n + 1 => bd t fun x => if x = true then (bd gb fun f => match f with
    | .nx => sWhile t gb n
    | .ct => sWhile t gb n
    | .bk => rt .nx
    | .ret d => rt (.ret d)) else rt .nx
section
variable {X : Cx} {c : Cfg} {W : WX} {tg iter t0 : Expr} {body : List Stmt} {gi : M (List D)} {ga : D → M Unit} {gb : M Fl} {t : M Bool} {pos : Pos}
theorem s_for (hp : PassesOwn (model X.prog X.w) X.A X.env X.xe) (hc : X.calm = true) (hi : PI X tg iter (tI c W gi)) (hg : PG X tg (tG c ga)) (hb : PSs X body (tS c W gb)) (ner : ∀ d ρ k fs ρ', ga d ρ ≠ .er k fs ρ')
    (hs : ∀ x, foldedSetIterable iter X.env x = pure x := by intro _; rfl) : PS X (.For tg iter body [] pos) (tS c W (mFor gi ga gb)) :=
  PSi (ps_for hp hc hi hg hb hs) fun Dn σ H ⟨A, Z, F, ρ, at_, p⟩ => ⟨A, Z, F, ρ, at_, (PostS.of (σ := σ) p fun _ _ _ _ => trivial).imp fun ds ρ1 q J H1 F1 Z1 a1 s1 wk => by
    refine ⟨fun i m σ2 H2 => m = ds.length - i ∧ i ≤ ds.length ∧ ∃ F2 Z2 ρ2, At c A Z2 H2 F2 σ2 ρ2 ∧ Step Z H F Z2 H2 F2 ∧ Le F1 F2 ∧ PostS c A W Z H F (sFor ga gb (ds.drop i) ρ2) Dn, ⟨ds.length, rfl, Nat.zero_le _, F1, Z1, ρ1, a1, s1, .refl _, by rw [List.drop_zero]; exact q⟩, ?_⟩
    rintro i m σ2 H2 ⟨rfl, hi, F2, Z2, ρ2, a2, s2, lf, q2⟩
    obtain ⟨go, st⟩ := wk H2 F2 lf a2.sub
    by_cases hlt : i < ds.length
    · have hd : ds[i]? = some ds[i] := List.getElem?_eq_getElem hlt
      obtain ⟨g1, g2⟩ := go i _ hd
      rw [List.drop_eq_getElem_cons hlt] at q2
      refine .inr ⟨g1, fun σ' H' => ∃ F3 Z3 ρ3, At c A Z3 H' F3 σ' ρ3 ∧ Step Z H F Z3 H' F3 ∧ Le F1 F3 ∧ PostS c A W Z H F (sFor ga gb (ds.drop (i + 1)) ρ3) Dn, fun σ' H' ⟨F3, Z3, ρ3, h1, h2, h3, h4⟩ => ⟨ds.length - (i + 1), by omega, rfl, hlt, F3, Z3, ρ3, h1, h2, h3, h4⟩, fun x H3 hy => ?_⟩
      obtain ⟨F3, gr, ix⟩ := g2 x H3 hy
      have a3 := a2.grow gr
      have s3 := s2.trans (Step.grow gr a2.sub)
      have m3 := gr.mono a2.sub
      unfold sFor bd at q2
      refine ⟨A, Z2, F3, ρ2, ds[i], a3, ix, ?_⟩
      cases e : ga ds[i] ρ2 with
      | er k fs ρ' => exact absurd e (ner _ _ _ _ _)
      | stuck => rw [e] at q2; exact q2
      | ok u ρ3 =>
        rw [e] at q2
        intro σ4 H4 F4 Z4 a4 s4
        refine ⟨A, Z4, F4, ρ3, a4, ?_⟩
        have s5 := s3.trans s4
        have q3 : PostS c A W Z H F ((gb ρ3).bd fun f => match f with
          | .nx => sFor ga gb (ds.drop (i + 1))
          | .ct => sFor ga gb (ds.drop (i + 1))
          | .bk => rt .nx
          | .ret d => rt (.ret d)) Dn := q2
        cases e2 : gb ρ3 with
        | er k fs ρ' => rw [e2] at q3; exact fun dx σ' H' F' Z' a x s => q3 dx σ' H' F' Z' a x (s5.trans s)
        | stuck => rw [e2] at q3; exact q3
        | ok f ρ4 =>
          rw [e2] at q3
          cases f with
          | nx => exact fun σ' H' F' Z' a s => ⟨F', Z', ρ4, a, s5.trans s, lf.trans (m3.trans (s4.mono.trans s.mono)), q3⟩
          | ct => exact fun σ' H' F' Z' a s => ⟨F', Z', ρ4, a, s5.trans s, lf.trans (m3.trans (s4.mono.trans s.mono)), q3⟩
          | bk => exact fun σ' H' F' Z' a s => (show PostS c A W Z H F (.ok .nx ρ4) Dn from q3) σ' H' F' Z' a (s5.trans s)
          | ret d => exact fun v σ' H' F' Z' a i s => (show PostS c A W Z H F (.ok (.ret d) ρ4) Dn from q3) v σ' H' F' Z' a i (s5.trans s)
    · have e : i = ds.length := by omega
      subst e
      rw [List.drop_length] at q2
      exact .inl ⟨st, (show PostS c A W Z H F (.ok .nx ρ2) Dn from q2) σ2 H2 F2 Z2 a2 s2⟩⟩
theorem s_while (n : Nat) (hp : PassesOwn (model X.prog X.w) X.A X.env X.xe) (ht : PT X t0 (tT c W t)) (hb : PSs X body (tS c W gb)) : PS X (.While t0 body [] pos) (tS c W (sWhile t gb n)) :=
  PSi (ps_while hp ht hb) fun Dn σ H ⟨A, Z, F, ρ, at_, p⟩ => by
    refine ⟨fun m σ2 H2 => ∃ F2 Z2 ρ2, At c A Z2 H2 F2 σ2 ρ2 ∧ PostS c A W Z2 H2 F2 (sWhile t gb m ρ2) Dn, ⟨n, F, Z, ρ, at_, p⟩, ?_⟩
    rintro m σ2 H2 ⟨F2, Z2, ρ2, a2, q2⟩
    cases m with
    | zero => exact q2.elim
    | succ m =>
      refine ⟨A, Z2, F2, ρ2, a2, (PostS.of (σ := σ2) q2 fun _ _ _ _ => trivial).imp fun x ρ3 q3 H3 F3 Z3 a3 s3 => ?_⟩
      cases x with
      | false => rw [if_neg Bool.false_ne_true]; exact (show PostS c A W Z2 H2 F2 (.ok .nx ρ3) Dn from q3) σ2 H3 F3 Z3 a3 s3
      | true =>
        rw [if_pos rfl]
        have q4 : PostS c A W Z3 H3 F3 ((gb ρ3).bd fun f => match f with
          | .nx => sWhile t gb m
          | .ct => sWhile t gb m
          | .bk => rt .nx
          | .ret d => rt (.ret d)) Dn := PostS.from_ s3 q3
        refine ⟨fun σ' H' => ∃ F4 Z4 ρ4, At c A Z4 H' F4 σ' ρ4 ∧ PostS c A W Z4 H' F4 (sWhile t gb m ρ4) Dn, fun σ' H' ⟨F4, Z4, ρ4, h1, h2⟩ => ⟨m, Nat.lt_succ_self m, F4, Z4, ρ4, h1, h2⟩, A, Z3, F3, ρ3, a3, ?_⟩
        cases e2 : gb ρ3 with
        | er k fs ρ' => rw [e2] at q4; exact q4
        | stuck => rw [e2] at q4; exact q4
        | ok f ρ4 =>
          rw [e2] at q4
          cases f with
          | nx => exact fun σ' H' F' Z' a s => ⟨F', Z', ρ4, a, PostS.from_ s q4⟩
          | ct => exact fun σ' H' F' Z' a s => ⟨F', Z', ρ4, a, PostS.from_ s q4⟩
          | bk => exact q4
          | ret d => exact q4
end
end DL
end
section
set_option Elab.async false
set_option linter.all false
set_option maxRecDepth 100000
namespace DL
open PySem PySem.Spec L2
/-! ### list comprehensions -/
/-- the wish of a block: nothing leaves it -/
abbrev W0 : WX := fun _ _ _ _ => False
theorem takes0 {X : Cx} : Takes X W0 := fun u s' ⟨a, B, sI, pins, σ, H, cls, d, e, I, nb, up, sky, na, os, ag, w⟩ => w.elim
def Ent.still : Ent → Bool
  | .no => true
  | .fz _ => true
  | _ => false
def stillAt (ρ : Env) (vs : List Nat) : Bool := vs.all fun v => match ρ[v]? with
  | some e => e.still
  | none => false
def wipeE (ρ : Env) : List Nat → Env
  | [] => ρ
  | v :: vs => (wipeE ρ vs).set v .no
/-- ρ1 behind a turn, the block's own names as in ρ0 -/
def backE (ρ1 ρ0 : Env) : List Nat → Env
  | [] => ρ1
  | v :: vs => (backE ρ1 ρ0 vs).set v (ρ0[v]?.getD .no)
theorem wipeE_length {ρ : Env} : ∀ {vs : List Nat}, (wipeE ρ vs).length = ρ.length
  | [] => rfl
  | v :: vs => by unfold wipeE; rw [List.length_set]; exact wipeE_length
theorem backE_length {ρ ρ0 : Env} : ∀ {vs : List Nat}, (backE ρ ρ0 vs).length = ρ.length
  | [] => rfl
  | v :: vs => by unfold backE; rw [List.length_set]; exact backE_length
theorem wipeE_out {ρ : Env} {i : Nat} : ∀ {vs : List Nat}, i ∉ vs → (wipeE ρ vs)[i]? = ρ[i]?
  | [], _ => rfl
  | v :: vs, h => by
    have h1 : v ≠ i := fun e => h (by rw [e]; exact List.mem_cons_self)
    unfold wipeE
    rw [List.getElem?_set_ne h1]
    exact wipeE_out fun e => h (List.mem_cons_of_mem _ e)
theorem wipeE_in {ρ : Env} {i : Nat} (hi : i < ρ.length) : ∀ {vs : List Nat}, i ∈ vs → (wipeE ρ vs)[i]? = some .no
  | [], h => by simp at h
  | v :: vs, h => by
    unfold wipeE
    by_cases e : v = i
    · subst e
      rw [List.getElem?_set_self (by rw [wipeE_length]; exact hi)]
    · rw [List.getElem?_set_ne e]
      rcases List.mem_cons.mp h with q | q
      · exact absurd q.symm e
      · exact wipeE_in hi q
theorem backE_out {ρ ρ0 : Env} {i : Nat} : ∀ {vs : List Nat}, i ∉ vs → (backE ρ ρ0 vs)[i]? = ρ[i]?
  | [], _ => rfl
  | v :: vs, h => by
    have h1 : v ≠ i := fun e => h (by rw [e]; exact List.mem_cons_self)
    unfold backE
    rw [List.getElem?_set_ne h1]
    exact backE_out fun e => h (List.mem_cons_of_mem _ e)
theorem backE_in {ρ ρ0 : Env} {i : Nat} (hi : i < ρ.length) : ∀ {vs : List Nat}, i ∈ vs → (backE ρ ρ0 vs)[i]? = some (ρ0[i]?.getD .no)
  | [], h => by simp at h
  | v :: vs, h => by
    unfold backE
    by_cases e : v = i
    · subst e
      rw [List.getElem?_set_self (by rw [backE_length]; exact hi)]
    · rw [List.getElem?_set_ne e]
      rcases List.mem_cons.mp h with q | q
      · exact absurd q.symm e
      · exact backE_in hi q
theorem still_at {ρ : Env} {vs : List Nat} {i : Nat} (h : stillAt ρ vs = true) (hi : i ∈ vs) : ∃ e, ρ[i]? = some e ∧ e.still = true := by
  have := List.all_eq_true.mp h i hi
  cases q : ρ[i]? with
  | none => rw [q] at this; cases this
  | some e => rw [q] at this; exact ⟨e, rfl, this⟩
section
variable {c : Cfg} {A Z Z1 : Zs} {σ σ1 : L2.St} {H F H1 F1 : Hp} {ρ ρ1 : Env} {vs : List Nat}
theorem EntOk.still {z x ap} {e : Ent} (h : EntOk c F H z x ap e) (s : e.still = true) : z = none := by
  cases e with
  | no => exact h
  | fz d => exact h.1
  | _ => cases s
theorem At.wiped (at_ : At c A Z H F σ ρ) (hs : stillAt ρ vs = true) : At c A Z H F (wipe σ vs) (wipeE ρ vs) := by
  refine ⟨at_.sub, by rw [wipe_length, wipeE_length]; exact at_.len, fun i e q => ?_, fun i q => at_.out i (by rw [wipeE_length] at q; exact q), at_.inj, at_.nf⟩
  by_cases hi : i ∈ vs
  · have hl : i < ρ.length := by have := lt_of_get q; rw [wipeE_length] at this; exact this
    rw [wipeE_in hl hi] at q; cases q
    obtain ⟨e, h1, h2⟩ := still_at hs hi
    exact (at_.ent i e h1).still h2
  · rw [wipeE_out hi] at q
    rw [wipe_out hi]
    exact at_.ent i e q
theorem At.back (a0 : At c A Z H F σ ρ) (hs : stillAt ρ vs = true) (m : Le F F1) (a1 : At c A Z1 H1 F1 σ1 ρ1) (hs1 : stillAt ρ1 vs = true) (hw : wipe σ1 vs = wipe σ vs) (hl : ρ1.length = ρ.length) : At c A Z1 H1 F1 σ (backE ρ1 ρ vs) := by
  refine ⟨a1.sub, by rw [backE_length, hl]; exact a0.len, fun i e q => ?_, fun i q => a1.out i (by rw [backE_length] at q; exact q), a1.inj, a1.nf⟩
  have hi1 : i < ρ1.length := by have := lt_of_get q; rw [backE_length] at this; exact this
  by_cases hi : i ∈ vs
  · rw [backE_in hi1 hi] at q
    obtain ⟨e0, h1, h2⟩ := still_at hs hi
    obtain ⟨e1, k1, k2⟩ := still_at hs1 hi
    rw [h1] at q; cases q
    have z1 := (a1.ent i e1 k1).still k2
    have k := a0.ent i _ h1
    cases e0 with
    | no => exact z1
    | fz d => obtain ⟨_, v, b, i⟩ := k; exact ⟨z1, v, b, i.mono m⟩
    | _ => cases h2
  · rw [backE_out hi] at q
    have e2 : σ[i]? = σ1[i]? := by rw [← wipe_out (σ := σ) hi, ← hw, wipe_out hi]
    rw [e2]
    exact a1.ent i e q
end
/-- one turn of a block -/
def turnLc (vs : List Nat) (ga : D → M Unit) (tt : M Bool) (ge : M D) (d : D) : M (Option D) := fun ρ =>
  if stillAt ρ vs = true then
    match ga d (wipeE ρ vs) with
    | .ok _ ρ1 => (match tt ρ1 with
      | .ok true ρ2 => (match ge ρ2 with
        | .ok e ρ3 => if stillAt ρ3 vs = true ∧ ρ3.length = ρ.length then .ok (some e) (backE ρ3 ρ vs) else .stuck
        | _ => .stuck)
      | .ok false ρ2 => if stillAt ρ2 vs = true ∧ ρ2.length = ρ.length then .ok none (backE ρ2 ρ vs) else .stuck
      | _ => .stuck)
    | _ => .stuck
  else .stuck
def loopL (vs : List Nat) (ga : D → M Unit) (tt : M Bool) (ge : M D) : List D → List D → M (List D)
  | [], acc => rt acc
  | d :: r, acc => if acc.length < sizeLine then bd (turnLc vs ga tt ge d) fun o => loopL vs ga tt ge r (match o with
    | some e => acc ++ [e]
    | none => acc) else stuck
def sole {α : Type} (m : M α) : M α := fun ρ => match m ρ with
  | .ok a ρ' => .ok a ρ'
  | _ => .stuck
def mLc (gi : M (List D)) (vs : List Nat) (ga : D → M Unit) (tt : M Bool) (ge : M D) : M Ent := bd gi fun ds => bd (sole (loopL vs ga tt ge ds [])) fun l => rt (.ow l)
theorem turn_inv {vs : List Nat} {ga : D → M Unit} {tt : M Bool} {ge : M D} {d : D} {ρ ρ' : Env} {o : Option D} (h : turnLc vs ga tt ge d ρ = .ok o ρ') : stillAt ρ vs = true ∧ ∃ u ρ1, ga d (wipeE ρ vs) = .ok u ρ1 ∧
    ((∃ ρ2, tt ρ1 = .ok false ρ2 ∧ o = none ∧ stillAt ρ2 vs = true ∧ ρ2.length = ρ.length ∧ ρ' = backE ρ2 ρ vs) ∨
      ∃ ρ2 e ρ3, tt ρ1 = .ok true ρ2 ∧ ge ρ2 = .ok e ρ3 ∧ o = some e ∧ stillAt ρ3 vs = true ∧ ρ3.length = ρ.length ∧ ρ' = backE ρ3 ρ vs) := by
  unfold turnLc at h
  by_cases hs : stillAt ρ vs = true
  · rw [if_pos hs] at h
    refine ⟨hs, ?_⟩
    split at h
    · rename_i u ρ1 e1
      refine ⟨u, ρ1, e1, ?_⟩
      split at h
      · rename_i ρ2 e2
        split at h
        · rename_i e ρ3 e3
          split at h
          · rename_i hz
            cases h
            exact .inr ⟨ρ2, e, ρ3, e2, e3, rfl, hz.1, hz.2, rfl⟩
          · cases h
        · cases h
      · rename_i ρ2 e2
        split at h
        · rename_i hz
          cases h
          exact .inl ⟨ρ2, e2, rfl, hz.1, hz.2, rfl⟩
        · cases h
      · cases h
    · cases h
  · rw [if_neg hs] at h; cases h
theorem bd_inv {α β : Type} {m : M α} {f : α → M β} {ρ ρ' : Env} {b : β} (h : bd m f ρ = .ok b ρ') : ∃ a ρ1, m ρ = .ok a ρ1 ∧ f a ρ1 = .ok b ρ' := by
  unfold bd at h
  cases e : m ρ with
  | ok a ρ1 => rw [e] at h; exact ⟨a, ρ1, rfl, h⟩
  | er k fs ρ1 => rw [e] at h; cases h
  | stuck => rw [e] at h; cases h
theorem loop_inv {vs : List Nat} {ga : D → M Unit} {tt : M Bool} {ge : M D} {d : D} {r acc l : List D} {ρ ρ' : Env} (h : loopL vs ga tt ge (d :: r) acc ρ = .ok l ρ') : acc.length < sizeLine ∧ ∃ o ρ1, turnLc vs ga tt ge d ρ = .ok o ρ1 ∧ loopL vs ga tt ge r (match o with
    | some e => acc ++ [e]
    | none => acc) ρ1 = .ok l ρ' := by
  unfold loopL at h
  by_cases hs : acc.length < sizeLine
  · rw [if_pos hs] at h
    exact ⟨hs, bd_inv h⟩
  · rw [if_neg hs] at h; cases h
theorem sole_post {c : Cfg} {A Z : Zs} {W : WX} {σ : L2.St} {H F : Hp} {α β : Type} {m : M α} {f : α → M β} {ρ : Env} {K : β → Env → Prop} (h : Post c A W σ Z H F (bd (sole m) f ρ) K) : ∃ a ρ1, m ρ = .ok a ρ1 ∧ Post c A W σ Z H F (f a ρ1) K := by
  unfold bd sole at h
  cases e : m ρ with
  | ok a ρ1 => simp only [e] at h; exact ⟨a, ρ1, rfl, h⟩
  | er k fs ρ1 => simp only [e] at h; exact h.elim
  | stuck => simp only [e] at h; exact h.elim
/-- the tests of a clause -/
def mTs (X : Cx) (c : Cfg) (ifs : List Expr) (tt : M Bool) : Prop := PTs X ifs (tT c W0 tt)
section
variable {X : Cx} {c : Cfg} {W : WX}
theorem PTsi {ifs : List Expr} {t t' : TT} (h : PTs X ifs t) (k : ∀ σ H Q, t' σ H Q → t σ H Q) : PTs X ifs t' := ⟨fun pins s σ H Q I q => h.run pins s σ H Q I (k σ H Q q)⟩
theorem ts_nil : PTs X [] (tT c W (rt true)) := PTsi pts_nil fun σ H Q ⟨A, Z, F, ρ, at_, p⟩ => p H F Z at_ .refl
theorem ts_one {e : Expr} {t : M Bool} (h : PT X e (tT c W t)) : PTs X [e] (tT c W t) := pts_one h
theorem keepD {Z Z' : Zs} {H F H' F' : Hp} {D : Addr} {o : HO} (s : Step Z H F Z' H' F') (h : H D = some o) (n : ∀ i, Z i ≠ some D) (f : F D = none) : H' D = some o ∧ (∀ i, Z' i ≠ some D) ∧ F' D = none := by
  obtain ⟨k1, k2⟩ := s.keep D o h n
  refine ⟨k1, fun i z => ?_, k2.trans f⟩
  rcases s.foot i D z with ⟨j, q⟩ | q
  · exact n j q
  · rw [h] at q; cases q
/-- D's list is written to -/
theorem At.updD {A Z : Zs} {H F : Hp} {σ : L2.St} {ρ : Env} {D : Addr} {o : HO} (at_ : At c A Z H F σ ρ) (n : ∀ i, Z i ≠ some D) (f : F D = none) : At c A Z (upd H D o) F σ ρ := by
  refine ⟨fun a u e => ?_, at_.len, fun i e q => ?_, at_.out, at_.inj, at_.nf⟩
  · rw [upd_ne (fun z => by rw [z, f] at e; cases e)]; exact at_.sub a u e
  · have k := at_.ent i e q
    have up : ∀ {p : Addr} {u : HO}, Z i = some p → H p = some u → upd H D o p = some u := fun {p u} hz hp => by
      rw [upd_ne (fun z => n i (by rw [hz, z]))]; exact hp
    cases e with
    | no => exact k
    | fz d => exact k
    | ow ds => obtain ⟨p, vs, a, b, q, i⟩ := k; exact ⟨p, vs, a, b, up a q, i⟩
    | pin ds => obtain ⟨p, vs, a0, a, b, q, i⟩ := k; exact ⟨p, vs, a0, a, b, up a q, i⟩
    | ob n ds => obtain ⟨p, dx, fs, a0, a, b, q, i⟩ := k; exact ⟨p, dx, fs, a0, a, b, up a q, i⟩
    | dc ds => obtain ⟨p, vs, a, b, q, i⟩ := k; exact ⟨p, vs, a, b, up a q, i⟩
theorem IsL.snoc {F : Hp} {v : V} {d : D} {vs : List V} {ds : List D} (h : IsL c F vs ds) (i : Is c F v d) : IsL c F (vs ++ [v]) (ds ++ [d]) := h.append (.one i)

/-! targets that store in vs only -/
theorem wipe_in {σ : L2.St} {i : Nat} (hi : i < σ.length) : ∀ {vs : List Nat}, i ∈ vs → (wipe σ vs)[i]? = some none
  | [], h => by simp at h
  | v :: vs, h => by
    unfold wipe
    by_cases e : v = i
    · subst e
      rw [List.getElem?_set_self (by rw [wipe_length]; exact hi)]
    · rw [List.getElem?_set_ne e]
      rcases List.mem_cons.mp h with q | q
      · exact absurd q.symm e
      · exact wipe_in hi q
theorem wipe_set {σ : L2.St} {i : Nat} {x : Option V} {vs : List Nat} (h : i ∈ vs) : wipe (σ.set i x) vs = wipe σ vs := by
  apply List.ext_getElem?
  intro j
  by_cases hj : j ∈ vs
  · by_cases hl : j < σ.length
    · rw [wipe_in (by rw [List.length_set]; exact hl) hj, wipe_in hl hj]
    · rw [List.getElem?_eq_none (by rw [wipe_length, List.length_set]; omega), List.getElem?_eq_none (by rw [wipe_length]; omega)]
  · rw [wipe_out hj, wipe_out hj, List.getElem?_set_ne (fun e => hj (by rw [← e]; exact h))]
theorem wipe_wipe {σ : L2.St} {vs : List Nat} : wipe (wipe σ vs) vs = wipe σ vs := by
  apply List.ext_getElem?
  intro j
  by_cases hj : j ∈ vs
  · by_cases hl : j < σ.length
    · rw [wipe_in (by rw [wipe_length]; exact hl) hj, wipe_in hl hj]
    · rw [List.getElem?_eq_none (by rw [wipe_length, wipe_length]; omega), List.getElem?_eq_none (by rw [wipe_length]; omega)]
  · rw [wipe_out hj]
def tGw (c : Cfg) (vs : List Nat) (gm : D → M Unit) : TG := fun v σ H Q => ∃ A Z F ρ d, At c A Z H F σ ρ ∧ Is c F v d ∧ PosT c A Z H F (gm d ρ) fun σ' H' => wipe σ' vs = wipe σ vs → Q σ' H'
def tGws (c : Cfg) (vs : List Nat) (gm : List D → M Unit) : TGs := fun ws σ H Q => ∃ A Z F ρ ds, At c A Z H F σ ρ ∧ IsL c F ws ds ∧ PosT c A Z H F (gm ds ρ) fun σ' H' => wipe σ' vs = wipe σ vs → Q σ' H'
variable {tg : Expr} {tgs : List Expr} {pos : Pos} {gm : D → M Unit} {gms : List D → M Unit} {vs : List Nat}
theorem gw_name {i : Nat} {x : Str} (hN : X.N.Nodup) (hi : X.N[i]? = some x) (hx : Loc X.env.scope x) (hv : i ∈ vs) (hf : X.fn x = true ∨ X.env.scope.names.lookup x = some .local := by first | exact .inl rfl | exact .inr rfl | assumption) : PG X (.Name x pos) (tGw c vs (aName i)) :=
  PGi (pg_name hN hi hx hf) fun v σ H Q ⟨A, Z, F, ρ, d, at_, iv, p⟩ => (setU_post p at_ iv) (wipe_set hv)
theorem gw_nil : PGs X [] (tGws c vs aNil) := PGsi pgs_nil fun ws σ H Q ⟨A, Z, F, ρ, ds, at_, iv, p⟩ => by
  cases iv with
  | nil => exact ⟨rfl, p σ H F Z at_ .refl rfl⟩
  | cons _ _ => exact p.elim
theorem PosT.imp {A Z : Zs} {H F : Hp} {r : Res Unit} {Q Q' : L2.St → Hp → Prop} (p : PosT c A Z H F r Q) (k : ∀ σ H, Q σ H → Q' σ H) : PosT c A Z H F r Q' := by
  cases r with
  | ok a ρ => exact fun σ' H' F' Z' a s => k _ _ (p σ' H' F' Z' a s)
  | er k fs ρ => exact p
  | stuck => exact p
theorem gw_cons (h1 : PG X tg (tGw c vs gm)) (h2 : PGs X tgs (tGws c vs gms)) (hs : (assignEach (tg :: tgs) X.env).map (·.2) = assign tg X.env :: (assignEach tgs X.env).map (·.2) := by rfl) : PGs X (tg :: tgs) (tGws c vs (aCons gm gms)) :=
  PGsi (pgs_cons h1 h2 hs) fun ws σ H Q ⟨A, Z, F, ρ, ds, at_, iv, p⟩ => by
    cases iv with
    | nil => exact p.elim
    | cons i1 i2 =>
      obtain ⟨ρ1, e1, p1⟩ := PosT.bind p
      refine ⟨_, _, rfl, A, Z, F, ρ, _, at_, i1, ?_⟩
      rw [e1]
      exact fun σ' H' F' Z' a s e => ⟨A, Z', F', ρ1, _, a, i2.mono s.mono, (p1.from_ s).imp fun σ2 H2 q e2 => q (e2.trans e)⟩
theorem gw_tup {k n : Nat} (hc : X.calm = true) (hK : X.K = c.K) (h : PGs X tgs (tGws c vs gms)) (hn : (assignEach tgs X.env).length = n := by rfl) (hst : (assignEach tgs X.env).findIdx? (·.1) = none := by rfl) : PG X (.Tuple tgs k pos) (tGw c vs (aTup n gms)) :=
  PGi (pg_tup hc h hn hst) fun v σ H Q ⟨A, Z, F, ρ, d, at_, iv, p⟩ => by
    unfold aTup at p
    split at p
    · rename_i l
      by_cases hl : l.length = n
      · rw [if_pos hl] at p
        cases iv with
        | tup a b => exact ⟨_, _, rfl, by rw [hK]; exact at_.sub.sqT a, by rw [b.length, hl], A, Z, F, ρ, l, at_, b, p⟩
      · rw [if_neg hl] at p; exact p.elim
    · exact p.elim
theorem KE.list {A Z Z1 : Zs} {σ : L2.St} {H F H1 F1 : Hp} {Q : VK} {l : List D} {ρ1 : Env} {ws : List V} {D : Addr} (k : KE c A σ Z H F Q (.ow l) ρ1) (a1 : At c A Z1 H1 F1 σ ρ1) (s1 : Step Z H F Z1 H1 F1) (hD : H1 D = some (.lst ws)) (il : IsL c F1 ws l) (n : ∀ i, Z1 i ≠ some D) (f : F1 D = none) (w : (∃ i, Z i = some D) ∨ H D = none) : Q (.ref D) H1 :=
  k (.ref D) (some D) H1 F1 Z1 a1 ⟨D, ws, rfl, rfl, hD, il⟩ (fun b hb => by cases hb; exact ⟨f, n, w⟩) s1
theorem Step.updD {Z Z1 : Zs} {H F H1 F1 : Hp} {D : Addr} {o : HO} (s : Step Z H F Z1 H1 F1) (w : (∃ i, Z i = some D) ∨ H D = none) : Step Z H F Z1 (upd H1 D o) F1 := by
  refine ⟨fun a u e n => ?_, s.mono, s.foot⟩
  obtain ⟨k1, k2⟩ := s.keep a u e n
  refine ⟨?_, k2⟩
  rw [upd_ne]
  · exact k1
  · intro z
    subst z
    rcases w with ⟨i, w⟩ | w
    · exact n i w
    · rw [w] at e; cases e
theorem d_lc {elt tg iter : Expr} {ifs : List Expr} {scope : Scope} {own : List (Str × Nat)} {pos : Pos} {gi : M (List D)} {ga : D → M Unit} {tt : M Bool} {ge : M D} (hc : X.calm = true) (hN : X.N.Nodup) (hi : PI X tg iter (tI c W gi)) (ok : BlkOk X.N X.env.scope scope own)
    (hg : ∀ (s : Shared) (H : Hp) (C : Addr) (cl : List (Str × Addr)) (fp : List Addr), PG (X.blk s H scope (compEnvC scope cl C X.env) fp) tg (tGw c (own.map (·.2)) ga))
    (ht : ∀ (s : Shared) (H : Hp) (C : Addr) (cl : List (Str × Addr)) (fp : List Addr), PTs (X.blk s H scope (compEnvC scope cl C X.env) fp) ifs (tT c W0 tt))
    (he : ∀ (s : Shared) (H : Hp) (C : Addr) (cl : List (Str × Addr)) (fp : List Addr), PE (X.blk s H scope (compEnvC scope cl C X.env) fp) elt (tF c W0 ge))
    (hs : ∀ x, foldedSetIterable iter X.env x = pure x := by intro _; rfl) :
    PE X (.ListComp elt [⟨tg, iter, ifs, 0⟩] scope pos) (tE c W (mLc gi (own.map (·.2)) ga tt ge)) := by
  refine PEi (pe_lc hc hN hi ok hg ht he hs) fun σ H Q ⟨A, Z, F, ρ, at_, p⟩ => ⟨A, Z, F, ρ, at_, p.bind.imp fun ds ρ1 q J H1 F1 Z1 a1 s1 wk => ?_⟩
  generalize own.map (·.2) = vs at q
  obtain ⟨l, ρL, q0, qL⟩ := sole_post q
  intro D hD
  have hD0 : (∃ i, Z i = some D) ∨ H D = none := fresh_foot s1 hD
  have n1 : ∀ i, Z1 i ≠ some D := fun j z => by obtain ⟨o, ho⟩ := a1.there z; rw [hD] at ho; cases ho
  have f1 : F1 D = none := none_of_le a1.sub hD
  refine ⟨fun i m H' => m = ds.length - i ∧ i ≤ ds.length ∧ ∃ F' Z' ρ' acc ws, At c A Z' H' F' σ ρ' ∧ H' D = some (.lst ws) ∧ (∀ i, Z' i ≠ some D) ∧ F' D = none ∧ IsL c F' ws acc ∧ Step Z H F Z' H' F' ∧ Le F1 F' ∧ loopL vs ga tt ge (ds.drop i) acc ρ' = .ok l ρL,
    ⟨_, rfl, Nat.zero_le _, F1, Z1, ρ1, [], [], a1.grow (.lay a1.sub hD), upd_same, n1, f1, .nil, s1.trans (Step.grow (.lay a1.sub hD) a1.sub), .refl _, q0⟩, ?_⟩
  rintro i m H2 ⟨rfl, hle, F2, Z2, ρ2, acc, ws, a2, hD2, n2, f2, il2, s2, lf, q2⟩
  obtain ⟨w1, w2⟩ := wk H2 F2 lf a2.sub
  by_cases hi : i < ds.length
  · refine .inr ?_
    rw [List.drop_eq_getElem_cons hi] at q2
    obtain ⟨hz, o, ρt, q3, q4⟩ := loop_inv q2
    obtain ⟨hst, u, ρ4, e1, q3⟩ := turn_inv q3
    obtain ⟨g1, g2⟩ := w1 i ds[i] (List.getElem?_eq_getElem hi)
    refine ⟨g1, fun H' => (i + 1 ≤ ds.length ∧ ∃ F' Z' ρ' acc ws, At c A Z' H' F' σ ρ' ∧ H' D = some (.lst ws) ∧ (∀ i, Z' i ≠ some D) ∧ F' D = none ∧ IsL c F' ws acc ∧ Step Z H F Z' H' F' ∧ Le F1 F' ∧ loopL vs ga tt ge (ds.drop (i + 1)) acc ρ' = .ok l ρL),
      fun H' ⟨h1, h2⟩ => ⟨ds.length - (i + 1), by omega, rfl, h1, h2⟩, fun x H3 hy => ?_⟩
    obtain ⟨F3, gr, ix⟩ := g2 x H3 hy
    have a3 := a2.grow gr
    have s23 : Step Z2 H2 F2 Z2 H3 F3 := Step.grow gr a2.sub
    obtain ⟨hD3, n3, f3⟩ := keepD s23 hD2 n2 f2
    have s3 := s2.trans s23
    have il3 := il2.mono s23.mono
    have a3w := a3.wiped hst
    refine ⟨A, Z2, F3, wipeE ρ2 vs, ds[i], a3w, ix, ?_⟩
    rw [e1]
    intro σ4 H4 F4 Z4 a4 s4 hw
    rw [wipe_wipe] at hw
    obtain ⟨hD4, n4, f4⟩ := keepD s4 hD3 n3 f3
    refine ⟨hw, A, Z4, F4, ρ4, a4, ?_⟩
    rcases q3 with ⟨ρ5, e2, eo, h5, h5l, rfl⟩ | ⟨ρ5, y, ρ6, e2, e3, eo, h6, h6l, rfl⟩
    · rw [e2]
      subst eo
      intro H5 F5 Z5 a5 s5
      rw [if_neg Bool.false_ne_true]
      obtain ⟨hD5, n5, f5⟩ := keepD s5 hD4 n4 f4
      exact ⟨by omega, F5, Z5, _, acc, ws, a3.back hst (s4.mono.trans s5.mono) a5 h5 hw h5l, hD5, n5, f5, (il3.mono s4.mono).mono s5.mono, (s3.trans s4).trans s5, lf.trans (s23.mono.trans (s4.mono.trans s5.mono)), q4⟩
    · rw [e2]
      subst eo
      intro H5 F5 Z5 a5 s5
      rw [if_pos rfl]
      obtain ⟨hD5, n5, f5⟩ := keepD s5 hD4 n4 f4
      refine ⟨A, Z5, F5, ρ5, a5, ?_⟩
      rw [e3]
      intro v H6 F6 Z6 a6 iy s6
      obtain ⟨hD6, n6, f6⟩ := keepD s6 hD5 n5 f5
      have il6 := ((il3.mono s4.mono).mono s5.mono).mono s6.mono
      have s06 := ((s3.trans s4).trans s5).trans s6
      have ab := a3.back hst (s4.mono.trans (s5.mono.trans s6.mono)) a6 h6 hw h6l
      exact ⟨ws, hD6, by rw [il6.length]; exact hz, by omega, F6, Z6, _, _, _, ab.updD n6 f6, upd_same, n6, f6, il6.snoc iy, s06.updD hD0, lf.trans (s23.mono.trans (s4.mono.trans (s5.mono.trans s6.mono))), q4⟩
  · have e : i = ds.length := by omega
    subst e
    rw [List.drop_length] at q2
    obtain ⟨rfl, rfl⟩ : acc = l ∧ ρ2 = ρL := by cases q2; exact ⟨rfl, rfl⟩
    exact .inl ⟨w2, KE.list (show KE c A σ Z H F Q (.ow acc) ρ2 from qL) a2 s2 hD2 il2 n2 f2 hD0⟩
/-! two clauses -/
def turnL2 (vs : List Nat) (ga : D → M Unit) (tt : M Bool) (gi1 : M (List D)) (vs1 : List Nat) (ga1 : D → M Unit) (tt1 : M Bool) (ge : M D) (d : D) (acc : List D) : M (List D) := fun ρ =>
  if stillAt ρ vs = true then
    match ga d (wipeE ρ vs) with
    | .ok _ ρ1 => (match tt ρ1 with
      | .ok true ρ2 => (match gi1 ρ2 with
        | .ok ds1 ρ3 => (match loopL vs1 ga1 tt1 ge ds1 acc ρ3 with
          | .ok acc' ρ4 => if stillAt ρ4 vs = true ∧ ρ4.length = ρ.length then .ok acc' (backE ρ4 ρ vs) else .stuck
          | _ => .stuck)
        | _ => .stuck)
      | .ok false ρ2 => if stillAt ρ2 vs = true ∧ ρ2.length = ρ.length then .ok acc (backE ρ2 ρ vs) else .stuck
      | _ => .stuck)
    | _ => .stuck
  else .stuck
def loopL2 (vs : List Nat) (ga : D → M Unit) (tt : M Bool) (gi1 : M (List D)) (vs1 : List Nat) (ga1 : D → M Unit) (tt1 : M Bool) (ge : M D) : List D → List D → M (List D)
  | [], acc => rt acc
  | d :: r, acc => bd (turnL2 vs ga tt gi1 vs1 ga1 tt1 ge d acc) fun acc' => loopL2 vs ga tt gi1 vs1 ga1 tt1 ge r acc'
def mLc2 (gi : M (List D)) (vs : List Nat) (ga : D → M Unit) (tt : M Bool) (gi1 : M (List D)) (vs1 : List Nat) (ga1 : D → M Unit) (tt1 : M Bool) (ge : M D) : M Ent := bd gi fun ds => bd (sole (loopL2 vs ga tt gi1 vs1 ga1 tt1 ge ds [])) fun l => rt (.ow l)
theorem turn2_inv {vs vs1 : List Nat} {ga ga1 : D → M Unit} {tt tt1 : M Bool} {ge : M D} {gi1 : M (List D)} {d : D} {ρ ρ' : Env} {acc acc' : List D} (h : turnL2 vs ga tt gi1 vs1 ga1 tt1 ge d acc ρ = .ok acc' ρ') : stillAt ρ vs = true ∧ ∃ u ρ1, ga d (wipeE ρ vs) = .ok u ρ1 ∧
    ((∃ ρ2, tt ρ1 = .ok false ρ2 ∧ acc' = acc ∧ stillAt ρ2 vs = true ∧ ρ2.length = ρ.length ∧ ρ' = backE ρ2 ρ vs) ∨
      ∃ ρ2 ds1 ρ3 ρ4, tt ρ1 = .ok true ρ2 ∧ gi1 ρ2 = .ok ds1 ρ3 ∧ loopL vs1 ga1 tt1 ge ds1 acc ρ3 = .ok acc' ρ4 ∧ stillAt ρ4 vs = true ∧ ρ4.length = ρ.length ∧ ρ' = backE ρ4 ρ vs) := by
  unfold turnL2 at h
  by_cases hs : stillAt ρ vs = true
  · rw [if_pos hs] at h
    refine ⟨hs, ?_⟩
    split at h
    · rename_i u ρ1 e1
      refine ⟨u, ρ1, e1, ?_⟩
      split at h
      · rename_i ρ2 e2
        split at h
        · rename_i ds1 ρ3 e3
          split at h
          · rename_i acc2 ρ4 e4
            split at h
            · rename_i hz
              cases h
              exact .inr ⟨ρ2, ds1, ρ3, ρ4, e2, e3, e4, hz.1, hz.2, rfl⟩
            · cases h
          · cases h
        · cases h
      · rename_i ρ2 e2
        split at h
        · rename_i hz
          cases h
          exact .inl ⟨ρ2, e2, rfl, hz.1, hz.2, rfl⟩
        · cases h
      · cases h
    · cases h
  · rw [if_neg hs] at h; cases h
theorem d_lc2 {elt tg iter tg1 iter1 : Expr} {ifs ifs1 : List Expr} {scope : Scope} {own : List (Str × Nat)} {vs1 : List Nat} {pos : Pos} {gi gi1 : M (List D)} {ga ga1 : D → M Unit} {tt tt1 : M Bool} {ge : M D} (hc : X.calm = true) (hN : X.N.Nodup) (hi : PI X tg iter (tI c W gi)) (ok : BlkOk X.N X.env.scope scope own) (hv : ∀ i ∈ vs1, i ∈ own.map (·.2))
    (hg : ∀ (s : Shared) (H : Hp) (C : Addr) (cl : List (Str × Addr)) (fp : List Addr), PG (X.blk s H scope (compEnvC scope cl C X.env) fp) tg (tGw c (own.map (·.2)) ga))
    (ht : ∀ (s : Shared) (H : Hp) (C : Addr) (cl : List (Str × Addr)) (fp : List Addr), PTs (X.blk s H scope (compEnvC scope cl C X.env) fp) ifs (tT c W0 tt))
    (hi1 : ∀ (s : Shared) (H : Hp) (C : Addr) (cl : List (Str × Addr)) (fp : List Addr), PI (X.blk s H scope (compEnvC scope cl C X.env) fp) tg1 iter1 (tI c W0 gi1))
    (hg1 : ∀ (s : Shared) (H : Hp) (C : Addr) (cl : List (Str × Addr)) (fp : List Addr), PG (X.blk s H scope (compEnvC scope cl C X.env) fp) tg1 (tGw c vs1 ga1))
    (ht1 : ∀ (s : Shared) (H : Hp) (C : Addr) (cl : List (Str × Addr)) (fp : List Addr), PTs (X.blk s H scope (compEnvC scope cl C X.env) fp) ifs1 (tT c W0 tt1))
    (he : ∀ (s : Shared) (H : Hp) (C : Addr) (cl : List (Str × Addr)) (fp : List Addr), PE (X.blk s H scope (compEnvC scope cl C X.env) fp) elt (tF c W0 ge))
    (hs : ∀ x, foldedSetIterable iter X.env x = pure x := by intro _; rfl) (hs1 : ∀ env x, foldedSetIterable iter1 env x = pure x := by intro _ _; rfl) :
    PE X (.ListComp elt [⟨tg, iter, ifs, 0⟩, ⟨tg1, iter1, ifs1, 0⟩] scope pos) (tE c W (mLc2 gi (own.map (·.2)) ga tt gi1 vs1 ga1 tt1 ge)) := by
  refine PEi (pe_lc2 hc hN hi ok hv hg ht hi1 hg1 ht1 he hs hs1) fun σ H Q ⟨A, Z, F, ρ, at_, p⟩ => ⟨A, Z, F, ρ, at_, p.bind.imp fun ds ρ1 q J H1 F1 Z1 a1 s1 wk => ?_⟩
  generalize own.map (·.2) = vs at q
  obtain ⟨l, ρL, q0, qL⟩ := sole_post q
  intro D hD
  have hD0 : (∃ i, Z i = some D) ∨ H D = none := fresh_foot s1 hD
  have n1 : ∀ i, Z1 i ≠ some D := fun j z => by obtain ⟨o, ho⟩ := a1.there z; rw [hD] at ho; cases ho
  have f1 : F1 D = none := none_of_le a1.sub hD
  refine ⟨fun i m H' => m = ds.length - i ∧ i ≤ ds.length ∧ ∃ F' Z' ρ' acc ws, At c A Z' H' F' σ ρ' ∧ H' D = some (.lst ws) ∧ (∀ i, Z' i ≠ some D) ∧ F' D = none ∧ IsL c F' ws acc ∧ Step Z H F Z' H' F' ∧ Le F1 F' ∧ loopL2 vs ga tt gi1 vs1 ga1 tt1 ge (ds.drop i) acc ρ' = .ok l ρL,
    ⟨_, rfl, Nat.zero_le _, F1, Z1, ρ1, [], [], a1.grow (.lay a1.sub hD), upd_same, n1, f1, .nil, s1.trans (Step.grow (.lay a1.sub hD) a1.sub), .refl _, q0⟩, ?_⟩
  rintro i m H2 ⟨rfl, hle, F2, Z2, ρ2, acc, ws, a2, hD2, n2, f2, il2, s2, lf, q2⟩
  obtain ⟨w1, w2⟩ := wk H2 F2 lf a2.sub
  by_cases hi : i < ds.length
  · refine .inr ?_
    rw [List.drop_eq_getElem_cons hi] at q2
    obtain ⟨acc', ρt, q3, q4⟩ := bd_inv (show bd (turnL2 vs ga tt gi1 vs1 ga1 tt1 ge ds[i] acc) (fun acc' => loopL2 vs ga tt gi1 vs1 ga1 tt1 ge (ds.drop (i + 1)) acc') ρ2 = .ok l ρL from q2)
    obtain ⟨hst, u, ρ4, e1, q3⟩ := turn2_inv q3
    obtain ⟨g1, g2⟩ := w1 i ds[i] (List.getElem?_eq_getElem hi)
    refine ⟨g1, fun H' => (i + 1 ≤ ds.length ∧ ∃ F' Z' ρ' acc ws, At c A Z' H' F' σ ρ' ∧ H' D = some (.lst ws) ∧ (∀ i, Z' i ≠ some D) ∧ F' D = none ∧ IsL c F' ws acc ∧ Step Z H F Z' H' F' ∧ Le F1 F' ∧ loopL2 vs ga tt gi1 vs1 ga1 tt1 ge (ds.drop (i + 1)) acc ρ' = .ok l ρL),
      fun H' ⟨h1, h2⟩ => ⟨ds.length - (i + 1), by omega, rfl, h1, h2⟩, fun x H3 hy => ?_⟩
    obtain ⟨F3, gr, ix⟩ := g2 x H3 hy
    have a3 := a2.grow gr
    have s23 : Step Z2 H2 F2 Z2 H3 F3 := Step.grow gr a2.sub
    obtain ⟨hD3, n3, f3⟩ := keepD s23 hD2 n2 f2
    have s3 := s2.trans s23
    have il3 := il2.mono s23.mono
    have a3w := a3.wiped hst
    refine ⟨A, Z2, F3, wipeE ρ2 vs, ds[i], a3w, ix, ?_⟩
    rw [e1]
    intro σ4 H4 F4 Z4 a4 s4 hw
    rw [wipe_wipe] at hw
    obtain ⟨hD4, n4, f4⟩ := keepD s4 hD3 n3 f3
    refine ⟨hw, A, Z4, F4, ρ4, a4, ?_⟩
    rcases q3 with ⟨ρ5, e2, eo, h5, h5l, rfl⟩ | ⟨ρ5, ds1, ρ6, ρ7, e2, e3, e4, h7, h7l, rfl⟩
    · rw [e2]
      subst eo
      intro H5 F5 Z5 a5 s5
      rw [if_neg Bool.false_ne_true]
      obtain ⟨hD5, n5, f5⟩ := keepD s5 hD4 n4 f4
      exact ⟨by omega, F5, Z5, _, _, ws, a3.back hst (s4.mono.trans s5.mono) a5 h5 hw h5l, hD5, n5, f5, (il3.mono s4.mono).mono s5.mono, (s3.trans s4).trans s5, lf.trans (s23.mono.trans (s4.mono.trans s5.mono)), q4⟩
    · rw [e2]
      intro H5 F5 Z5 a5 s5
      rw [if_pos rfl]
      obtain ⟨hD5, n5, f5⟩ := keepD s5 hD4 n4 f4
      refine ⟨A, Z5, F5, ρ5, a5, ?_⟩
      rw [e3]
      intro J1 H6 F6 Z6 a6 s6 wk1
      obtain ⟨hD6, n6, f6⟩ := keepD s6 hD5 n5 f5
      refine ⟨fun j k H' => k = ds1.length - j ∧ j ≤ ds1.length ∧ ∃ F' Z' ρ' acc ws, At c A Z' H' F' σ4 ρ' ∧ H' D = some (.lst ws) ∧ (∀ i, Z' i ≠ some D) ∧ F' D = none ∧ IsL c F' ws acc ∧ Step Z H F Z' H' F' ∧ Le F6 F' ∧ loopL vs1 ga1 tt1 ge (ds1.drop j) acc ρ' = .ok acc' ρ7,
        ⟨_, rfl, Nat.zero_le _, F6, Z6, ρ6, acc, ws, a6, hD6, n6, f6, ((il3.mono s4.mono).mono s5.mono).mono s6.mono, ((s3.trans s4).trans s5).trans s6, .refl _, e4⟩, ?_⟩
      have m36 : Le F3 F6 := s4.mono.trans (s5.mono.trans s6.mono)
      rintro j k H7 ⟨rfl, hlj, F7, Z7, ρ8, acc8, ws8, a7, hD7, n7, f7, il7, s7, lf7, q7⟩
      obtain ⟨v1, v2⟩ := wk1 H7 F7 lf7 a7.sub
      by_cases hj : j < ds1.length
      · refine .inr ?_
        rw [List.drop_eq_getElem_cons hj] at q7
        obtain ⟨hz, o, ρt, q8, q9⟩ := loop_inv q7
        obtain ⟨hst8, u, ρ9, e5, q8⟩ := turn_inv q8
        obtain ⟨g3, g4⟩ := v1 j ds1[j] (List.getElem?_eq_getElem hj)
        refine ⟨g3, fun H' => (j + 1 ≤ ds1.length ∧ ∃ F' Z' ρ' acc ws, At c A Z' H' F' σ4 ρ' ∧ H' D = some (.lst ws) ∧ (∀ i, Z' i ≠ some D) ∧ F' D = none ∧ IsL c F' ws acc ∧ Step Z H F Z' H' F' ∧ Le F6 F' ∧ loopL vs1 ga1 tt1 ge (ds1.drop (j + 1)) acc ρ' = .ok acc' ρ7),
          fun H' ⟨h1, h2⟩ => ⟨ds1.length - (j + 1), by omega, rfl, h1, h2⟩, fun x H8 hy => ?_⟩
        obtain ⟨F8, gr, ix⟩ := g4 x H8 hy
        have a8 := a7.grow gr
        have s78 : Step Z7 H7 F7 Z7 H8 F8 := Step.grow gr a7.sub
        obtain ⟨hD8, n8, f8⟩ := keepD s78 hD7 n7 f7
        have s8 := s7.trans s78
        have il8 := il7.mono s78.mono
        refine ⟨A, Z7, F8, wipeE ρ8 vs1, ds1[j], a8.wiped hst8, ix, ?_⟩
        rw [e5]
        intro σ9 H9 F9 Z9 a9 s9 hw9
        rw [wipe_wipe] at hw9
        obtain ⟨hD9, n9, f9⟩ := keepD s9 hD8 n8 f8
        refine ⟨hw9, A, Z9, F9, ρ9, a9, ?_⟩
        rcases q8 with ⟨ρa, e6, eo, ha, hal, rfl⟩ | ⟨ρa, y, ρb, e6, e7, eo, hb, hbl, rfl⟩
        · rw [e6]
          subst eo
          intro Ha Fa Za aa sa
          rw [if_neg Bool.false_ne_true]
          obtain ⟨hDa, na, fa⟩ := keepD sa hD9 n9 f9
          exact ⟨by omega, Fa, Za, _, _, ws8, a8.back hst8 (s9.mono.trans sa.mono) aa ha hw9 hal, hDa, na, fa, (il8.mono s9.mono).mono sa.mono, (s8.trans s9).trans sa, lf7.trans (s78.mono.trans (s9.mono.trans sa.mono)), q9⟩
        · rw [e6]
          subst eo
          intro Ha Fa Za aa sa
          rw [if_pos rfl]
          obtain ⟨hDa, na, fa⟩ := keepD sa hD9 n9 f9
          refine ⟨A, Za, Fa, ρa, aa, ?_⟩
          rw [e7]
          intro v Hb Fb Zb ab iy sb
          obtain ⟨hDb, nb, fb⟩ := keepD sb hDa na fa
          have ilb := ((il8.mono s9.mono).mono sa.mono).mono sb.mono
          have s0b := ((s8.trans s9).trans sa).trans sb
          have abk := a8.back hst8 (s9.mono.trans (sa.mono.trans sb.mono)) ab hb hw9 hbl
          exact ⟨ws8, hDb, by rw [ilb.length]; exact hz, by omega, Fb, Zb, _, _, _, abk.updD nb fb, upd_same, nb, fb, ilb.snoc iy, s0b.updD hD0, lf7.trans (s78.mono.trans (s9.mono.trans (sa.mono.trans sb.mono))), q9⟩
      · have e : j = ds1.length := by omega
        subst e
        rw [List.drop_length] at q7
        obtain ⟨rfl, rfl⟩ : acc8 = acc' ∧ ρ8 = ρ7 := by cases q7; exact ⟨rfl, rfl⟩
        exact .inl ⟨v2, by omega, F7, Z7, _, acc8, ws8, a3.back hst (m36.trans lf7) a7 h7 hw h7l, hD7, n7, f7, il7, s7, lf.trans (s23.mono.trans (m36.trans lf7)), q4⟩
  · have e : i = ds.length := by omega
    subst e
    rw [List.drop_length] at q2
    obtain ⟨rfl, rfl⟩ : acc = l ∧ ρ2 = ρL := by cases q2; exact ⟨rfl, rfl⟩
    exact .inl ⟨w2, KE.list (show KE c A σ Z H F Q (.ow acc) ρ2 from qL) a2 s2 hD2 il2 n2 f2 hD0⟩
end
end DL
end
section
set_option Elab.async false
set_option linter.all false
set_option maxRecDepth 100000
namespace DL
open PySem PySem.Spec PyProof.Rows L2
/-! ### methods of a list of one's own -/
/-- what a method makes of the list's items and its arguments -/
def LM (c : Cfg) (r : V → List V → Hp → VK → Prop) (f : List D → List D → Option (D × List D)) : Prop :=
  ∀ (H F : Hp) (a : Addr) (xs ws : List V) (ds es : List D) (d : D) (l : List D) (Q : VK), Le F H → H a = some (.lst xs) → F a = none → IsL c F xs ds → IsL c F ws es → f ds es = some (d, l) →
    (∀ v H' F' xs', GrowX a H F H' F' → H' a = some (.lst xs') → IsL c F' xs' l → Is c F' v d → Q v H') → r (.ref a) ws H Q
def outI (o : Option (D × List D)) : OutI := match o with
  | some (d, l) => .ok d l
  | none => .stuck
def mLM (i : Nat) (f : List D → List D → Option (D × List D)) (gs : M (List D)) : M D := bd (isOwn i) fun _ => bd gs fun es => liftI i (fun ds es => outI (f ds es)) es
section
variable {X : Cx} {c : Cfg} {W : WX} {e o : Expr} {es : List Expr} {g go : M D} {gs : M (List D)} {pos p apos cpos : Pos} {x y name : Str} {i : Nat} {id : String} {r : V → List V → Hp → VK → Prop} {f : List D → List D → Option (D × List D)}
theorem d_lm (slot : Slot "list" name id) (hty : typeOf (.builtin id) = pure (.type "method_descriptor")) (hm : MtR X id r) (hf : LM c r f) (hv : PE X (.Name y p) (tVar i)) (ha : PA X (e :: es) (tFs c W gs))
    (hbase : attributeBase (.Name y p) name X.env (eval (.Name y p) X.env) = eval (.Name y p) X.env := by rfl)
    (hfew : ((backTo cpos (starEach (e :: es) X.env)).all (fun x => !x.1) && (backToKw cpos (keywordEach [] X.env)).all (fun x => x.1.isSome)
      && decide ((e :: es).length + ([] : List Keyword).length + (if ([] : List Keyword).isEmpty then 0 else 1) < 30)) = true := by rfl)
    (hline : (apos.endLine == cpos.line) = true := by rfl) (hs : starEach (e :: es) X.env = (false, eval e X.env) :: starEach es X.env := by rfl) (hplain : (backTo cpos (starEach es X.env)).any (·.1) = false := by rfl) :
    PE X (.Call (.Attribute (.Name y p) name apos) (e :: es) [] cpos) (tF c W (mLM i f gs)) := by
  refine PEi (pe_bm PySem.F.plainAttrs_list slot hty hm hv ha hbase hfew hline hs hplain) fun σ H Q ⟨A, Z, F0, ρ, at_, p⟩ => ?_
  have hs : isOwn i ρ ≠ .stuck := by
    intro h
    unfold mLM bd at p
    rw [h] at p
    exact p
  obtain ⟨l, a, xs, hl, hz, hb, hH, il, hF⟩ := own_at at_ hs
  have e0 : isOwn i ρ = .ok () ρ := by
    unfold isOwn
    rcases hl with h | h <;> rw [h]
  unfold mLM bd at p
  rw [e0] at p
  have p1 : Post c A W σ Z H F0 ((gs ρ).bd fun es => liftI i (fun ds es => outI (f ds es)) es) (KF c A σ Z H F0 Q) := p
  refine ⟨.ref a, hb, .inl ⟨rfl, xs, .of hH⟩, A, Z, F0, ρ, at_, p1.bind.imp fun ds ρ1 q vs H1 F1 Z1 a1 i1 s1 => ?_⟩
  obtain ⟨_, a', ws, F2, xs2, ds2, es2, ev, le2, hH2, hF2, il2, iw2, q2⟩ := callI (n := ds.length) hb rfl q a1 i1 s1
  cases ev
  dsimp only at q2
  cases ef : f ds2 es2 with
  | none => rw [ef] at q2; exact q2.elim
  | some dl =>
    obtain ⟨d, l2⟩ := dl
    rw [ef] at q2
    exact hf H1 F2 a xs2 vs ds2 es2 d l2 Q le2 hH2 hF2 il2 iw2 ef q2
def fAppend : List D → List D → Option (D × List D) := fun ds es => match es with
  | [e] => if ds.length < sizeLine then some (.non, ds ++ [e]) else none
  | _ => none
theorem isl1 {F : Hp} {xs : List V} {d : D} (h : IsL c F xs [d]) : ∃ x, xs = [x] ∧ Is c F x d := by
  cases h with
  | cons a t => cases t; exact ⟨_, rfl, a⟩
theorem lm_append : LM c rAppend fAppend := by
  intro H F a xs ws ds es d l Q le hH hF il iw e q
  unfold fAppend at e
  split at e
  · rename_i e1
    by_cases hz : ds.length < sizeLine
    · rw [if_pos hz] at e; cases e
      obtain ⟨x, rfl, ix⟩ := isl1 iw
      exact ⟨a, xs, x, rfl, rfl, hH, by rw [il.length]; exact hz, q _ _ F _ (GrowX.of le hH hF _) upd_same (il.snoc ix) .non⟩
    · rw [if_neg hz] at e; cases e
  · cases e
def fPopAt : List D → List D → Option (D × List D) := fun ds es => match es with
  | [.int i] => if small62 i then (match seqIndex? i ds.length with
    | some k => (ds[k]?).map fun d => (d, ds.eraseIdx k)
    | none => none) else none
  | _ => none
theorem IsL.erase {F : Hp} : ∀ {xs : List V} {ds : List D} (k : Nat), IsL c F xs ds → IsL c F (xs.eraseIdx k) (ds.eraseIdx k)
  | _, _, _, .nil => .nil
  | _, _, 0, .cons _ t => t
  | _, _, k + 1, .cons r t => .cons r (IsL.erase k t)
theorem lm_popAt : LM c rPopAt fPopAt := by
  intro H F a xs ws ds es d l Q le hH hF il iw e q
  unfold fPopAt at e
  split at e
  · rename_i i
    by_cases hz : small62 i = true
    · rw [if_pos hz] at e
      obtain ⟨h1, h2⟩ := small62_of hz
      split at e
      · rename_i k hk
        obtain ⟨d', e1, e2⟩ := Option.map_eq_some_iff.mp e
        cases e2
        obtain ⟨x, rfl, ix⟩ := isl1 iw
        cases ix
        obtain ⟨y, hy, iy⟩ := il.getD e1
        have h63 : (2 : Int) ^ 62 ≤ 2 ^ 63 := by decide
        exact ⟨a, xs, i, k, y, rfl, rfl, hH, by omega, by omega, by rw [il.length]; exact hk, hy, q _ _ F _ (GrowX.of le hH hF _) upd_same (il.erase k) iy⟩
      · cases e
    · rw [if_neg hz] at e; cases e
  · cases e
def fExtend : List D → List D → Option (D × List D) := fun ds es => match es with
  | [.lst l] => if ds.length + l.length ≤ sizeLine then some (.non, ds ++ l) else none
  | _ => none
theorem lm_extend : LM c rExtend fExtend := by
  intro H F a xs ws ds es d l Q le hH hF il iw e q
  unfold fExtend at e
  split at e
  · rename_i e1
    by_cases hz : ds.length + e1.length ≤ sizeLine
    · rw [if_pos hz] at e; cases e
      obtain ⟨x, rfl, ix⟩ := isl1 iw
      cases ix with
      | lst hb ib => exact ⟨a, _, xs, _, rfl, rfl, hH, le _ _ hb, by rw [il.length, ib.length]; exact hz, q _ _ F _ (GrowX.of le hH hF _) upd_same (il.append ib) .non⟩
    · rw [if_neg hz] at e; cases e
  · cases e
/-! ### an item of a list of one's own is stored -/
def putIx (i : Nat) (k d : D) : M Fl := fun ρ => match k with
  | .int k => (match ρ[i]? with
    | some (.pin l) => (match ixN l.length k with
      | some j => .ok .nx (ρ.set i (.pin (l.set j d)))
      | none => .stuck)
    | some (.ow l) => (match ixN l.length k with
      | some j => .ok .nx (ρ.set i (.ow (l.set j d)))
      | none => .stuck)
    | _ => .stuck)
  | _ => .stuck
def sIx (i : Nat) (gk g : M D) : M Fl := bd g fun d => bd (isOwn i) fun _ => bd gk fun k => putIx i k d
theorem own_ok {ρ : Env} (h : isOwn i ρ ≠ .stuck) : isOwn i ρ = .ok () ρ := by
  unfold isOwn at h ⊢
  split
  · rfl
  · rfl
  · rename_i h1 h2
    exfalso
    apply h
    split
    · rename_i q; exact absurd q (h1 _)
    · rename_i q; exact absurd q (h2 _)
    · rfl
theorem s_ix {k : Expr} {gk : M D} {tpos : Pos} (he : PE X e (tF c W g)) (hv : PE X (.Name y p) (tVar i)) (hk : PE X k (tF c W gk))
    (ha : ∀ v, assign (.Subscript (.Name y p) k tpos) X.env v = (do
      let ov ← holding [v] (eval (.Name y p) X.env)
      let iv ← holding [v, ov] (eval k X.env)
      standAt tpos
      holding [v, ov, iv] (setItem ov iv v)
      release [v, ov, iv] []) := by intro _; rfl)
    (hs : swapsWithSole [.Subscript (.Name y p) k tpos] e pos.line X.env = pure false := by rfl) (hw : swappedStores [.Subscript (.Name y p) k tpos] e X.env = pure none := by rfl)
    (h1 : (assignEach [.Subscript (.Name y p) k tpos] X.env).map (·.2) = [assign (.Subscript (.Name y p) k tpos) X.env] := by rfl) :
    PS X (.Assign [.Subscript (.Name y p) k tpos] e pos) (tS c W (sIx i gk g)) :=
  PSi (ps_asg he (pg_sub hv hk set_list ha) hs hw h1) fun Dn σ H ⟨A, Z, F, ρ, at_, p⟩ => ⟨A, Z, F, ρ, at_, (PostS.of (σ := σ) p fun _ _ _ _ => trivial).imp fun d ρ1 q v H1 F1 Z1 a1 i1 s1 => by
    have hs : isOwn i ρ1 ≠ .stuck := by
      intro h
      unfold bd at q
      rw [h] at q
      exact q
    obtain ⟨l, a, xs, hl, hz, hb, hH, il, hF⟩ := own_at a1 hs
    unfold bd at q
    rw [own_ok hs] at q
    have q1 : PostS c A W Z H F (bd gk (fun k => putIx i k d) ρ1) Dn := q
    refine ⟨.ref a, hb, A, Z1, F1, ρ1, a1, ((PostS.of (σ := σ) q1 fun _ _ _ _ => trivial).from_ s1 fun _ _ k => k).imp fun kd ρ2 q2 w H2 F2 Z2 a2 i2 s2 => ?_⟩
    unfold putIx at q2
    cases kd with
    | int kk =>
      cases i2
      dsimp only at q2
      cases hr : ρ2[i]? with
      | none => rw [hr] at q2; exact q2.elim
      | some en =>
        rw [hr] at q2
        have k0 := a2.ent i en hr
        have hi := lt_of_get hr
        have i1' := i1.mono s2.mono
        have s12 := s1.trans s2
        cases en with
        | pin l2 =>
          obtain ⟨b, ys, kA, kz, kb, kH, kl⟩ := k0
          rw [hb] at kb; cases kb
          dsimp only at q2
          cases hj : ixN l2.length kk with
          | none => rw [hj] at q2; exact q2.elim
          | some j =>
            rw [hj] at q2
            have gx := GrowX.of a2.sub kH (a2.nf i a kz) (.lst (ys.set j v))
            exact ⟨a, ys, kk, j, rfl, rfl, kH, by rw [kl.length]; exact hj, (show PostS c A W Z H F (.ok .nx (ρ2.set i (.pin (l2.set j d)))) Dn from q2) σ _ F2 Z2 (a2.inout hi kz gx ⟨a, _, kA, rfl, hb, upd_same, IsL.set i1' j kl⟩) (s12.trans (Step.inout kz gx))⟩
        | ow l2 =>
          obtain ⟨b, ys, kz, kb, kH, kl⟩ := k0
          rw [hb] at kb; cases kb
          dsimp only at q2
          cases hj : ixN l2.length kk with
          | none => rw [hj] at q2; exact q2.elim
          | some j =>
            rw [hj] at q2
            have gx := GrowX.of a2.sub kH (a2.nf i a kz) (.lst (ys.set j v))
            exact ⟨a, ys, kk, j, rfl, rfl, kH, by rw [kl.length]; exact hj, (show PostS c A W Z H F (.ok .nx (ρ2.set i (.ow (l2.set j d)))) Dn from q2) σ _ F2 Z2 (a2.inout hi kz gx ⟨a, _, rfl, hb, upd_same, IsL.set i1' j kl⟩) (s12.trans (Step.inout kz gx))⟩
        | _ => exact q2.elim
    | _ => exact q2.elim⟩
/-! ### a, b = x, y -/
def sPar (i j : Nat) (ga gb : M Ent) : M Fl := bd ga fun a => bd gb fun b => bd (setE i a) fun _ => setE j b
variable {a b : Expr} {ga gb : M Ent} {px py pt : Pos} {kt k2 : Nat} {pt2 : Pos} {j : Nat}
theorem EntOk.step {Z Z' : Zs} {H F H' F' : Hp} {z : Option Addr} {v : V} {e : Ent} (s : Step Z H F Z' H' F') (k : EntOk c F H z (some (some v)) none e) (w : ∀ b, z = some b → F b = none ∧ ∀ j, Z j ≠ some b) :
    EntOk c F' H' z (some (some v)) none e ∧ ∀ b, z = some b → F' b = none ∧ (∀ j, Z' j ≠ some b) ∧ ∃ o, H' b = some o := by
  have key : ∀ {b : Addr} {o : HO}, z = some b → H b = some o → H' b = some o ∧ (∀ j, Z' j ≠ some b) ∧ F' b = none := fun {b o} hz hb => keepD s hb (w b hz).2 (w b hz).1
  cases e with
  | no => exact ⟨k, fun b q => by rw [show z = none from k] at q; cases q⟩
  | fz d => obtain ⟨z0, u, q, i⟩ := k; exact ⟨⟨z0, u, q, i.mono s.mono⟩, fun b q => by rw [z0] at q; cases q⟩
  | ow l => obtain ⟨p, vs, z0, q, h, i⟩ := k; obtain ⟨k1, k2, k3⟩ := key z0 h; exact ⟨⟨p, vs, z0, q, k1, i.mono s.mono⟩, fun b q => by rw [z0] at q; cases q; exact ⟨k3, k2, _, k1⟩⟩
  | pin l => obtain ⟨p, vs, q, _⟩ := k; cases q
  | ob n l => obtain ⟨p, dx, fs, q, _⟩ := k; cases q
  | dc l => obtain ⟨p, vs, z0, q, h, i⟩ := k; obtain ⟨k1, k2, k3⟩ := key z0 h; exact ⟨⟨p, vs, z0, q, k1, i.mono s.mono⟩, fun b q => by rw [z0] at q; cases q; exact ⟨k3, k2, _, k1⟩⟩
theorem EntOk.pinned {F H : Hp} {z : Option Addr} {v : V} {e : Ent} {ap : Option Addr} (k : EntOk c F H z (some (some v)) none e) : EntOk c F H z (some (some v)) ap e := by
  cases e with
  | no => exact k
  | fz d => exact k
  | ow l => exact k
  | pin l => obtain ⟨_, _, q, _⟩ := k; cases q
  | ob n l => obtain ⟨_, _, _, q, _⟩ := k; cases q
  | dc l => exact k
theorem setE_inv {A Z : Zs} {H F : Hp} {i : Nat} {e : Ent} {ρ : Env} {k : Fl → M Fl} {Dn : Ends} (p : PostS c A W Z H F (bd (setE i e) k ρ) Dn) : i < ρ.length ∧ PostS c A W Z H F (k .nx (ρ.set i e)) Dn := by
  unfold bd setE at p
  by_cases hi : i < ρ.length
  · rw [if_pos hi] at p; exact ⟨hi, p⟩
  · rw [if_neg hi] at p; exact p.elim
theorem Step.set {Z Z1 : Zs} {H F H1 F1 : Hp} {z : Option Addr} {i : Nat} (s : Step Z H F Z1 H1 F1) (w : ∀ b, z = some b → (∃ i, Z i = some b) ∨ H b = none) : Step Z H F (Z1.put i z) H1 F1 :=
  ⟨s.keep, s.mono, fun j b q => by
    by_cases e1 : j = i
    · subst e1; rw [put_same] at q; exact w b q
    · rw [put_ne e1] at q; exact s.foot j b q⟩
theorem s_par (hc : X.calm = true) (hN : X.N.Nodup) (hi : X.N[i]? = some x) (hj : X.N[j]? = some y) (hij : i ≠ j) (hx : X.env.scope.names.lookup x = some .local) (hy : X.env.scope.names.lookup y = some .local) (ha : PE X a (tE c W ga)) (hb : PE X b (tE c W gb))
    (hw : swappedStores [.Tuple [.Name x px, .Name y py] kt pt] (.Tuple [a, b] k2 pt2) X.env = pure (some [x, y]))
    (hs : swapsWithSole [.Tuple [.Name x px, .Name y py] kt pt] (.Tuple [a, b] k2 pt2) pos.line X.env = pure false := by rfl)
    (hs1 : starEach [a, b] X.env = (false, eval a X.env) :: starEach [b] X.env := by rfl) (hs2 : starEach [b] X.env = (false, eval b X.env) :: starEach [] X.env := by rfl) :
    PS X (.Assign [.Tuple [.Name x px, .Name y py] kt pt] (.Tuple [a, b] k2 pt2) pos) (tS c W (sPar i j ga gb)) :=
  PSi (ps_par hc hN hi hj hij hx hy (pa_cons ha (pa_cons hb pa_nil hs2) hs1) hw hs) fun Dn σ H ⟨A, Z, F, ρ, at_, p⟩ => ⟨A, Z, F, ρ, at_, (PostS.of (σ := σ) p fun _ _ _ _ => trivial).imp fun e1 ρ1 q v1 z1 H1 F1 Z1 a1 i1 w1 s1 =>
    ⟨A, Z1, F1, ρ1, a1, ((PostS.of (σ := σ) q fun _ _ _ _ => trivial).from_ s1 fun _ _ k => k).imp fun e2 ρ2 q v2 z2 H2 F2 Z2 a2 i2 w2 s2 => by
      obtain ⟨k1, u1⟩ := EntOk.step s2 i1 fun b hb => ⟨(w1 b hb).1, (w1 b hb).2.1⟩
      obtain ⟨hi2, q⟩ := setE_inv q
      obtain ⟨hj2, q⟩ := setE_inv (k := fun _ => rt .nx) (show PostS c A W Z H F (bd (setE j e2) (fun _ => rt .nx) (ρ2.set i e1)) Dn by
        unfold bd
        unfold setE at q ⊢
        by_cases hh : j < (ρ2.set i e1).length
        · rw [if_pos hh] at q ⊢; exact q
        · rw [if_neg hh] at q; exact q.elim)
      have s12 := s1.trans s2
      have f1 : ∀ b, z1 = some b → (∃ i, Z i = some b) ∨ H b = none := fun b hb => (w1 b hb).2.2
      have b1 := a2.set (x := some v1) (z := z1) hi2 k1.pinned fun b hb => ⟨(u1 b hb).1, fun j _ => (u1 b hb).2.1 j⟩
      have ne : ∀ b, z2 = some b → z1 ≠ some b := fun b hb hb1 => by
        rcases (w2 b hb).2.2 with ⟨n, hn⟩ | hn
        · exact (w1 b hb1).2.1 n hn
        · rcases e1 with _ | d | l | l | ⟨n, l⟩ | l
          · rw [show z1 = none from i1] at hb1; cases hb1
          · rw [i1.1] at hb1; cases hb1
          · obtain ⟨p, vs, z0, _, h, _⟩ := i1; rw [hb1] at z0; cases z0; rw [hn] at h; cases h
          · obtain ⟨_, _, q, _⟩ := i1; cases q
          · obtain ⟨_, _, _, q, _⟩ := i1; cases q
          · obtain ⟨p, vs, z0, _, h, _⟩ := i1; rw [hb1] at z0; cases z0; rw [hn] at h; cases h
      have b2 := b1.set (x := some v2) (z := z2) hj2 i2.pinned fun b hb => ⟨(w2 b hb).1, fun n hn => by
        by_cases e : n = i
        · subst e; rw [put_same]; exact ne b hb
        · rw [put_ne e]; exact (w2 b hb).2.1 n⟩
      exact ⟨v1, v2, rfl, (show PostS c A W Z H F (.ok .nx ((ρ2.set i e1).set j e2)) Dn from q) _ _ F2 _ b2 (Step.set (Step.set s12 f1) fun b hb => foot_from s1 (w2 b hb).2.2)⟩⟩⟩
/-! ### name op= e, ints -/
def augE (f : Int → Int → Int) (i : Nat) (d0 d : D) : M Fl := match d0, d with
  | .int n, .int m => setE i (.fz (.int (f n m)))
  | _, _ => stuck
def sAug (f : Int → Int → Int) (i : Nat) (g : M D) : M Fl := bd (eB i) fun d0 => bd g fun d => augE f i d0 d
theorem s_aug {op : Operator} {f : Int → Int → Int} (ho : PIp X op (ipI f)) (hN : X.N.Nodup) (hi : X.N[i]? = some x) (hx : Loc X.env.scope x) (he : PE X e (tF c W g)) (hf : X.fn x = true ∨ X.env.scope.names.lookup x = some .local := by first | exact .inl rfl | exact .inr rfl | assumption) :
    PS X (.AugAssign (.Name x p) op e pos) (tS c W (sAug f i g)) :=
  PSi (ps_aug hN hi hx he ho hf) fun Dn σ H ⟨A, Z, F, ρ, at_, p⟩ => by
    unfold sAug bd at p
    rcases eB_cases i ρ with e0 | ⟨d0, e0⟩
    · rw [e0] at p; exact p.elim
    rw [e0] at p
    obtain ⟨_, v0, hv0, h0⟩ := at_.look e0
    have p1 : PostS c A W Z H F (bd g (fun d => augE f i d0 d) ρ) Dn := p
    refine ⟨v0, hv0, A, Z, F, ρ, at_, (PostS.of (σ := σ) p1 fun _ _ _ _ => trivial).imp fun d ρ1 q v H1 F1 Z1 a1 i1 s1 => ?_⟩
    unfold augE at q
    split at q
    · rename_i n m
      cases i1
      cases (has_int h0)
      exact ⟨n, m, rfl, rfl, set_post q a1 (z := none) ⟨rfl, _, rfl, .int _⟩ (fun _ q => nomatch q) s1⟩
    · exact q.elim
end
end DL
end
section
set_option Elab.async false
set_option linter.all false
set_option maxRecDepth 100000
namespace DL
open PySem PySem.Spec PyProof.Rows L2
section
variable {X : Cx} {c : Cfg} {W : WX} {e o a b : Expr} {es : List Expr} {g go ga gb gc : M D} {gs : M (List D)} {pos p apos cpos p2 p3 : Pos} {x y name : Str} {i : Nat} {id T : String} {r : V → List V → Hp → VK → Prop}
/-! ### dicts with texts, ints as keys -/
def findK (l : List (Key × D)) (k : Key) : Option D := (l.find? fun kv => decide (kv.1 = k)).map (·.2)
theorem IsK.find {F : Hp} {k : Key} {d : D} : ∀ {vs : List (Key × V)} {ds : List (Key × D)}, IsK c F vs ds → findK ds k = some d → ∃ v, valV vs k = some v ∧ Is c F v d
  | _, _, .nil, h => by cases h
  | _, _, .cons (k := k0) (v := v0) (d := d0) i l, h => by
    by_cases e : k0 = k
    · rw [findK, List.find?_cons_of_pos (by exact decide_eq_true e)] at h
      cases h
      exact ⟨v0, valV_pos e, i⟩
    · rw [findK, List.find?_cons_of_neg (by simpa using e)] at h
      obtain ⟨v, h1, h2⟩ := IsK.find l h
      exact ⟨v, by rw [valV_neg e]; exact h1, h2⟩
def keyD : D → Option Key
  | .int i => some (.inl i)
  | .str s => some (.inr s)
  | _ => none
theorem key_is {F : Hp} {v : V} {d : D} {k : Key} (h : keyD d = some k) (i : Is c F v d) : v = kV k := by
  cases d with
  | int n => cases h; cases i; rfl
  | str n => cases h; cases i; rfl
  | _ => cases h
def rDget : D → D → Option D
  | .dic l, k => (keyD k).bind (findK l)
  | _, _ => none
def mDget (go gk : M D) : M D := bd go fun d => bd gk fun k => opt (rDget d k)
theorem d_dget (hu : X.A.units + 1 < cLine) (ho : PE X o (tF c W go)) (hi : PE X a (tF c W ga)) (hs : NoSl a := by intro _ _; rfl) : PE X (.Subscript o a pos) (tF c W (mDget go ga)) :=
  PEi (pe_dget hu ho hi hs) fun σ H Q ⟨A, Z, F, ρ, at_, p⟩ => ⟨A, Z, F, ρ, at_, p.bind.imp fun d ρ1 q v H1 F1 Z1 a1 i1 s1 =>
    ⟨A, Z1, F1, ρ1, a1, (Post.bind q).from_ s1 fun k ρ2 q2 w H2 F2 Z2 a2 i2 s2 => by
      obtain ⟨z, e1, k1⟩ := q2.opt
      cases d with
      | dic l =>
        obtain ⟨kk, e2, e3⟩ := Option.bind_eq_some_iff.mp (show (keyD k).bind (findK l) = some z from e1)
        cases i1.mono s2.mono with
        | dic hp ik =>
          obtain ⟨u, h1, h2⟩ := ik.find e3
          refine ⟨_, u, rfl, .inl ⟨_, kk, .inl (a2.sub _ _ hp), key_is e2 i2, h1.symm⟩, (k1.from_ (s1.trans s2)) u H2 F2 Z2 a2 h2 .refl⟩
      | _ => cases e1⟩⟩
/-- {'x': a, 'y': b} -/
def mDisp2 (kx ky : Str) (ga gb : M D) : M Ent := bd ga fun a => bd gb fun b => rt (.dc [(.inr kx, a), (.inr ky, b)])
theorem e_disp2 {jx jy : Nat} {px py : Pos} (ha : PE X a (tF c W ga)) (hb : PE X b (tF c W gb)) (hne : x ≠ y := by decide) : PE X (.Dict [some (.Constant (.str x) jx px), some (.Constant (.str y) jy py)] [a, b] pos) (tE c W (mDisp2 x y ga gb)) :=
  PEi (pe_disp (pps_cons pe_str ha (pps_cons pe_str hb pps_nil)) rfl rfl (by intro h; cases h) (by show 2 ≤ 15; decide)) fun σ H Q ⟨A, Z, F, ρ, at_, p⟩ D hD => by
    have at1 : At c A Z (upd H D (.dK [])) F σ ρ := at_.grow (.lay at_.sub hD)
    have s0 : Step Z H F Z (upd H D (.dK [])) F := Step.grow (.lay at_.sub hD) at_.sub
    have n0 : ∀ i, Z i ≠ some D := fun j z => by obtain ⟨o, ho⟩ := at_.there z; rw [hD] at ho; cases ho
    have f0 : F D = none := none_of_le at_.sub hD
    have hD0 : (∃ i, Z i = some D) ∨ H D = none := .inr hD
    refine ⟨A, Z, F, ρ, at1, (Post.from_ s0 p.bind fun _ _ k => k).imp fun d ρ1 q v H1 F1 Z1 a1 i1 s1 => ?_⟩
    obtain ⟨hD1, n1, f1⟩ := keepD s1 upd_same n0 f0
    refine ⟨A, Z1, F1, ρ1, a1, (Post.from_ (s0.trans s1) (Post.bind q) fun _ _ k => k).imp fun d2 ρ2 q2 v2 H2 F2 Z2 a2 i2 s2 => ?_⟩
    obtain ⟨hD2, n2, f2⟩ := keepD s2 hD1 n1 f1
    refine ⟨hD2, [(.inr x, v), (.inr y, v2)], rfl, by show 2 ≤ 15; decide, ?_⟩
    have em : mergeK [] [((Sum.inr x : Key), v), (.inr y, v2)] = [(.inr x, v), (.inr y, v2)] := by
      have : ¬ ((Sum.inr x : Key) = .inr y) := fun e => hne (Sum.inr.inj e)
      simp [mergeK, putK, this]
    rw [em]
    have s02 := (s0.trans s1).trans s2
    exact (show KE c A σ Z H F Q (.dc [(.inr x, d), (.inr y, d2)]) ρ2 from q2) (.ref D) (some D) _ F2 Z2 (a2.updD n2 f2) ⟨D, _, rfl, rfl, upd_same, .cons (i1.mono s2.mono) (.cons i2 .nil)⟩
      (fun b hb => by cases hb; exact ⟨f2, n2, hD0⟩) (s02.updD hD0)
/-! ### methods of built-in types, by values -/
def RF (c : Cfg) (X : Cx) (T : String) (r : V → List V → Hp → VK → Prop) (f : D → List D → Option D) : Prop :=
  ∀ (H F : Hp) (x : V) (xs : List V) (d z : D) (ds : List D) (Q : VK), Le F H → Is c F x d → IsL c F xs ds → f d ds = some z → (∀ x' H' F', Is c F' x' z → Grow H F H' F' → Q x' H') → r x xs H Q
def mBM (ty : D → Bool) (f : D → List D → Option D) (go : M D) (gs : M (List D)) : M D := bd go fun d => if ty d = true then bd gs fun ds => opt (f d ds) else stuck
theorem d_bm {f : D → List D → Option D} {ty : D → Bool} (pa : PlainAttrs T) (slot : Slot T name id) (hty : typeOf (.builtin id) = pure (.type "method_descriptor")) (hm : MtR X id r) (hf : RF c X T r f)
    (ht : ∀ (H F : Hp) (x : V) (d : D), Le F H → Is c F x d → ty d = true → tyV X.K T x H) (ho : PE X o (tF c W go)) (ha : PA X (e :: es) (tFs c W gs))
    (hbase : attributeBase o name X.env (eval o X.env) = eval o X.env := by rfl)
    (hfew : ((backTo cpos (starEach (e :: es) X.env)).all (fun x => !x.1) && (backToKw cpos (keywordEach [] X.env)).all (fun x => x.1.isSome)
      && decide ((e :: es).length + ([] : List Keyword).length + (if ([] : List Keyword).isEmpty then 0 else 1) < 30)) = true := by rfl)
    (hline : (apos.endLine == cpos.line) = true := by rfl) (hs : starEach (e :: es) X.env = (false, eval e X.env) :: starEach es X.env := by rfl) (hplain : (backTo cpos (starEach es X.env)).any (·.1) = false := by rfl) :
    PE X (.Call (.Attribute o name apos) (e :: es) [] cpos) (tF c W (mBM ty f go gs)) :=
  PEi (pe_bm pa slot hty hm ho ha hbase hfew hline hs hplain) fun σ H Q ⟨A, Z, F, ρ, at_, p⟩ => ⟨A, Z, F, ρ, at_, p.bind.imp fun d ρ1 q v H1 F1 Z1 a1 i1 s1 => by
    by_cases h : ty d = true
    · rw [if_pos h] at q
      exact ⟨ht H1 F1 v d a1.sub i1 h, A, Z1, F1, ρ1, a1, (Post.bind q).from_ s1 fun ds ρ2 q2 ws H2 F2 Z2 a2 i2 s2 => by
        obtain ⟨z, e1, k⟩ := q2.opt
        exact hf H2 F2 v ws d z ds Q a2.sub (i1.mono s2.mono) i2 e1 fun x' H' F' i g => (k.from_ (s1.trans s2)).grow a2 g i⟩
    · rw [if_neg h] at q; exact (show False from q).elim⟩
def D.isStr : D → Bool
  | .str _ => true
  | _ => false
def D.isLst : D → Bool
  | .lst _ => true
  | _ => false
theorem ty_str (H F : Hp) (x : V) (d : D) (le : Le F H) (i : Is c F x d) (h : d.isStr = true) : tyV X.K "str" x H := by
  cases d with
  | str s => cases i; rfl
  | _ => cases h
theorem ty_lst (H F : Hp) (x : V) (d : D) (le : Le F H) (i : Is c F x d) (h : d.isLst = true) : tyV X.K "list" x H := by
  cases d with
  | lst s => cases i with
    | lst hp il => exact .inl ⟨rfl, _, .of (le _ _ hp)⟩
  | _ => cases h
def strsD (l : List Str) : List D := l.map .str
theorem strs_is {F : Hp} : ∀ (l : List Str), IsL c F (l.map V.str) (strsD l)
  | [] => .nil
  | s :: r => .cons (.str s) (strs_is r)
/-- a list of texts -/
def strs? : List D → Option (List Str)
  | [] => some []
  | .str s :: r => (strs? r).map (s :: ·)
  | _ :: _ => none
theorem is_strs {F : Hp} : ∀ {ds : List D} {ns : List Str} {vs : List V}, strs? ds = some ns → IsL c F vs ds → vs = ns.map V.str
  | [], ns, vs, h, i => by cases h; cases i; rfl
  | d :: r, ns, vs, h, i => by
    cases d with
    | str s =>
      obtain ⟨ms, h1, h2⟩ := Option.map_eq_some_iff.mp (show (strs? r).map (s :: ·) = some ns from h)
      subst h2
      cases i with
      | cons a t => cases a; rw [is_strs h1 t]; rfl
    | _ => cases h
theorem strs_D : ∀ (l : List Str), strs? (strsD l) = some l
  | [] => rfl
  | s :: r => by show (strs? (strsD r)).map _ = _; rw [strs_D r]; rfl
def fSplit : D → List D → Option D
  | .str a, [.str b] => if b.length ≠ 0 ∧ a.length + 2 ≤ sizeLine then some (.lst (strsD (Txt.split a b))) else none
  | _, _ => none
theorem rf_split : RF c X "str" (fun x xs H Q => ∃ a b, x = .str a ∧ xs = [.str b] ∧ (b.length == 0) = false ∧ a.length + 2 ≤ sizeLine ∧ rNewStrs (Txt.split a b) H Q) fSplit := by
  intro H F x xs d z ds Q le ix il e q
  unfold fSplit at e
  split at e
  · rename_i a b
    by_cases hc : b.length ≠ 0 ∧ a.length + 2 ≤ sizeLine
    · rw [if_pos hc] at e; cases e
      obtain ⟨x1, rfl, i1⟩ := isl1 il
      cases i1
      cases ix
      exact ⟨a, b, rfl, rfl, by simpa using hc.1, hc.2, fun D hD => q _ _ _ (.lst upd_same ((strs_is _).mono (le_upd (o := .lst ((Txt.split a b).map V.str)) (none_of_le le hD)))) (.new le hD)⟩
    · rw [if_neg hc] at e; cases e
  · cases e
def fJoin : D → List D → Option D
  | .str a, [.lst l] => (strs? l).bind fun ys => if (ys.map (·.length)).sum + ys.length * a.length ≤ 16777216 then some (.str (Txt.join a ys)) else none
  | _, _ => none
theorem rf_join : RF c X "str" (fun x xs H Q => ∃ a p, ∃ ys : List Str, x = .str a ∧ xs = [.ref p] ∧ (SqL X.K H p (ys.map V.str) ∨ SqT X.K H p (ys.map V.str)) ∧
    (ys.map (·.length)).sum + ys.length * a.length ≤ 16777216 ∧ Q (.str (Txt.join a ys)) H) fJoin := by
  intro H F x xs d z ds Q le ix il e q
  unfold fJoin at e
  split at e
  · rename_i a l
    obtain ⟨ys, e1, e2⟩ := Option.bind_eq_some_iff.mp e
    by_cases hc : (ys.map (·.length)).sum + ys.length * a.length ≤ 16777216
    · rw [if_pos hc] at e2; cases e2
      obtain ⟨x1, rfl, i1⟩ := isl1 il
      cases ix
      cases i1 with
      | lst hp jl =>
        have ev := is_strs e1 jl
        subst ev
        exact ⟨a, _, ys, rfl, rfl, .inl (.of (le _ _ hp)), hc, q _ H F (.str _) (.refl le)⟩
    · rw [if_neg hc] at e2; cases e2
  · cases e
/-! ### a <= b <= c, ints -/
def mCh (r r' : Int → Int → Bool) (ga gb gc : M D) : M Bool := bd ga fun x => bd gb fun y => bd (opt (asI x)) fun i => bd (opt (asI y)) fun j => if r i j = true then bd gc fun z => bd (opt (asI z)) fun k => rt (r' j k) else rt false
def vCh (r r' : Int → Int → Bool) (ga gb gc : M D) : M D := bd (mCh r r' ga gb gc) fun x => rt (.bl x)
variable {cc : Expr}
theorem as_int {F : Hp} {v : V} {d : D} {i : Int} (h : asI d = some i) (k : Is c F v d) : v = .int i := by
  cases d with
  | int n => cases h; cases k; rfl
  | _ => cases h
theorem chain_rd {rr rr' : Int → Int → Bool} {σ : L2.St} {H : Hp} {Q : VK} (h : ∃ A Z F ρ, At c A Z H F σ ρ ∧ Post c A W σ Z H F (mCh rr rr' ga gb gc ρ) (fun k ρ' => ∀ H' F' Z', At c A Z' H' F' σ ρ' → Step Z H F Z' H' F' → Q (.bl k) H')) :
    tChain (rI0 fun i j => .bl (rr i j)) (rI0 fun i j => .bl (rr' i j)) (tF c W ga) (tF c W gb) (tF c W gc) σ H Q := by
  obtain ⟨A, Z, F, ρ, at_, p⟩ := h
  exact ⟨A, Z, F, ρ, at_, p.bind.imp fun d ρ1 q v H1 F1 Z1 a1 i1 s1 => ⟨A, Z1, F1, ρ1, a1, (Post.bind q).from_ s1 fun d2 ρ2 q2 v2 H2 F2 Z2 a2 i2 s2 => by
    obtain ⟨i, e1, q3⟩ := (Post.bind q2).opt
    obtain ⟨j, e2, q4⟩ := (Post.bind q3).opt
    cases as_int e1 i1
    cases as_int e2 i2
    refine ⟨i, j, rfl, rfl, _, rfl, ?_⟩
    cases hr : rr i j with
    | false =>
      rw [hr, if_neg Bool.false_ne_true] at q4
      rw [if_neg Bool.false_ne_true]
      exact (show ∀ H' F' Z', At c A Z' H' F' σ ρ2 → Step Z H F Z' H' F' → Q (.bl false) H' from q4) H2 F2 Z2 a2 (s1.trans s2)
    | true =>
      rw [hr, if_pos rfl] at q4
      rw [if_pos rfl]
      exact ⟨A, Z2, F2, ρ2, a2, (Post.bind q4).from_ (s1.trans s2) fun d3 ρ3 q5 v3 H3 F3 Z3 a3 i3 s3 => by
        obtain ⟨k, e3, q6⟩ := (Post.bind q5).opt
        cases as_int e3 i3
        exact ⟨j, k, rfl, rfl, (show ∀ H' F' Z', At c A Z' H' F' σ ρ3 → Step Z H F Z' H' F' → Q (.bl (rr' j k)) H' from q6) H3 F3 Z3 a3 ((s1.trans s2).trans s3)⟩⟩⟩⟩
theorem t_chain {op op' : CmpOp} {rr rr' : Int → Int → Bool} (h1 : OpR X (compareOp op) (rI0 fun i j => .bl (rr i j))) (h2 : OpR X (compareOp op') (rI0 fun i j => .bl (rr' i j))) (ha : PE X a (tF c W ga)) (hb : PE X b (tF c W gb)) (hc : PE X cc (tF c W gc))
    (hm : lastMarks [op, op'] [b, cc] = false := by with_unfolding_all rfl) : PT X (.Compare a [op, op'] [b, cc] pos) (tT c W (mCh rr rr' ga gb gc)) :=
  PTi (pt_chain h1 h2 ha hb hc hm) fun σ H Q ⟨A, Z, F, ρ, at_, p⟩ => chain_rd ⟨A, Z, F, ρ, at_, p.imp fun k ρ' q H' F' Z' a s => ⟨k, rfl, q H' F' Z' a s⟩⟩
theorem d_chain {op op' : CmpOp} {rr rr' : Int → Int → Bool} (h1 : OpR X (compareOp op) (rI0 fun i j => .bl (rr i j))) (h2 : OpR X (compareOp op') (rI0 fun i j => .bl (rr' i j))) (ha : PE X a (tF c W ga)) (hb : PE X b (tF c W gb)) (hc : PE X cc (tF c W gc))
    (hm : lastMarks [op, op'] [b, cc] = false := by with_unfolding_all rfl) : PE X (.Compare a [op, op'] [b, cc] pos) (tF c W (vCh rr rr' ga gb gc)) :=
  PEi (pe_chain h1 h2 ha hb hc hm) fun σ H Q ⟨A, Z, F, ρ, at_, p⟩ => chain_rd ⟨A, Z, F, ρ, at_, p.bind.imp fun k ρ' q H' F' Z' a s => (show KF c A σ Z H F Q (.bl k) ρ' from q) _ H' F' Z' a (.bl k) s⟩
/-! ### isinstance -/
/-- the name of a built-in value's type -/
def D.tyN : D → Option String
  | .non => some "NoneType"
  | .bl _ => some "bool"
  | .int _ => some "int"
  | .str _ => some "str"
  | .tup _ => some "tuple"
  | .lst _ => some "list"
  | .dic _ => some "dict"
  | .obj _ _ => none
  | .scr _ => none
theorem ty_of {H F : Hp} {x : V} {d : D} {n : String} (le : Le F H) (h : Has c F H x d) (e : d.tyN = some n) : TyX c.K H x (.type n) := by
  cases d with
  | non => cases e; cases has_non h; exact .base .non
  | bl b => cases e; cases has_bl h; exact .base (.bl b)
  | int b => cases e; cases has_int h; exact .base (.int b)
  | str b => cases e; cases has_str h; exact .base (.str b)
  | tup l =>
    cases e
    obtain ⟨q, vs, rfl, hp, il⟩ := has_tup h
    rcases hp with (hp | ⟨ob, hp⟩) | ⟨ob, its, n, h1, h2, _⟩
    · exact .base (.tup (le _ _ hp))
    · exact .fTuple (le _ _ hp)
    · exact .kTuple h1 h2
  | lst l => cases e; obtain ⟨q, vs, rfl, hp, il⟩ := h; exact .base (.lst hp)
  | dic l => cases e; obtain ⟨q, vs, rfl, hp, il⟩ := h; exact .base (.dK hp)
  | obj k l => cases e
  | scr l => cases e
/-- what isinstance(x, cls) answers -/
structure IsiF (X : Cx) (c : Cfg) (v : V) (f : D → Option Bool) : Prop where
  run : ∀ (H F : Hp) (x : V) (d : D) (b : Bool), Le F H → Has c F H x d → f d = some b → ∃ t u, ClsV v u ∧ TyX X.K H x t ∧ PySem.W.kitOne X.K t u = some b
def isiB (T : String) (d : D) : Option Bool := d.tyN.bind fun n => kitB n T
theorem isi_b (hK : X.K = c.K) (T : String) : IsiF X c (.ty T) (isiB T) := ⟨fun H F x d b le h e => by
  obtain ⟨n, e1, e2⟩ := Option.bind_eq_some_iff.mp e
  exact ⟨.type n, .type T, .ty T, by rw [hK]; exact ty_of le h e1, kit_ty e2⟩⟩
/-- of an own class: k itself yes, built-in values no -/
structure IsiC (K : PySem.W.Frag) (C : Addr) : Prop where
  cl : Cls K C
  ha : PySem.W.findIn K (.ref C) "__class__" = some (some (.builtin "object.__class__"))
  hn : PySem.W.specialIn K (.builtin "object.__class__") "__get__" = some (some (.builtin "getset_descriptor.__get__"))
  htk : PySem.W.takesIn K (.builtin "object.__class__") = some true
  hm : PySem.W.mroIn K C (.type "object") = some true
  no : (["NoneType", "bool", "int", "str", "tuple", "list", "dict"].all fun n => decide (PySem.W.kitOne K (.type n) (.ref C) = some false)) = true
def isiO (k : Nat) : D → Option Bool
  | .obj j _ => if j = k then some true else none
  | .scr _ => none
  | _ => some false
theorem isi_o {k : Nat} (hK : X.K = c.K) (C : IsiC X.K (c.cls k)) : IsiF X c (.ref (c.cls k)) (isiO k) := ⟨fun H F x d b le h e => by
  have key : ∀ {n : String}, d.tyN = some n → n ∈ ["NoneType", "bool", "int", "str", "tuple", "list", "dict"] → b = false → ∃ t u, ClsV (V.ref (c.cls k)) u ∧ TyX X.K H x t ∧ PySem.W.kitOne X.K t u = some b := fun {n} e1 hm eb => by
    subst eb
    exact ⟨.type n, .ref (c.cls k), .own _, by rw [hK]; exact ty_of le h e1, of_decide_eq_true (List.all_eq_true.mp C.no n hm)⟩
  cases d with
  | obj j fs =>
    unfold isiO at e
    dsimp only at e
    by_cases hj : j = k
    · rw [if_pos hj] at e; cases e
      subst hj
      obtain ⟨q, dx, vs, rfl, hp, il⟩ := has_obj h
      refine ⟨.ref (c.cls j), .ref (c.cls j), .own _, .base (.ins (le _ _ hp) C.cl C.ha C.hn C.htk C.hm), ?_⟩
      unfold PySem.W.kitOne
      rw [if_pos (by simp)]
    · rw [if_neg hj] at e; cases e
  | scr l => cases e
  | non => cases e; exact key rfl (by simp) rfl
  | bl b => cases e; exact key rfl (by simp) rfl
  | int b => cases e; exact key rfl (by simp) rfl
  | str b => cases e; exact key rfl (by simp) rfl
  | tup b => cases e; exact key rfl (by simp) rfl
  | lst b => cases e; exact key rfl (by simp) rfl
  | dic b => cases e; exact key rfl (by simp) rfl⟩
def vIsi (f : D → Option Bool) (g : M D) : M D := bd g fun d => bd (opt (f d)) fun b => rt (.bl b)
variable {te : Expr} {v : V} {f : D → Option Bool}
theorem d_isi (hi : IsiF X c v f) (he : PE X e (tH c W g)) (ht : PE X te (tC v)) (hg : Gl X "isinstance") (hm : X.mg "isinstance" = none)
    (hs1 : starEach [e, te] X.env = (false, eval e X.env) :: starEach [te] X.env := by rfl) (hs2 : starEach [te] X.env = (false, eval te X.env) :: starEach [] X.env := by rfl) (hpl : (backTo pos (starEach [te] X.env)).any (·.1) = false := by rfl) :
    PE X (.Call (.Name "isinstance" p) [e, te] [] pos) (tF c W (vIsi f g)) :=
  PEi (pe_callB call_isi hg hm PyProof.Rows.boot_isinstance (pa_cons he (pa_cons ht pa_nil hs2) hs1) (by decide) (by decide) hs1 hpl) fun σ H Q ⟨A, Z, F, ρ, at_, p⟩ => ⟨A, Z, F, ρ, at_, p.bind.imp fun d ρ1 q x H1 F1 Z1 a1 i1 s1 => by
    obtain ⟨b, e1, k⟩ := (Post.bind q).opt
    obtain ⟨t, u, h1, h2, h3⟩ := hi.run H1 F1 x d b a1.sub i1 e1
    exact ⟨x, v, t, u, b, rfl, h1, h2, h3, ((show KF c A σ Z H F Q (.bl b) ρ1 from k).from_ s1) _ H1 F1 Z1 a1 (.bl b) .refl⟩⟩
/-- isinstance(e, (list, tuple)) -/
def isi2 (T1 T2 : String) (d : D) : Option Bool := d.tyN.bind fun n => (kitB n T1).bind fun b1 => (kitB n T2).map fun b2 => b1 || b2
theorem d_isi2 {T1 T2 : String} {t1 t2 : Expr} {kk : Nat} {tpos : Pos} (hK : X.K = c.K) (he : PE X e (tH c W g)) (h1 : PE X t1 (tC (.ty T1))) (h2 : PE X t2 (tC (.ty T2))) (hg : Gl X "isinstance") (hm : X.mg "isinstance" = none)
    (hs1 : starEach [e, .Tuple [t1, t2] kk tpos] X.env = (false, eval e X.env) :: starEach [.Tuple [t1, t2] kk tpos] X.env := by rfl) (hs2 : starEach [.Tuple [t1, t2] kk tpos] X.env = (false, eval (.Tuple [t1, t2] kk tpos) X.env) :: starEach [] X.env := by rfl)
    (hs3 : starEach [t1, t2] X.env = (false, eval t1 X.env) :: starEach [t2] X.env := by rfl) (hs4 : starEach [t2] X.env = (false, eval t2 X.env) :: starEach [] X.env := by rfl)
    (hpl : (backTo pos (starEach [.Tuple [t1, t2] kk tpos] X.env)).any (·.1) = false := by rfl) :
    PE X (.Call (.Name "isinstance" p) [e, .Tuple [t1, t2] kk tpos] [] pos) (tF c W (vIsi (isi2 T1 T2) g)) :=
  PEi (pe_callB call_isiT hg hm PyProof.Rows.boot_isinstance (pa_cons he (pa_cons (pe_tup (pa_cons h1 (pa_cons h2 pa_nil hs4) hs3)) pa_nil hs2) hs1) (by decide) (by decide) hs1 hpl) fun σ H Q ⟨A, Z, F, ρ, at_, p⟩ => ⟨A, Z, F, ρ, at_, p.bind.imp fun d ρ1 q x H1 F1 Z1 a1 i1 s1 => by
    obtain ⟨b, e1, k⟩ := (Post.bind q).opt
    unfold isi2 at e1
    obtain ⟨n, e2, e3⟩ := Option.bind_eq_some_iff.mp e1
    obtain ⟨b1, e4, e5⟩ := Option.bind_eq_some_iff.mp e3
    obtain ⟨b2, e6, e7⟩ := Option.map_eq_some_iff.mp e5
    refine ⟨by show 2 ≤ sizeLine; decide, fun T hT => ?_⟩
    have a2 := a1.grow (.lay (o := .tup [.ty T1, .ty T2]) a1.sub hT)
    have s2 : Step Z1 H1 F1 Z1 (upd H1 T (.tup [.ty T1, .ty T2])) F1 := Step.grow (.lay a1.sub hT) a1.sub
    have hx : Has c F1 (upd H1 T (.tup [.ty T1, .ty T2])) x d := by
      cases d with
      | lst l => obtain ⟨q, vs, rfl, hp, il⟩ := i1; exact ⟨q, vs, rfl, by rw [upd_ne (ne_of_none hp hT)]; exact hp, il⟩
      | dic l => obtain ⟨q, vs, rfl, hp, il⟩ := i1; exact ⟨q, vs, rfl, by rw [upd_ne (ne_of_none hp hT)]; exact hp, il⟩
      | _ => exact i1
    refine ⟨x, T, [.ty T1, .ty T2], .type n, [.type T1, .type T2], b, rfl, upd_same, .cons (.ty T1) (.cons (.ty T2) .nil), by rw [hK]; exact ty_of a2.sub hx e2, ?_, ((show KF c A σ Z H F Q (.bl b) ρ1 from k).from_ s1) _ _ F1 Z1 a2 (.bl b) s2⟩
    subst e7
    exact kitAny_cons (kit_ty e4) (fun hb => by subst hb; exact kitAny_cons (kit_ty e6) (fun hb => by subst hb; rfl) (fun hb => by subst hb; rfl)) (fun hb => by subst hb; rfl)⟩
end
end DL
end
section
set_option Elab.async false
set_option linter.all false
set_option maxRecDepth 100000
namespace DL
open PySem PySem.Spec PyProof.Rows L2
/-! ### what is never reached -/
section
variable {X : Cx} {c : Cfg} {W : WX} {st : Stmt} {ss : List Stmt} {e : Expr}
theorem s_stuck : PS X st (tS c W stuck) := ⟨fun pins s σ H D I ⟨A, Z, F, ρ, at_, p⟩ => p.elim⟩
theorem ss_stuck : PSs X ss (tS c W stuck) := ⟨fun pins s σ H D I ⟨A, Z, F, ρ, at_, p⟩ => p.elim⟩
theorem d_stuck : PE X e (tF c W stuck) := ⟨fun pins s σ H Q I ⟨A, Z, F, ρ, at_, p⟩ => p.elim⟩
end
/-! ### self.f = e in an __init__ -/
def putFld (j i : Nat) (f : Str) (d : D) : M Fl := fun ρ => match ρ[i]? with
  | some (.ob k fs) => if k = j ∧ fs.length < 900 then .ok .nx (ρ.set i (.ob k (putD f d fs))) else .stuck
  | _ => .stuck
def sFld (j i : Nat) (f : Str) (g : M D) : M Fl := bd g fun d => putFld j i f d
section
variable {X : Cx} {c : Cfg} {W : WX} {e value : Expr} {g : M D} {i j : Nat} {f y : Str} {p pos pos' : Pos}
theorem s_fld (c1 : Cls X.K (c.cls j)) (c2 : NoAttr X.K (c.cls j) f) (hv : PE X (.Name y p) (tVar i)) (he : PE X value (tF c W g)) (hs : swapsWith value (some (.Attribute (.Name y p) f pos')) pos.line X.env = pure false := by rfl) :
    PS X (.Assign [.Attribute (.Name y p) f pos'] value pos) (tS c W (sFld j i f g)) :=
  PSi (ps_fld hv he hs) fun Dn σ H ⟨A, Z, F, ρ, at_, p⟩ => ⟨A, Z, F, ρ, at_, (PostS.of (σ := σ) p fun _ _ _ _ => trivial).imp fun d ρ1 q v H1 F1 Z1 a1 i1 s1 => by
    unfold putFld at q
    cases hr : ρ1[i]? with
    | none => rw [hr] at q; exact q.elim
    | some en =>
      rw [hr] at q
      cases en with
      | ob k fs =>
        dsimp only at q
        by_cases hl : k = j ∧ fs.length < 900
        · rw [if_pos hl] at q
          obtain ⟨rfl, hl⟩ := hl
          obtain ⟨a, dx, vs, kA, kz, kb, kH, kf⟩ := a1.ent i _ hr
          have hi := lt_of_get hr
          have gx : GrowX a H1 F1 (upd H1 a (.ins (c.cls k) dx (putF f v vs))) F1 := GrowX.of a1.sub kH (a1.nf i a kz) _
          exact ⟨.ref a, kb, a, c.cls k, dx, vs, rfl, kH, c1, c2, by rw [kf.length]; omega,
            (show PostS c A W Z H F (.ok .nx (ρ1.set i (.ob k (putD f d fs)))) Dn from q) σ _ F1 Z1 (a1.inout hi kz gx ⟨a, dx, _, kA, rfl, kb, upd_same, kf.put i1⟩) (s1.trans (Step.inout kz gx))⟩
        · rw [if_neg hl] at q; exact q.elim
      | _ => exact q.elim⟩
end
/-! ### promises -/
def startE (n : Nat) (es : List Ent) : Env := es ++ List.replicate (n - es.length) .no
def toOut : Res Fl → Out
  | .ok (.ret d) _ => .ok d
  | .ok .nx _ => .ok .non
  | .er k fs _ => .er k fs
  | _ => .stuck
def runP (n : Nat) (g : M Fl) (ds : List D) : Out := toOut (g (startE n (ds.map .fz)))
def toOutI : Res Fl → OutI
  | .ok (.ret d) ρ => (match ρ.head? with
    | some (.pin l) => .ok d l
    | _ => .stuck)
  | .ok .nx ρ => (match ρ.head? with
    | some (.pin l) => .ok .non l
    | _ => .stuck)
  | .er k fs ρ => (match ρ.head? with
    | some (.pin l) => .er k fs l
    | _ => .stuck)
  | _ => .stuck
def runI (n : Nat) (g : M Fl) (l : List D) (ds : List D) : OutI := toOutI (g (startE n (.pin l :: ds.map .fz)))
def toOutF (k : Nat) : Res Fl → OutF
  | .ok .nx ρ => (match ρ.head? with
    | some (.ob j fs) => if j = k then .ok fs else .stuck
    | _ => .stuck)
  | .er j fs ρ => (match ρ.head? with
    | some (.ob _ _) => .er j fs
    | _ => .stuck)
  | _ => .stuck
def runN (n k : Nat) (g : M Fl) (ds : List D) : OutF := toOutF k (g (startE n (.ob k [] :: ds.map .fz)))
section
variable {c : Cfg} {H F : Hp}
theorem start_length {N : List Str} {vs : List V} (h : vs.length ≤ N.length) : (L2.start N vs).length = N.length := by
  unfold L2.start
  rw [List.length_append, List.length_map, List.length_replicate]; omega
theorem startE_length {n : Nat} {es : List Ent} (h : es.length ≤ n) : (startE n es).length = n := by
  unfold startE
  rw [List.length_append, List.length_replicate]; omega
theorem startE_get {n : Nat} {es : List Ent} {i : Nat} {e : Ent} (h : (startE n es)[i]? = some e) : es[i]? = some e ∨ e = .no ∧ es.length ≤ i := by
  unfold startE at h
  by_cases hi : i < es.length
  · rw [List.getElem?_append_left hi] at h; exact .inl h
  · rw [List.getElem?_append_right (by omega), List.getElem?_replicate] at h
    split at h
    · cases h; exact .inr ⟨rfl, by omega⟩
    · cases h
theorem start_get {N : List Str} {vs : List V} {i : Nat} {v : V} (h : vs[i]? = some v) : (L2.start N vs)[i]? = some (some v) := by
  unfold L2.start
  have hi := (List.getElem?_eq_some_iff.mp h).1
  rw [List.getElem?_append_left (by rw [List.length_map]; exact hi), List.getElem?_map, h]; rfl
theorem At.start {N : List Str} {vs : List V} {ds : List D} (le : Le F H) (il : IsL c F vs ds) (hl : vs.length ≤ N.length) : At c (fun _ => none) (fun _ => none) H F (L2.start N vs) (startE N.length (ds.map .fz)) := by
  have hl2 : (ds.map Ent.fz).length ≤ N.length := by rw [List.length_map, ← il.length]; exact hl
  refine ⟨le, by rw [start_length hl, startE_length hl2], fun i e q => ?_, fun _ _ => rfl, (fun _ _ _ q => nomatch q), (fun _ _ q => nomatch q)⟩
  rcases startE_get q with q | ⟨rfl, _⟩
  · rw [List.getElem?_map] at q
    obtain ⟨d, hd, rfl⟩ := Option.map_eq_some_iff.mp q
    obtain ⟨v, hv, iv⟩ := il.getD hd
    exact ⟨rfl, v, start_get hv, iv⟩
  · rfl
/-- slot 0 an own thing at a -/
theorem At.start1 {N : List Str} {a : Addr} {vs : List V} {ds : List D} {e : Ent} (le : Le F H) (il : IsL c F vs ds) (hl : vs.length + 1 ≤ N.length) (hF : F a = none) (k : EntOk c F H (some a) (some (some (.ref a))) (some a) e) :
    At c (fun i => if i = 0 then some a else none) (fun i => if i = 0 then some a else none) H F (L2.start N (.ref a :: vs)) (startE N.length (e :: ds.map .fz)) := by
  have hl2 : (e :: ds.map Ent.fz).length ≤ N.length := by rw [List.length_cons, List.length_map, ← il.length]; exact hl
  have hl1 : (V.ref a :: vs).length ≤ N.length := by rw [List.length_cons]; exact hl
  refine ⟨le, by rw [start_length hl1, startE_length hl2], fun i u q => ?_, fun i q => ?_, fun i j b q1 q2 => ?_, fun i b q => ?_⟩
  · cases i with
    | zero =>
      rcases startE_get q with q | ⟨rfl, h0⟩
      · cases q
        rw [start_get (vs := .ref a :: vs) (v := .ref a) rfl]
        exact k
      · simp at h0
    | succ i =>
      rw [if_neg (Nat.succ_ne_zero i)]
      rcases startE_get q with q | ⟨rfl, _⟩
      · have q' : (ds.map Ent.fz)[i]? = some u := by simpa using q
        rw [List.getElem?_map] at q'
        obtain ⟨d, hd, rfl⟩ := Option.map_eq_some_iff.mp q'
        obtain ⟨v, hv, iv⟩ := il.getD hd
        exact ⟨rfl, v, start_get (by simpa using hv), iv⟩
      · rfl
  · rw [startE_length hl2] at q
    exact if_neg (by omega)
  · by_cases h1 : i = 0
    · by_cases h2 : j = 0
      · omega
      · rw [if_neg h2] at q2; cases q2
    · rw [if_neg h1] at q1; cases q1
  · by_cases h1 : i = 0
    · rw [if_pos h1] at q; cases q; exact hF
    · rw [if_neg h1] at q; cases q
theorem Step.toGrow {Z : Zs} {H' F' : Hp} {Z' : Zs} {A : Zs} {σ : L2.St} {ρ : Env} (s : Step Z H F Z' H' F') (hz : ∀ i, Z i = none) (a : At c A Z' H' F' σ ρ) : Grow H F H' F' :=
  ⟨fun b o e => s.keep b o e (fun i q => by rw [hz i] at q; cases q), a.sub⟩
theorem Step.toGrowX {Z : Zs} {a : Addr} {H' F' : Hp} {Z' : Zs} {A : Zs} {σ : L2.St} {ρ : Env} (s : Step Z H F Z' H' F') (hz : ∀ i b, Z i = some b → b = a) (at_ : At c A Z' H' F' σ ρ) (hF : F' a = none) : GrowX a H F H' F' :=
  ⟨fun b o e n => s.keep b o e (fun i q => n (hz i b q)), s.mono, at_.sub, hF⟩
variable {P : Program} {w : World} {K : PySem.W.Frag} {mg : Str → Option Value} {base : Heap} {x qual : Str} {params : Arguments} {body : List Stmt} {scope : Scope} {f : Addr} {fd : FuncData} {N ps : List Str} {k n j : Nat} {g : M Fl}
theorem len_ps {N P : List Str} {sc : Scope} (S : FnScope N P sc) : P.length ≤ N.length := by
  have := congrArg List.length S.pre
  rw [List.length_take] at this
  omega
/-- the body's rule, at every entry -/
def Body (c : Cfg) (P : Program) (w : World) (K : PySem.W.Frag) (mg : Str → Option Value) (base : Heap) (N : List Str) (qual : Str) (scope : Scope) (f : Addr) (k : Nat) (body : List Stmt) (g : M Fl) : Prop :=
  ∀ (cdv : Value) (A : Around) (outer : List PySem.Env) (s : Shared) (H : Hp) (E : XK), Room k (A.deeper (envOfC qual scope s.heap.objs.size f cdv)) →
    PSs (cxOf (L2.CX P w) P w K mg base N qual scope f cdv A outer s H E) body (tS c (fun cls d _ H => E cls d H) g)
theorem okP {dvs : List V} {kws : List (Str × V)} (Fd : FunD K x qual params body scope dvs kws f fd) (S : FnScope N ps scope) (hb : Body c P w K mg base N qual scope f k body g) : FnOk P w K mg base (L2.CX P w) (k + 1) f fd ps (spP c ps.length (runP N.length g)) :=
  Fd.ok S (fun vs H Q E h => h.1) fun cdv A outer s H vs Q E hr ⟨hl, F, ds, le, il, q⟩ => ⟨_, hb cdv A outer s H E hr, by
    have hN : vs.length ≤ N.length := by rw [hl]; exact len_ps S
    refine ⟨_, _, F, _, At.start le il hN, ?_⟩
    unfold runP at q
    cases e : g (startE N.length (ds.map .fz)) with
    | ok fl ρ =>
      rw [e] at q
      cases fl with
      | nx => exact fun σ' H' F' Z' a s => q _ H' F' (s.toGrow (fun _ => rfl) a) .non
      | ret d => exact fun v σ' H' F' Z' a i s => q v H' F' (s.toGrow (fun _ => rfl) a) i
      | bk => exact q.elim
      | ct => exact q.elim
    | er kk fs ρ => rw [e] at q; exact fun dx σ' H' F' Z' a xx s => q dx H' F' (s.toGrow (fun _ => rfl) a) xx
    | stuck => rw [e] at q; exact q⟩
theorem pin_end {A Z : Zs} {a : Addr} {σ : L2.St} {ρ : Env} {l : List D} (hA : A 0 = some a) (at_ : At c A Z H F σ ρ) (h : ρ.head? = some (.pin l)) : ∃ xs, H a = some (.lst xs) ∧ IsL c F xs l ∧ F a = none := by
  obtain ⟨p, vs, h1, h2, _, h3, h4⟩ := at_.ent 0 _ (by rw [← List.head?_eq_getElem?]; exact h)
  rw [hA] at h1; cases h1
  exact ⟨vs, h3, h4, at_.nf 0 a h2⟩
theorem z0_only {a : Addr} : ∀ (i : Nat) (b : Addr), (fun i => if i = 0 then some a else none : Zs) i = some b → b = a := fun i b q => by
  dsimp only at q
  split at q
  · cases q; rfl
  · cases q
theorem okI {dvs : List V} {kws : List (Str × V)} (Fd : FunD K x qual params body scope dvs kws f fd) (S : FnScope N ps scope) (hn : ps.length = n + 1) (hb : Body c P w K mg base N qual scope f k body g) : FnOk P w K mg base (L2.CX P w) (k + 1) f fd ps (spI c n (runI N.length g)) :=
  Fd.ok S (fun vs H Q E h => by rw [hn]; exact h.1) fun cdv A outer s H vs Q E hr ⟨hl, a, ws, F, xs, ds, es, ev, le, hH, hF, il, iw, q⟩ => ⟨_, hb cdv A outer s H E hr, by
    subst ev
    have hN : ws.length + 1 ≤ N.length := by have := len_ps S; rw [hn] at this; rw [List.length_cons] at hl; omega
    have at0 : At c (fun i => if i = 0 then some a else none) (fun i => if i = 0 then some a else none) H F (L2.start N (.ref a :: ws)) (startE N.length (.pin ds :: es.map .fz)) := At.start1 (e := .pin ds) le iw hN hF ⟨a, xs, rfl, rfl, rfl, hH, il⟩
    refine ⟨_, _, F, _, at0, ?_⟩
    unfold runI at q
    cases e : g (startE N.length (.pin ds :: es.map .fz)) with
    | ok fl ρ =>
      rw [e] at q
      cases fl with
      | nx =>
        unfold toOutI at q
        dsimp only at q
        cases e0 : ρ.head? with
        | none => rw [e0] at q; exact q.elim
        | some en =>
          rw [e0] at q
          cases en with
          | pin l =>
            intro σ' H' F' Z' a' s
            obtain ⟨xs', k1, k2, k3⟩ := pin_end (A := fun i => if i = 0 then some a else none) rfl a' e0
            exact q .non H' F' xs' (s.toGrowX z0_only a' k3) k1 k2 .non
          | _ => exact q.elim
      | ret d =>
        unfold toOutI at q
        dsimp only at q
        cases e0 : ρ.head? with
        | none => rw [e0] at q; exact q.elim
        | some en =>
          rw [e0] at q
          cases en with
          | pin l =>
            intro v σ' H' F' Z' a' i s
            obtain ⟨xs', k1, k2, k3⟩ := pin_end (A := fun i => if i = 0 then some a else none) rfl a' e0
            exact q v H' F' xs' (s.toGrowX z0_only a' k3) k1 k2 i
          | _ => exact q.elim
      | bk => exact q.elim
      | ct => exact q.elim
    | er kk fs ρ =>
      rw [e] at q
      unfold toOutI at q
      dsimp only at q
      cases e0 : ρ.head? with
      | none => rw [e0] at q; exact q.elim
      | some en =>
        rw [e0] at q
        cases en with
        | pin l =>
          intro dx σ' H' F' Z' a' xx s
          obtain ⟨xs', k1, k2, k3⟩ := pin_end (A := fun i => if i = 0 then some a else none) rfl a' e0
          exact q dx H' F' xs' (s.toGrowX z0_only a' k3) k1 k2 xx
        | _ => exact q.elim
    | stuck => rw [e] at q; exact q⟩
theorem okN {dvs : List V} {kws : List (Str × V)} (Fd : FunD K x qual params body scope dvs kws f fd) (S : FnScope N ps scope) (hn : ps.length = n + 1) (hb : Body c P w K mg base N qual scope f k body g) : FnOk P w K mg base (L2.CX P w) (k + 1) f fd ps (spN c j n (runN N.length j g)) :=
  Fd.ok S (fun vs H Q E h => by rw [hn]; exact h.1) fun cdv A outer s H vs Q E hr ⟨hl, a, dx, ws, F, es, ev, le, hH, hF, iw, q⟩ => ⟨_, hb cdv A outer s H E hr, by
    subst ev
    have hN : ws.length + 1 ≤ N.length := by have := len_ps S; rw [hn] at this; rw [List.length_cons] at hl; omega
    have at0 : At c (fun i => if i = 0 then some a else none) (fun i => if i = 0 then some a else none) H F (L2.start N (.ref a :: ws)) (startE N.length (.ob j [] :: es.map .fz)) := At.start1 (e := .ob j []) le iw hN hF ⟨a, dx, [], rfl, rfl, rfl, hH, .nil⟩
    refine ⟨_, _, F, _, at0, ?_⟩
    unfold runN at q
    cases e : g (startE N.length (.ob j [] :: es.map .fz)) with
    | ok fl ρ =>
      rw [e] at q
      cases fl with
      | nx =>
        unfold toOutF at q
        dsimp only at q
        cases e0 : ρ.head? with
        | none => rw [e0] at q; exact q.elim
        | some en =>
          rw [e0] at q
          cases en with
          | ob j' fs =>
            dsimp only at q
            by_cases hj : j' = j
            · rw [if_pos hj] at q
              subst hj
              intro σ' H' F' Z' a' s
              obtain ⟨p, dx', fs', h1, h2, _, h3, h4⟩ := a'.ent 0 _ (by rw [← List.head?_eq_getElem?]; exact e0)
              cases h1
              have h5 := a'.nf 0 a h2
              exact q H' F' dx' fs' (s.toGrowX z0_only a' h5) h3 h4
            · rw [if_neg hj] at q; exact q.elim
          | _ => exact q.elim
      | ret d => exact q.elim
      | bk => exact q.elim
      | ct => exact q.elim
    | er kk fs ρ =>
      rw [e] at q
      unfold toOutF at q
      dsimp only at q
      cases e0 : ρ.head? with
      | none => rw [e0] at q; exact q.elim
      | some en =>
        rw [e0] at q
        cases en with
        | ob j' l =>
          intro d σ' H' F' Z' a' xx s
          obtain ⟨p, dx', fs', h1, h2, _, h3, h4⟩ := a'.ent 0 _ (by rw [← List.head?_eq_getElem?]; exact e0)
          cases h1
          exact q d H' F' (s.toGrowX z0_only a' (a'.nf 0 a h2)) xx
        | _ => exact q.elim
    | stuck => rw [e] at q; exact q⟩
end
end DL
end
section
set_option Elab.async false
set_option linter.all false
set_option maxRecDepth 100000
set_option maxHeartbeats 2000000
namespace DL
open PySem PySem.Spec PyProof.Rows L2 PpSet
/-! ### a set of ints and texts that can be walked -/
def keyK (e : Int × Value) : Key := match e.2 with
  | .int i _ => .inl i
  | .str s _ => .inr s
  | _ => .inl 0
def memK (k : Key) (l : List Key) : Bool := l.any fun x => decide (x = k)
theorem memK_iff {k : Key} {l : List Key} : memK k l = true ↔ k ∈ l := by
  unfold memK
  rw [List.any_eq_true]
  exact ⟨fun ⟨x, h, e⟩ => (of_decide_eq_true e) ▸ h, fun h => ⟨k, h, decide_eq_true rfl⟩⟩
def GoodK (P : Program) (w : World) (e : Int × Value) : Prop := ∃ k : Key, RelV (kV k) e.2 ∧ e.1 = (mixKind P w).hash k
def SetKR (P : Program) (w : World) (h : Heap) (a : Addr) (l : List Key) : Prop :=
  ∃ o es ep t, h.get? a = some o ∧ o.ExactSet ∧ o.data = .set es ep t ∧ (∀ e ∈ es.toList, GoodK P w e) ∧ (es.toList.map keyK).Perm l ∧ l.Nodup ∧
    es.size < scanBound ∧ t.fits es.size = true ∧ Ris t.place.toList ∧ (w.params.followText "set-order" = true ∨ t.led = true)
section
variable {P : Program} {w : World} {h h' : Heap} {a : Addr} {l : List Key}
theorem SetKR.at (R : SetKR P w h a l) (k : ∀ o, h.get? a = some o → h'.get? a = some o) : SetKR P w h' a l := by
  obtain ⟨o, es, ep, t, ho, r⟩ := R
  exact ⟨o, es, ep, t, k o ho, r⟩
theorem keyK_of {k : Key} {u : Value} {n : Int} (r : RelV (kV k) u) : keyK (n, u) = k := by
  cases k with
  | inl i => obtain ⟨t, rfl⟩ := r; rfl
  | inr x => obtain ⟨t, rfl⟩ := r; rfl
theorem goodK_elems {es : List (Int × Value)} (g : ∀ e ∈ es, GoodK P w e) : ElemsOf (mixKind P w) es := fun e he => by
  obtain ⟨k, h1, h2⟩ := g e he
  exact ⟨⟨k, kV_is h1, h2⟩, key_scan h1⟩
theorem goodK_is {e : Int × Value} (g : GoodK P w e) (k : Key) : (mixKind P w).is k e.2 = true ↔ keyK e = k := by
  obtain ⟨k0, h1, _⟩ := g
  have e0 : keyK e = k0 := keyK_of h1
  rw [e0]
  exact ⟨fun h => (mixKind P w).inj e.2 k0 k (kV_is h1) h, fun h => by rw [← h]; exact kV_is h1⟩
theorem SetKR.setOf (R : SetKR P w h a l) : h.SetOf (mixKind P w) a (fun k => memK k l) l.length := by
  obtain ⟨o, es, ep, t, ho, hx, hd, g, pm, nd, hb, hf, _⟩ := R
  refine ⟨o, es, ep, t, ho, hx, hd, goodK_elems g, fun k => ?_, hb, hf, ?_⟩
  · show memK k l = true ↔ _
    rw [memK_iff, ← pm.mem_iff, List.mem_map]
    exact ⟨fun ⟨e, he, q⟩ => ⟨e, he, (goodK_is (g e he) k).2 q⟩, fun ⟨e, he, q⟩ => ⟨e, he, (goodK_is (g e he) k).1 q⟩⟩
  · rw [← pm.length_eq, List.length_map, Array.length_toList]
/-- a key more -/
def addK (k : Key) (l : List Key) : List Key := if memK k l = true then l else l ++ [k]
end
section
variable {P : Program} {w : World} {A : Around} {E : Value → Shared → Prop} {s : Shared} {a : Addr} {l : List Key}
theorem setK_tail {g : Bool → Sem Unit} (hg : ∀ (b : Bool) (s₁ : Shared) (Q' : Unit → Shared → Prop), Q' () s₁ → wpAny (model P w) A (g b) Q' E s₁)
    {o : Obj} {es : Array (Int × Value)} {ep : Nat} {t : SetTable} (ho : s.heap.get? a = some o) (hex : o.ExactSet) (hd : o.data = .set es ep t)
    {es1 : Array (Int × Value)} {t2 : SetTable} {l' : List Key} (g1 : ∀ e ∈ es1.toList, GoodK P w e) (p1 : (es1.toList.map keyK).Perm l') (nd : l'.Nodup)
    (hb1 : es1.size < scanBound) (hf2 : t2.fits es1.size = true) (hr : Ris t2.place.toList) (hl : w.params.followText "set-order" = true ∨ t2.led = true) {wasDummy : Bool} {R : Option Bool → Shared → Prop}
    (hR : ∀ h', Heap.SameBut a s.heap h' → SetKR P w h' a l' → R (some true) { s with heap := h' }) :
    wpAny (model P w) A (do
        storeSet a es1 t2
        if (!wasDummy && t2.tooFull) = true then do
            g (relayAll t2 es1 (SetTable.grown es1.size)).2.2
            storeSet a (relayAll t2 es1 (SetTable.grown es1.size)).1 (relayAll t2 es1 (SetTable.grown es1.size)).2.1
            pure (some true)
          else pure (some true)) R E s := by
  refine wpAny_bind (wpAny_storeSet_of ho hd ?_ (fits_of_scanBound hb1))
  have ho1 := storeB_at (es' := es1) (t' := t2) ho hd
  have sb1 := Heap.SameBut.update s.heap a (Obj.putSet es1 t2)
  split
  · have pm := relayAll_perm t2 es1 (SetTable.grown es1.size)
    have hf3 := relayAll_fits t2 es1 (SetTable.grown es1.size)
    have hr3 := relayAll_ris t2 es1 (SetTable.grown es1.size)
    have hl3 := relayAll_led t2 es1 (SetTable.grown es1.size)
    generalize relayAll t2 es1 (SetTable.grown es1.size) = Z at pm hf3 hr3 hl3 ⊢
    obtain ⟨es2, t3, gave⟩ := Z
    dsimp only at pm hf3 hr3 hl3 ⊢
    have hb2 : es2.size < scanBound := by
      have : es2.size = es1.size := by rw [← Array.length_toList, pm.length_eq, Array.length_toList]
      rw [this]; exact hb1
    refine wpAny_bind (hg _ _ _ ?_)
    refine wpAny_bind (wpAny_storeSet_of ho1 rfl ?_ (fits_of_scanBound hb2))
    have ho2 := storeB_at (es' := es2) (t' := t3) ho1 rfl
    refine wpAny_pure (hR _ (sb1.trans (Heap.SameBut.update _ a _)) ?_)
    exact ⟨_, es2, _, t3, ho2, hex, rfl, fun e he => g1 e (pm.mem_iff.mp he), (pm.map keyK).trans p1, nd, hb2, hf3, hr3, hl.imp id fun z => by rw [hl3]; exact z⟩
  · exact wpAny_pure (hR _ sb1 ⟨_, es1, _, t2, ho1, hex, rfl, g1, p1, nd, hb1, hf2, hr, hl⟩)
theorem setK_hashed {k : Key} {u : Value} {Q : Bool → Shared → Prop} (R : SetKR P w s.heap a l) (ru : RelV (kV k) u) (room : l.length + 1 < scanBound)
    (hQ : ∀ b h', Heap.SameBut a s.heap h' → SetKR P w h' a (addK k l) → Q b { s with heap := h' }) : wpAny (model P w) A (setAddHashed a u ((mixKind P w).hash k)) Q E s := by
  obtain ⟨o, es, ep, t, ho, hex, hd, g, pm0, nd, hb, hf, hr, hl⟩ := R
  have hkey : (mixKind P w).is k u = true := kV_is ru
  have hsc : u.scannable = true := key_scan ru
  have hel : ElemsOf (mixKind P w) es.toList := goodK_elems g
  unfold setAddHashed setAddHashedIn
  refine wpAny_holding (wpAny_bind (wpAny_setState_of ho hd hf ?_))
  dsimp only
  rw [byScan_of hsc hb hel]
  simp only [↓reduceIte]
  unfold setAddByScan
  refine wpAny_bind ?_
  refine wpAny_bind (wpAny_rule ?_)
  refine wpAny_bind (wpAny_setScan_of hkey ho hd hf hel ?_)
  cases hfi : List.findIdx? (fun e => (mixKind P w).is k e.2) es.toList with
  | some j =>
    dsimp only
    obtain ⟨hj, pj, _⟩ := List.findIdx?_eq_some_iff_getElem.mp hfi
    have hm : k ∈ l := pm0.mem_iff.mp (List.mem_map.mpr ⟨es.toList[j], List.getElem_mem hj, (goodK_is (g _ (List.getElem_mem hj)) k).1 pj⟩)
    refine wpAny_pure (wpAny_pure ?_)
    have q := hQ false s.heap (Heap.SameBut.refl a s.heap)
    unfold addK at q
    rw [if_pos (memK_iff.mpr hm)] at q
    exact q ⟨o, es, ep, t, ho, hex, hd, g, pm0, nd, hb, hf, hr, hl⟩
  | none =>
    dsimp only
    have hnk : k ∉ l := fun z => by
      obtain ⟨e, he, q⟩ := List.mem_map.mp (pm0.mem_iff.mpr z)
      have c := List.findIdx?_eq_none_iff.mp hfi e he
      rw [(goodK_is (g e he) k).2 q] at c
      cases c
    have hgw : ∀ (b : Bool) {s₁ : Shared} {Q' : Unit → Shared → Prop}, Q' () s₁ → wpAny (model P w) A (match b with | true => rule "set.scan.the-table-gave-way" | false => pure ()) Q' E s₁ :=
      fun b s₁ Q' q => by cases b <;> first | exact wpAny_pure q | exact wpAny_rule q
    have pm := layNew_perm t es ((mixKind P w).hash k) u
    have hf1 := layNew_fits t es ((mixKind P w).hash k) u
    have hr1 := layNew_ris t es ((mixKind P w).hash k) u hr
    have hl1 := layNew_led t es ((mixKind P w).hash k) u
    generalize layNew t es ((mixKind P w).hash k) u = Z at pm hf1 hr1 hl1 ⊢
    obtain ⟨es1, t1, wasDummy, gave⟩ := Z
    dsimp only at pm hf1 hr1 hl1 ⊢
    rw [Array.toList_push] at pm
    have g1 : ∀ e ∈ es1.toList, GoodK P w e := fun e he => by
      rcases List.mem_append.mp (pm.mem_iff.mp he) with z | z
      · exact g e z
      · rw [List.mem_singleton.mp z]; exact ⟨k, ru, rfl⟩
    have ea : addK k l = l ++ [k] := if_neg fun z => hnk (memK_iff.mp z)
    have p1 : (es1.toList.map keyK).Perm (addK k l) := by
      rw [ea]
      have := pm.map keyK
      rw [List.map_append] at this
      refine this.trans ?_
      rw [show List.map keyK [((mixKind P w).hash k, u)] = [k] by rw [List.map_cons, keyK_of ru]; rfl]
      exact pm0.append_right _
    have nd1 : (addK k l).Nodup := by
      rw [ea]
      exact (List.perm_append_singleton k l).nodup_iff.mpr (List.nodup_cons.mpr ⟨hnk, nd⟩)
    have hb1 : es1.size < scanBound := by
      have h1 : es1.size = l.length + 1 := by
        rw [← Array.length_toList, ← List.length_map (f := keyK), p1.length_eq, ea, List.length_append, List.length_singleton]
      rw [h1]; exact room
    have hled : w.params.followText "set-order" = true ∨ t1.led = true := hl.imp id fun z => by rw [hl1]; exact z
    refine wpAny_bind (hgw _ ?_)
    split
    · refine wpAny_bind ?_
      rw [hashByValue_scannable 8 hsc]
      refine wpAny_pure ?_
      refine setK_tail ?_ ho hex hd g1 p1 nd1 hb1 ?_ ?_ ?_ ?_
      · intro b s₁ Q' q; cases b <;> first | exact wpAny_pure q | exact wpAny_rule q
      · first | (split <;> first | exact hf1 | exact SetTable.fits_plain_off hf1) | exact hf1
      · first | (split <;> exact hr1) | exact hr1
      · first | (split <;> exact hled) | exact hled
      · intro h' sb r; dsimp only; exact wpAny_pure (hQ true h' sb r)
    · refine wpAny_bind (wpAny_pure ?_)
      simp only [↓reduceIte]
      refine setK_tail ?_ ho hex hd g1 p1 nd1 hb1 hf1 hr1 hled ?_
      · intro b s₁ Q' q; cases b <;> first | exact wpAny_pure q | exact wpAny_rule q
      · intro h' sb r; dsimp only; exact wpAny_pure (hQ true h' sb r)
theorem setK_add {k : Key} {u : Value} {Q : Value → Shared → Prop} (R : SetKR P w s.heap a l) (ru : RelV (kV k) u) (room : l.length + 1 < scanBound)
    (hQ : ∀ h', Heap.SameBut a s.heap h' → SetKR P w h' a (addK k l) → Q .none { s with heap := h', toks := s.toks + 1 }) : wpAny (model P w) A (call (.builtin "set.add") [.ref a, u]) Q E s := by
  have hS := R.setOf
  refine wpAny_call_entry F.slot_set_add hS.typeIs F.entry_set_add ?_ (F.args_set_add_2 _ _)
  unfold Builtin.«set.add» Builtin.Frozenset.oneOther
  simp only [List.isEmpty_nil, bind_assoc]
  unfold Builtin.Frozenset.addrOf setAdd
  refine wpAny_bind (wpAny_pure ?_)
  try dsimp only
  refine wpAny_bind (wpAny_pure ?_)
  try dsimp only
  refine wpAny_bind ?_
  refine wpAny_holding ?_
  refine wpAny_bind ((mixKind P w).pyHash (kV_is ru) ?_)
  refine setK_hashed (s := { s with toks := s.toks + 1 }) R ru room fun b h' sb r => ?_
  show wpAny _ _ (ret Value.none) _ _ _
  exact wpAny_pure ⟨_, rfl, hQ h' sb r⟩
theorem setK_fresh {h : Heap} (w : World) : SetKR P w (h.push { cls := .type "set", dict := none, data := .set #[] 0 (.fresh 0 0 (!w.params.followText "set-order")) }) h.objs.size [] :=
  ⟨_, #[], 0, _, Heap.get?_push_size _ rfl, ⟨rfl, rfl, rfl⟩, rfl, (fun e he => by simp at he), .refl _, List.nodup_nil, (by decide), (by rfl), List.Pairwise.nil, by
    show _ ∨ (!w.params.followText "set-order") = true
    cases w.params.followText "set-order"
    · exact .inr rfl
    · exact .inl rfl⟩
end
/-- as a tracked thing -/
def SKO (P : Program) (w : World) (a : Addr) (l : List Key) : HO := .ext fun h => SetKR P w h a l
theorem sko_ok {P : Program} {w : World} {H : Hp} {h : Heap} {a : Addr} {l : List Key} (R : SetKR P w h a l) : ObjOk P w H h a (SKO P w a l) := by
  have ⟨o, _, _, _, ho, _⟩ := R
  exact ⟨R, ⟨o, ho⟩, fun h1 h2 p k => SetKR.at p k⟩
section
variable {X : Cx}
theorem sko_get {pins : List (Addr × Obj)} {σ : L2.St} {H : Hp} {s : Shared} {a : Addr} {l : List Key} (I : Inv X pins σ H s) (ha : H a = some (SKO X.prog X.w a l)) : SetKR X.prog X.w s.heap a l := (I.hok a _ ha).1
theorem sko_add {pins : List (Addr × Obj)} {σ : L2.St} {H : Hp} {s : Shared} {E : Value → Shared → Prop} {D : Addr} {l : List Key} {k : Key} {u : Value} {Q : Value → Shared → Prop} (I : Inv X pins σ H s) (hD : H D = some (SKO X.prog X.w D l)) (ru : RelV (kV k) u) (room : l.length + 1 < scanBound)
    (h : ∀ s', Inv X pins σ (upd H D (SKO X.prog X.w D (addK k l))) s' → Q .none s') : wpAny (model X.prog X.w) X.A (call (.builtin "set.add") [.ref D, u]) Q E s := by
  refine setK_add (sko_get I hD) ru room fun h' sb new => ?_
  have he : ∃ u, h'.get? D = some u := by
    have ⟨o, _, _, _, ho, _⟩ := new
    exact ⟨o, ho⟩
  exact h _ (I.write (e := D) (t' := s.toks + 1) (by rw [hD]; trivial) (.inl rfl) (fun b u hb hu => (sb.2 b hb).trans hu) he (sko_ok new))
/-! ### {elt for target in iter if ..} -/
def tSk (P : Program) (w : World) (wi : TI) (g : TG) (tt : TT) (te : TE) (vs : List Nat) : TE := fun σ H Q => wi σ H fun J H1 => ∀ D, H1 D = none → ∃ W : Nat → Nat → Hp → Prop, (∃ m, W 0 m (upd H1 D (SKO P w D []))) ∧ ∀ i m H, W i m H →
  (J.stop i H ∧ Q (.ref D) H) ∨ (J.go i H ∧ ∃ Nx : Hp → Prop, (∀ H', Nx H' → ∃ m', m' < m ∧ W (i + 1) m' H') ∧ ∀ x H', J.yld i H x H' → g x (wipe σ vs) H' fun σ2 H2 => wipe σ2 vs = wipe σ vs ∧ tt σ2 H2 fun b H3 =>
    if b = true then te σ2 H3 fun y H4 => ∃ (k : Key) (l : List Key), y = kV k ∧ H4 D = some (SKO P w D l) ∧ l.length + 1 < scanBound ∧ Nx (upd H4 D (SKO P w D (addK k l))) else Nx H3)
theorem pe_sk {elt tg iter : Expr} {ifs : List Expr} {scope : Scope} {own : List (Str × Nat)} {pos : Pos} {wi : TI} {g : TG} {tt : TT} {te : TE} (hc : X.calm = true) (hN : X.N.Nodup) (hi : PI X tg iter wi) (ok : BlkOk X.N X.env.scope scope own)
    (hg : ∀ (s : Shared) (H : Hp) (C : Addr) (cl : List (Str × Addr)) (fp : List Addr), PG (X.blk s H scope (compEnvC scope cl C X.env) fp) tg g) (ht : ∀ (s : Shared) (H : Hp) (C : Addr) (cl : List (Str × Addr)) (fp : List Addr), PTs (X.blk s H scope (compEnvC scope cl C X.env) fp) ifs tt)
    (he : ∀ (s : Shared) (H : Hp) (C : Addr) (cl : List (Str × Addr)) (fp : List Addr), PE (X.blk s H scope (compEnvC scope cl C X.env) fp) elt te) (hs : ∀ x, foldedSetIterable iter X.env x = pure x := by intro _; rfl) :
    PE X (.SetComp elt [⟨tg, iter, ifs, 0⟩] scope pos) (tSk X.prog X.w wi g tt te (own.map (·.2))) := by
  refine ⟨fun pins s σ H Q I h => ?_⟩
  rw [eval_SetComp]
  have hfree : ∀ y ∈ scope.names, y.2 = .free → ∃ c, X.env.cells.lookup y.1 = some c := fun y hy e => by
    rcases ok.free y hy e with k | k
    · exact I.ok.has _ (.inl k)
    · exact I.ok.has _ (.inr k)
  refine wpAny_comprehension_free (use := none) rfl hs (closure_ok hfree) ok.kind (fun y hy e => by rw [ok.uniq y hy, e]) (thn (hi.run pins s σ H _ I h) fun xv s1 hx => thn hx fun itv s2 h2 => ?_)
  obtain ⟨it, fp, tn, J, H2, rfl, I2, T, st2, f2, q⟩ := h2
  refine newSet_ok (newEnv_comp ?_)
  have sz : ∀ b ∈ fp, b < s2.heap.objs.size := fun b hb => let ⟨o, e, _⟩ := T.obj _ _ st2 b hb; Heap.lt_size e
  generalize hD : s2.heap.objs.size = D at sz ⊢
  have hDn : H2 D = none := I2.hok.fresh (Nat.le_of_eq hD)
  obtain ⟨W, ⟨m0, w0⟩, turn⟩ := q D hDn
  -- the new set stands
  have pushed : ∀ b o, s2.heap.get? b = some o → (s2.heap.push { cls := .type "set", dict := none, data := .set #[] 0 (.fresh 0 0 (!X.w.params.followText "set-order")) }).get? b = some o := fun b o e => Heap.get?_push_of_some _ e
  have big : (s2.heap.push { cls := .type "set", dict := none, data := .set #[] 0 (.fresh 0 0 (!X.w.params.followText "set-order")) }).objs.size = D + 1 := by rw [Heap.size_push, hD]
  have new := setK_fresh (P := X.prog) (h := s2.heap) X.w
  rw [hD] at new
  generalize s2.heap.push { cls := .type "set", dict := none, data := .set #[] 0 (.fresh 0 0 (!X.w.params.followText "set-order")) } = hp at pushed big new ⊢
  generalize hs3 : ({ s2 with heap := hp } : Shared) = s3
  have h3 : s3.heap = hp := by rw [← hs3]
  have I3 : Inv X pins σ (upd H2 D (SKO X.prog X.w D [])) s3 := by
    rw [← hs3]
    exact I2.laid (t' := s2.toks) pushed (Nat.le_of_eq hD) (sko_ok new)
  have f3 : ∀ b ∈ fp, FpOk X pins (upd H2 D (SKO X.prog X.w D [])) b ∧ b < s3.heap.objs.size := fun b hb =>
    ⟨⟨by rw [upd_ne (Nat.ne_of_lt (sz b hb))]; exact (f2 b hb).1, (f2 b hb).2⟩, by rw [h3, big]; exact Nat.lt_succ_of_lt (sz b hb)⟩
  have st3 : tn 0 s3.heap := T.keep _ _ _ st2 fun b _ o e => by rw [h3]; exact pushed b o e
  generalize upd H2 D (SKO X.prog X.w D []) = H3 at I3 f3 w0
  have I4 := block_start I3 ok hN f3
  have pg := hg s3 H3 s3.heap.objs.size (cellsFrom (s3.heap.objs.size + 1) scope.names (cloFrom X.env.cells scope.names [])) fp
  have pt := ht s3 H3 s3.heap.objs.size (cellsFrom (s3.heap.objs.size + 1) scope.names (cloFrom X.env.cells scope.names [])) fp
  have pe := he s3 H3 s3.heap.objs.size (cellsFrom (s3.heap.objs.size + 1) scope.names (cloFrom X.env.cells scope.names [])) fp
  show codeAny _ _ (.compStart (.SetComp elt [⟨tg, iter, ifs, 0⟩] scope pos) 0 (.ref it) (.ref D) (compEnvC scope (cellsFrom (s3.heap.objs.size + 1) scope.names (cloFrom X.env.cells scope.names [])) s3.heap.objs.size X.env)) (compPost (model X.prog X.w) X.A X.xe none (EP X pins σ Q) (.ref D) s3.heap.objs.size) { s3 with heap := pushCells (s3.heap.push { cls := .type "dict", data := .dict #[] }) scope.names }
  generalize hce : compEnvC scope (cellsFrom (s3.heap.objs.size + 1) scope.names (cloFrom X.env.cells scope.names [])) s3.heap.objs.size X.env = ce at I4 pg pt pe ⊢
  have cL : ce.locals = s3.heap.objs.size := by subst hce; rfl
  generalize hs4 : ({ s3 with heap := pushCells (s3.heap.push { cls := .type "dict", data := .dict #[] }) scope.names } : Shared) = s4 at I4 ⊢
  have st4 : tn 0 s4.heap := T.keep _ _ _ st3 fun b _ o e => by rw [← hs4]; exact pushCells_keeps _ _ _ _ (Heap.get?_push_of_some _ e)
  have nfp : ∀ b ∈ fp, H3 b = none := fun b hb => (f3 b hb).1.1
  have stat : ∀ {σ' : L2.St} {H' : Hp} {s' : Shared}, Inv (X.blk s3 H3 scope ce fp) [] σ' H' s' → (∀ b ∈ fp, H' b = none) → ∀ b ∈ fp, FpOk (X.blk s3 H3 scope ce fp) [] H' b := fun I' hn b hb =>
    ⟨hn b hb, (I'.ok.exf b hb).1, I'.ok.exfs b hb, .inl hb, fun x c e => (I'.ok.exf b hb).2 x c e, fun p hp => absurd (show p ∈ ([] : List (Addr × Obj)) ++ [] from hp) (by simp)⟩
  have loop : codeAny (model X.prog X.w) X.A (.compLoop (.SetComp elt [⟨tg, iter, ifs, 0⟩] scope pos) 0 (.ref it) (.ref D) ce) (compPost (model X.prog X.w) X.A X.xe none (EP X pins σ Q) (.ref D) s3.heap.objs.size) s4 := by
    refine compLoopS_any (fun n s' => ∃ i H', Inv (X.blk s3 H3 scope ce fp) [] (wipe σ (own.map (·.2))) H' s' ∧ tn i s'.heap ∧ (∀ b ∈ fp, H' b = none) ∧ W i n H') ?_ m0 ⟨0, H3, I4, st4, nfp, w0⟩
    rintro n s5 ⟨i, H5, I5, st5, n5, w5⟩
    rcases turn i n H5 w5 with ⟨stop, qq⟩ | ⟨go, Nx, hNx, step⟩
    · refine thnF (T.done (X.blk s3 H3 scope ce fp) rfl rfl rfl hc i [] s5 _ H5 (fun _ _ => False) I5 (stat I5 n5) st5 stop) fun r s6 ⟨hr, I6⟩ => ?_
      subst hr
      have I7 : Inv X pins σ H5 s6 := I3.call' (ch := fp) I6.os I6.base I6.hok I6.bare fun b hb => ⟨(f3 b hb).1.2.2.2.1, (f3 b hb).1.2.1, (f3 b hb).1.2.2.2.2.1, (f3 b hb).1.2.2.2.2.2⟩
      have nC : H5 s3.heap.objs.size = none := by rw [← cL]; exact I6.free
      obtain ⟨m, hn, _⟩ := I6.loc
      obtain ⟨f0, f1, f2', f3', f4, f5⟩ := I3.fpOk (Nat.le_refl _) nC
      refine ⟨m, by rw [← cL]; exact hn, fun h'' sb => ⟨.ref D, H5, I7.turned (t' := s6.toks) (fun b o hb e => (sb.2 b hb).trans e) f0 f1 f3' f4 f5, rfl, qq⟩⟩
    · refine thnF (T.item (X.blk s3 H3 scope ce fp) rfl rfl rfl hc i [] s5 _ H5 (fun _ _ => False) I5 (stat I5 n5) st5 go) fun r s6 ⟨u, hr, h6⟩ => ?_
      subst hr
      refine thnF h6 fun _ s7 ⟨x, H7, I7, r7, y7, st7, n7⟩ => ?_
      have I7' := I7.pinned (stat I7 n7) (T.obj _ _ st7)
      refine thnF (pg.run _ s7 _ H7 x u _ I7' r7 (step x H7 y7)) fun _ s8 ⟨σ8, H8, I8, hw8, q8⟩ => thnF (pt.run _ s8 σ8 H8 _ I8 q8) fun b s9 ⟨H9, I9, q9⟩ => ?_
      have fin : ∀ {s' : Shared} {H' : Hp}, Inv (X.blk s3 H3 scope ce fp) ([] ++ pinsAt fp s7.heap) σ8 H' s' → Nx H' → ∃ m, m < n ∧ ∃ i H', Inv (X.blk s3 H3 scope ce fp) [] (wipe σ (own.map (·.2))) H' s' ∧ tn i s'.heap ∧ (∀ b ∈ fp, H' b = none) ∧ W i m H' := fun {s' H'} I' nx => by
        obtain ⟨m', hm, w'⟩ := hNx H' nx
        have pin' : ∀ b ∈ fp, ∀ o, s7.heap.get? b = some o → s'.heap.get? b = some o ∧ H' b = none := fun b hb o e =>
          let z := I'.pin (b, o) (List.mem_append_right _ (List.mem_append_right _ (mem_pinsAt hb e)))
          ⟨z.1, z.2.1⟩
        refine ⟨m', hm, i + 1, H', (I'.unpinned (pins := [])).weak (by rw [← hw8, wipe_length]) (fun j v e => by rw [← hw8] at e; exact (wipe_some e).1), T.keep _ _ _ st7 fun b hb o e => (pin' b hb o e).1, fun b hb => ?_, w'⟩
        obtain ⟨o, e, _⟩ := T.obj _ _ st7 b hb
        exact (pin' b hb o e).2
      cases b with
      | false => simp only [Bool.false_eq_true, if_false] at q9 ⊢; exact fin I9 q9
      | true =>
        simp only [if_true] at q9 ⊢
        refine thnF (pe.run _ s9 σ8 H9 _ I9 q9) fun z s10 ⟨yv, H10, I10, r10, k, l, ey, hD10, hz10, nx⟩ => ?_
        subst ey
        exact sko_add (X := X.blk s3 H3 scope ce fp) I10 hD10 r10 hz10 fun s11 I11 => fin I11 nx
  exact codeAny_compStart_set loop (T.self X.A 0 _ _ _ st4 loop)
/-! ### len, sorted of such a set -/
def rLenK (P : Program) (w : World) : List V → Hp → VK → Prop := fun xs H Q => ∃ a l, xs = [.ref a] ∧ H a = some (SKO P w a l) ∧ Q (.int ((l.length : Nat) : Int)) H
end
end DL
end
section
set_option Elab.async false
set_option linter.all false
set_option maxRecDepth 100000
set_option maxHeartbeats 4000000
namespace DL
open PySem PySem.Spec PyProof.Rows L2 PpSet
/-! ### sorting by insertion -/
section
variable {α : Type} {le : α → α → Bool}
def insL (le : α → α → Bool) (x : α) : List α → List α
  | [] => [x]
  | y :: r => if le x y = true then x :: y :: r else y :: insL le x r
def isort (le : α → α → Bool) : List α → List α
  | [] => []
  | x :: r => insL le x (isort le r)
theorem insL_perm (x : α) : ∀ l : List α, (insL le x l).Perm (x :: l)
  | [] => .refl _
  | y :: r => by
    unfold insL
    by_cases h : le x y = true
    · rw [if_pos h]
    · rw [if_neg h]
      exact ((insL_perm x r).cons y).trans (.swap x y r)
theorem isort_perm : ∀ l : List α, (isort le l).Perm l
  | [] => .refl _
  | x :: r => (insL_perm x (isort le r)).trans ((isort_perm r).cons x)
structure Ord (le : α → α → Bool) : Prop where
  tot : ∀ x y, le x y = true ∨ le y x = true
  tr : ∀ x y z, le x y = true → le y z = true → le x z = true
  anti : ∀ x y, le x y = true → le y x = true → x = y
theorem insL_srt (O : Ord le) (x : α) : ∀ l : List α, l.Pairwise (fun a b => le a b = true) → (insL le x l).Pairwise (fun a b => le a b = true)
  | [], _ => List.pairwise_singleton _ _
  | y :: r, h => by
    obtain ⟨h1, h2⟩ := List.pairwise_cons.mp h
    unfold insL
    by_cases c : le x y = true
    · rw [if_pos c]
      refine List.pairwise_cons.mpr ⟨fun z hz => ?_, h⟩
      rcases List.mem_cons.mp hz with e | hz
      · rw [e]; exact c
      · exact O.tr x y z c (h1 z hz)
    · rw [if_neg c]
      refine List.pairwise_cons.mpr ⟨fun z hz => ?_, insL_srt O x r h2⟩
      rcases List.mem_cons.mp ((insL_perm x r).mem_iff.mp hz) with e | hz
      · rw [e]; exact (O.tot x y).resolve_left c
      · exact h1 z hz
theorem isort_srt (O : Ord le) : ∀ l : List α, (isort le l).Pairwise (fun a b => le a b = true)
  | [] => .nil
  | x :: r => insL_srt O x _ (isort_srt O r)
theorem srt_uniq (O : Ord le) : ∀ l m : List α, l.Perm m → l.Pairwise (fun a b => le a b = true) → m.Pairwise (fun a b => le a b = true) → l = m
  | [], m, p, _, _ => (List.nil_perm.mp p).symm
  | x :: r, [], p, _, _ => absurd p.length_eq (by simp)
  | x :: r, y :: t, p, h1, h2 => by
    obtain ⟨a1, a2⟩ := List.pairwise_cons.mp h1
    obtain ⟨b1, b2⟩ := List.pairwise_cons.mp h2
    have e : x = y := by
      rcases List.mem_cons.mp (p.mem_iff.mp List.mem_cons_self) with e | hx
      · exact e
      · rcases List.mem_cons.mp (p.mem_iff.mpr List.mem_cons_self) with e | hy
        · exact e.symm
        · exact O.anti x y (a1 y hy) (b1 x hx)
    subst e
    rw [srt_uniq O r t (List.perm_cons x |>.mp p) a2 b2]
theorem srt_eq (O : Ord le) {l ys : List α} (p : ys.Perm l) (h : ys.Pairwise (fun a b => le a b = true)) : ys = isort le l :=
  srt_uniq O _ _ (p.trans (isort_perm l).symm) h (isort_srt O l)
end
def leI (i j : Int) : Bool := decide (i ≤ j)
theorem ordI : Ord leI := ⟨fun x y => by unfold leI; rcases Int.le_total x y with h | h <;> simp [h], fun x y z h1 h2 => by
  unfold leI at *
  have := of_decide_eq_true h1
  have := of_decide_eq_true h2
  exact decide_eq_true (by omega), fun x y h1 h2 => by
  unfold leI at *
  have := of_decide_eq_true h1
  have := of_decide_eq_true h2
  omega⟩
/-- texts: x is not behind y -/
def leS (x y : Str) : Bool := !ltCps y.cps.toList x.cps.toList
theorem ltc_tot : ∀ a b : List Nat, ltCps a b = false ∨ ltCps b a = false
  | [], [] => .inl rfl
  | [], _ :: _ => .inr rfl
  | _ :: _, [] => .inl rfl
  | a :: r, b :: t => by
    unfold ltCps
    rcases Nat.lt_trichotomy a b with h | h | h
    · right; simp; omega
    · subst h
      rcases ltc_tot r t with q | q
      · left; simp [q]
      · right; simp [q]
    · left; simp; omega
theorem ltc_anti : ∀ a b : List Nat, ltCps a b = false → ltCps b a = false → a = b
  | [], [], _, _ => rfl
  | [], _ :: _, h, _ => by cases h
  | _ :: _, [], _, h => by cases h
  | a :: r, b :: t, h1, h2 => by
    unfold ltCps at h1 h2
    simp only [Bool.or_eq_false_iff, Bool.and_eq_false_iff, decide_eq_false_iff_not, beq_eq_false_iff_ne, ne_eq] at h1 h2
    have e : a = b := by omega
    subst e
    rw [ltc_anti r t (by rcases h1.2 with q | q; exact absurd rfl q; exact q) (by rcases h2.2 with q | q; exact absurd rfl q; exact q)]
theorem ltc_tr : ∀ a b c : List Nat, ltCps b a = false → ltCps c b = false → ltCps c a = false
  | [], b, [], _, _ => rfl
  | [], b, c :: s, _, _ => rfl
  | a :: r, [], c, h1, _ => by cases h1
  | a :: r, b :: t, [], _, h2 => by cases h2
  | a :: r, b :: t, c :: s, h1, h2 => by
    unfold ltCps at h1 h2 ⊢
    simp only [Bool.or_eq_false_iff, Bool.and_eq_false_iff, decide_eq_false_iff_not, beq_eq_false_iff_ne, ne_eq] at h1 h2 ⊢
    refine ⟨by omega, ?_⟩
    by_cases e : c = a
    · right
      have e1 : b = a := by omega
      have e2 : c = b := by omega
      exact ltc_tr r t s (h1.2.resolve_left (by omega)) (h2.2.resolve_left (by omega))
    · left; exact e
theorem str_ext {x y : Str} (h : x.cps.toList = y.cps.toList) : x = y := by
  cases x; cases y
  simp only at h
  congr
  exact Array.toList_inj.mp h
theorem ordS : Ord leS := ⟨fun x y => by
  unfold leS
  rcases ltc_tot y.cps.toList x.cps.toList with h | h
  · left; rw [h]; rfl
  · right; rw [h]; rfl, fun x y z h1 h2 => by
  unfold leS at *
  have h1 := Bool.not_eq_true' _ |>.mp h1
  have h2 := Bool.not_eq_true' _ |>.mp h2
  rw [ltc_tr _ _ _ h1 h2]; rfl, fun x y h1 h2 => by
  unfold leS at *
  exact str_ext (ltc_anti _ _ (Bool.not_eq_true' _ |>.mp h2) (Bool.not_eq_true' _ |>.mp h1))⟩
theorem rising_pw : ∀ (p : Str) (l : List Str), risingS p l = true → (p :: l).Pairwise (fun a b => leS a b = true)
  | p, [], _ => List.pairwise_singleton _ _
  | p, x :: r, h => by
    have h' : (!ltCps x.cps.toList p.cps.toList && risingS x r) = true := h
    obtain ⟨h1, h2⟩ := Bool.and_eq_true_iff.mp h'
    have ih := rising_pw x r h2
    refine List.pairwise_cons.mpr ⟨fun z hz => ?_, ih⟩
    rcases List.mem_cons.mp hz with e | hz
    · rw [e]; exact h1
    · exact ordS.tr p x z h1 ((List.pairwise_cons.mp ih).1 z hz)
theorem sortedS_pw : ∀ (l : List Str), sortedS l = true → l.Pairwise (fun a b => leS a b = true)
  | [], _ => .nil
  | x :: r, h => rising_pw x r h
/-! ### set(list) -/
def dedK (ks : List Key) : List Key := ks.foldl (fun acc k => addK k acc) []
theorem dedK_snoc (ks : List Key) (k : Key) : dedK (ks ++ [k]) = addK k (dedK ks) := by
  unfold dedK
  rw [List.foldl_append]
  rfl
theorem addK_len (k : Key) (l : List Key) : (addK k l).length ≤ l.length + 1 := by
  unfold addK
  split
  · omega
  · rw [List.length_append, List.length_singleton]; exact Nat.le_refl _
theorem dedK_len_aux : ∀ (ks acc : List Key), (ks.foldl (fun acc k => addK k acc) acc).length ≤ acc.length + ks.length
  | [], acc => Nat.le_refl _
  | k :: r, acc => by
    have h1 := dedK_len_aux r (addK k acc)
    have h2 := addK_len k acc
    rw [List.foldl_cons, List.length_cons]
    omega
theorem dedK_len (ks : List Key) : (dedK ks).length ≤ ks.length := by
  have := dedK_len_aux ks []
  simpa [dedK] using this
section
variable {P : Program} {w : World} {A : Around} {E : Value → Shared → Prop} {s : Shared}
theorem update_keys {I : Addr} {fp wr : List Addr} {G : Array GenState → Array GenState → Prop} {n : Nat} {Pv : Nat → Value → Prop} {St : Nat → Shared → Prop} {R : Result → Shared → Prop}
    (W : WalksS P w A.in1 I fp wr G n Pv St) (S : Addr) (hSf : S ∉ fp) (ks : List Key) (hn : n = ks.length) (hb : ks.length + 1 < scanBound) (hval : ∀ i v, Pv i v → ∃ k, ks[i]? = some k ∧ RelV (kV k) v) :
    ∀ (k i : Nat) (s : Shared), n - i = k → i ≤ n → St i s → SetKR P w s.heap S (dedK (ks.take i)) →
      (∀ s', Moved (S :: wr) G s s' → SetKR P w s'.heap S (dedK ks) → R (.ok (.ret .none)) s') →
      codeAny (model P w) A (.builtin "set.update.loop" ⟨[.ref S, .ref I], []⟩) R s := by
  have hSw : S ∉ wr := fun h => hSf (W.sub _ h)
  have hsub : ∀ b ∈ wr, b ∈ S :: wr := fun b hb => List.mem_cons_of_mem _ hb
  intro k
  induction k with
  | zero =>
    intro i s hk' hi hst hS hR
    have hin : i = n := by omega
    subst hin
    refine codeAny_builtin F.entry_set_update_loop ?_
    rw [Around.under_plainId F.plain_set_update_loop _]
    show wpAny _ A.in1 (pyNext (.ref I) >>= _) _ _ s
    refine wpAny_bind (W.done s _ _ hst fun s' hm => ?_)
    show wpAny _ A.in1 (ret Value.none) _ _ s'
    rw [List.take_of_length_le (by omega)] at hS
    exact wpAny_pure (hR s' (hm.mono hsub) (hS.at fun o e => hm.heap S o hSw e))
  | succ k ih =>
    intro i s hk' hi hst hS hR
    have hlt : i < n := by omega
    refine codeAny_builtin F.entry_set_update_loop ?_
    rw [Around.under_plainId F.plain_set_update_loop _]
    show wpAny _ A.in1 (pyNext (.ref I) >>= _) _ _ s
    refine wpAny_bind (W.item i s _ _ hlt hst fun v s' hP hst' hm => ?_)
    obtain ⟨z, hz, rz⟩ := hval i v hP
    have hS' := hS.at fun o e => hm.heap S o hSw e
    show wpAny _ A.in1 (holding [v] (setAdd S v) >>= _) _ _ s'
    refine wpAny_bind (wpAny_holding ?_)
    unfold setAdd
    refine wpAny_holding ?_
    refine wpAny_bind ((mixKind P w).pyHash (kV_is rz) ?_)
    have hl : (dedK (ks.take i)).length + 1 < scanBound := by
      have h1 := dedK_len (ks.take i)
      rw [List.length_take] at h1
      omega
    refine setK_hashed (s := { s' with toks := s'.toks + 1 }) hS' rz hl fun b h' hsb hS2 => ?_
    have hS3 : SetKR P w h' S (dedK (ks.take (i + 1))) := by
      rw [List.take_add_one, hz, Option.toList_some, dedK_snoc]
      exact hS2
    refine wpAny_pure ⟨plainId_quiet F.plain_set_update_loop _, ih (i + 1) _ (by omega) hlt (W.frame _ s' _ _ hst' (Nat.le_succ _) fun b hb o e => ?_) hS3 fun s'' hm'' hS'' => ?_⟩
    · rw [hsb.2 b (fun h : b = S => hSf (by rw [← h]; exact hb))]; exact e
    · refine hR s'' (Moved.trans W.gtrans ((hm.mono hsub).then_heap (Nat.le_succ _) fun b o hb e => ?_) hm'') hS''
      rw [hsb.2 b (fun h : b = S => hb (by rw [h]; exact List.mem_cons_self))]; exact e
theorem setK_at0 {h : Heap} {a : Addr} (ho : h.get? a = some { cls := .type "set", dict := none, data := .set #[] 0 (.fresh 0 0 (!w.params.followText "set-order")) }) : SetKR P w h a [] :=
  ⟨_, #[], 0, _, ho, ⟨rfl, rfl, rfl⟩, rfl, (fun e he => by simp at he), .refl _, List.nodup_nil, (by decide), (by rfl), List.Pairwise.nil, by
    show _ ∨ (!w.params.followText "set-order") = true
    cases w.params.followText "set-order"
    · exact .inr rfl
    · exact .inl rfl⟩
/-- set(l), l a list of ints and texts -/
theorem call_set_listK {l : Addr} {items : Array Value} (ks : List Key) {Q : Value → Shared → Prop} (hh : A.handled = none) (hl : s.heap.IsList l items) (hit : Vals (ks.map kV) items.toList) (hb : ks.length + 1 < scanBound)
    (h : ∀ (h' : Heap) (tk : Nat), SetKR P w h' s.heap.objs.size (dedK ks) → (∀ b o, s.heap.get? b = some o → h'.get? b = some o) → Q (.ref s.heap.objs.size) { s with heap := h', toks := tk }) :
    wpAny (model P w) A (call (.type "set") [.ref l]) Q E s := by
  have hisz : items.size = ks.length := by
    have q := hit.length
    rw [List.length_map] at q
    rw [q, Array.length_toList]
  obtain ⟨c, tl, hmro⟩ := F.called_set.mro
  have hmade := F.called_set.made
  have hsub := F.called_set.sub
  refine wpAny_call (codeAny_of_tree ?_)
  show wpAny _ _ (callAny (.type "set") _) _ _ _
  refine wpAny_pure ⟨Code.quiet_builtin _ (by decide +kernel), codeAny_builtin F.entry_type_call ?_⟩
  rw [Around.under_plain (weight_type_call_type "set" [.ref l] []) rfl]
  have h1 := F.called_set.notType
  have h2 := F.called_set.canCreate
  have hct := F.typeCall_set_1 (.ref l)
  repeat (any_goals (first | assumption | wp_step))
  refine codeAny_mono (L2.code_set_led1 (.ref l) (E := E) (Q₁ := fun obj s₁ => obj = .ref s.heap.objs.size ∧ s₁ = { s with heap := s.heap.push { cls := .type "set", dict := none, data := .set #[] 0 (.fresh 0 0 (!w.params.followText "set-order")) } }) ⟨rfl, rfl⟩) fun r s₁ hr => ?_
  cases r with
  | error e => exact hr
  | ok fl =>
    cases fl with
    | ret obj =>
      obtain ⟨rfl, rfl⟩ := hr
      have hS : (s.heap.push { cls := .type "set", dict := none, data := .set #[] 0 (.fresh 0 0 (!w.params.followText "set-order")) }).get? s.heap.objs.size = some { cls := .type "set", dict := none, data := .set #[] 0 (.fresh 0 0 (!w.params.followText "set-order")) } := Heap.get?_push_size _ rfl
      have hT : Shared.TypeIs { s with heap := s.heap.push { cls := .type "set", dict := none, data := .set #[] 0 (.fresh 0 0 (!w.params.followText "set-order")) } } (.ref s.heap.objs.size) "set" := ⟨_, hS, rfl⟩
      have hli := F.called_set.init.lookup
      have hbi := F.called_set.init.bind (.ref s.heap.objs.size)
      repeat (any_goals (first | assumption | wp_step))
      refine codeAny_mono (codeAny_call_builtin (R := wants (fun r s₂ => r = .none ∧ ∃ h' tk, s₂ = { s with heap := h', toks := tk } ∧ SetKR P w h' s.heap.objs.size (dedK ks) ∧
          (∀ b o, s.heap.get? b = some o → h'.get? b = some o)) E) F.called_set.init.plain F.entry_set_init (check_set_init_1 hT ?_)) fun r₂ s₂ hr₂ => ?_
      · obtain ⟨ol, hol, hcl, nl, hdl⟩ := hl
        obtain ⟨ocls, odict, odata, oslots⟩ := ol
        simp only at hcl hdl
        subst hcl; subst hdl
        have hol' : (s.heap.push { cls := .type "set", dict := none, data := .set #[] 0 (.fresh 0 0 (!w.params.followText "set-order")) }).get? l = some { cls := .type "list", dict := odict, data := .seq items nl, slots := oslots } := Heap.get?_push_of_some _ hol
        have hsls := PySem.F.sub_list_set
        have hslf := PySem.F.sub_list_frozenset
        have hne : (Value.type "list" == Value.type "dict") = false := by decide
        have hl1 : (s.heap.push { cls := .type "set", dict := none, data := .set #[] 0 (.fresh 0 0 (!w.params.followText "set-order")) }).IsList l items := ⟨_, hol', rfl, nl, rfl⟩
        unfold Builtin.«set.__init__» noKeywords Builtin.Frozenset.updateFrom
        generalize hPI : pyIter = PI
        wp_walk
        subst hPI
        refine wpAny_pyIter_list hl1 ?_
        refine wpAny_bind (wpAny_runValue ?_)
        have hlS : l < s.heap.objs.size := Heap.lt_size hol
        have hh3 : A.in1.in1.in1.handled = none := by simp [hh]
        have hneI : l ≠ (s.heap.push { cls := .type "set", dict := none, data := .set #[] 0 (.fresh 0 0 (!w.params.followText "set-order")) }).objs.size := by
          rw [Heap.size_push]; exact Nat.ne_of_lt (Nat.lt_succ_of_lt hlS)
        have hSf : s.heap.objs.size ∉ [(s.heap.push { cls := .type "set", dict := none, data := .set #[] 0 (.fresh 0 0 (!w.params.followText "set-order")) }).objs.size, l] := by
          rw [Heap.size_push]; simp only [List.mem_cons, List.mem_singleton, List.not_mem_nil, or_false, not_or]
          exact ⟨Nat.ne_of_lt (Nat.lt_succ_self _), Nat.ne_of_gt hlS⟩
        have hval : ∀ (i : Nat) (v : Value), items[i]? = some v → ∃ k, ks[i]? = some k ∧ RelV (kV k) v := fun i v hv => by
          have hv' : items.toList[i]? = some v := by rw [Array.getElem?_toList]; exact hv
          have hi : i < ks.length := by rw [← hisz]; exact (Array.getElem?_eq_some_iff.mp hv).1
          have hx : (ks.map kV)[i]? = some (kV ks[i]) := by rw [List.getElem?_map, List.getElem?_eq_getElem hi]; rfl
          obtain ⟨u, hu, ru⟩ := hit.get hx
          rw [hv'] at hu; cases hu
          exact ⟨ks[i], List.getElem?_eq_getElem hi, ru⟩
        refine update_keys ((Walks.list hh3 _ l hneI items).toS) s.heap.objs.size hSf ks hisz hb hval (items.size - 0) 0 _ (by omega) (Nat.zero_le _)
          ⟨⟨_, Heap.get?_push_size _ rfl, rfl, rfl⟩, (hl1.push _)⟩ ?hS0 ?hR
        case hS0 =>
          have hget : ((s.heap.push { cls := .type "set", dict := none, data := .set #[] 0 (.fresh 0 0 (!w.params.followText "set-order")) }).push { cls := .type "list_iterator", data := .fields #[.ref l, .int 0 0] }).get? s.heap.objs.size
              = some { cls := .type "set", dict := none, data := .set #[] 0 (.fresh 0 0 (!w.params.followText "set-order")) } := Heap.get?_push_of_some _ hS
          exact setK_at0 hget
        case hR =>
          intro s' hm hS'
          obtain ⟨h', g2, d', tk', os'⟩ := s'
          have eg : g2 = s.gens := hm.gens
          have ed : d' = s.drawn := hm.drawn
          have eo : os' = s.os := hm.os
          subst eg; subst ed; subst eo
          show wpAny _ _ _ _ _ _
          refine wpAny_pure ?_
          show wpAny _ _ (ret Value.none) _ _ _
          refine wpAny_pure ⟨rfl, h', tk', rfl, hS', fun b o e => ?_⟩
          have hb0 : b < s.heap.objs.size := Heap.lt_size e
          have hb1 : b ≠ s.heap.objs.size := Nat.ne_of_lt hb0
          have hb2 : b ≠ (s.heap.push { cls := .type "set", dict := none, data := .set #[] 0 (.fresh 0 0 (!w.params.followText "set-order")) }).objs.size := by
            rw [Heap.size_push]; exact Nat.ne_of_lt (Nat.lt_succ_of_lt hb0)
          exact hm.heap b o (by simp only [List.mem_cons, List.mem_singleton, List.not_mem_nil, or_false, not_or]; exact ⟨hb1, hb2⟩) (Heap.get?_push_of_some _ (Heap.get?_push_of_some _ e))
      · cases r₂ with
        | error e => exact hr₂
        | ok fl₂ =>
          cases fl₂ with
          | ret r =>
            obtain ⟨rfl, h', tk, rfl, hS', hk'⟩ := hr₂
            repeat (any_goals (first | assumption | wp_step))
            exact h _ _ hS' hk'
          | _ => exact hr₂.elim
    | _ => exact hr.elim
/-- len of such a set -/
theorem len_setK {a : Addr} {l : List Key} {Q : Value → Shared → Prop} (R : SetKR P w s.heap a l) (h : ∀ tk, Q (.int (l.length : Nat) tk) { s with toks := s.toks + 1 + 1 }) : wpAny (model P w) A (call (.builtin "len") [.ref a]) Q E s := by
  obtain ⟨o, es, ep, t, ho, hex, hd, g, pm, nd, hb, hf, _⟩ := R
  have hn : es.size = l.length := by rw [← pm.length_eq, List.length_map, Array.length_toList]
  refine call_len_set ho hex hd hf (by unfold scanBound at hb; omega) ?_
  rw [hn]
  exact h _
theorem valK {P : Program} {w : World} {e : Int × Value} (g : GoodK P w e) : RelV (kV (keyK e)) e.2 := by
  obtain ⟨k, h1, _⟩ := g
  have : keyK e = k := keyK_of h1
  rw [this]; exact h1
end
section
variable {P : Program} {w : World} {A : Around} {E : Value → Shared → Prop} {s : Shared}
/-- sorted of such a set: of texts alone, of ints alone -/
theorem sorted_setK {a : Addr} {l : List Key} {xs : List V} {Q : Value → Shared → Prop} (R : SetKR P w s.heap a l) (hh : A.handled = none) (hl : l.length < 60)
    (hx : (∃ ys : List Str, l = ys.map Sum.inr ∧ xs = (isort leS ys).map V.str) ∨ ∃ ns : List Int, l = ns.map Sum.inl ∧ xs = (isort leI ns).map V.int)
    (hQ : ∀ s' p (out : Array Value) (c : Nat), (∀ b o, s.heap.get? b = some o → s'.heap.get? b = some o) → s'.gens = s.gens → s'.os = s.os → s.heap.objs.size ≤ p →
      s'.heap.get? p = some (seqObj "list" out c) → Vals xs out.toList → Q (.ref p) s') : wpAny (model P w) A (call (.builtin "sorted") [.ref a]) Q E s := by
  obtain ⟨o, es, ep, t, ho, hex, hd, g, pm, nd, hb, hf, hr, hled⟩ := R
  refine Calls.call_function_entry kind_sorted plain_sorted entry_sorted (args_sorted1 _) ?_
  unfold Builtin.«sorted»
  refine wpAny_bind (m := checkCount "sorted" 1 1 _) (wpAny_pure ?_)
  refine wpAny_bind (collect_set (A := A.in1) hh ⟨o, ho, hex.1, hd⟩ hf hb hr hled fun s1 vs k1 hz g1 o1 pv => ?_)
  have hvl : vs.length = l.length := by rw [pv.length_eq, List.length_map, ← pm.length_eq, List.length_map]
  have hsl : vs.length ≤ sizeLine := by rw [hvl, sizeLine_eq]; omega
  refine wpAny_bind (wpAny_newList ?_ hsl)
  have hoL : (s1.heap.push (seqObj "list" vs.toArray 0)).get? s1.heap.objs.size = some (seqObj "list" vs.toArray 0) := Heap.get?_push_size _ rfl
  have fin : ∀ out : Array Value, Vals xs out.toList → Q (.ref s1.heap.objs.size) { s1 with heap := sortedHeap (s1.heap.push (seqObj "list" vs.toArray 0)) s1.heap.objs.size vs out } := fun out r => by
    obtain ⟨c, hc⟩ := sortedHeap_at (vs := vs) (out := out) hoL
    refine hQ _ s1.heap.objs.size out c (fun b u e => ?_) g1 o1 hz hc r
    have q := k1 b u e
    have hlt := Heap.lt_size q
    show (sortedHeap (s1.heap.push (seqObj "list" vs.toArray 0)) s1.heap.objs.size vs out).get? b = some u
    rw [sortedHeap_old (Nat.ne_of_lt hlt) (by rw [size_push']; exact Nat.lt_succ_of_lt hlt)]
    exact Heap.get?_push_of_some _ q
  -- every item is one of the set's
  have hmem : ∀ v ∈ vs, ∃ e ∈ es.toList, e.2 = v ∧ RelV (kV (keyK e)) v := fun v hv => by
    obtain ⟨e, he, q⟩ := List.mem_map.mp (pv.mem_iff.mp hv)
    exact ⟨e, he, q, by rw [← q]; exact valK (g e he)⟩
  rcases hx with ⟨ys, rfl, rfl⟩ | ⟨ns, rfl, rfl⟩
  · have isS : ∀ v ∈ vs, ∃ x tk, v = Value.str x tk := fun v hv => by
      obtain ⟨e, he, q, r⟩ := hmem v hv
      have hk : keyK e ∈ ys.map Sum.inr := pm.mem_iff.mp (List.mem_map_of_mem he)
      obtain ⟨y, _, ey⟩ := List.mem_map.mp hk
      rw [← ey] at r
      obtain ⟨tk, z⟩ := r
      exact ⟨y, tk, z⟩
    have hS := strsAre_map vs isS
    have pn : (vs.map strOf).Perm ys := by
      have h1 : (vs.map fun v => (Sum.inr (strOf v) : Key)).Perm (ys.map Sum.inr) := by
        refine (pv.map fun v => (Sum.inr (strOf v) : Key)).trans ?_
        rw [List.map_map]
        refine (List.Perm.of_eq (List.map_congr_left fun e he => ?_)).trans pm
        obtain ⟨x, tk, ex⟩ := isS e.2 (pv.mem_iff.mpr (List.mem_map_of_mem he))
        show (Sum.inr (strOf e.2) : Key) = keyK e
        unfold keyK
        rw [ex]; rfl
      have h2 := h1.map fun k : Key => match k with | .inr x => x | .inl _ => Str.empty
      simpa [List.map_map, Function.comp_def] using h2
    refine wpAny_bind (wpAny_holding (wpAny_call_entry slot_list_sort ⟨_, hoL, rfl⟩ entry_list_sort (list_sort_treeKAny strKind_oneLt hoL hS.keysOf (fun v₁ v₂ rest e => keyKind_strs (by rw [← e]; exact hS)) hsl fun st' hp hs => ⟨_, rfl, ?_⟩) (args_list_sort _)))
    obtain ⟨ss', h1, h2, h3⟩ := sorted_out_str hS hp hs
    have e := srt_eq ordS (h2.trans pn) (sortedS_pw ss' h3)
    refine wpAny_pure ⟨_, rfl, fin _ ?_⟩
    rw [← e]
    exact vals_of_strs h1
  · have isI : ∀ v ∈ vs, ∃ x tk, v = Value.int x tk := fun v hv => by
      obtain ⟨e, he, q, r⟩ := hmem v hv
      have hk : keyK e ∈ ns.map Sum.inl := pm.mem_iff.mp (List.mem_map_of_mem he)
      obtain ⟨y, _, ey⟩ := List.mem_map.mp hk
      rw [← ey] at r
      obtain ⟨tk, z⟩ := r
      exact ⟨y, tk, z⟩
    have hI : IntsAre vs (vs.map Builtin.Re.reRawOf) := ints_of vs isI
    have pn : (vs.map Builtin.Re.reRawOf).Perm ns := by
      have h1 : (vs.map fun v => (Sum.inl (Builtin.Re.reRawOf v) : Key)).Perm (ns.map Sum.inl) := by
        refine (pv.map fun v => (Sum.inl (Builtin.Re.reRawOf v) : Key)).trans ?_
        rw [List.map_map]
        refine (List.Perm.of_eq (List.map_congr_left fun e he => ?_)).trans pm
        obtain ⟨x, tk, ex⟩ := isI e.2 (pv.mem_iff.mpr (List.mem_map_of_mem he))
        show (Sum.inl (Builtin.Re.reRawOf e.2) : Key) = keyK e
        unfold keyK
        rw [ex]; rfl
      have h2 := h1.map fun k : Key => match k with | .inl x => x | .inr _ => 0
      simpa [List.map_map, Function.comp_def] using h2
    refine wpAny_bind (wpAny_holding (wpAny_call_entry slot_list_sort ⟨_, hoL, rfl⟩ entry_list_sort (list_sort_tree hoL hI (by rw [hvl]; omega) fun out ns' a1 a2 a3 => ⟨_, rfl, ?_⟩) (args_list_sort _)))
    have e := srt_eq ordI (a2.trans pn) (a3.imp fun h => by unfold leI; exact decide_eq_true h)
    refine wpAny_pure ⟨_, rfl, fin _ ?_⟩
    rw [← e]
    exact vals_of_ints a1
end
end DL
end
section
set_option Elab.async false
set_option linter.all false
set_option maxRecDepth 100000
set_option maxHeartbeats 1000000
namespace DL
open PySem PySem.Spec PyProof.Rows L2 PpSet
/-! ### sorted({..}), len({..}), len(set(list)) -/
/-- all of them texts, all of them ints -/
def keyStrs? : List Key → Option (List Str)
  | [] => some []
  | .inr s :: r => (keyStrs? r).map (s :: ·)
  | .inl _ :: _ => none
def keyInts? : List Key → Option (List Int)
  | [] => some []
  | .inl s :: r => (keyInts? r).map (s :: ·)
  | .inr _ :: _ => none
theorem keyStrs_eq : ∀ {l : List Key} {ys : List Str}, keyStrs? l = some ys → l = ys.map Sum.inr
  | [], _, h => by cases h; rfl
  | .inr s :: r, ys, h => by
    obtain ⟨zs, h1, h2⟩ := Option.map_eq_some_iff.mp (show (keyStrs? r).map (s :: ·) = some ys from h)
    subst h2
    rw [keyStrs_eq h1]; rfl
  | .inl _ :: _, _, h => by cases h
theorem keyInts_eq : ∀ {l : List Key} {ys : List Int}, keyInts? l = some ys → l = ys.map Sum.inl
  | [], _, h => by cases h; rfl
  | .inl s :: r, ys, h => by
    obtain ⟨zs, h1, h2⟩ := Option.map_eq_some_iff.mp (show (keyInts? r).map (s :: ·) = some ys from h)
    subst h2
    rw [keyInts_eq h1]; rfl
  | .inr _ :: _, _, h => by cases h
def sortKeys (l : List Key) : Option (List D) := if l.length < 60 then (match keyStrs? l with
  | some ys => some ((isort leS ys).map .str)
  | none => (keyInts? l).map fun ns => (isort leI ns).map .int) else none
def rSortK (P : Program) (w : World) : List V → Hp → VK → Prop := fun vs H Q => ∃ (a : Addr) (l : List Key) (xs : List V), vs = [.ref a] ∧ H a = some (SKO P w a l) ∧ l.length < 60 ∧
  ((∃ ys : List Str, l = ys.map Sum.inr ∧ xs = (isort leS ys).map V.str) ∨ ∃ ns : List Int, l = ns.map Sum.inl ∧ xs = (isort leI ns).map V.int) ∧ ∀ p, H p = none → Q (.ref p) (upd H p (.lst xs))
section
variable {X : Cx} {c : Cfg} {W : WX}
theorem cr_sortK (hc : X.calm = true) : CallR X (.builtin "sorted") (rSortK X.prog X.w) := by
  intro pins s σ H vs us Q I r h
  obtain ⟨a, l, xs, rfl, ha, h60, hx, q⟩ := h
  have R := sko_get I ha
  rw [Vals.ref1 r]
  refine sorted_setK R (I.ok.hd hc) h60 hx fun s' p out cc k g o hp hg hv => ?_
  have hxl : xs.length ≤ sizeLine := by
    rcases hx with ⟨ys, e1, e2⟩ | ⟨ns, e1, e2⟩
    · rw [e2, List.length_map, (isort_perm ys).length_eq]
      rw [e1, List.length_map] at h60
      rw [sizeLine_eq]; omega
    · rw [e2, List.length_map, (isort_perm ns).length_eq]
      rw [e1, List.length_map] at h60
      rw [sizeLine_eq]; omega
  have hn : H p = none := I.hok.fresh hp
  have J : Inv X pins σ (upd H p (.lst xs)) { s with heap := s'.heap, gens := s'.gens, drawn := s'.drawn, toks := s'.toks } :=
    I.call (ch := []) (Un.laid k hp hn) (I.hok.laid k hp ⟨hxl, out.toList, cc, hv, hg⟩) (by rw [g]; exact I.bare) (fun _ z => nomatch z)
  have e : s' = { s with heap := s'.heap, gens := s'.gens, drawn := s'.drawn, toks := s'.toks } := by
    cases s'
    cases s
    cases o
    rfl
  rw [e]
  exact ⟨.ref p, _, J, rfl, q p hn⟩
theorem cr_lenK : CallR X (.builtin "len") (rLenK X.prog X.w) := by
  intro pins s σ H vs us Q I r h
  obtain ⟨a, l, rfl, ha, q⟩ := h
  rw [Vals.ref1 r]
  exact len_setK (sko_get I ha) fun tk => ⟨.int (l.length : Nat), H, I.tok _, ⟨_, rfl⟩, q⟩
/-! the block of a set comprehension -/
def loopK (vs : List Nat) (ga : D → M Unit) (tt : M Bool) (ge : M D) : List D → List Key → M (List Key)
  | [], acc => rt acc
  | d :: r, acc => bd (turnLc vs ga tt ge d) fun o => match o with
    | none => loopK vs ga tt ge r acc
    | some e => (match keyD e with
      | some k => if acc.length + 1 < scanBound then loopK vs ga tt ge r (addK k acc) else stuck
      | none => stuck)
def mSk (gi : M (List D)) (vs : List Nat) (ga : D → M Unit) (tt : M Bool) (ge : M D) : M (List Key) := bd gi fun ds => sole (loopK vs ga tt ge ds [])
/-- a new set that stands at an unowned place -/
def KK (c : Cfg) (X : Cx) (A : Zs) (σ : L2.St) (Z : Zs) (H F : Hp) (Q : VK) (l : List Key) (ρ' : Env) : Prop := ∀ D H' F' Z', At c A Z' H' F' σ ρ' → H' D = some (SKO X.prog X.w D l) → Step Z H F Z' H' F' → Q (.ref D) H'
def tK (X : Cx) (c : Cfg) (W : WX) (g : M (List Key)) : TE := fun σ H Q => ∃ A Z F ρ, At c A Z H F σ ρ ∧ Post c A W σ Z H F (g ρ) (KK c X A σ Z H F Q)
theorem k_sk {elt tg iter : Expr} {ifs : List Expr} {scope : Scope} {own : List (Str × Nat)} {pos : Pos} {gi : M (List D)} {ga : D → M Unit} {tt : M Bool} {ge : M D} (hc : X.calm = true) (hN : X.N.Nodup) (hi : PI X tg iter (tI c W gi)) (ok : BlkOk X.N X.env.scope scope own)
    (hg : ∀ (s : Shared) (H : Hp) (C : Addr) (cl : List (Str × Addr)) (fp : List Addr), PG (X.blk s H scope (compEnvC scope cl C X.env) fp) tg (tGw c (own.map (·.2)) ga))
    (ht : ∀ (s : Shared) (H : Hp) (C : Addr) (cl : List (Str × Addr)) (fp : List Addr), PTs (X.blk s H scope (compEnvC scope cl C X.env) fp) ifs (tT c W0 tt))
    (he : ∀ (s : Shared) (H : Hp) (C : Addr) (cl : List (Str × Addr)) (fp : List Addr), PE (X.blk s H scope (compEnvC scope cl C X.env) fp) elt (tF c W0 ge))
    (hs : ∀ x, foldedSetIterable iter X.env x = pure x := by intro _; rfl) :
    PE X (.SetComp elt [⟨tg, iter, ifs, 0⟩] scope pos) (tK X c W (mSk gi (own.map (·.2)) ga tt ge)) := by
  refine PEi (pe_sk hc hN hi ok hg ht he hs) fun σ H Q ⟨A, Z, F, ρ, at_, p⟩ => ⟨A, Z, F, ρ, at_, p.bind.imp fun ds ρ1 q J H1 F1 Z1 a1 s1 wk => ?_⟩
  generalize own.map (·.2) = vs at q
  have q' : Post c A W σ Z H F (bd (sole (loopK vs ga tt ge ds [])) rt ρ1) (KK c X A σ Z H F Q) := by
    unfold bd
    unfold sole at q ⊢
    cases e : loopK vs ga tt ge ds [] ρ1 with
    | ok a ρ2 => simp only [e] at q ⊢; exact q
    | er k fs ρ2 => simp only [e] at q; exact q.elim
    | stuck => simp only [e] at q; exact q.elim
  obtain ⟨l, ρL, q0, qL⟩ := sole_post q'
  intro D hD
  have hD0 : (∃ i, Z i = some D) ∨ H D = none := fresh_foot s1 hD
  have n1 : ∀ i, Z1 i ≠ some D := fun j z => by obtain ⟨o, ho⟩ := a1.there z; rw [hD] at ho; cases ho
  have f1 : F1 D = none := none_of_le a1.sub hD
  refine ⟨fun i m H' => m = ds.length - i ∧ i ≤ ds.length ∧ ∃ F' Z' ρ' acc, At c A Z' H' F' σ ρ' ∧ H' D = some (SKO X.prog X.w D acc) ∧ (∀ i, Z' i ≠ some D) ∧ F' D = none ∧ Step Z H F Z' H' F' ∧ Le F1 F' ∧ loopK vs ga tt ge (ds.drop i) acc ρ' = .ok l ρL,
    ⟨_, rfl, Nat.zero_le _, F1, Z1, ρ1, [], a1.grow (.lay a1.sub hD), upd_same, n1, f1, s1.trans (Step.grow (.lay a1.sub hD) a1.sub), .refl _, q0⟩, ?_⟩
  rintro i m H2 ⟨rfl, hle, F2, Z2, ρ2, acc, a2, hD2, n2, f2, s2, lf, q2⟩
  obtain ⟨w1, w2⟩ := wk H2 F2 lf a2.sub
  by_cases hi : i < ds.length
  · refine .inr ?_
    rw [List.drop_eq_getElem_cons hi] at q2
    obtain ⟨o, ρt, q3, q4⟩ := bd_inv (show bd (turnLc vs ga tt ge ds[i]) (fun o => match o with
      | none => loopK vs ga tt ge (ds.drop (i + 1)) acc
      | some e => (match keyD e with
        | some k => if acc.length + 1 < scanBound then loopK vs ga tt ge (ds.drop (i + 1)) (addK k acc) else stuck
        | none => stuck)) ρ2 = .ok l ρL from q2)
    obtain ⟨hst, u, ρ4, e1, q3⟩ := turn_inv q3
    obtain ⟨g1, g2⟩ := w1 i ds[i] (List.getElem?_eq_getElem hi)
    refine ⟨g1, fun H' => (i + 1 ≤ ds.length ∧ ∃ F' Z' ρ' acc, At c A Z' H' F' σ ρ' ∧ H' D = some (SKO X.prog X.w D acc) ∧ (∀ i, Z' i ≠ some D) ∧ F' D = none ∧ Step Z H F Z' H' F' ∧ Le F1 F' ∧ loopK vs ga tt ge (ds.drop (i + 1)) acc ρ' = .ok l ρL),
      fun H' ⟨h1, h2⟩ => ⟨ds.length - (i + 1), by omega, rfl, h1, h2⟩, fun x H3 hy => ?_⟩
    obtain ⟨F3, gr, ix⟩ := g2 x H3 hy
    have a3 := a2.grow gr
    have s23 : Step Z2 H2 F2 Z2 H3 F3 := Step.grow gr a2.sub
    obtain ⟨hD3, n3, f3⟩ := keepD s23 hD2 n2 f2
    have s3 := s2.trans s23
    have a3w := a3.wiped hst
    refine ⟨A, Z2, F3, wipeE ρ2 vs, ds[i], a3w, ix, ?_⟩
    rw [e1]
    intro σ4 H4 F4 Z4 a4 s4 hw
    rw [wipe_wipe] at hw
    obtain ⟨hD4, n4, f4⟩ := keepD s4 hD3 n3 f3
    refine ⟨hw, A, Z4, F4, ρ4, a4, ?_⟩
    rcases q3 with ⟨ρ5, e2, eo, h5, h5l, rfl⟩ | ⟨ρ5, y, ρ6, e2, e3, eo, h6, h6l, rfl⟩
    · rw [e2]
      subst eo
      intro H5 F5 Z5 a5 s5
      rw [if_neg Bool.false_ne_true]
      obtain ⟨hD5, n5, f5⟩ := keepD s5 hD4 n4 f4
      exact ⟨by omega, F5, Z5, _, acc, a3.back hst (s4.mono.trans s5.mono) a5 h5 hw h5l, hD5, n5, f5, (s3.trans s4).trans s5, lf.trans (s23.mono.trans (s4.mono.trans s5.mono)), q4⟩
    · rw [e2]
      subst eo
      dsimp only at q4
      intro H5 F5 Z5 a5 s5
      rw [if_pos rfl]
      obtain ⟨hD5, n5, f5⟩ := keepD s5 hD4 n4 f4
      refine ⟨A, Z5, F5, ρ5, a5, ?_⟩
      rw [e3]
      intro v H6 F6 Z6 a6 iy s6
      obtain ⟨hD6, n6, f6⟩ := keepD s6 hD5 n5 f5
      have s06 := ((s3.trans s4).trans s5).trans s6
      have ab := a3.back hst (s4.mono.trans (s5.mono.trans s6.mono)) a6 h6 hw h6l
      cases ek : keyD y with
      | none => rw [ek] at q4; cases q4
      | some k =>
        rw [ek] at q4
        dsimp only at q4
        by_cases hz : acc.length + 1 < scanBound
        · rw [if_pos hz] at q4
          exact ⟨k, acc, key_is ek iy, hD6, hz, by omega, F6, Z6, _, _, ab.updD n6 f6, upd_same, n6, f6, s06.updD hD0, lf.trans (s23.mono.trans (s4.mono.trans (s5.mono.trans s6.mono))), q4⟩
        · rw [if_neg hz] at q4; cases q4
  · have e : i = ds.length := by omega
    subst e
    rw [List.drop_length] at q2
    obtain ⟨rfl, rfl⟩ : acc = l ∧ ρ2 = ρL := by cases q2; exact ⟨rfl, rfl⟩
    exact .inl ⟨w2, (show KK c X A σ Z H F Q acc ρ2 from qL) D H2 F2 Z2 a2 hD2 s2⟩
variable {a : Expr} {gk : M (List Key)} {pos p p2 p3 : Pos}
theorem e_sortK (hc : X.calm = true) (hg : Gl X "sorted") (hm : X.mg "sorted" = none) (ha : PE X a (tK X c W gk)) (he : starEach (a :: []) X.env = (false, eval a X.env) :: starEach [] X.env := by rfl) :
    PE X (.Call (.Name "sorted" p) [a] [] pos) (tE c W (bd gk fun l => bd (opt (sortKeys l)) fun ds => rt (.ow ds))) :=
  PEi (pe_callB (cr_sortK hc) hg hm boot_sorted (pa_cons ha pa_nil he) (by decide) (by decide) he) fun σ H Q ⟨A, Z, F, ρ, at_, q⟩ => ⟨A, Z, F, ρ, at_, q.bind.imp fun l ρ1 q Dd H1 F1 Z1 a1 hD s1 => by
    obtain ⟨ds, e1, k⟩ := (Post.bind q).opt
    unfold sortKeys at e1
    by_cases h60 : l.length < 60
    · rw [if_pos h60] at e1
      cases ek : keyStrs? l with
      | some ys =>
        rw [ek] at e1; cases e1
        exact ⟨Dd, l, (isort leS ys).map V.str, rfl, hD, h60, .inl ⟨ys, keyStrs_eq ek, rfl⟩, fun r hr => KE.new (show KE c A σ Z H F Q (.ow _) ρ1 from k) a1 s1 (strs_is _) hr⟩
      | none =>
        rw [ek] at e1
        obtain ⟨ns, e2, e3⟩ := Option.map_eq_some_iff.mp e1
        subst e3
        have iv : ∀ ns : List Int, IsL c F1 (ns.map V.int) (ns.map DL.D.int) := fun ns => by
          induction ns with
          | nil => exact .nil
          | cons n r ih => exact .cons (.int n) ih
        exact ⟨Dd, l, (isort leI ns).map V.int, rfl, hD, h60, .inr ⟨ns, keyInts_eq e2, rfl⟩, fun r hr => KE.new (show KE c A σ Z H F Q (.ow _) ρ1 from k) a1 s1 (iv _) hr⟩
    · rw [if_neg h60] at e1; cases e1⟩
theorem d_lenK (hg : Gl X "len") (hm : X.mg "len" = none) (ha : PE X a (tK X c W gk)) (he : starEach (a :: []) X.env = (false, eval a X.env) :: starEach [] X.env := by rfl) :
    PE X (.Call (.Name "len" p) [a] [] pos) (tF c W (bd gk fun l => rt (.int (l.length : Nat)))) :=
  PEi (pe_callB cr_lenK hg hm boot_len (pa_cons ha pa_nil he) (by decide) (by decide) he) fun σ H Q ⟨A, Z, F, ρ, at_, q⟩ => ⟨A, Z, F, ρ, at_, q.bind.imp fun l ρ1 q D H1 F1 Z1 a1 hD s1 =>
    ⟨D, l, rfl, hD, (show KF c A σ Z H F Q (.int (l.length : Nat)) ρ1 from q) _ H1 F1 Z1 a1 (.int _) s1⟩⟩
/-! set(list) -/
def keysD : List D → Option (List Key)
  | [] => some []
  | d :: r => (keyD d).bind fun k => (keysD r).map (k :: ·)
theorem keys_is {F : Hp} : ∀ {ds : List D} {ks : List Key} {vs : List V}, keysD ds = some ks → IsL c F vs ds → vs = ks.map kV
  | [], ks, vs, h, i => by cases h; cases i; rfl
  | d :: r, ks, vs, h, i => by
    obtain ⟨k, h1, h2⟩ := Option.bind_eq_some_iff.mp (show (keyD d).bind (fun k => (keysD r).map (k :: ·)) = some ks from h)
    obtain ⟨ms, h3, h4⟩ := Option.map_eq_some_iff.mp h2
    subst h4
    cases i with
    | cons a t => rw [key_is h1 a, keys_is h3 t]; rfl
def rSetL (P : Program) (w : World) : List V → Hp → VK → Prop := fun vs H Q => ∃ (a : Addr) (ks : List Key), vs = [.ref a] ∧ H a = some (.lst (ks.map kV)) ∧ ks.length + 1 < scanBound ∧ ∀ p, H p = none → Q (.ref p) (upd H p (SKO P w p (dedK ks)))
theorem cr_setL (hc : X.calm = true) : CallR X (.type "set") (rSetL X.prog X.w) := by
  intro pins s σ H vs us Q I r h
  obtain ⟨a, ks, rfl, ha, hb, q⟩ := h
  rw [Vals.ref1 r]
  obtain ⟨hz, its, n, rv, ho⟩ := I.hok a _ ha
  have hl : s.heap.IsList a its.toArray := ⟨_, ho, rfl, n, rfl⟩
  refine call_set_listK ks (I.ok.hd hc) hl (by simpa using rv) hb fun h' tk R k => ?_
  have hn : H s.heap.objs.size = none := I.hok.fresh (Nat.le_refl _)
  exact ⟨.ref _, _, I.laid (a := s.heap.objs.size) (o := SKO X.prog X.w s.heap.objs.size (dedK ks)) (t' := tk) k (Nat.le_refl _) (sko_ok R), rfl, q _ hn⟩
def mSetL (ga : M D) : M (List Key) := bd ga fun d => bd (opt (items d)) fun l => bd (opt (keysD l)) fun ks => if ks.length + 1 < scanBound then rt (dedK ks) else stuck
variable {ga : M D}
theorem k_set (hc : X.calm = true) (hg : Gl X "set") (hm : X.mg "set" = none) (ha : PE X a (tF c W ga)) (he : starEach (a :: []) X.env = (false, eval a X.env) :: starEach [] X.env := by rfl) : PE X (.Call (.Name "set" p) [a] [] pos) (tK X c W (mSetL ga)) :=
  PEi (pe_callTy (cr_setL hc) hg hm boot_set (pa_cons ha pa_nil he) (by decide) (by decide) he) fun σ H Q ⟨A, Z, F, ρ, at_, q⟩ => ⟨A, Z, F, ρ, at_, q.bind.imp fun d ρ1 q v H1 F1 Z1 a1 i1 s1 => by
    obtain ⟨l, e1, q⟩ := (Post.bind q).opt
    obtain ⟨ks, e2, q3⟩ := (Post.bind q).opt
    cases d with
    | lst l' =>
      cases e1
      cases i1 with
      | lst hp il =>
        have ev := keys_is e2 il
        subst ev
        by_cases hb : ks.length + 1 < scanBound
        · rw [if_pos hb] at q3
          exact ⟨_, ks, rfl, a1.sub _ _ hp, hb, fun r hr => (show KK c X A σ Z H F Q (dedK ks) ρ1 from q3) r _ F1 Z1 (a1.grow (.lay a1.sub hr)) upd_same (s1.trans (Step.grow (.lay a1.sub hr) a1.sub))⟩
        · rw [if_neg hb] at q3; exact (show False from q3).elim
    | _ => cases e1⟩
end
end DL
end
section
set_option Elab.async false
set_option linter.all false
set_option maxRecDepth 100000
set_option maxHeartbeats 1000000
namespace DL
open PySem PySem.Spec PyProof.Rows L2
/-! ### == by an own __eq__, where it tells True -/
/-- the def behind ==, for objects of class j -/
structure EqP (P : Program) (w : World) (K : PySem.W.Frag) (mg : Str → Option Value) (base : Heap) (c : Cfg) (k j : Nat) (m : List D → Out) : Prop where
  ex : ∃ f fd ps, FnOk P w K mg base (L2.CX P w) k f fd ps (spP c 2 m) ∧ PySem.W.findIn K (.ref (c.cls j)) "__eq__" = some (some (.ref f)) ∧ PySem.W.isFn K (.ref f) = true ∧ Binds K fd ps []
def eqOb (j : Nat) (m : List D → Out) : D → D → Bool := fun x y => match x, y with
  | .obj a _, .obj b _ => if a = j ∧ b = j then (match m [x, y] with
    | .ok (.bl true) => true
    | _ => false) else false
  | _, _ => false
def eqObs (j : Nat) (m : List D → Out) : List D → List D → Bool
  | [], [] => true
  | x :: xs, y :: ys => eqOb j m x y && eqObs j m xs ys
  | _, _ => false
def rEqO (j : Nat) (m : List D → Out) : D → D → Option D := fun x y => if eqOb j m x y = true then some (.bl true) else none
def rEqOs (j : Nat) (m : List D → Out) : D → D → Option D := fun x y => match x, y with
  | .lst l, .lst r => if eqObs j m l r = true then some (.bl true) else none
  | _, _ => none
section
variable {X : Cx} {c : Cfg} {k j : Nat} {m : List D → Out}
theorem eqOb_inv {x y : D} (h : eqOb j m x y = true) : ∃ fs gs, x = .obj j fs ∧ y = .obj j gs ∧ m [x, y] = .ok (.bl true) := by
  unfold eqOb at h
  split at h
  · rename_i a fs b gs
    by_cases hc : a = j ∧ b = j
    · rw [if_pos hc] at h
      obtain ⟨rfl, rfl⟩ := hc
      split at h
      · rename_i e; exact ⟨fs, gs, rfl, rfl, e⟩
      · cases h
    · rw [if_neg hc] at h; cases h
  · cases h
/-- what is known of two such objects -/
def ROb (c : Cfg) (m : List D → Out) (a b : Addr) (H : Hp) : Prop := ∃ F x y, Le F H ∧ Is c F (.ref a) x ∧ Is c F (.ref b) y ∧ m [x, y] = .ok (.bl true)
theorem rob_mon (a b : Addr) (H H' : Hp) (e : Ext H H') (h : ROb c m a b H) : ROb c m a b H' := by
  obtain ⟨F, x, y, le, i1, i2, q⟩ := h
  exact ⟨F, x, y, le.trans e, i1, i2, q⟩
theorem passes0 : Passes (L2.CX X.prog X.w) X (fun _ _ _ => False) := fun pins σ H s e s' I h => by
  obtain ⟨_, _, _, _, _, _, _, _, _, _, _, _, z⟩ := h
  exact z.elim
theorem rcG_ob (E : EqP X.prog X.w X.K X.mg X.base c k j m) : RcG X k (DIns (c.cls j) (ROb c m)) := by
  obtain ⟨f, fd, ps, F, hs, hf, hb⟩ := E.ex
  refine rcG_ins (F.imp fun vs H Q E0 ⟨a, b, ev, ⟨F0, x, y, le, i1, i2, q⟩, k⟩ => ?_) hs hf hb passes0
  subst ev
  refine ⟨rfl, F0, [x, y], le, .cons i1 (.one i2), ?_⟩
  rw [q]
  exact fun v H' F' g i => by
    cases i
    exact k H' g.le
theorem eqG_ob (E : EqP X.prog X.w X.K X.mg X.base c k j m) : EqG X k (DIns (c.cls j) (ROb c m)) := (rcG_ob E).eqG fun _ _ _ d => let ⟨a, b, _, _, _, _, hx, hy, _⟩ := d; ⟨a, b, hx, hy⟩
theorem ob_at {F H : Hp} {x y : V} {dx dy : D} (le : Le F H) (ix : Is c F x dx) (iy : Is c F y dy) (h : eqOb j m dx dy = true) : DIns (c.cls j) (ROb c m) x y H := by
  obtain ⟨fs, gs, rfl, rfl, q⟩ := eqOb_inv h
  cases id ix with
  | obj h1 l1 =>
    cases id iy with
    | obj h2 l2 => exact ⟨_, _, _, _, _, _, rfl, rfl, le _ _ h1, le _ _ h2, F, _, _, le, ix, iy, q⟩
theorem obs_at {F H : Hp} (le : Le F H) : ∀ {xs ys : List V} {ds es : List D}, IsL c F xs ds → IsL c F ys es → eqObs j m ds es = true → Prs (DIns (c.cls j) (ROb c m)) xs ys H
  | _, _, _, _, .nil, .nil, _ => Prs.nil
  | _, _, _, _, .nil, .cons _ _, h => by cases h
  | _, _, _, _, .cons _ _, .nil, h => by cases h
  | _, _, _, _, .cons ix tx, .cons iy ty, h => by
    obtain ⟨h1, h2⟩ := Bool.and_eq_true_iff.mp (show (eqOb j m _ _ && eqObs j m _ _) = true from h)
    exact Prs.cons (ob_at le ix iy h1) (obs_at le tx ty h2)
theorem has_is {F H : Hp} {x : V} {fs : List (Str × D)} (h : Has c F H x (.obj j fs)) : Is c F x (.obj j fs) := h
theorem o_eqO (E : EqP X.prog X.w X.K X.mg X.base c k j m) (hr : Room k X.A) : O2 c X (compareOp .Eq) (rEqO j m) := by
  intro pins s σ H F x y dx dy v u z Q I le rx ry hx hy e q
  unfold rEqO at e
  by_cases h : eqOb j m dx dy = true
  · rw [if_pos h] at e; cases e
    obtain ⟨fs, gs, rfl, rfl, _⟩ := eqOb_inv h
    exact op_eqG (rcG_ob E) hr pins s σ H x y v u Q I rx ry ⟨ob_at le hx hy h, fun H' ex => q _ H' F (.bl _) ⟨fun a o e => ⟨ex a o e, rfl⟩, le.trans ex⟩⟩
  · rw [if_neg h] at e; cases e
theorem o_eqOs (E : EqP X.prog X.w X.K X.mg X.base c k j m) (hr : Room (k + 1) X.A) : O2 c X (compareOp .Eq) (rEqOs j m) := by
  intro pins s σ H F x y dx dy v u z Q I le rx ry hx hy e q
  unfold rEqOs at e
  split at e
  · rename_i l r
    by_cases h : eqObs j m l r = true
    · rw [if_pos h] at e; cases e
      obtain ⟨p, xs, rfl, hp, ix⟩ := hx
      obtain ⟨p2, ys, rfl, hp2, iy⟩ := hy
      exact op_eqG (rcG_list (mon_ins rob_mon) (eqG_ob E)) hr pins s σ H _ _ v u Q I rx ry ⟨⟨p, p2, xs, ys, rfl, rfl, hp, hp2, obs_at le ix iy h⟩, fun H' ex => q _ H' F (.bl _) ⟨fun a o e => ⟨ex a o e, rfl⟩, le.trans ex⟩⟩
    · rw [if_neg h] at e; cases e
  · cases e
end
/-! ### a static method of a class: C.m(..) -/
structure StP (P : Program) (w : World) (K : PySem.W.Frag) (mg : Str → Option Value) (base : Heap) (c : Cfg) (k j : Nat) (x m : Str) (n : Nat) (f : List D → Out) : Prop where
  ex : ∃ p g fd ps mc rest, FnOk P w K mg base (L2.CX P w) k g fd ps (spP c n f) ∧ mg x = some (.ref (c.cls j)) ∧ ClX.CRead K (c.cls j) mc ∧ PySem.W.findCls K (.ref (c.cls j)) mc m = some (.get (.builtin "staticmethod.__get__") (.ref p) .none (.ref (c.cls j))) ∧
    PySem.W.recIn K p "staticmethod" = some (.ref g :: rest) ∧ PySem.W.keepIn K (.ref g) = true ∧ Binds K fd ps []
section
variable {X : Cx} {c : Cfg} {W : WX} {k j n : Nat} {e : Expr} {es : List Expr} {x m : Str} {gs : M (List D)} {np apos pos : Pos} {f : List D → Out} {pl : Sem Bool}
theorem d_static (S : StP X.prog X.w X.K X.mg X.base c k j x m n f) (hr : Room k X.A) (tk : Takes X W) (hg : Gl X x) (ha : PA X (e :: es) (tFs c W gs)) (hdb : (x == ("__debug__" : Str)) = false := by decide)
    (hst : starEach (e :: es) X.env = (false, eval e X.env) :: starEach es X.env := by rfl) (hpl : (backTo pos (starEach es X.env)).any (·.1) = false := by rfl)
    (ht : eval (.Call (.Attribute (.Name x np) m apos) (e :: es) [] pos) X.env = (do
      let ov ← eval (.Name x np) X.env
      standAt apos.atName
      let (f, first) ← holding [ov] (getMethod ov m pl)
      callWith pos f first (backTo pos (starEach (e :: es) X.env)) (backToKw pos (keywordEach [] X.env))) := by rfl) :
    PE X (.Call (.Attribute (.Name x np) m apos) (e :: es) [] pos) (tF c W (mCall f (bd gs fun ds => if ds.length = n then rt ds else stuck))) := by
  obtain ⟨p, g, fd, ps, mc, rest, F, hm, cr, fc, rc, kp, hb⟩ := S.ex
  refine ⟨fun pins s σ H Q I ⟨A, Z, F0, ρ, at_, q⟩ => ?_⟩
  refine PySem.W.methodCall_KW (pl := pl) (ld_glob I hg hm ?_ hdb) ht
  refine PySem.W.method_cls I.kIn cr.ga (PySem.W.cls_bind I.kIn cr.rd fc (wpAny_call (PySem.W.sm_get (s := { s with toks := s.toks + 1 }) I.kIn rc ?_)))
  refine PySem.W.handed_on rfl ?_
  have I1 : Inv X pins σ H { s with toks := s.toks + 1 } := I.tok _
  refine PySem.W.callWith_K (first := []) (h₀ := X.base) I.ok.mod.kin kp (thn (ha.run pos pins _ σ H (fun vs H1 => spP c n f vs H1 Q (WE W σ)) I1 ⟨A, Z, F0, ρ, at_, q.bind.bind.imp fun ds ρ1 q vs H1 F1 Z1 a1 i1 s1 => ?_⟩) fun us s1 ⟨vs, H1, I1, r, q1⟩ => ⟨I1.kIn, run_fnS (E := WE W) F hr hb (passAt tk σ) I1 r q1⟩) hst hpl
  by_cases hz : ds.length = n
  · rw [if_pos hz] at q
    exact callP (by rw [i1.length]; exact hz) q a1 i1 s1
  · rw [if_neg hz] at q
    exact (show False from q).elim
end
/-! ### keyword-only arguments -/
/-- a class whose __init__ takes n positional values and the keywords ks -/
structure MkK (P : Program) (w : World) (K : PySem.W.Frag) (mg : Str → Option Value) (base : Heap) (c : Cfg) (k : Nat) (j : Nat) (x : Str) (n : Nat) (ks : List Str) (m : List D → OutF) : Prop where
  ex : ∃ f fd ps, FnOk P w K mg base (L2.CX P w) k f fd ps (spN c j (n + ks.length) m) ∧ Mk K (c.cls j) f ∧ mg x = some (.ref (c.cls j)) ∧ KBn K fd ps (n + 1) ks (fun us ws => us ++ ws) (fun vs zs => vs ++ zs)
/-- a def with keyword-only parameters -/
structure FnK (P : Program) (w : World) (K : PySem.W.Frag) (mg : Str → Option Value) (base : Heap) (c : Cfg) (k : Nat) (x : Str) (n : Nat) (ks : List Str) (m : List D → Out) : Prop where
  ex : ∃ f fd ps, FnOk P w K mg base (L2.CX P w) k f fd ps (spP c (n + ks.length) m) ∧ mg x = some (.ref f) ∧ PySem.W.keepIn K (.ref f) = true ∧ KBn K fd ps n ks (fun us ws => us ++ ws) (fun vs zs => vs ++ zs)
section
variable {X : Cx} {c : Cfg} {W : WX} {k j n : Nat} {e : Expr} {es : List Expr} {x : Str} {gs gk : M (List D)} {p pos : Pos} {kws : List Keyword} {ks : List Str} {mf : List D → OutF} {m : List D → Out}
theorem PKi {t t' : TA} (h : PK X kws t) (k : ∀ σ H Q, t' σ H Q → t σ H Q) : PK X kws t' := ⟨fun pos pins s σ H Q I q => h.run pos pins s σ H Q I (k σ H Q q)⟩
theorem k_nil : PK X [] (tFs c W mNil) := PKi pk_nil fun σ H Q ⟨A, Z, F, ρ, at_, p⟩ => p [] H F Z at_ .nil .refl
theorem k_cons {nm : Option Str} {kpos : Pos} {g : M D} (ha : PE X e (tF c W g)) (hr : PK X kws (tFs c W gs)) : PK X (⟨nm, e, kpos⟩ :: kws) (tFs c W (mCons g gs)) :=
  PKi (pk_cons ha hr) fun σ H Q ⟨A, Z, F, ρ, at_, p⟩ => ⟨A, Z, F, ρ, at_, p.bind.imp fun d ρ1 q v H1 F1 Z1 a1 i1 s1 =>
    ⟨A, Z1, F1, ρ1, a1, (Post.bind q).from_ s1 fun ds ρ2 k vs H2 F2 Z2 a2 i2 s2 => (show KFs c A σ Z H F Q (d :: ds) ρ2 from k) (v :: vs) H2 F2 Z2 a2 (.cons (i1.mono s2.mono) i2) (s1.trans s2)⟩⟩
def both (n q : Nat) (gs gk : M (List D)) : M (List D) := bd gs fun ds => bd gk fun es => if ds.length = n ∧ es.length = q then rt (ds ++ es) else stuck
theorem both_post {A Z : Zs} {σ : L2.St} {H F : Hp} {ρ : Env} {K : List D → Env → Prop} {α : Type} {K' : α → Env → Prop} {f : List D → M α} {q : Nat} (h : Post c A W σ Z H F (bd (both n q gs gk) f ρ) K') :
    Post c A W σ Z H F (gs ρ) fun ds ρ1 => Post c A W σ Z H F (gk ρ1) fun es ρ2 => ds.length = n ∧ es.length = q ∧ Post c A W σ Z H F (f (ds ++ es) ρ2) K' := by
  unfold both at h
  refine (Post.bind (Post.bind h)).imp fun ds ρ1 h1 => (Post.bind h1).imp fun es ρ2 h2 => ?_
  by_cases hc : ds.length = n ∧ es.length = q
  · rw [if_pos hc] at h2
    exact ⟨hc.1, hc.2, h2⟩
  · rw [if_neg hc] at h2; exact (show False from h2).elim
theorem d_makeK (Mp : MkK X.prog X.w X.K X.mg X.base c k j x n ks mf) (hr : Room (k + 1) X.A) (hg : Gl X x) (tk : Takes X W) (ha : PA X (e :: es) (tFs c W gs)) (hkw : PK X kws (tFs c W gk))
    (hall : (backToKw pos (keywordEach kws X.env)).all (·.1.isSome) = true := by rfl) (hks : (backToKw pos (keywordEach kws X.env)).filterMap (·.1) = ks := by rfl) (hdb : (x == ("__debug__" : Str)) = false := by decide)
    (he : starEach (e :: es) X.env = (false, eval e X.env) :: starEach es X.env := by rfl) (hpl : ((backTo pos (starEach (e :: es) X.env)).any (·.1) || (backToKw pos (keywordEach kws X.env)).any (·.1.isNone)) = false := by rfl) :
    PE X (.Call (.Name x p) (e :: es) kws pos) (tF c W (bd (both n ks.length gs gk) fun ds => liftF j (mf ds))) := by
  obtain ⟨f, fd, ps, F, M, hm, hb⟩ := Mp.ex
  refine ⟨fun pins s σ H Q I ⟨A, Z, F0, ρ, at_, q⟩ => ?_⟩
  refine wpAny_Call_Name_kw (ld_glob I hg hm ?_ hdb)
  refine PySem.W.callWith_KW (h₀ := X.base) I.ok.mod.kin M.kp hall (thn (ha.run pos pins s σ H (fun vs H1 => ∃ F1 Z1 ρ1 ds, At c A Z1 H1 F1 σ ρ1 ∧ IsL c F1 vs ds ∧ Post c A W σ Z1 H1 F1 (gk ρ1) fun es ρ2 => ds.length = n ∧ es.length = ks.length ∧ Post c A W σ Z1 H1 F1 (liftF j (mf (ds ++ es)) ρ2) (KF c A σ Z1 H1 F1 Q)) I
    ⟨A, Z, F0, ρ, at_, (both_post (K := fun _ _ => True) q).imp fun ds ρ1 q vs H1 F1 Z1 a1 i1 s1 => ⟨F1, Z1, ρ1, ds, a1, i1, q.from_ s1 fun es ρ2 ⟨h1, h2, h3⟩ => ⟨h1, h2, h3.from_ s1 fun _ _ k => k.from_ s1⟩⟩⟩) fun us s1 ⟨vs, H1, I1, r, F1, Z1, ρ1, ds, a1, i1, q1⟩ => ?_) hpl he
  refine thn (hkw.run pos pins s1 σ H1 (fun zs H2 => ∃ F2 Z2 ρ2 es, At c A Z2 H2 F2 σ ρ2 ∧ IsL c F2 vs ds ∧ IsL c F2 zs es ∧ ds.length = n ∧ es.length = ks.length ∧ Post c A W σ Z2 H2 F2 (liftF j (mf (ds ++ es)) ρ2) (KF c A σ Z2 H2 F2 Q)) I1
    ⟨A, Z1, F1, ρ1, a1, q1.imp fun es ρ2 ⟨h1, h2, h3⟩ zs H2 F2 Z2 a2 i2 s2 => ⟨F2, Z2, ρ2, es, a2, i1.mono s2.mono, i2, h1, h2, h3.from_ s2 fun _ _ k => k.from_ s2⟩⟩) fun ws s2 ⟨zs, H2, I2, rz, F2, Z2, ρ2, es, a2, i1', i2, h1, h2, q2⟩ => ⟨I2.kIn, ?_⟩
  rw [hks]
  have hq := makeQ (n := n + ks.length) (ds := ds ++ es) (by rw [List.length_append, h1, h2]) q2 a2 (i1'.append i2) .refl
  exact run_makeS (E := WE W) (gV := fun vs zs => vs ++ zs) M F hr hb (passAt tk σ) I2 r rz (by rw [i1'.length, h1]) (by rw [i2.length, h2]) hq
theorem d_callK (Fp : FnK X.prog X.w X.K X.mg X.base c k x n ks m) (hr : Room k X.A) (hg : Gl X x) (tk : Takes X W) (ha : PA X (e :: es) (tFs c W gs)) (hkw : PK X kws (tFs c W gk))
    (hall : (backToKw pos (keywordEach kws X.env)).all (·.1.isSome) = true := by rfl) (hks : (backToKw pos (keywordEach kws X.env)).filterMap (·.1) = ks := by rfl) (hdb : (x == ("__debug__" : Str)) = false := by decide)
    (he : starEach (e :: es) X.env = (false, eval e X.env) :: starEach es X.env := by rfl) (hpl : ((backTo pos (starEach (e :: es) X.env)).any (·.1) || (backToKw pos (keywordEach kws X.env)).any (·.1.isNone)) = false := by rfl) :
    PE X (.Call (.Name x p) (e :: es) kws pos) (tF c W (bd (both n ks.length gs gk) fun ds => lift (m ds))) := by
  obtain ⟨f, fd, ps, F, hm, kp, hb⟩ := Fp.ex
  refine ⟨fun pins s σ H Q I ⟨A, Z, F0, ρ, at_, q⟩ => ?_⟩
  refine wpAny_Call_Name_kw (ld_glob I hg hm ?_ hdb)
  refine PySem.W.callWith_KW (h₀ := X.base) I.ok.mod.kin kp hall (thn (ha.run pos pins s σ H (fun vs H1 => ∃ F1 Z1 ρ1 ds, At c A Z1 H1 F1 σ ρ1 ∧ IsL c F1 vs ds ∧ Post c A W σ Z1 H1 F1 (gk ρ1) fun es ρ2 => ds.length = n ∧ es.length = ks.length ∧ Post c A W σ Z1 H1 F1 (lift (m (ds ++ es)) ρ2) (KF c A σ Z1 H1 F1 Q)) I
    ⟨A, Z, F0, ρ, at_, (both_post (K := fun _ _ => True) q).imp fun ds ρ1 q vs H1 F1 Z1 a1 i1 s1 => ⟨F1, Z1, ρ1, ds, a1, i1, q.from_ s1 fun es ρ2 ⟨h1, h2, h3⟩ => ⟨h1, h2, h3.from_ s1 fun _ _ k => k.from_ s1⟩⟩⟩) fun us s1 ⟨vs, H1, I1, r, F1, Z1, ρ1, ds, a1, i1, q1⟩ => ?_) hpl he
  refine thn (hkw.run pos pins s1 σ H1 (fun zs H2 => ∃ F2 Z2 ρ2 es, At c A Z2 H2 F2 σ ρ2 ∧ IsL c F2 vs ds ∧ IsL c F2 zs es ∧ ds.length = n ∧ es.length = ks.length ∧ Post c A W σ Z2 H2 F2 (lift (m (ds ++ es)) ρ2) (KF c A σ Z2 H2 F2 Q)) I1
    ⟨A, Z1, F1, ρ1, a1, q1.imp fun es ρ2 ⟨h1, h2, h3⟩ zs H2 F2 Z2 a2 i2 s2 => ⟨F2, Z2, ρ2, es, a2, i1.mono s2.mono, i2, h1, h2, h3.from_ s2 fun _ _ k => k.from_ s2⟩⟩) fun ws s2 ⟨zs, H2, I2, rz, F2, Z2, ρ2, es, a2, i1', i2, h1, h2, q2⟩ => ⟨I2.kIn, ?_⟩
  rw [hks]
  have hsp : spP c (n + ks.length) m (vs ++ zs) H2 Q (WE W σ) := callP (by rw [List.length_append, i1'.length, i2.length, h1, h2]) q2 a2 (i1'.append i2) .refl
  have lu : us.length = n := by rw [← r.length, i1'.length, h1]
  have lw : ws.length = ks.length := by rw [← rz.length, i2.length, h2]
  refine wpAny_call (codeAny_mono (F.run X.A X.stack s2 H2 ⟨us, ks.zip ws⟩ (us ++ ws) (vs ++ zs) Q (WE W σ) hr I2.env0 (hb.to s2 us ws I2.kIn lu lw) (hb.rel r rz) hsp) fun rr s' hq => ?_)
  cases rr with
  | error e => exact passAt tk σ pins H2 s2 e s' I2 hq
  | ok fl =>
    cases fl with
    | ret u => exact I2.after hq
    | next => exact False.elim hq
    | brk => exact False.elim hq
    | cont => exact False.elim hq
end
end DL
end
section
set_option Elab.async false
set_option linter.all false
set_option maxRecDepth 100000
set_option maxHeartbeats 1000000
namespace DL
open PySem PySem.Spec PyProof.Rows L2
/-! ### defs that are entered while nothing is being shown (repr asks it) -/
structure FnOkG (P : Program) (w : World) (K : PySem.W.Frag) (mg : Str → Option Value) (base : Heap) (k : Nat) (f : Addr) (fd : FuncData) (ps : List Str) (sp : Sp) : Prop where
  len : ∀ vs H Q E, sp vs H Q E → vs.length = ps.length
  run : ∀ (A : Around) (outer : List PySem.Env) (s : Shared) (H : Hp) (args : Args) (us : List Value) (vs : List V) (Q : VK) (E : XK), Room k A → A.guards = some [] → Env0 P w K mg base A outer s H → BindsTo s fd args (ps.zip us) → Vals vs us → sp vs H Q E →
    codeAny (model P w) A (.call (.ref f) args) (CR (L2.CX P w) outer P w H s Q E) s
section
variable {P : Program} {w : World} {K : PySem.W.Frag} {mg : Str → Option Value} {base : Heap} {x qual : Str} {params : Arguments} {body : List Stmt} {scope : Scope} {f : Addr} {fd : FuncData} {N ps : List Str} {k n j : Nat} {g : M Fl} {c : Cfg}
def BodyG (c : Cfg) (P : Program) (w : World) (K : PySem.W.Frag) (mg : Str → Option Value) (base : Heap) (N : List Str) (qual : Str) (scope : Scope) (f : Addr) (k : Nat) (body : List Stmt) (g : M Fl) : Prop :=
  ∀ (cdv : Value) (A : Around) (outer : List PySem.Env) (s : Shared) (H : Hp) (E : XK), Room k (A.deeper (envOfC qual scope s.heap.objs.size f cdv)) → (A.deeper (envOfC qual scope s.heap.objs.size f cdv)).guards = some [] →
    PSs (cxOf (L2.CX P w) P w K mg base N qual scope f cdv A outer s H E) body (tS c (fun cls d _ H => E cls d H) g)
theorem okG {sp : Sp} {dvs : List V} {kws : List (Str × V)} (Fd : FunD K x qual params body scope dvs kws f fd) (S : FnScope N ps scope) (len : ∀ vs H Q E, sp vs H Q E → vs.length = ps.length) (hb : BodyG c P w K mg base N qual scope f k body g)
    (hsp : ∀ vs H Q E, sp vs H Q E → tS c (fun cls d _ H => E cls d H) g { nx := fun _ H' => Q .non H', rt := Q } (L2.start N vs) H) : FnOkG P w K mg base (k + 1) f fd ps sp := by
  obtain ⟨oc, od, dV, kV, doc, pm, an, cdv, ct, osl, rfl, lk, hcd, _, _⟩ := Fd.ex
  refine ⟨len, fun A outer s H args us vs Q E hr hgd e0 hbd r h => ?_⟩
  have KX : K.In s.heap := e0.mod.kin.keeps fun b o e => (e0.bs b o e).1
  have lim : s.heap.NoLimit := e0.mod.nolimit.keeps fun b o e => (e0.bs b o e).1
  refine codeAny_call_function hr.depth (KX _ _ lk) rfl S.co S.gen rfl (PySem.W.codeRec_of KX hcd) (hbd _ _ _ _ ?_)
  refine wpAny_newFunctionEnv_cells S.kind (fun ⟨m, v⟩ hy => ?_) fun env he s1 x => ?_
  · rcases S.par m (List.of_mem_zip hy).1 with q | q
    · exact .inl q
    · exact .inr ⟨q, PySem.W.cellsFrom_some _ _ _ (.inl q)⟩
  · subst he
    refine ⟨lim.keeps x.toInCall.keep, codeAny_func ?_⟩
    have I : Inv (cxOf (L2.CX P w) P w K mg base N qual scope f cdv A outer s H E) [] (L2.start N vs) H s1 := inv_start S hr.hd e0 (len _ _ _ _ h) r x
    refine wpAny_mono ((hb cdv A outer s H E (hr.deeper _) hgd).run [] s1 (L2.start N vs) H _ I (hsp vs H Q E h)) (fun fl s' hs => ?_) fun e s' hs => hs
    cases fl with
    | ret u => obtain ⟨v, σ', H', J, rv, q⟩ := hs; exact ⟨v, H', J.os, J.bare, J.base, J.hok, rv, q⟩
    | next => obtain ⟨σ', H', J, q⟩ := hs; exact ⟨.non, H', J.os, J.bare, J.base, J.hok, rfl, q⟩
    | brk => obtain ⟨_, _, _, q⟩ := hs; exact False.elim q
    | cont => obtain ⟨_, _, _, q⟩ := hs; exact False.elim q
theorem spP_body {vs : List V} {H : Hp} {Q : VK} {E : XK} (hN : vs.length ≤ N.length) (h : spP c n (runP N.length g) vs H Q E) : tS c (fun cls d _ H => E cls d H) g { nx := fun _ H' => Q .non H', rt := Q } (L2.start N vs) H := by
  obtain ⟨hl, F, ds, le, il, q⟩ := h
  refine ⟨_, _, F, _, At.start le il hN, ?_⟩
  unfold runP at q
  cases e : g (startE N.length (ds.map .fz)) with
  | ok fl ρ =>
    rw [e] at q
    cases fl with
    | nx => exact fun σ' H' F' Z' a s => q _ H' F' (s.toGrow (fun _ => rfl) a) .non
    | ret d => exact fun v σ' H' F' Z' a i s => q v H' F' (s.toGrow (fun _ => rfl) a) i
    | bk => exact q.elim
    | ct => exact q.elim
  | er kk fs ρ => rw [e] at q; exact fun dx σ' H' F' Z' a xx s => q dx H' F' (s.toGrow (fun _ => rfl) a) xx
  | stuck => rw [e] at q; exact q
theorem okPG {dvs : List V} {kws : List (Str × V)} (Fd : FunD K x qual params body scope dvs kws f fd) (S : FnScope N ps scope) (hb : BodyG c P w K mg base N qual scope f k body g) : FnOkG P w K mg base (k + 1) f fd ps (spP c ps.length (runP N.length g)) :=
  okG Fd S (fun vs H Q E h => h.1) hb fun vs H Q E h => spP_body (by rw [h.1]; exact len_ps S) h
structure FnPG (P : Program) (w : World) (K : PySem.W.Frag) (mg : Str → Option Value) (base : Heap) (c : Cfg) (k : Nat) (x : Str) (n : Nat) (m : List D → Out) : Prop where
  ex : ∃ f fd ps, FnOkG P w K mg base k f fd ps (spP c n m) ∧ mg x = some (.ref f) ∧ PySem.W.keepIn K (.ref f) = true ∧ Binds K fd ps []
end
section
variable {X : Cx} {c : Cfg} {W : WX} {e : Expr} {es : List Expr} {gs : M (List D)} {pos p : Pos} {x : Str} {k n : Nat} {m : List D → Out}
theorem d_callG (Fp : FnPG X.prog X.w X.K X.mg X.base c k x n m) (hgd : X.A.guards = some []) (hr : Room k X.A) (hg : Gl X x) (tk : Takes X W) (ha : PA X (e :: es) (tFs c W gs))
    (hdb : (x == ("__debug__" : Str)) = false := by decide) (he : starEach (e :: es) X.env = (false, eval e X.env) :: starEach es X.env := by rfl) (hpl : (backTo pos (starEach es X.env)).any (·.1) = false := by rfl) :
    PE X (.Call (.Name x p) (e :: es) [] pos) (tF c W (mCall m (bd gs fun ds => if ds.length = n then rt ds else stuck))) := by
  obtain ⟨f, fd, ps, F, hm, hk, hb⟩ := Fp.ex
  refine ⟨fun pins s σ H Q I ⟨A, Z, F0, ρ, at_, q⟩ => ?_⟩
  refine wpAny_Call_Name_kw (ld_glob I hg hm ?_ hdb)
  refine PySem.W.callWith_K (h₀ := X.base) I.ok.mod.kin hk (thn (ha.run pos pins s σ H (fun vs H1 => spP c n m vs H1 Q (WE W σ)) I ⟨A, Z, F0, ρ, at_, q.bind.bind.imp fun ds ρ1 q vs H1 F1 Z1 a1 i1 s1 => ?_⟩) fun us s1 ⟨vs, H1, I1, r, q1⟩ => ⟨I1.kIn, ?_⟩) he hpl
  · by_cases hz : ds.length = n
    · rw [if_pos hz] at q
      exact callP (by rw [i1.length]; exact hz) q a1 i1 s1
    · rw [if_neg hz] at q
      exact (show False from q).elim
  · have hl : us.length = ps.length := by rw [← r.length]; exact F.len _ _ _ _ q1
    have b := hb s1 us I1.kIn (by rw [List.append_nil]; exact hl)
    rw [List.append_nil] at b
    refine wpAny_call (codeAny_mono (F.run X.A X.stack s1 H1 ⟨us, []⟩ us vs Q (WE W σ) hr hgd I1.env0 b r q1) fun r s' hq => ?_)
    cases r with
    | error e => exact passAt tk σ pins H1 s1 e s' I1 hq
    | ok fl =>
      cases fl with
      | ret u => exact I1.after hq
      | next => exact False.elim hq
      | brk => exact False.elim hq
      | cont => exact False.elim hq
/-! ### repr -/
def rRepr (d : D) : Option D := if d.plain = true ∧ d.py.showable = true ∧ d.py.depth ≤ 60 ∧ d.py.shown.length ≤ sizeLine then some (.str d.py.shown) else none
theorem plain_noDict : ∀ d : D, d.plain = true → d.py.hasDict = false := by
  have key : ∀ n : Nat, (∀ d : D, sizeOf d < n → d.plain = true → d.py.hasDict = false) ∧ ∀ l : List D, sizeOf l < n → D.plainL l = true → PyData.hasDictAll (D.pyL l) = false := by
    intro n
    induction n with
    | zero => exact ⟨fun _ h => absurd h (by omega), fun _ h => absurd h (by omega)⟩
    | succ n ih =>
      refine ⟨fun d hd hp => ?_, fun l hl hp => ?_⟩
      · cases d with
        | non => rfl
        | bl b => rfl
        | int i => rfl
        | str s => rfl
        | tup l => simp only [D.py, PyData.hasDict]; exact ih.2 l (by simp at hd; omega) (by simpa [D.plain] using hp)
        | lst l => simp only [D.py, PyData.hasDict]; exact ih.2 l (by simp at hd; omega) (by simpa [D.plain] using hp)
        | dic l => simp [D.plain] at hp
        | obj k l => simp [D.plain] at hp
        | scr l => simp [D.plain] at hp
      · cases l with
        | nil => rfl
        | cons a r =>
          have h' : a.plain = true ∧ D.plainL r = true := by simpa [D.plainL] using hp
          simp only [D.pyL, PyData.hasDictAll]
          rw [ih.1 a (by simp at hl; omega) h'.1, ih.2 r (by simp at hl; omega) h'.2]; rfl
  exact fun d => (key (sizeOf d + 1)).1 d (by omega)
theorem c_repr (hK : X.K = c.K) (hgd : X.A.guards = some []) (hu : X.A.units + 64 < cLine) : CallR X (.builtin "repr") (rN c rRepr) := by
  intro pins s σ H xs us Q I rv ⟨F, x, d, z, e, le, hx, er, q⟩
  subst e
  unfold rRepr at er
  by_cases hc : d.plain = true ∧ d.py.showable = true ∧ d.py.depth ≤ 60 ∧ d.py.shown.length ≤ sizeLine
  · rw [if_pos hc] at er; cases er
    obtain ⟨h1, h2, h3, h4⟩ := hc
    obtain ⟨u, rfl, ru⟩ := rv.one
    have dp := hx.dp le h1
    have fin : ∀ {h' : Heap} {tk : Nat} {t : Tok}, (∀ b o, s.heap.get? b = some o → h'.get? b = some o) → EP X pins σ Q (.str d.py.shown t) { s with heap := h', toks := tk } := fun k => ⟨.str _, H, I.kept k, ⟨_, rfl⟩, q _ H F (.str _) (.refl le)⟩
    have same : ∀ {tk : Nat} {t : Tok}, EP X pins σ Q (.str d.py.shown t) { s with toks := tk } := fin (h' := s.heap) fun _ _ e => e
    have nd := plain_noDict d h1
    have ref : ∀ a, u = .ref a → wpAny (model X.prog X.w) X.A (call (.builtin "repr") [u]) (EP X pins σ Q) X.xe s := fun a ea => by
      subst ea
      rw [← hK] at dp
      obtain ⟨as, r⟩ := Dp.reads I _ _ _ dp ru
      exact repr_of_reads' r h2 (PyData.noDict_hsm nd) hgd (by omega) (fun _ _ e => e) (fun h' t tk k => fin k) h4
    cases d with
    | non => cases has_non hx; cases ru; exact PySem.P.repr_of_none same
    | bl b => cases has_bl hx; cases ru; exact PySem.P.repr_of_bool same
    | int i =>
      cases has_int hx
      obtain ⟨t, rfl⟩ := ru
      have hb : i.natAbs.log2 < 1920 := by simpa [D.py, PyData.showable] using h2
      exact PySem.P.repr_of_int hb same
    | str t =>
      cases has_str hx
      obtain ⟨t, rfl⟩ := ru
      exact PySem.P.repr_of_str same h4
    | tup l => obtain ⟨a, vs, rfl, _⟩ := has_tup hx; exact ref a ru
    | lst l => obtain ⟨a, vs, rfl, _⟩ := hx; exact ref a ru
    | dic l => simp [D.plain] at h1
    | obj k l => simp [D.plain] at h1
    | scr l => simp [D.plain] at h1
  · rw [if_neg hc] at er; cases er
end
end DL
end
section
set_option Elab.async false
set_option linter.all false
set_option maxRecDepth 100000
set_option maxHeartbeats 2000000
namespace DL
open PySem PySem.Spec PyProof.Rows L2
/-! ### super().__init__(text); self.f = value, in an exception's own __init__ -/
def xBody (msg fld : Str) (p0 p1 p2 p3 p4 p5 p6 p7 p8 p9 : Pos) : List Stmt :=
  [.Expr (.Call (.Attribute (.Call (.Name "super" p0) [] [] p1) "__init__" p2) [.Constant (.str msg) 0 p3] [] p4) p5, .Assign [.Attribute (.Name "self" p6) fld p7] (.Name fld p8) p9]
def xScope (fld : Str) : Scope := { kind := .function, names := [("self", .local), (fld, .local), ("__class__", .free), ("super", .globalImplicit)], isGenerator := false, isCoroutine := false, more := [] }
/-- what the written part says of such an __init__, f its object, C its class -/
structure XI (P : Program) (K : PySem.W.Frag) (C f : Addr) (body : List Stmt) (fld : Str) (fd : FuncData) : Prop where
  lk : ∃ oc od osl, K.lookup f = some ⟨oc, od, .func fd, osl⟩
  body : fd.body = .stmts body
  scope : fd.scope = xScope fld
  clo : ∃ cc cl cld csl, fd.closure = [(("__class__" : Str), cc)] ∧ K.lookup cc = some ⟨cl, cld, .cell (some (.ref C)), csl⟩
  glb : fd.globals = mainGlobals
  blt : fd.builtins = builtinsNs
  cod : PySem.W.codeIn K fd.code fd.qualname = true
  par : ∃ ar, (fd.params.posonlyargs ++ fd.params.args).head? = some ar ∧ ar.arg = "self"
  fil : ∃ cda ccl cdd vs ccs file tf, fd.code = .ref cda ∧ K.lookup cda = some ⟨ccl, cdd, .fields vs, ccs⟩ ∧ vs[2]? = some (.str file tf) ∧ ((P.main.file : Str) == file) = true
  top : (P.main.scope.names.lookup ("super" : Str)).isSome = false
  sub : PySem.W.mroIn K C (.ref C) = some true
  sup : PySem.W.ks_superIn K C C "__init__" = some (some (.builtin "ValueError.__init__"))
  opq : PySem.W.nsIn K cStatics "thirdparty.any" = some none
  subV : PySem.W.subIn K (.ref C) (.type "ValueError") = some true
  cls : OexC K C
  hno : PySem.W.findIn K (.ref C) fld = some none
section
variable {prog : Program} {w : World} {A : Around} {E : Value → Shared → Prop}
/-- the bound __init__ called -/
theorem call_mw {h : Heap} {g : Array GenState} {d : Drawn} {t : Nat} {os : OsState} {nm q : Str} {C N e u t0 : Addr} {bs bm : List Value} {hdct : Bool} {sn : List Str} {sub : List Value} {ab : Bool} {col : Option Bool} {dd : Option Addr} {k0 k1 k2 k3 k5 : Option Value} {rest : List Value} {Q : Value → Shared → Prop}
    (hC : h.get? C = some (excClassObj nm q C N bs bm hdct sn sub ab col dd k0 k1 k2 k3 k5 "ValueError.__new__")) (he : h.get? e = some (HandSPX.excO C t0)) (hu : h.get? u = some (PySem.W.kxs_mw "ValueError.__init__" e)) (hz : rest.length ≤ sizeLine)
    (hq : ∀ h' t1, (∀ b o, b ≠ e → h.get? b = some o → h'.get? b = some o) → h'.get? e = some (HandSPX.excO C t1) → Q .none ⟨h', g, d, t, os⟩) :
    wpAny (model prog w) A (call (.ref u) rest) Q E ⟨h, g, d, t, os⟩ := by
  have FB := F.excBase_ValueError
  refine wpAny_call (codeAny_of_tree ?_)
  show wpAny _ A.in1 (callAny (.ref u) ⟨rest, []⟩) _ _ _
  simp only [callAny]
  refine wpAny_bind (wpAny_load hu ?_)
  simp only [PySem.W.kxs_mw, show (Value.type "method-wrapper" == Value.type "method" || Value.type "method-wrapper" == Value.type "builtin_function_or_method" || Value.type "method-wrapper" == Value.type "method-wrapper") = true by decide, if_true]
  refine PySem.W.KFB.if_so (by decide) ?_
  refine wpAny_bind (PySem.W.check_bound_init FB.toExcCallFacts hC he rfl ?_)
  refine wpAny_bind (wpAny_pure (wpAny_pure ?_))
  refine ⟨plainId_quiet FB.init.plain _, codeAny_builtin FB.initEntry ?_⟩
  exact PySem.W.exc_init_tree (cls := .ref C) (t0 := t0) (dv := none) (c2 := .none) (c3 := .none) (b4 := .bool false) he hz fun h' k e' _ => hq h' _ k e'
end
/-- the promise: the exception gets the one field -/
def spX (C : Addr) (fld : Str) : Sp := fun vs H Q _ => ∃ (a : Addr) (y : V), vs = [.ref a, y] ∧ H a = some (exo a C none) ∧ ∀ dx, H dx = none → dx ≠ a → Q .non (upd (upd H dx (exd dx [(fld, y)])) a (exo a C (some dx)))
theorem xinit_ok {P : Program} {w : World} {K : PySem.W.Frag} {mg : Str → Option Value} {base : Heap} {C f : Addr} {fd : FuncData} {msg fld : Str} {p0 p1 p2 p3 p4 p5 p6 p7 p8 p9 : Pos} (F : XI P K C f (xBody msg fld p0 p1 p2 p3 p4 p5 p6 p7 p8 p9) fld fd) (hms : mg "super" = none)
    (hne : fld ≠ "self") (hls : (xScope fld).names.lookup ("self" : Str) = some NameKind.local) (hlf : (xScope fld).names.lookup fld = some .local) (hlu : (xScope fld).names.lookup ("super" : Str) = some NameKind.globalImplicit) (hlc : (xScope fld).names.lookup ("__class__" : Str) = some NameKind.free) (hdb : (fld == ("__debug__" : Str)) = false) {pl : Sem Bool}
    (hev : ∀ env, eval (.Call (.Attribute (.Call (.Name "super" p0) [] [] p1) "__init__" p2) [.Constant (.str msg) 0 p3] [] p4) env = (do
      let ov ← attributeBase (.Call (.Name "super" p0) [] [] p1) "__init__" env (eval (.Call (.Name "super" p0) [] [] p1) env)
      standAt p2.atName
      let (f, first) ← holding [ov] (getMethod ov "__init__" pl)
      callWith p4 f first (backTo p4 (starEach [.Constant (.str msg) 0 p3] env)) []))
    (hsw1 : ∀ env, swapsWith (.Call (.Attribute (.Call (.Name "super" p0) [] [] p1) "__init__" p2) [.Constant (.str msg) 0 p3] [] p4) none p5.line env = pure false)
    (hsw2 : ∀ env, swapsWith (.Name fld p8) (some (.Attribute (.Name "self" p6) fld p7)) p9.line env = pure false) :
    FnOk P w K mg base (L2.CX P w) 1 f fd ["self", fld] (spX C fld) := by
  refine ⟨fun vs H Q E ⟨a, y, ev, _⟩ => by rw [ev]; rfl, fun A outer s H args us vs Q E hr e0 hbd r ⟨a, y, ev, ha, hq⟩ => ?_⟩
  subst ev
  obtain ⟨u0, u, rfl, ra, ry⟩ := Vals.two r
  obtain rfl : u0 = Value.ref a := ra
  obtain ⟨oc, od, osl, lk⟩ := F.lk
  have kb : ∀ b o, base.get? b = some o → s.heap.get? b = some o := fun b o e => (e0.bs b o e).1
  have KX : K.In s.heap := e0.mod.kin.keeps kb
  have lim : s.heap.NoLimit := e0.mod.nolimit.keeps kb
  obtain ⟨nm, q, N, bs, bm, sn, sub, ab, col, dd, k0, k1, k2, k3, k5, hC, hbm⟩ := F.cls.cls
  have hcl : PySem.W.clsIn K C = some { name := nm, bases := bs, mro := .ref C :: bm, ns := N, qualname := q, hasDict := true, slotNames := sn, subclasses := sub, abstract := ab, collection := col, hasDel := false } := by unfold PySem.W.clsIn; rw [hC] <;> rfl
  obtain ⟨t1, hoa⟩ := exo_at e0.hok ha
  obtain ⟨cc, cl, cld, csl, hclo, hcell⟩ := F.clo
  obtain ⟨ar, har, hself⟩ := F.par
  obtain ⟨cda, ccl, cdd, vs, ccs, file, tf, hcode, hcda, hvs, hfile⟩ := F.fil
  have sc := F.scope
  have hC1 := KX _ _ hC
  have haC : a ≠ C := fun z => by rw [z] at hoa; rw [hC1] at hoa; cases hoa
  have ek : ∀ x, (callEnv fd s.heap.objs.size f).kindOf x = (xScope fld).names.lookup x := fun x => by
    show fd.scope.names.lookup x = _
    rw [sc]
  have hkind : (callEnv fd s.heap.objs.size f).scope.kind = .function := by
    show fd.scope.kind = _
    rw [sc]; rfl
  refine PySem.ks_codeAny_call_defAt (fd := fd) (body := xBody msg fld p0 p1 p2 p3 p4 p5 p6 p7 p8 p9) hr.depth (KX _ _ lk) rfl lim (PySem.W.codeRec_of KX F.cod) F.body hbd (fun x hx => ?_) (fun x hx => ?_) (fun h₀ hns hk₀ => ?_) (by rw [sc]; rfl) (by rw [sc]; rfl) (by rw [sc]; rfl)
  · rw [sc] at hx
    have hx' : x ∈ [(("self" : Str), NameKind.local), (fld, .local), ("__class__", .free), ("super", .globalImplicit)] := hx
    simp only [List.mem_cons, List.not_mem_nil, or_false] at hx'
    rcases hx' with rfl | rfl | rfl | rfl <;> (intro z; cases z)
  · rw [sc]
    have hx' : x ∈ [(("self" : Str), Value.ref a), (fld, u)] := hx
    simp only [List.mem_cons, List.not_mem_nil, or_false] at hx'
    rcases hx' with rfl | rfl
    · exact hls
    · exact hlf
  have hm : (fun x => ((["self", fld] : List Str).zip [Value.ref a, u]).reverse.lookup x) = fun x => List.lookup x [(fld, u), (("self" : Str), Value.ref a)] := rfl
  rw [hm] at hns
  generalize henv : callEnv fd s.heap.objs.size f = env at ek hkind ⊢
  have eL : env.locals = s.heap.objs.size := by rw [← henv]; rfl
  have eG : env.globals = mainGlobals := by rw [← henv]; exact F.glb
  have eB : env.builtins = builtinsNs := by rw [← henv]; exact F.blt
  have eC : env.cells = [(("__class__" : Str), cc)] := by rw [← henv]; exact hclo
  have eF : env.func = some f := by rw [← henv]; rfl
  have eD : env.code = .ref cda := by rw [← henv]; exact hcode
  have eI : interactive env = false := by unfold interactive; rw [hkind]; rfl
  rw [← eL] at hns
  have vself : List.lookup ("self" : Str) [(fld, u), (("self" : Str), Value.ref a)] = some (.ref a) := by
    have : (("self" : Str) == fld) = false := beq_eq_false_iff_ne.mpr (Ne.symm hne)
    simp [List.lookup, this]
  have vfld : List.lookup fld [(fld, u), (("self" : Str), Value.ref a)] = some u := by simp [List.lookup]
  have KX0 : K.In h₀ := KX.keeps hk₀
  have hoa0 := hk₀ _ _ hoa
  -- the first statement
  refine PySem.ks_wpAt_execs_cons (PySem.ks_wpAt_Expr_any (PySem.ks_wpAt_MethodCall ?_ (hev env)) eI (hsw1 env))
  have hks : env.kindOf "super" = some .globalImplicit := (ek _).trans hlu
  have hkc : env.kindOf "__class__" = some .free := (ek _).trans hlc
  refine PySem.ks_wpAt_super_base hks hkc rfl eF (hk₀ _ _ (KX _ _ lk)) rfl har eD (KX0 _ _ hcda) rfl hvs hfile F.top ?_
  have kb0 : ∀ b o, base.get? b = some o → h₀.get? b = some o := fun b o e => hk₀ b o (kb b o e)
  obtain ⟨mb, hmb, hbb⟩ := e0.mod.blt
  refine PySem.W.ks_loadName_global hkind hks (Calls.loadGlobal_builtin (by rw [eG]; exact e0.mod.glob.keeps kb0) hms (by rw [eB]; exact hmb.keeps kb0) ((hbb _ (by decide +kernel)).trans (by decide +kernel)) ⟨rfl, ?_⟩)
  refine wpAny_loadName_free hkind hkc (by rw [eC]; rfl) ⟨_, KX0 _ _ hcell, rfl⟩ ?_
  rw [hself]
  refine wpAny_loadName_local hkind ((ek _).trans hls) hns vself ?_
  refine PySem.ks_wpAny_isType_cls (KX0 _ _ hC) rfl ⟨rfl, ?_⟩
  refine PySem.ks_wpAny_call_super (KX0 _ _ hC) rfl hoa0 rfl (fun c z => nomatch z) (PySem.W.looks_mroIn KX0 F.sub) (fun h1 e1 kk1 => ?_)
  have KX1 : K.In h1 := KX0.keeps kk1
  have I1 : PySem.W.InstAt h1 a { cls := .ref C, dict := none, data := .fields #[.ref t1, .none, .none, .none, .bool false, .none] } C none := ⟨kk1 _ _ hoa0, rfl, rfl, trivial⟩
  have hsup := F.sup
  unfold PySem.W.ks_superIn at hsup
  rw [hcl] at hsup
  refine PySem.W.kxs_getMethod PySem.W.kxs_ValueError e1 (PySem.W.looks_opaque KX1 F.opq) (l₀ := .ref C :: bm) (fun A Q E s k q => wpAny_bind ((PySem.W.looks_clsIn KX1 hcl) A _ E s k (wpAny_pure q))) rfl KX1 hsup (I1.type.andThen (PySem.W.looks_subIn KX1 F.subV)) haC rfl ?_
  -- the arguments, the call
  have hu2 : (h1.push (PySem.W.kxs_mw "ValueError.__init__" a)).get? h1.objs.size = some (PySem.W.kxs_mw "ValueError.__init__" a) := Heap.get?_push_size h1 rfl
  have kk2 : ∀ b o, h1.get? b = some o → (h1.push (PySem.W.kxs_mw "ValueError.__init__" a)).get? b = some o := fun b o e => Heap.get?_push_of_some _ e
  refine PySem.W.kxs_callWith (i := "ValueError.__init__") (x := a) rfl (Calls.evalArgs_plain (Calls.spliced_cons (Calls.Constant_str (k := 0) (pos := p3) (Calls.spliced_nil ⟨hu2, ?_⟩))))
  refine call_mw (C := C) (e := a) (t0 := t1) (kk2 _ _ (kk1 _ _ (KX0 _ _ hC))) (kk2 _ _ (kk1 _ _ hoa0)) hu2 (by show 1 ≤ sizeLine; decide) fun h3 t3 kk3 he3 => ?_
  -- the second statement
  refine PySem.ks_wpAt_execs_cons (PySem.ks_wpAt_Assign_Attr ?_ (hsw2 env))
  have hL3 : h3.Ns env.locals (fun x => List.lookup x [(fld, u), (("self" : Str), Value.ref a)]) := by
    obtain ⟨oL, es, ep, hL, rr⟩ := hns
    refine ⟨oL, es, ep, kk3 _ _ (fun z => ?_) (kk2 _ _ (kk1 _ _ hL)), rr⟩
    rw [z] at eL
    exact absurd (Heap.lt_size hoa) (by rw [← eL]; exact Nat.lt_irrefl _)
  refine PySem.wpAt_of_wpAny (PySem.ESX.ldL hL3 vfld ?_ hkind ((ek _).trans hlf) hdb)
  refine PySem.ESX.ldL hL3 vself ?_ hkind ((ek _).trans hls)
  have KX3 : K.In h3 := fun b o e => kk3 b o (fun z => by
    have n := (e0.bs b o (e0.mod.kin b o e)).2
    rw [z, ha] at n
    cases n) (kk2 _ _ (kk1 _ _ (KX0 _ _ e)))
  refine PySem.W.set_plain KX3 (ox := HandSPX.excO C t3) (od := none) ⟨he3, rfl, rfl, trivial⟩ F.cls.sa ?_
  refine PySem.HandSPX.exc_osa KX3 he3 hcl (show PySem.HandSPX.refsVE (.ref C :: bm) = true from hbm) rfl F.hno (fun h4 tk4 dx kk4 dn dne hx hn => ?_)
  refine PySem.wpAt_of_wpAny (wpAny_execs_nil ?_)
  have kk : ∀ b o, b ≠ a → s.heap.get? b = some o → h4.get? b = some o := fun b o n e => kk4 b o n (kk3 b o n (kk2 _ _ (kk1 _ _ (hk₀ _ _ e))))
  have hsz : s.heap.objs.size ≤ dx := by
    obtain ⟨oL, _, _, hL, _⟩ := hL3
    have := Heap.lt_size hL
    rw [eL] at this
    exact Nat.le_of_lt (Nat.lt_of_lt_of_le this dn)
  have hnd : H dx = none := e0.hok.fresh hsz
  have nd : ∀ {b : Addr} {o : Obj}, s.heap.get? b = some o → b ≠ dx := fun {b o} q => Nat.ne_of_lt (Nat.lt_of_lt_of_le (Heap.lt_size q) hsz)
  have na : ∀ {b : Addr}, H b = none → b ≠ a := fun {b} n z => by rw [z, ha] at n; cases n
  refine ⟨.non, upd (upd H dx (exd dx [(fld, y)])) a (exo a C (some dx)), rfl, e0.bare, ?_, ?_, rfl, hq dx hnd dne⟩
  · exact {
      keep := fun b o q n _ _ => kk b o (na n) q
      slot := fun b o q n _ _ => ⟨o.slots, kk b o (na n) q⟩
      free := fun b o q n _ => by rw [upd_ne (na n), upd_ne (nd q)]; exact n
      there := fun b o q _ => by
        by_cases hb : b = a
        · exact ⟨_, by rw [hb]; exact hx⟩
        · exact ⟨o, kk b o hb q⟩
      tups := fun b xs q => by rw [upd_ne (at_ne ha q exo_tup), upd_ne (ne_of_none q hnd)]; exact q
      frzs := fun b o v q => by rw [upd_ne (at_ne ha q exo_frz), upd_ne (ne_of_none q hnd)]; exact q
      tbls := fun b ps q => ⟨#[], by rw [upd_ne (at_ne ha q exo_tbl), upd_ne (ne_of_none q hnd), q]; simp⟩ }
  · intro b o q
    by_cases hb : b = a
    · subst hb
      rw [upd_same] at q
      cases q
      exact exo_ok hx
    · rw [upd_ne hb] at q
      by_cases hd : b = dx
      · subst hd
        rw [upd_same] at q
        cases q
        exact exd_ok hn (relO_put (fs := []) ry fun g => True.intro)
      · rw [upd_ne hd] at q
        exact (e0.hok b o q).stay (fun c v hc z => kk c v (by
            rcases hc with hc | hc
            · rw [hc]
              exact hb
            · exact at_ne ha hc exo_own) z)
          (fun c hc => by rw [upd_ne (at_ne ha hc exo_own), upd_ne (ne_of_none hc hnd)]; exact hc) (fun c xs hc => by rw [upd_ne (at_ne ha hc exo_tup), upd_ne (ne_of_none hc hnd)]; exact hc)
end DL
end
section
set_option Elab.async false
set_option linter.all false
set_option maxRecDepth 100000
set_option maxHeartbeats 2000000
namespace DL
open PySem PySem.Spec PyProof.Rows L2
/-! ### raise X(value) -/
structure XcP (P : Program) (w : World) (K : PySem.W.Frag) (mg : Str → Option Value) (base : Heap) (c : Cfg) (n j : Nat) (x fld : Str) : Prop where
  T : OexC K (c.cls j)
  mgx : mg x = some (.ref (c.cls j))
  ex : ∃ fI fd ps, PySem.W.findIn K (.ref (c.cls j)) "__init__" = some (some (.ref fI)) ∧ PySem.W.typeIn K (.ref fI) = some (.type "function") ∧ FnOk P w K mg base (L2.CX P w) n fI fd ps (spX (c.cls j) fld) ∧ Binds K fd ps []
def sRaise (j : Nat) (fld : Str) (g : M D) : M Fl := bd g fun d => fun ρ => .er j [(fld, d)] ρ
section
variable {X : Cx} {c : Cfg} {W : WX} {e : Expr} {g : M D} {x fld : Str} {n j : Nat} {p cpos pos : Pos}
theorem s_raise (hc : X.calm = true) (tk : Takes X W) (C : XcP X.prog X.w X.K X.mg X.base c n j x fld) (hr : Room (n + 1) X.A) (hg : Gl X x) (he : PE X e (tF c W g)) (hdb : (x == ("__debug__" : Str)) = false := by decide)
    (hs : starEach [e] X.env = (false, eval e X.env) :: starEach [] X.env := by rfl) : PS X (.Raise (some (.Call (.Name x p) [e] [] cpos)) none pos) (tS c W (sRaise j fld g)) := by
  obtain ⟨fI, fd, ps, iC, tI, F, hb⟩ := C.ex
  refine PSi (ps_raise hc tk (pmk_oex (dvs := []) C.T iC tI F hr hb .nil passes0 hg C.mgx (pa_cons he pa_nil hs) hdb hs)) fun Dn σ H ⟨A, Z, F0, ρ, at_, p⟩ => ⟨A, Z, F0, ρ, at_, (PostS.of (σ := σ) p fun _ _ _ _ => trivial).imp fun d ρ1 q v H1 F1 Z1 a1 i1 s1 => ⟨by show 1 ≤ 1000; decide, fun a ha => ⟨a, v, rfl, upd_same, fun dx hdx hne => ?_⟩⟩⟩
  have hdx1 : H1 dx = none := by rw [upd_ne hne] at hdx; exact hdx
  refine ⟨rfl, dx, [(fld, v)], upd_same, by rw [upd_ne hne, upd_same], hdx1, ?_⟩
  have eH : upd (del (upd (upd (upd H1 a (exo a (c.cls j) none)) dx (exd dx [(fld, v)])) a (exo a (c.cls j) (some dx))) a) dx (.xd [(fld, v)]) = upd H1 dx (.xd [(fld, v)]) := by
    funext b
    by_cases h1 : b = dx
    · rw [h1, upd_same, upd_same]
    · rw [upd_ne h1, upd_ne h1]
      by_cases h2 : b = a
      · rw [h2, del_same, ha]
      · rw [del_ne h2, upd_ne h2, upd_ne h1, upd_ne h2]
  rw [eH]
  have gr : Grow H1 F1 (upd H1 dx (.xd [(fld, v)])) (upd F1 dx (.xd [(fld, v)])) := .new a1.sub hdx1
  exact q dx σ _ _ Z1 (a1.grow gr) ⟨[(fld, v)], upd_same, .cons (i1.mono (gr.mono a1.sub)) .nil⟩ (s1.trans (Step.grow gr a1.sub))
end
/-! ### try: .. except X as e: suite -/
def memN (k : Nat) (l : List Nat) : Bool := l.any fun j => decide (j = k)
theorem memN_mem {k : Nat} {l : List Nat} (h : memN k l = true) : k ∈ l := by
  obtain ⟨x, h1, h2⟩ := List.any_eq_true.mp h
  rw [← of_decide_eq_true h2]; exact h1
def sTry (i : Nat) (ks : List Nat) (hd : Nat → List (Str × D) → M Fl) (g : M Fl) : M Fl := fun ρ => match g ρ with
  | .er k fs ρ' => if memN k ks = true ∧ stillAt ρ' [i] = true then (match hd k fs (ρ'.set i .no) with
    | .ok fl ρ'' => if stillAt ρ'' [i] = true then .ok fl (ρ''.set i .no) else .stuck
    | _ => .stuck) else .stuck
  | r => r
/-- the reading of an except suite -/
def tSu (c : Cfg) (i : Nat) (hd : Nat → List (Str × D) → M Fl) (a : Addr) (cls : Value) (d : Option Addr) : TS := fun Dn σ H => ∃ k fs A Z F ρ dx, cls = .ref (c.cls k) ∧ d = some dx ∧ ExcAt c F dx fs ∧ H a = none ∧ σ[i]? = some (some (.ref a)) ∧ At c A Z H F σ ρ ∧ PostS c A W0 Z H F (hd k fs ρ) Dn
theorem still1 {ρ : Env} {i : Nat} (h : stillAt ρ [i] = true) : ∃ e, ρ[i]? = some e ∧ e.still = true := still_at h List.mem_cons_self
section
variable {c : Cfg} {A Z : Zs} {H F : Hp} {σ : L2.St} {ρ : Env} {i : Nat}
theorem At.clear (a : At c A Z H F σ ρ) (h : stillAt ρ [i] = true) (x : Option V) : At c A Z H F (σ.set i x) (ρ.set i .no) := by
  obtain ⟨e, h1, h2⟩ := still1 h
  have hi := lt_of_get h1
  have hz : Z i = none := (a.ent i e h1).still h2
  have := a.set (x := x) (e := .no) (z := none) hi rfl (fun _ q => nomatch q)
  have ez : Z.put i none = Z := by
    funext j
    by_cases e : j = i
    · rw [e, put_same, hz]
    · rw [put_ne e]
  rw [ez] at this
  exact this
end
section
variable {X : Cx} {c : Cfg} {Wout : WX} {x n : Str} {cv : Value} {i : Nat} {body suite : List Stmt} {b₀ : Stmt} {np pos pos' : Pos} {g : M Fl} {hd : Nat → List (Str × D) → M Fl} {ks : List Nat}
theorem s_try (hs : X.stack = X.env :: X.outer) (hf : X.env.frame = some X.env.locals) (hN : X.N.Nodup) (hi : X.N[i]? = some n) (hln : X.env.kindOf n = some .local) (hc : Names X x cv) (tk : Takes X Wout)
    (hx : ∀ k ∈ ks, PySem.W.exmOne X.K (.ref (c.cls k)) cv = some true)
    (hb : ∀ (W : WX) (pn : List (Addr × Obj)) (xe : Value → Shared → Prop), Takes (X.tr pn xe) W → PassesOwn (model X.prog X.w) X.A X.env xe → PSs (X.tr pn xe) body (tS c W g))
    (hsu : ∀ (a : Addr) (oe : Obj) (cls : Value) (d : Option Addr) (pn : List (Addr × Obj)), Zc cls d oe → (∃ vs, oe.data = .fields vs) → PSs (X.suite a ((a, oe) :: pn)) (b₀ :: suite) (tSu c i hd a cls d)) :
    PS X (.Try body [.ExceptHandler (some (.Name x np)) (some n) (b₀ :: suite) pos'] [] [] pos) (tS c Wout (sTry i ks hd g)) :=
  PSi (ps_try_as hs hf hN hi hln hc tk hb hsu) fun Dn σ H ⟨A, Z, F, ρ, at_, p⟩ => ⟨A, Z, F, ρ, at_, by
    unfold sTry at p
    cases e : g ρ with
    | ok fl ρ1 =>
      rw [e] at p
      cases fl with
      | nx => exact p
      | ret d => exact p
      | bk => exact p
      | ct => exact p
    | stuck => rw [e] at p; exact p
    | er k fs ρ1 =>
      rw [e] at p
      dsimp only at p
      by_cases hc : memN k ks = true ∧ stillAt ρ1 [i] = true
      · rw [if_pos hc] at p
        intro dx σ1 H1 F1 Z1 a1 x1 s1
        refine ⟨true, hx k (memN_mem hc.1), fun _ a na => ?_, fun z => Bool.noConfusion z⟩
        have hi1 : i < σ1.length := by
          obtain ⟨_, h1, _⟩ := still1 hc.2
          rw [a1.len]; exact lt_of_get h1
        refine ⟨k, fs, A, Z1, F1, ρ1.set i .no, dx, rfl, rfl, x1, na, List.getElem?_set_self hi1, a1.clear hc.2 _, ?_⟩
        cases e2 : hd k fs (ρ1.set i .no) with
        | er k2 fs2 ρ2 => rw [e2] at p; exact p.elim
        | stuck => rw [e2] at p; exact p.elim
        | ok fl ρ2 =>
          rw [e2] at p
          dsimp only at p
          by_cases hs2 : stillAt ρ2 [i] = true
          · rw [if_pos hs2] at p
            cases fl with
            | nx => exact fun σ' H' F' Z' a' s' => p _ H' F' Z' (a'.clear hs2 none) (s1.trans s')
            | ret d => exact fun v σ' H' F' Z' a' i' s' => p v _ H' F' Z' (a'.clear hs2 none) i' (s1.trans s')
            | bk => exact fun σ' H' F' Z' a' s' => p _ H' F' Z' (a'.clear hs2 none) (s1.trans s')
            | ct => exact fun σ' H' F' Z' a' s' => p _ H' F' Z' (a'.clear hs2 none) (s1.trans s')
          · rw [if_neg hs2] at p; exact p.elim
      · rw [if_neg hc] at p; exact p.elim⟩
/-- what isinstance must know of an own exception class -/
structure ExcI (K : PySem.W.Frag) (C : Addr) : Prop where
  hcl : (PySem.W.clsIn K C).isSome = true
  hga : PySem.W.findIn K (.ref C) "__getattribute__" = some (some (.builtin "BaseException.__getattribute__"))
  hgt : PySem.W.findIn K (.ref C) "__getattr__" = some none
  hsub : PySem.W.subIn K (.ref C) (.type "BaseException") = some true
  ha : PySem.W.findIn K (.ref C) "__class__" = some (some (.builtin "object.__class__"))
  hn : PySem.W.specialIn K (.builtin "object.__class__") "__get__" = some (some (.builtin "getset_descriptor.__get__"))
  htk : PySem.W.takesIn K (.builtin "object.__class__") = some true
  hm : PySem.W.mroIn K C (.type "object") = some true
/-- isinstance(e, B), e the caught exception of the class at C, with its dict at dx -/
def rIsX (K : PySem.W.Frag) (C a dx : Addr) : List V → Hp → VK → Prop := fun xs H Q => ∃ (B : Addr) (b : Bool) (fs : List (Str × V)), xs = [.ref a, .ref B] ∧ H dx = some (.xd fs) ∧ PySem.W.kitOne K (.ref C) (.ref B) = some b ∧ Q (.bl b) H
theorem call_isX {X : Cx} {a C dx : Addr} {oe : Obj} {pn : List (Addr × Obj)} (I : ExcI X.K C) (hz : Zc (.ref C) (some dx) oe) (hf : ∃ vs, oe.data = .fields vs) : CallR (X.suite a ((a, oe) :: pn)) (.builtin "isinstance") (rIsX X.K C a dx) := by
  intro pins s σ H xs us Q J r h
  obtain ⟨B, b, fs, rfl, hx, e, q⟩ := h
  obtain ⟨u1, u2, rfl, r1, r2⟩ := vals2 r
  cases r1
  cases r2
  obtain ⟨hget, _⟩ := J.pin (a, oe) (List.mem_append.mpr (.inl List.mem_cons_self))
  obtain ⟨vs, hv⟩ := hf
  obtain ⟨mA, hns, _⟩ := (show ObjOk X.prog X.w H s.heap dx (.xd fs) from J.hok dx _ hx)
  obtain ⟨od, ho, _⟩ := lookIn_ns hns
  have Ja : PySem.W.InstAt s.heap a oe C (some od) := ⟨hget, hz.1, by unfold PySem.W.notCls; rw [hv] <;> rfl, by rw [hz.2]; exact ho⟩
  exact PySem.W.kia_one (PySem.W.kitx_exc (gt := none) I.hcl I.hga I.hgt I.hsub I.ha I.hn I.htk I.hm) J.kIn Ja e (fun z => nomatch z) fun tk => ⟨.bl b, H, J.kept (t' := tk) fun _ _ z => z, rfl, q⟩
end
/-! ### the suite: return [repr(e.value), isinstance(e, B)] -/
def hdRepr (fld : Str) : Nat → List (Str × D) → M Fl := fun _ fs => bd (opt ((fs.lookup fld).bind rRepr)) fun z => rt (.ret (.lst [z, .bl true]))
section
variable {X : Cx} {c : Cfg} {i : Nat} {n xB fld : Str} {a : Addr} {oe : Obj} {cls : Value} {d : Option Addr} {pn : List (Addr × Obj)} {p1 p2 p3 p4 p5 p6 p7 p8 p9 p10 : Pos} {B : Addr} {ks : List Nat}
theorem su_repr (hK : X.K = c.K) (hgd : X.A.guards = some []) (hu : X.A.units + 64 < cLine) (hN : X.N[i]? = some n) (hv : Vis X.env.scope n) (hdb : (n == ("__debug__" : Str)) = false) (hcd : (n == ("__classdict__" : Str)) = false)
    (hgr : Gl X "repr") (hmr : X.mg "repr" = none) (hgi : Gl X "isinstance") (hmi : X.mg "isinstance" = none) (hgB : Gl X xB) (hmB : X.mg xB = some (.ref B)) (hdB : (xB == ("__debug__" : Str)) = false)
    (T : ∀ k ∈ ks, XfC X.K (c.cls k) ∧ PySem.W.findIn X.K (.ref (c.cls k)) fld = some none ∧ ExcI X.K (c.cls k) ∧ PySem.W.kitOne X.K (.ref (c.cls k)) (.ref B) = some true)
    (hz : Zc cls d oe) (hf : ∃ vs, oe.data = .fields vs)
    (hb : attributeBase (.Name n p1) fld X.env (eval (.Name n p1) X.env) = eval (.Name n p1) X.env)
    (e1 : starEach [.Attribute (.Name n p1) fld p2] X.env = (false, eval (.Attribute (.Name n p1) fld p2) X.env) :: starEach [] X.env)
    (e2 : starEach [.Name n p5, .Name xB p6] X.env = (false, eval (.Name n p5) X.env) :: starEach [.Name xB p6] X.env) (e3 : starEach [.Name xB p6] X.env = (false, eval (.Name xB p6) X.env) :: starEach [] X.env) (e3' : (backTo p8 (starEach [.Name xB p6] X.env)).any (·.1) = false)
    (e4 : starEach [.Call (.Name "repr" p3) [.Attribute (.Name n p1) fld p2] [] p4, .Call (.Name "isinstance" p7) [.Name n p5, .Name xB p6] [] p8] X.env = (false, eval (.Call (.Name "repr" p3) [.Attribute (.Name n p1) fld p2] [] p4) X.env) :: starEach [.Call (.Name "isinstance" p7) [.Name n p5, .Name xB p6] [] p8] X.env)
    (e5 : starEach [.Call (.Name "isinstance" p7) [.Name n p5, .Name xB p6] [] p8] X.env = (false, eval (.Call (.Name "isinstance" p7) [.Name n p5, .Name xB p6] [] p8) X.env) :: starEach [] X.env) :
    PSs (X.suite a ((a, oe) :: pn)) [.Return (some (.List [.Call (.Name "repr" p3) [.Attribute (.Name n p1) fld p2] [] p4, .Call (.Name "isinstance" p7) [.Name n p5, .Name xB p6] [] p8] p9)) p10]
      (tSu c i (fun k fs => if memN k ks = true then hdRepr fld k fs else stuck) a cls d) := by
  refine ⟨fun pins s σ H Dn I ⟨k, fs, A, Z, F, ρ, dx, ec, ed, ⟨vs, hxd, ifs⟩, na, hσ, at_, p⟩ => ?_⟩
  dsimp only at p
  by_cases hk : memN k ks = true
  · rw [if_pos hk] at p
    obtain ⟨T1, T2, T3, T4⟩ := T k (memN_mem hk)
    subst ec
    subst ed
    have hK' : (X.suite a ((a, oe) :: pn)).K = c.K := hK
    have PV := pe_var (X := X.suite a ((a, oe) :: pn)) (pos := p1) hN hv hdb hcd
    have PV2 := pe_var (X := X.suite a ((a, oe) :: pn)) (pos := p5) hN hv hdb hcd
    have R1 := pe_callB (X := X.suite a ((a, oe) :: pn)) (p := p3) (pos := p4) (c_repr (X := X.suite a ((a, oe) :: pn)) hK' hgd hu) hgr hmr bootS_repr (pa_cons (pe_xf T1 T2 hz hf PV hb) pa_nil e1) (by decide) (by decide) e1
    have R2 := pe_callB (X := X.suite a ((a, oe) :: pn)) (p := p7) (pos := p8) (call_isX T3 hz hf) hgi hmi PyProof.Rows.boot_isinstance (pa_cons PV2 (pa_cons (pe_glob (X := X.suite a ((a, oe) :: pn)) (v := .ref B) hgB hmB rfl hdB) pa_nil e3) e2) (by decide) (by decide) e2 e3'
    refine (pss_one (ps_ret (pe_lst (pos := p9) (pa_cons R1 (pa_cons R2 pa_nil e5) e4)) (pos := p10))).run pins s σ H Dn I ?_
    have p0 : PostS c A W0 Z H F (bd (opt ((fs.lookup fld).bind rRepr)) (fun z => rt (.ret (.lst [z, .bl true]))) ρ) Dn := p
    obtain ⟨z, ez, p1⟩ := ((PostS.of (σ := σ) p0 fun _ _ _ _ => trivial)).opt
    obtain ⟨v, e1, e2⟩ := Option.bind_eq_some_iff.mp ez
    rcases ifs.lookup (f := fld) with ⟨_, e3⟩ | ⟨x0, y0, q1, q2, iv⟩
    · rw [e3] at e1; cases e1
    · rw [q2] at e1; cases e1
      refine ⟨_, hσ, rfl, rfl, dx, vs, x0, rfl, at_.sub _ _ hxd, q1, F, x0, v, z, rfl, at_.sub, iv.has at_.sub, e2, fun z' H1 F1 iz gr => ?_⟩
      have a1 := at_.grow gr
      refine ⟨_, hσ, B, true, vs, rfl, gr.le _ _ (at_.sub _ _ hxd), T4, by show 2 ≤ sizeLine; decide, fun r hr => ?_⟩
      have fr : F1 r = none := none_of_le a1.sub hr
      have g2 : Grow H1 F1 (upd H1 r (.lst [z', .bl true])) (upd F1 r (.lst [z', .bl true])) := .new a1.sub hr
      exact (show PostS c A W0 Z H F (.ok (.ret (.lst [z, .bl true])) ρ) Dn from p1) _ σ _ _ Z (a1.grow g2) (.lst upd_same (.cons (iz.mono (le_upd fr)) (.one (.bl true)))) ((Step.grow gr at_.sub).trans (Step.grow g2 a1.sub))
  · rw [if_neg hk] at p; exact p.elim
end
end DL
end
section
set_option Elab.async false
set_option linter.all false
set_option maxRecDepth 100000
set_option maxHeartbeats 2000000
namespace DL
open PySem PySem.Spec PyProof.Rows L2
section
variable {X : Cx} {c : Cfg} {W : WX} {e e0 : Expr} {es : List Expr} {st : Stmt} {rest : List Stmt} {g : M Fl} {ge : M Ent} {gs : M (List D)} {pos p p1 : Pos} {x : Str} {k n i : Nat}
/-! ### constants of the module -/
theorem d_ci {i : Int} (hm : ∃ t, X.mg x = some (.int i t)) (hg : Gl X x) (hd : (x == ("__debug__" : Str)) = false := by decide) : PE X (.Name x p) (tF c W (rt (.int i))) := by
  obtain ⟨t, hm⟩ := hm
  exact d_c (pe_glob (v := .int i) hg hm ⟨t, rfl⟩ hd) fun _ => .int i
theorem d_cs {s : Str} (hm : ∃ t, X.mg x = some (.str s t)) (hg : Gl X x) (hd : (x == ("__debug__" : Str)) = false := by decide) : PE X (.Name x p) (tF c W (rt (.str s))) := by
  obtain ⟨t, hm⟩ := hm
  exact d_c (pe_glob (v := .str s) hg hm ⟨t, rfl⟩ hd) fun _ => .str s
theorem isL_strs {F : Hp} : ∀ l : List Str, IsL c F (l.map .str) (l.map .str)
  | [] => .nil
  | s :: r => .cons (.str s) (isL_strs r)
theorem d_ct {l : List Str} (h : ∃ a, X.mg x = some (.ref a) ∧ ∀ H, SqT c.K H a (l.map .str)) (hg : Gl X x) (hd : (x == ("__debug__" : Str)) = false := by decide) : PE X (.Name x p) (tF c W (rt (.tup (l.map .str)))) := by
  obtain ⟨a, hm, hs⟩ := h
  exact d_c (pe_glob (v := .ref a) hg hm rfl hd) fun F => .tup (hs F) (isL_strs l)
theorem d_neg {i : Int} {q : Nat} : PE X (.UnaryOp .USub (.Constant (.int i) q p1) p) (tF c W (rt (.int (-i)))) :=
  PEi (pe_un un_neg pe_int) fun σ H Q ⟨A, Z, F, ρ, at_, k⟩ => ⟨i, rfl, (show KF c A σ Z H F Q (.int (-i)) ρ from k) (.int (-i)) H F Z at_ (.int _) .refl⟩
/-! ### targets raise nothing -/
def NE (g : D → M Unit) : Prop := ∀ d ρ k fs ρ', g d ρ ≠ .er k fs ρ'
def NEs (g : List D → M Unit) : Prop := ∀ d ρ k fs ρ', g d ρ ≠ .er k fs ρ'
theorem ne_name : NE (aName i) := fun d ρ k fs ρ' h => by
  unfold aName setU at h
  split at h <;> cases h
theorem ne_nil : NEs aNil := fun d ρ k fs ρ' h => by
  unfold aNil at h
  split at h <;> cases h
theorem ne_cons {a : D → M Unit} {b : List D → M Unit} (ha : NE a) (hb : NEs b) : NEs (aCons a b) := fun ds ρ k fs ρ' h => by
  cases ds with
  | nil => cases h
  | cons d r =>
    have h : (a d ρ).bd (fun _ => b r) = .er k fs ρ' := h
    cases q : a d ρ with
    | ok u ρ1 => rw [q] at h; exact hb r ρ1 k fs ρ' h
    | er k1 f1 ρ1 => exact ha _ _ _ _ _ q
    | stuck => rw [q] at h; cases h
theorem ne_tup {b : List D → M Unit} (hb : NEs b) : NE (aTup n b) := fun d ρ k fs ρ' h => by
  cases d with
  | tup l =>
    have h : (if l.length = n then b l else stuck) ρ = .er k fs ρ' := h
    split at h
    · exact hb _ _ _ _ _ h
    · cases h
  | _ => cases h
theorem ne_lst {b : List D → M Unit} (hb : NEs b) : NE (aLst n b) := fun d ρ k fs ρ' h => by
  cases d with
  | lst l =>
    have h : (if l.length = n then b l else stuck) ρ = .er k fs ρ' := h
    split at h
    · exact hb _ _ _ _ _ h
    · cases h
  | _ => cases h
/-! ### a def that gives a list of its own -/
def PostE (c : Cfg) (A : Zs) (W : WX) (Z : Zs) (H F : Hp) (r : Res Ent) (Dn : Ends) : Prop := match r with
  | .ok e ρ' => ∀ v z σ' H' F' Z', At c A Z' H' F' σ' ρ' → EntOk c F' H' z (some (some v)) none e →
      (∀ a, z = some a → F' a = none ∧ (∀ j, Z' j ≠ some a) ∧ ((∃ i, Z i = some a) ∨ H a = none)) → Step Z H F Z' H' F' → Dn.rt v H'
  | .er k fs ρ' => ∀ dx σ' H' F' Z', At c A Z' H' F' σ' ρ' → ExcAt c F' dx fs → Step Z H F Z' H' F' → W (.ref (c.cls k)) (some dx) σ' H'
  | .stuck => False
theorem PostE.from_ {A Z Z1 : Zs} {H F H1 F1 : Hp} {r : Res Ent} {Dn : Ends} (st : Step Z H F Z1 H1 F1) (h : PostE c A W Z H F r Dn) : PostE c A W Z1 H1 F1 r Dn := by
  cases r with
  | ok a ρ =>
    intro v z σ' H' F' Z' a' k w s
    refine h v z σ' H' F' Z' a' k (fun b hb => ?_) (st.trans s)
    obtain ⟨w1, w2, w3⟩ := w b hb
    refine ⟨w1, w2, ?_⟩
    rcases w3 with ⟨j, q⟩ | q
    · exact st.foot j b q
    · cases e : H b with
      | none => exact .inr rfl
      | some o =>
        by_cases hz : ∃ i, Z i = some b
        · exact .inl hz
        · have := (st.keep b o e fun i hi => hz ⟨i, hi⟩).1
          rw [q] at this; cases this
  | er k fs ρ => exact fun dx σ' H' F' Z' a x s => h dx σ' H' F' Z' a x (st.trans s)
  | stuck => exact h
def tSE (c : Cfg) (W : WX) (g : M Ent) : TS := fun Dn σ H => ∃ A Z F ρ, At c A Z H F σ ρ ∧ PostE c A W Z H F (g ρ) Dn
def sqE (g : M Fl) (h : M Ent) : M Ent := bd g fun f => match f with
  | .nx => h
  | _ => stuck
theorem se_ret (he : PE X e (tE c W ge)) : PSs X [.Return (some e) pos] (tSE c W ge) :=
  pss_one (PSi (ps_ret he) fun Dn σ H ⟨A, Z, F, ρ, at_, p⟩ => ⟨A, Z, F, ρ, at_, by
    cases q : ge ρ with
    | ok en ρ1 => rw [q] at p; exact fun v z H' F' Z' a k w s => p v z σ H' F' Z' a k w s
    | er k fs ρ1 => rw [q] at p; exact fun dx H' F' Z' a xx s => p dx σ H' F' Z' a xx s
    | stuck => rw [q] at p; exact p⟩)
theorem se_cons (h1 : PS X st (tS c W g)) (h2 : PSs X rest (tSE c W ge)) : PSs X (st :: rest) (tSE c W (sqE g ge)) := PSsi (pss_cons h1 h2) fun Dn σ H ⟨A, Z, F, ρ, at_, p⟩ => ⟨A, Z, F, ρ, at_, by
  have p : PostE c A W Z H F ((g ρ).bd _) Dn := p
  cases q : g ρ with
  | ok f ρ1 =>
    rw [q] at p
    cases f with
    | nx => exact fun σ' H' F' Z' a s => ⟨A, Z', F', ρ1, a, PostE.from_ s p⟩
    | _ => exact p.elim
  | er k fs ρ1 => rw [q] at p; exact p
  | stuck => rw [q] at p; exact p⟩
inductive OutL where
  | ok (l : List D)
  | stuck
def spE (c : Cfg) (n : Nat) (m : List D → OutL) : Sp := fun vs H Q _ => vs.length = n ∧ ∃ F ds, Le F H ∧ IsL c F vs ds ∧ match m ds with
  | .ok l => ∀ p ws H' F', Grow H F H' F' → H p = none → F' p = none → H' p = some (.lst ws) → IsL c F' ws l → Q (.ref p) H'
  | .stuck => False
structure FnE (P : Program) (w : World) (K : PySem.W.Frag) (mg : Str → Option Value) (base : Heap) (c : Cfg) (k : Nat) (x : Str) (n : Nat) (m : List D → OutL) : Prop where
  ex : ∃ f fd ps, FnOk P w K mg base (L2.CX P w) k f fd ps (spE c n m) ∧ mg x = some (.ref f) ∧ PySem.W.keepIn K (.ref f) = true ∧ Binds K fd ps []
def BodyE (c : Cfg) (P : Program) (w : World) (K : PySem.W.Frag) (mg : Str → Option Value) (base : Heap) (N : List Str) (qual : Str) (scope : Scope) (f : Addr) (k : Nat) (body : List Stmt) (g : M Ent) : Prop :=
  ∀ (cdv : Value) (A : Around) (outer : List PySem.Env) (s : Shared) (H : Hp) (E : XK), Room k (A.deeper (envOfC qual scope s.heap.objs.size f cdv)) →
    PSs (cxOf (L2.CX P w) P w K mg base N qual scope f cdv A outer s H E) body (tSE c (fun cls d _ H => E cls d H) g)
def toOutL : Res Ent → OutL
  | .ok (.ow l) _ => .ok l
  | _ => .stuck
def runE (n : Nat) (g : M Ent) (ds : List D) : OutL := toOutL (g (startE n (ds.map .fz)))
theorem okE {P : Program} {w : World} {K : PySem.W.Frag} {mg : Str → Option Value} {base : Heap} {qual : Str} {params : Arguments} {body : List Stmt} {scope : Scope} {f : Addr} {fd : FuncData} {N ps : List Str} {g : M Ent} {dvs : List V} {kws : List (Str × V)} (Fd : FunD K x qual params body scope dvs kws f fd) (S : FnScope N ps scope) (hb : BodyE c P w K mg base N qual scope f k body g) : FnOk P w K mg base (L2.CX P w) (k + 1) f fd ps (spE c ps.length (runE N.length g)) :=
  Fd.ok S (fun vs H Q E h => h.1) fun cdv A outer s H vs Q E hr ⟨hl, F, ds, le, il, q⟩ => ⟨_, hb cdv A outer s H E hr, by
    have hN : vs.length ≤ N.length := by rw [hl]; exact len_ps S
    refine ⟨_, _, F, _, At.start le il hN, ?_⟩
    unfold runE at q
    cases e : g (startE N.length (ds.map .fz)) with
    | ok fl ρ =>
      rw [e] at q
      cases fl with
      | ow l =>
        intro v z σ' H' F' Z' a k w s
        obtain ⟨p, vs', h1, h2, h3, h4⟩ := k
        cases h2
        obtain ⟨w1, w2, w3⟩ := w p h1
        refine q p vs' H' F' (s.toGrow (fun _ => rfl) a) ?_ w1 h3 h4
        rcases w3 with ⟨_, w3⟩ | w3
        · cases w3
        · exact w3
      | _ => exact q.elim
    | er kk fs ρ => rw [e] at q; exact q.elim
    | stuck => rw [e] at q; exact q.elim⟩
def mCallE (m : List D → OutL) (n : Nat) (gs : M (List D)) : M Ent := bd gs fun ds => if ds.length = n then (match m ds with
  | .ok l => rt (.ow l)
  | .stuck => stuck) else stuck
theorem d_callE {m : List D → OutL} (Fp : FnE X.prog X.w X.K X.mg X.base c k x n m) (hr : Room k X.A) (hg : Gl X x) (tk : Takes X W) (ha : PA X (e :: es) (tFs c W gs))
    (hdb : (x == ("__debug__" : Str)) = false := by decide) (he : starEach (e :: es) X.env = (false, eval e X.env) :: starEach es X.env := by rfl) (hpl : (backTo pos (starEach es X.env)).any (·.1) = false := by rfl) :
    PE X (.Call (.Name x p) (e :: es) [] pos) (tE c W (mCallE m n gs)) := by
  obtain ⟨f, fd, ps, F, hm, hk, hb⟩ := Fp.ex
  refine PEi (pe_callS (E := WE W) F hr hg hm hk hb (fun σ => passAt tk σ) ha hdb he hpl) fun σ H Q ⟨A, Z, F0, ρ, at_, p⟩ => ?_
  refine ⟨A, Z, F0, ρ, at_, p.bind.imp fun ds ρ1 q vs H1 F1 Z1 a1 i1 s1 => ?_⟩
  by_cases hz : ds.length = n
  · rw [if_pos hz] at q
    refine ⟨by rw [i1.length]; exact hz, F1, ds, a1.sub, i1, ?_⟩
    cases em : m ds with
    | stuck => rw [em] at q; exact (show False from q)
    | ok l =>
      rw [em] at q
      intro r ws H' F' gr hr1 hr2 hr3 hr4
      have a2 := a1.grow gr
      refine (show KE c A σ Z H F0 Q (.ow l) ρ1 from q) (.ref r) (some r) H' F' Z1 a2 ⟨r, ws, rfl, rfl, hr3, hr4⟩ (fun b hb => ?_) (s1.trans (Step.grow gr a1.sub))
      cases hb
      exact ⟨hr2, (fun j z => by obtain ⟨o, ho⟩ := a1.there z; rw [hr1] at ho; cases ho), fresh_foot s1 hr1⟩
  · rw [if_neg hz] at q
    exact (show False from q).elim
/-! ### a callee that may change its first argument, a new list -/
def liftJ : OutI → M D
  | .ok d _ => rt d
  | .er k fs _ => fun ρ => .er k fs ρ
  | .stuck => stuck
def mCallIE (g0 : M Ent) (m : List D → List D → OutI) (n : Nat) (gs : M (List D)) : M D := bd g0 fun x => match x with
  | .ow l => bd gs fun es => if es.length = n then liftJ (m l es) else stuck
  | _ => stuck
theorem At.growX {A Z : Zs} {H F H' F' : Hp} {σ : L2.St} {ρ : Env} {a : Addr} (at_ : At c A Z H F σ ρ) (g : GrowX a H F H' F') (hz : ∀ i, Z i ≠ some a) : At c A Z H' F' σ ρ :=
  ⟨g.sub, at_.len, fun i e q => (at_.ent i e q).growX g (hz i), at_.out, at_.inj, fun i b q => by
    obtain ⟨o, ho⟩ := at_.there q
    rw [(g.keep b o ho fun w => hz i (by rw [← w]; exact q)).2]; exact at_.nf i b q⟩
theorem d_callIE {m : List D → List D → OutI} (Fp : FnI X.prog X.w X.K X.mg X.base c k x n m) (hr : Room k X.A) (hg : Gl X x) (tk : Takes X W) (h0 : PE X e0 (tE c W ge)) (ha : PA X es (tFs c W gs))
    (hdb : (x == ("__debug__" : Str)) = false := by decide) (he : starEach (e0 :: es) X.env = (false, eval e0 X.env) :: starEach es X.env := by rfl) (hpl : (backTo pos (starEach es X.env)).any (·.1) = false := by rfl) :
    PE X (.Call (.Name x p) (e0 :: es) [] pos) (tF c W (mCallIE ge m n gs)) := by
  obtain ⟨f, fd, ps, F, hm, hk, hb⟩ := Fp.ex
  refine PEi (pe_callS (E := WE W) F hr hg hm hk hb (fun σ => passAt tk σ) (pa_cons h0 ha he) hdb he hpl) fun σ H Q ⟨A, Z, F0, ρ, at_, p⟩ => ?_
  refine ⟨A, Z, F0, ρ, at_, p.bind.imp fun en ρ1 q v z H1 F1 Z1 a1 i1 w1 s1 => ?_⟩
  cases en with
  | ow l =>
    obtain ⟨r, xs, hz, hv, hx, il⟩ := i1
    cases hv
    obtain ⟨f1, n1, o1⟩ := w1 r hz
    refine ⟨A, Z1, F1, ρ1, a1, (Post.from_ (K' := fun es ρ2 => Post c A W σ Z H F0 ((if es.length = n then liftJ (m l es) else stuck) ρ2) (KF c A σ Z H F0 Q)) s1 (Post.bind q) fun _ _ h => h).imp fun ds ρ2 q2 vs H2 F2 Z2 a2 i2 s2 => ?_⟩
    by_cases hn : ds.length = n
    · rw [if_pos hn] at q2
      obtain ⟨k1, k2⟩ := s2.keep r _ hx n1
      have n2 : ∀ i, Z2 i ≠ some r := fun i hi => by
        rcases s2.foot i r hi with ⟨j, hj⟩ | hj
        · exact n1 j hj
        · rw [hx] at hj; cases hj
      refine ⟨by rw [List.length_cons, i2.length, hn], r, vs, F2, xs, l, ds, rfl, a2.sub, k1, k2.trans f1, il.mono s2.mono, i2, ?_⟩
      have fin : ∀ H' F', GrowX r H2 F2 H' F' → At c A Z2 H' F' σ ρ2 ∧ Step Z H F0 Z2 H' F' := fun H' F' gr => by
        refine ⟨a2.growX gr n2, ?_⟩
        have s12 := s1.trans s2
        refine ⟨fun b o hb hnb => ?_, s12.mono.trans gr.mono, fun j b hb => s12.foot j b hb⟩
        obtain ⟨t1, t2⟩ := s12.keep b o hb hnb
        have hne : b ≠ r := fun w => by
          subst w
          rcases o1 with ⟨i, hi⟩ | hi
          · exact hnb i hi
          · rw [hb] at hi; cases hi
        obtain ⟨t3, t4⟩ := gr.keep b o t1 hne
        exact ⟨t3, t4.trans t2⟩
      cases em : m l ds with
      | ok d l' =>
        rw [em] at q2
        intro v H' F' xs' gr hx' ix iv
        obtain ⟨t1, t2⟩ := fin H' F' gr
        exact (show KF c A σ Z H F0 Q d ρ2 from q2) v H' F' Z2 t1 iv t2
      | er kk fs l' =>
        rw [em] at q2
        intro dx H' F' xs' gr hx' ix iv
        obtain ⟨t1, t2⟩ := fin H' F' gr
        exact q2 dx H' F' Z2 t1 iv t2
      | stuck => rw [em] at q2; exact q2
    · rw [if_neg hn] at q2
      exact (show False from q2).elim
  | _ => exact (show False from q).elim
end
/-! ### promises from the facts of a def -/
section
variable {c : Cfg} {mg : Str → Option Value} {base : Heap} {x qual : Str} {st : Stmt} {N ps : List Str} {k n j : Nat} {g : M Fl}
structure Fn1 (c : Cfg) (mg : Str → Option Value) (x : Str) (st : Stmt) : Prop where
  ex : ∃ f fd, FunD c.K x x (defArgs st) (defBody st) (defScope st) [] [] f fd ∧ mg x = some (.ref f)
structure FnK1 (c : Cfg) (mg : Str → Option Value) (x : Str) (st : Stmt) (n : Nat) (ks : List Str) (ps : List Str) : Prop where
  ex : ∃ f fd kws, FunD c.K x x (defArgs st) (defBody st) (defScope st) [] kws f fd ∧ mg x = some (.ref f) ∧ KBn c.K fd ps n ks (fun us ws => us ++ ws) (fun vs zs => vs ++ zs)
structure Mt1 (c : Cfg) (j : Nat) (x qual : Str) (st : Stmt) : Prop where
  ex : ∃ f fd, FunD c.K x qual (defArgs st) (defBody st) (defScope st) [] [] f fd ∧ Meth c.K (c.cls j) x f
  cl : Cls c.K (c.cls j)
structure Pr1 (c : Cfg) (j : Nat) (x qual : Str) (st : Stmt) : Prop where
  ex : ∃ p f fd, FunD c.K x qual (defArgs st) (defBody st) (defScope st) [] [] f fd ∧ PropOf c.K (c.cls j) x p f
  cl : Cls c.K (c.cls j)
structure St1 (c : Cfg) (mg : Str → Option Value) (j : Nat) (y x qual : Str) (st : Stmt) : Prop where
  ex : ∃ p f fd mc rest, FunD c.K x qual (defArgs st) (defBody st) (defScope st) [] [] f fd ∧ mg y = some (.ref (c.cls j)) ∧ ClX.CRead c.K (c.cls j) mc ∧ PySem.W.findCls c.K (.ref (c.cls j)) mc x = some (.get (.builtin "staticmethod.__get__") (.ref p) .none (.ref (c.cls j))) ∧
    PySem.W.recIn c.K p "staticmethod" = some (.ref f :: rest) ∧ PySem.W.keepIn c.K (.ref f) = true
structure In1 (c : Cfg) (mg : Str → Option Value) (j : Nat) (y qual : Str) (st : Stmt) : Prop where
  ex : ∃ f fd, FunD c.K "__init__" qual (defArgs st) (defBody st) (defScope st) [] [] f fd ∧ Mk c.K (c.cls j) f ∧ mg y = some (.ref (c.cls j))
structure InK1 (c : Cfg) (mg : Str → Option Value) (j : Nat) (y qual : Str) (st : Stmt) (n : Nat) (ks : List Str) (ps : List Str) : Prop where
  ex : ∃ f fd kws, FunD c.K "__init__" qual (defArgs st) (defBody st) (defScope st) [] kws f fd ∧ Mk c.K (c.cls j) f ∧ mg y = some (.ref (c.cls j)) ∧ KBn c.K fd ps (n + 1) ks (fun us ws => us ++ ws) (fun vs zs => vs ++ zs)
/-- its parameters are bound in order -/
def Bnd (x qual : Str) (st : Stmt) (ps : List Str) : Prop := ∀ (kV doc pm : Value) (an : Option Addr) (cdv ct : Value) (us : List Value), us.length = ps.length →
  bindArgs (PySem.W.fnOf x qual (defArgs st) (defBody st) (defScope st) .none kV doc pm an cdv ct) ⟨us, []⟩ = pure (ps.zip us)
theorem fnP_of (F : Fn1 c mg x st) (S : FnScope N ps (defScope st)) (b : Bnd x x st ps) (hn : ps.length = n) (hb : ∀ f, Body c c.P c.w c.K mg base N x (defScope st) f k (defBody st) g) : FnP c.P c.w c.K mg base c (k + 1) x n (runP N.length g) := by
  obtain ⟨f, fd, Fd, hm⟩ := F.ex
  subst hn
  exact ⟨f, fd, ps, okP Fd S (hb f), hm, Fd.kp, Fd.bindsN b⟩
theorem fnPG_of (F : Fn1 c mg x st) (S : FnScope N ps (defScope st)) (b : Bnd x x st ps) (hn : ps.length = n) (hb : ∀ f, BodyG c c.P c.w c.K mg base N x (defScope st) f k (defBody st) g) : FnPG c.P c.w c.K mg base c (k + 1) x n (runP N.length g) := by
  obtain ⟨f, fd, Fd, hm⟩ := F.ex
  subst hn
  exact ⟨f, fd, ps, okPG Fd S (hb f), hm, Fd.kp, Fd.bindsN b⟩
theorem fnE_of {ge : M Ent} (F : Fn1 c mg x st) (S : FnScope N ps (defScope st)) (b : Bnd x x st ps) (hn : ps.length = n) (hb : ∀ f, BodyE c c.P c.w c.K mg base N x (defScope st) f k (defBody st) ge) : FnE c.P c.w c.K mg base c (k + 1) x n (runE N.length ge) := by
  obtain ⟨f, fd, Fd, hm⟩ := F.ex
  subst hn
  exact ⟨f, fd, ps, okE Fd S (hb f), hm, Fd.kp, Fd.bindsN b⟩
theorem fnI_of (F : Fn1 c mg x st) (S : FnScope N ps (defScope st)) (b : Bnd x x st ps) (hn : ps.length = n + 1) (hb : ∀ f, Body c c.P c.w c.K mg base N x (defScope st) f k (defBody st) g) : FnI c.P c.w c.K mg base c (k + 1) x n (runI N.length g) := by
  obtain ⟨f, fd, Fd, hm⟩ := F.ex
  exact ⟨f, fd, ps, okI Fd S hn (hb f), hm, Fd.kp, Fd.bindsN b⟩
theorem fnK_of {ks : List Str} (F : FnK1 c mg x st n ks ps) (S : FnScope N ps (defScope st)) (hn : ps.length = n + ks.length) (hb : ∀ f, Body c c.P c.w c.K mg base N x (defScope st) f k (defBody st) g) : FnK c.P c.w c.K mg base c (k + 1) x n ks (runP N.length g) := by
  obtain ⟨f, fd, kws, Fd, hm, b⟩ := F.ex
  refine ⟨f, fd, ps, ?_, hm, Fd.kp, b⟩
  have r := okP Fd S (hb f)
  rw [hn] at r
  exact r
theorem mtP_of (F : Mt1 c j x qual st) (S : FnScope N ps (defScope st)) (b : Bnd x qual st ps) (hn : ps.length = n + 1) (hb : ∀ f, Body c c.P c.w c.K mg base N qual (defScope st) f k (defBody st) g) : MtP c.P c.w c.K mg base c (k + 1) j x n (runP N.length g) := by
  obtain ⟨f, fd, Fd, hm⟩ := F.ex
  refine ⟨f, fd, ps, ?_, F.cl, hm, Fd.bindsN b⟩
  have r := okP Fd S (hb f)
  rw [hn] at r
  exact r
theorem eqP_of (F : Mt1 c j "__eq__" qual st) (S : FnScope N ps (defScope st)) (b : Bnd "__eq__" qual st ps) (hn : ps.length = 2) (hb : ∀ f, Body c c.P c.w c.K mg base N qual (defScope st) f k (defBody st) g) : EqP c.P c.w c.K mg base c (k + 1) j (runP N.length g) := by
  obtain ⟨f, fd, Fd, hm⟩ := F.ex
  refine ⟨f, fd, ps, ?_, hm.at_, hm.fn, Fd.bindsN b⟩
  have r := okP Fd S (hb f)
  rw [hn] at r
  exact r
theorem prP_of (F : Pr1 c j x qual st) (S : FnScope N ps (defScope st)) (b : Bnd x qual st ps) (hn : ps.length = 1) (hb : ∀ f, Body c c.P c.w c.K mg base N qual (defScope st) f k (defBody st) g) : PrP c.P c.w c.K mg base c (k + 1) j x (runP N.length g) := by
  obtain ⟨p, f, fd, Fd, hm⟩ := F.ex
  refine ⟨p, f, fd, ps, ?_, F.cl, hm, Fd.bindsN b⟩
  have r := okP Fd S (hb f)
  rw [hn] at r
  exact r
theorem stP_of {y : Str} (F : St1 c mg j y x qual st) (S : FnScope N ps (defScope st)) (b : Bnd x qual st ps) (hn : ps.length = n) (hb : ∀ f, Body c c.P c.w c.K mg base N qual (defScope st) f k (defBody st) g) : StP c.P c.w c.K mg base c (k + 1) j y x n (runP N.length g) := by
  obtain ⟨p, f, fd, mc, rest, Fd, h1, h2, h3, h4, h5⟩ := F.ex
  subst hn
  exact ⟨p, f, fd, ps, mc, rest, okP Fd S (hb f), h1, h2, h3, h4, h5, Fd.bindsN b⟩
theorem mkP_of {y : Str} (F : In1 c mg j y qual st) (S : FnScope N ps (defScope st)) (b : Bnd "__init__" qual st ps) (hn : ps.length = n + 1) (hb : ∀ f, Body c c.P c.w c.K mg base N qual (defScope st) f k (defBody st) g) : DL.MkP c.P c.w c.K mg base c (k + 1) j y n (runN N.length j g) := by
  obtain ⟨f, fd, Fd, h1, h2⟩ := F.ex
  exact ⟨f, fd, ps, okN Fd S hn (hb f), h1, h2, Fd.bindsN b⟩
theorem mkK_of {y : Str} {ks : List Str} (F : InK1 c mg j y qual st n ks ps) (S : FnScope N ps (defScope st)) (hn : ps.length = n + ks.length + 1) (hb : ∀ f, Body c c.P c.w c.K mg base N qual (defScope st) f k (defBody st) g) : MkK c.P c.w c.K mg base c (k + 1) j y n ks (runN N.length j g) := by
  obtain ⟨f, fd, kws, Fd, h1, h2, b⟩ := F.ex
  exact ⟨f, fd, ps, okN Fd S hn (hb f), h1, h2, b⟩
/-- a promise of nothing -/
theorem fnP_no (F : Fn1 c mg x st) (b : Bnd x x st ps) (hn : ps.length = n) : FnP c.P c.w c.K mg base c k x n (fun _ => .stuck) := by
  obtain ⟨f, fd, Fd, hm⟩ := F.ex
  subst hn
  exact ⟨f, fd, ps, ⟨fun vs H Q E h => h.1, fun A outer s H args us vs Q E _ _ _ _ ⟨_, _, _, _, _, q⟩ => q.elim⟩, hm, Fd.kp, Fd.bindsN b⟩
theorem fnI_no (F : Fn1 c mg x st) (b : Bnd x x st ps) (hn : ps.length = n + 1) : FnI c.P c.w c.K mg base c k x n (fun _ _ => .stuck) := by
  obtain ⟨f, fd, Fd, hm⟩ := F.ex
  exact ⟨f, fd, ps, ⟨fun vs H Q E h => by rw [hn]; exact h.1, fun A outer s H args us vs Q E _ _ _ _ ⟨_, _, _, _, _, _, _, _, _, _, _, _, _, q⟩ => q.elim⟩, hm, Fd.kp, Fd.bindsN b⟩
theorem fnK_no {ks : List Str} (F : FnK1 c mg x st n ks ps) (hn : ps.length = n + ks.length) : FnK c.P c.w c.K mg base c k x n ks (fun _ => .stuck) := by
  obtain ⟨f, fd, kws, Fd, hm, b⟩ := F.ex
  exact ⟨f, fd, ps, ⟨fun vs H Q E h => by rw [hn]; exact h.1, fun A outer s H args us vs Q E _ _ _ _ ⟨_, _, _, _, _, q⟩ => q.elim⟩, hm, Fd.kp, b⟩
end
end DL
end
section
set_option Elab.async false
set_option linter.all false
set_option maxRecDepth 100000
set_option maxHeartbeats 2000000
namespace DL
open PySem PySem.Spec PyProof.Rows L2
/-- what may be tracked at the law's call: the script, frozen, or nothing -/
def scrH (K : PySem.W.Frag) (a : Addr) (vs : List Value) (ns : List Int) : Hp := match K.lookup a with
  | some _ => fun _ => none
  | none => fun b => if b = a then some (.frz { cls := .type "list", data := .seq vs.toArray } (.lst (ns.map V.int))) else none
theorem scrH_at {K : PySem.W.Frag} {a b : Addr} {vs : List Value} {ns : List Int} {u : HO} (h : scrH K a vs ns b = some u) : b = a ∧ K.lookup a = none ∧ u = .frz { cls := .type "list", data := .seq vs.toArray } (.lst (ns.map V.int)) := by
  unfold scrH at h
  cases e : K.lookup a with
  | some o => rw [e] at h; cases h
  | none =>
    rw [e] at h
    by_cases hb : b = a
    · have h' := (if_pos hb).symm.trans h
      cases h'
      exact ⟨hb, rfl, rfl⟩
    · have h' := (if_neg hb).symm.trans h
      cases h'
/-- the law's call, where its promise asks for no guards -/
theorem law_callG {P : Program} {w : World} {K : PySem.W.Frag} {mg mb : Str → Option Value} {k : Nat} {fa a : Addr} {fd : FuncData} {x : Str} {sp : Sp} {s₁ : Shared} {vs : List Value} {ns : List Int}
    (KX : K.In s₁.heap) (hns : s₁.heap.Ns mainGlobals mg) (hb : s₁.heap.Ns builtinsNs mb) (hbb : ∀ x : Str, x ≠ "__name__" → mb x = bootBuiltins x) (hlim : s₁.heap.NoLimit) (hg : s₁.gens = #[])
    (ha : s₁.heap.get? a = some { cls := .type "list", data := .seq vs.toArray }) (hi : IntsAre vs ns) (hl : ns.length ≤ sizeLine) (hr : Room k callerA)
    (F : ∀ base : Heap, FnOkG P w K mg base k fa fd [x] sp) (hbind : ∀ (s : Shared) (u : Value), BindsTo s fd ⟨[u], []⟩ [(x, u)])
    (hsp : ∀ H : Hp, SqL K H a (ns.map V.int) → sp [.ref a] H (fun v _ => v = .bl true) fun _ _ _ => False) :
    codeAny (model P w) callerA (.call (.ref fa) ⟨[.ref a], []⟩) (fun r s' => r = .ok (.ret (.bool true)) ∧ OldK s₁.heap s'.heap ∧ s'.os = s₁.os ∧ AllBare s'.gens) s₁ := by
  have rv := vals_ints hi
  have hok : HOk P w (scrH K a vs ns) s₁.heap := fun b u z => by
    obtain ⟨rfl, _, rfl⟩ := scrH_at z
    exact ⟨ha, by rw [List.length_map]; exact hl, vs, _, rv, ha⟩
  have hS : SqL K (scrH K a vs ns) a (ns.map V.int) := by
    cases e : K.lookup a with
    | none => exact .inl (.inr ⟨_, by unfold scrH; rw [e]; exact if_pos rfl⟩)
    | some o =>
      have e2 := KX a o e
      rw [ha] at e2; cases e2
      exact .inr ⟨_, vs.toArray, _, e, rfl, rfl, rfl, by rw [List.size_toArray, hi.length]; exact hl, by simpa using rv⟩
  have away : ∀ {b : Addr} {o : Obj}, s₁.heap.get? b = some o → o.data ≠ .seq vs.toArray → scrH K a vs ns b = none := fun {b o} e d => by
    cases q : scrH K a vs ns b with
    | none => rfl
    | some u =>
      obtain ⟨rfl, _, _⟩ := scrH_at q
      rw [ha] at e; cases e
      exact absurd rfl d
  have nsK : ∀ {b : Addr} {m : Str → Option Value}, s₁.heap.Ns b m → (hidT s₁.heap (scrH K a vs ns)).Ns b m := fun {b m} ⟨o, es, ep, e, d, r⟩ =>
    ⟨o, es, ep, hidT_get e (away e fun z => by rw [d] at z; cases z), d, r⟩
  have hKb : K.In (hidT s₁.heap (scrH K a vs ns)) := fun b o e => hidT_get (KX b o e) (by
    cases q : scrH K a vs ns b with
    | none => rfl
    | some u =>
      obtain ⟨rfl, e2, _⟩ := scrH_at q
      rw [e] at e2; cases e2)
  have hM : Mod K mg (hidT s₁.heap (scrH K a vs ns)) := ⟨hKb, nsK hns, ⟨mb, nsK hb, hbb⟩, let ⟨mc, h1, h2⟩ := hlim; ⟨mc, nsK h1, h2⟩⟩
  have e0 : Env0 P w K mg (hidT s₁.heap (scrH K a vs ns)) callerA [] s₁ (scrH K a vs ns) :=
    ⟨rfl, hM, fun b o e => of_hidT e, Nat.le_of_eq (hidT_size _ _), trivial, fun b hb => (by cases hb), hok, .of_eq hg⟩
  refine codeAny_mono ((F _).run callerA [] s₁ _ ⟨[.ref a], []⟩ [.ref a] [.ref a] _ _ hr rfl e0 (hbind s₁ (.ref a)) (.cons rfl .nil) (hsp _ hS)) fun r s' h => ?_
  cases r with
  | error e =>
    obtain ⟨_, _, _, _, _, h⟩ := h
    exact absurd h (by simp_all)
  | ok fl =>
    cases fl with
    | next => exact False.elim h
    | brk => exact False.elim h
    | cont => exact False.elim h
    | ret u =>
      obtain ⟨v, H', os, bare, un, hok', r', q⟩ := h
      cases (show v = .bl true from q)
      obtain rfl : u = Value.bool true := r'
      refine ⟨rfl, OldK.of_keep fun b o e => ?_, os, bare⟩
      cases q : scrH K a vs ns b with
      | none => exact un.keep b o e q (fun z => by cases z) (by simp)
      | some u =>
        obtain ⟨rfl, _, rfl⟩ := scrH_at q
        obtain ⟨e2, _⟩ := hok' b _ (un.frzs b _ _ q)
        rw [ha] at e; cases e
        exact e2
end DL
end
section
set_option Elab.async false
set_option linter.all false
set_option maxRecDepth 100000
set_option maxHeartbeats 2000000
namespace DL
open PySem PySem.Spec PyProof.Rows L2
theorem Df.funD {K : PySem.W.Frag} {d : Df} (hc : d.clo = []) (e : fnG K (d.at_ K) = d.val) (c : d.ok K = true) : ∃ fd, FunD K d.name d.qual (defArgs d.st) (defBody d.st) (defScope d.st) [] d.kwd (d.at_ K) fd := by
  obtain ⟨kp, c2⟩ := He.ba c
  unfold fnG at e
  cases q : K.lookup (d.at_ K) with
  | none => rw [q] at c2; cases c2
  | some o =>
    obtain ⟨oc, od, dt, osl⟩ := o
    rw [q] at c2 e
    cases dt with
    | func fd =>
      obtain ⟨n1, n2, n3, n4, n5, n6, n7, n8, n9, n10, n11, n12, n13, n14, n15⟩ := fd
      have e2 : (some (n1, n2, n3, n4, n5, n6, n7.map (·.1), n15) : FnG) = some (d.name, d.qual, defArgs d.st, .stmts (defBody d.st), defScope d.st, mainGlobals, d.clo, builtinsNs) := e
      simp only [Option.some.injEq, Prod.mk.injEq] at e2
      obtain ⟨h1, h2, h3, h4, h5, h6, h7, h8⟩ := e2
      rw [hc] at h7
      have h7' : n7 = [] := List.map_eq_nil_iff.mp h7
      subst h1 h2 h3 h4 h5 h6 h7' h8
      have c3 : (PySem.W.codeIn K n13 d.qual && (He.dflB K n8 [] && He.kwdB K n9 d.kwd)) = true := c2
      obtain ⟨k1, k2⟩ := He.ba c3
      obtain ⟨k3, k4⟩ := He.ba k2
      exact ⟨_, ⟨oc, od, n8, n9, n10, n11, n12, n13, n14, osl, rfl, q, k1, He.dflB_ok k3, He.kwdB_ok k4⟩, kp⟩
    | _ => cases c2
section
variable {ex : List (PySem.W.Frag → Bool)} {fn : List Df} {K : PySem.W.Frag}
theorem SaysK.fact (c : SaysK ex fn K) (i : Nat) {f : PySem.W.Frag → Bool} (h : ex[i]? = some f := by rfl) : f K = true := by
  have c1 := (He.ba (show ((ex.all fun f => f K) && fn.all fun d => d.ok K) = true from congrArg (fun z : AlG => z.1) c)).1
  exact List.all_eq_true.mp c1 f (List.mem_of_getElem? h)
theorem SaysK.def0 (c : SaysK ex fn K) (i : Nat) {d : Df} (h : fn[i]? = some d) : fnG K (d.at_ K) = d.val ∧ d.ok K = true := by
  have c2 := (He.ba (show ((ex.all fun f => f K) && fn.all fun d => d.ok K) = true from congrArg (fun z : AlG => z.1) c)).2
  exact ⟨fnGs_at (congrArg (fun z : AlG => z.2) c) h, List.all_eq_true.mp c2 d (List.mem_of_getElem? h)⟩
theorem SaysK.def_ (c : SaysK ex fn K) (i : Nat) {d : Df} (h : fn[i]? = some d := by rfl) (hc : d.clo = [] := by rfl) : ∃ fd, FunD K d.name d.qual (defArgs d.st) (defBody d.st) (defScope d.st) [] d.kwd (d.at_ K) fd :=
  d.funD hc (c.def0 i h).1 (c.def0 i h).2
end
theorem prB_ok {K : PySem.W.Frag} {C m : Str} (h : prB K C m = true) : PropOf K (He.ga K C) m (He.ma K (He.ga K C) m) (prP K C m) := by
  obtain ⟨h1, h⟩ := He.ba h
  obtain ⟨h2, h⟩ := He.ba h
  obtain ⟨h3, h⟩ := He.ba h
  refine ⟨He.eqO_ok h1, He.eqO_ok h2, of_decide_eq_true h3, ?_⟩
  unfold prP
  split at h
  · rename_i g r e
    rw [e]
    exact ⟨_, rfl⟩
  · cases h
theorem stB_ok {K : PySem.W.Frag} {C m : Str} (h : stB K C m = true) : ClX.CRead K (He.ga K C) (.type "type") ∧ PySem.W.findCls K (.ref (He.ga K C)) (.type "type") m = some (.get (.builtin "staticmethod.__get__") (.ref (stA K C m)) .none (.ref (He.ga K C))) ∧
    ∃ rest, PySem.W.recIn K (stA K C m) "staticmethod" = some (.ref (stP K C m) :: rest) := by
  obtain ⟨h1, h⟩ := He.ba h
  obtain ⟨h2, h⟩ := He.ba h
  obtain ⟨h3, h4⟩ := He.ba h
  refine ⟨⟨h1, He.eqO_ok h2⟩, ?_, ?_⟩
  · split at h3
    · rename_i b p c e
      obtain ⟨e1, e2⟩ := He.ba h3
      have e1 := of_decide_eq_true e1
      have e2 := of_decide_eq_true e2
      subst e1 e2
      unfold stA
      rw [e]
    · cases h3
  · unfold stP
    split at h4
    · rename_i g r e
      rw [e]
      exact ⟨_, rfl⟩
    · cases h4
theorem isiCB_ok {K : PySem.W.Frag} {x : Str} (h : isiCB K x = true) : IsiC K (He.ga K x) := by
  obtain ⟨h1, h⟩ := He.ba h
  obtain ⟨h2, h⟩ := He.ba h
  obtain ⟨h3, h⟩ := He.ba h
  obtain ⟨h4, h⟩ := He.ba h
  obtain ⟨h5, h⟩ := He.ba h
  exact ⟨He.cls_ok h1, He.eqO_ok h2, He.eqO_ok h3, of_decide_eq_true h4, of_decide_eq_true h5, h⟩
theorem excIB_ok {K : PySem.W.Frag} {C : Addr} (h : excIB K C = true) : ExcI K C := by
  obtain ⟨h1, h⟩ := He.ba h
  obtain ⟨h2, h⟩ := He.ba h
  obtain ⟨h3, h⟩ := He.ba h
  obtain ⟨h4, h⟩ := He.ba h
  obtain ⟨h5, h⟩ := He.ba h
  obtain ⟨h6, h⟩ := He.ba h
  obtain ⟨h7, h8⟩ := He.ba h
  exact ⟨h1, He.eqO_ok h2, He.eqO_ok h3, of_decide_eq_true h4, He.eqO_ok h5, He.eqO_ok h6, of_decide_eq_true h7, of_decide_eq_true h8⟩
theorem oexB_ok {K : PySem.W.Frag} {C : Addr} (h : oexB K C = true) : OexC K C := by
  obtain ⟨h1, h⟩ := He.ba h
  obtain ⟨h2, h⟩ := He.ba h
  obtain ⟨h3, h⟩ := He.ba h
  obtain ⟨h4, h5⟩ := He.ba h
  refine ⟨?_, He.eqO_ok h2, of_decide_eq_true h3, of_decide_eq_true h4, h5⟩
  split at h1
  · rename_i t dd cd sl ho
    split at h1
    · rename_i C' bm k0 k1 k2 k3 n k5 hm hs
      obtain ⟨g1, h1⟩ := He.ba h1
      obtain ⟨g2, h1⟩ := He.ba h1
      obtain ⟨g3, h1⟩ := He.ba h1
      obtain ⟨g4, h1⟩ := He.ba h1
      obtain ⟨g5, g6⟩ := He.ba h1
      obtain ⟨nm, bs, mro, ns, qn, hd, sn, sub, ab, col, del⟩ := cd
      dsimp only at hm g4 g5
      have g1 := of_decide_eq_true g1
      have g2 := of_decide_eq_true g2
      have g3 := of_decide_eq_true g3
      have g4 : del = false := by simpa using g4
      subst hm g1 g2 g3 g4 g5
      have hsl : sl = #[k0, k1, k2, k3, some (.builtin "ValueError.__new__"), k5] := by
        obtain ⟨l⟩ := sl
        simp only at hs
        rw [hs]
      subst hsl
      exact ⟨nm, qn, ns, bs, bm, sn, sub, ab, col, dd, k0, k1, k2, k3, k5, ho, g6⟩
    · cases h1
  · cases h1
theorem xi_of {P : Program} {K : PySem.W.Frag} {C : Addr} {d : Df} {body : List Stmt} {fld file : Str} (hc : d.clo = [("__class__" : Str)]) (hq : d.kwd = []) (e : fnG K (d.at_ K) = d.val) (c : d.ok K = true) (h : xiB K C (d.at_ K) fld file = true)
    (hb : defBody d.st = body) (hs : defScope d.st = xScope fld) (hp : ∃ ar, ((defArgs d.st).posonlyargs ++ (defArgs d.st).args).head? = some ar ∧ ar.arg = "self") (hf : ((P.main.file : Str) == file) = true) (ht : (P.main.scope.names.lookup ("super" : Str)).isSome = false) :
    ∃ fd, XI P K C (d.at_ K) body fld fd ∧ fd.params = defArgs d.st ∧ fd.defaults = .none := by
  obtain ⟨kp, c2⟩ := He.ba c
  obtain ⟨h0, h⟩ := He.ba h
  obtain ⟨h1, h⟩ := He.ba h
  obtain ⟨h2, h⟩ := He.ba h
  obtain ⟨h3, h⟩ := He.ba h
  obtain ⟨h4, h⟩ := He.ba h
  obtain ⟨h5, h6⟩ := He.ba h
  unfold fnG at e
  cases q : K.lookup (d.at_ K) with
  | none => rw [q] at c2; cases c2
  | some o =>
    obtain ⟨oc, od, dt, osl⟩ := o
    rw [q] at c2 e h0
    cases dt with
    | func fd =>
      have e2 : (some (fd.name, fd.qualname, fd.params, fd.body, fd.scope, fd.globals, fd.closure.map (·.1), fd.builtins) : FnG) = some (d.name, d.qual, defArgs d.st, .stmts (defBody d.st), defScope d.st, mainGlobals, d.clo, builtinsNs) := e
      simp only [Option.some.injEq, Prod.mk.injEq] at e2
      obtain ⟨e1, e2, e3, e4, e5, e6, e7, e8⟩ := e2
      have c3 : (PySem.W.codeIn K fd.code d.qual && (He.dflB K fd.defaults [] && He.kwdB K fd.kwdefaults d.kwd)) = true := c2
      obtain ⟨k1, k2⟩ := He.ba c3
      obtain ⟨k3, k4⟩ := He.ba k2
      obtain ⟨z1, z2⟩ := He.ba h0
      have hdf : fd.defaults = .none := by
        rcases He.dflB_ok k3 with ⟨_, w⟩ | ⟨w, _⟩
        · exact w
        · exact absurd rfl w
      refine ⟨fd, ⟨⟨_, _, _, q⟩, by rw [e4, hb], by rw [e5, hs], ?_, e6, e8, by rw [e2]; exact k1, by rw [e3]; exact hp, ?_, ht, of_decide_eq_true h1, He.eqO_ok h2, He.eqO_ok h3, of_decide_eq_true h4, oexB_ok h5, He.eqO_ok h6⟩, e3, hdf⟩
      · split at z1
        · rename_i nm cc hcl
          split at z1
          · rename_i cl cld D csl hcc
            have := of_decide_eq_true z1
            subst this
            rw [hcl, hc] at e7
            have e7 : [nm] = [("__class__" : Str)] := e7
            cases e7
            exact ⟨cc, cl, cld, csl, hcl, hcc⟩
          · cases z1
        · cases z1
      · split at z2
        · rename_i cda hcd
          split at z2
          · rename_i c1 c2 vs c3 hl
            split at z2
            · rename_i fl tf hv
              have := of_decide_eq_true z2
              subst this
              exact ⟨cda, c1, c2, vs, c3, fl, tf, hcd, hl, hv, hf⟩
            · cases z2
          · cases z2
        · cases z2
    | _ => cases c2
end DL
end
section
set_option Elab.async false
set_option linter.all false
set_option maxRecDepth 100000
set_option maxHeartbeats 4000000
namespace G
open PySem PySem.Spec PyProof.Rows L2 DL
structure Fx (c : Cfg) (mg : Str → Option Value) : Prop where
  b_bool : mg ("bool" : Str) = none
  b_enumerate : mg ("enumerate" : Str) = none
  b_int : mg ("int" : Str) = none
  b_isinstance : mg ("isinstance" : Str) = none
  b_len : mg ("len" : Str) = none
  b_list : mg ("list" : Str) = none
  b_max : mg ("max" : Str) = none
  b_range : mg ("range" : Str) = none
  b_repr : mg ("repr" : Str) = none
  b_set : mg ("set" : Str) = none
  b_sorted : mg ("sorted" : Str) = none
  b_str : mg ("str" : Str) = none
  b_sum : mg ("sum" : Str) = none
  b_tuple : mg ("tuple" : Str) = none
  c_AT_ONCE : ∃ t, mg ("AT_ONCE" : Str) = some (.str (" := " : Str) t)
  c_AT_THE_END : ∃ t, mg ("AT_THE_END" : Str) = some (.str (" <= " : Str) t)
  c_DIGITS : ∃ t, mg ("DIGITS" : Str) = some (.str ("0123456789" : Str) t)
  c_LETTERS : ∃ t, mg ("LETTERS" : Str) = some (.str ("abcdefghijklmnopqrstuvwxyz" : Str) t)
  c_MOST_AT_ONCE : ∃ t, mg ("MOST_AT_ONCE" : Str) = some (.int 8 t)
  c_MOST_CONSTANT : ∃ t, mg ("MOST_CONSTANT" : Str) = some (.int 9 t)
  c_MOST_CONSTANTS : ∃ t, mg ("MOST_CONSTANTS" : Str) = some (.int 2 t)
  c_MOST_DEEDS : ∃ t, mg ("MOST_DEEDS" : Str) = some (.int 4 t)
  c_MOST_DEPTH : ∃ t, mg ("MOST_DEPTH" : Str) = some (.int 3 t)
  c_MOST_INPUTS : ∃ t, mg ("MOST_INPUTS" : Str) = some (.int 3 t)
  c_MOST_LETTERS : ∃ t, mg ("MOST_LETTERS" : Str) = some (.int 8 t)
  c_MOST_PROCESSES : ∃ t, mg ("MOST_PROCESSES" : Str) = some (.int 5 t)
  c_MOST_VARIABLES : ∃ t, mg ("MOST_VARIABLES" : Str) = some (.int 5 t)
  c_MOST_WAITS : ∃ t, mg ("MOST_WAITS" : Str) = some (.int 4 t)
  c_RESERVED : ∃ t, mg ("RESERVED" : Str) = some (.str ("turn" : Str) t)
  c_SIGNS : ∃ a, mg ("SIGNS" : Str) = some (.ref a) ∧ ∀ H, SqT c.K H a (([("(" : Str), ("=" : Str), ("?" : Str), (":" : Str), (")" : Str)] : List Str).map V.str)
  cl0 : Cls c.K (c.cls 0)
  cl1 : Cls c.K (c.cls 1)
  cl2 : Cls c.K (c.cls 2)
  cl3 : Cls c.K (c.cls 3)
  na0_tree : NoAttr c.K (c.cls 0) ("tree" : Str)
  na1_is_late : NoAttr c.K (c.cls 1) ("is_late" : Str)
  na1_source : NoAttr c.K (c.cls 1) ("source" : Str)
  na1_target : NoAttr c.K (c.cls 1) ("target" : Str)
  na2_done : NoAttr c.K (c.cls 2) ("done" : Str)
  na2_title : NoAttr c.K (c.cls 2) ("title" : Str)
  na2_waited : NoAttr c.K (c.cls 2) ("waited" : Str)
  na3_given : NoAttr c.K (c.cls 3) ("given" : Str)
  na3_line : NoAttr c.K (c.cls 3) ("line" : Str)
  na3_numbers : NoAttr c.K (c.cls 3) ("numbers" : Str)
  na3_titles : NoAttr c.K (c.cls 3) ("titles" : Str)
  na3_words : NoAttr c.K (c.cls 3) ("words" : Str)
  g0 : mg ("Term" : Str) = some (.ref (c.cls 0))
  g1 : mg ("Deed" : Str) = some (.ref (c.cls 1))
  g2 : mg ("Process" : Str) = some (.ref (c.cls 2))
  g3 : mg ("Program" : Str) = some (.ref (c.cls 3))
  g4 : mg ("NoPlace" : Str) = some (.ref (c.cls 4))
  ic0 : IsiC c.K (c.cls 0)
  ic1 : IsiC c.K (c.cls 1)
  ic2 : IsiC c.K (c.cls 2)
  ic3 : IsiC c.K (c.cls 3)
  x4 : ∀ base, XcP c.P c.w c.K mg base c 1 4 "NoPlace" "value"
  exm4 : PySem.W.exmOne c.K (.ref (c.cls 4)) (.ref (c.cls 4)) = some true
  xf4 : ∃ B, mg "TiedError" = some (.ref B) ∧ ∀ k ∈ [4], XfC c.K (c.cls k) ∧ PySem.W.findIn c.K (.ref (c.cls k)) "value" = some none ∧ ExcI c.K (c.cls k) ∧ PySem.W.kitOne c.K (.ref (c.cls k)) (.ref B) = some true
  f_is_whole : Fn1 c mg ("is_whole" : Str) (top 17)
  f_is_number : Fn1 c mg ("is_number" : Str) (top 18)
  f_is_word : Fn1 c mg ("is_word" : Str) (top 19)
  f_is_digit : Fn1 c mg ("is_digit" : Str) (top 20)
  f_are_unlike_words : Fn1 c mg ("are_unlike_words" : Str) (top 21)
  f_ascending_words : Fn1 c mg ("ascending_words" : Str) (top 23)
  f_ascending_numbers : Fn1 c mg ("ascending_numbers" : Str) (top 24)
  f_word_at : Fn1 c mg ("word_at" : Str) (top 29)
  f_plan_at : Fn1 c mg ("plan_at" : Str) (top 30)
  f_leaves_of : Fn1 c mg ("leaves_of" : Str) (top 33)
  f_plan_of : Fn1 c mg ("plan_of" : Str) (top 36)
  f_Term_init : In1 c mg 0 ("Term" : Str) ("Term.__init__" : Str) (meth 37 0)
  f_Term_variables : Mt1 c 0 ("variables" : Str) ("Term.variables" : Str) (meth 37 5)
  f_Term_constants : Mt1 c 0 ("constants" : Str) ("Term.constants" : Str) (meth 37 6)
  f_Term_eq : Mt1 c 0 ("__eq__" : Str) ("Term.__eq__" : Str) (meth 37 12)
  f_deed_parts : Fn1 c mg ("deed_parts" : Str) (top 44)
  f_Deed_init : InK1 c mg 1 ("Deed" : Str) ("Deed.__init__" : Str) (meth 45 0) 2 [("late" : Str)] [("self" : Str), ("variable" : Str), ("term" : Str), ("late" : Str)]
  f_Deed_of : St1 c mg 1 ("Deed" : Str) ("of" : Str) ("Deed.of" : Str) (meth 45 1)
  f_Deed_variable : Pr1 c 1 ("variable" : Str) ("Deed.variable" : Str) (meth 45 2)
  f_Deed_term : Pr1 c 1 ("term" : Str) ("Deed.term" : Str) (meth 45 3)
  f_Deed_late : Pr1 c 1 ("late" : Str) ("Deed.late" : Str) (meth 45 4)
  f_Deed_eq : Mt1 c 1 ("__eq__" : Str) ("Deed.__eq__" : Str) (meth 45 7)
  f_deeds_of : Fn1 c mg ("deeds_of" : Str) (top 46)
  f_Process_init : In1 c mg 2 ("Process" : Str) ("Process.__init__" : Str) (meth 47 0)
  f_Process_name : Pr1 c 2 ("name" : Str) ("Process.name" : Str) (meth 47 1)
  f_Process_reads : Mt1 c 2 ("reads" : Str) ("Process.reads" : Str) (meth 47 5)
  f_Process_writes : Mt1 c 2 ("writes" : Str) ("Process.writes" : Str) (meth 47 6)
  f_Process_constants : Mt1 c 2 ("constants" : Str) ("Process.constants" : Str) (meth 47 8)
  f_Process_variables : Mt1 c 2 ("variables" : Str) ("Process.variables" : Str) (meth 47 9)
  f_Process_at_once : Mt1 c 2 ("at_once" : Str) ("Process.at_once" : Str) (meth 47 10)
  f_Process_eq : Mt1 c 2 ("__eq__" : Str) ("Process.__eq__" : Str) (meth 47 17)
  f_are_processes : Fn1 c mg ("are_processes" : Str) (top 54)
  f_are_inputs : Fn1 c mg ("are_inputs" : Str) (top 55)
  f_all_variables : Fn1 c mg ("all_variables" : Str) (top 56)
  f_all_constants : Fn1 c mg ("all_constants" : Str) (top 57)
  f_first_wrong : Fn1 c mg ("first_wrong" : Str) (top 58)
  f_Program_init : In1 c mg 3 ("Program" : Str) ("Program.__init__" : Str) (meth 59 0)
  f_Program_eq : Mt1 c 3 ("__eq__" : Str) ("Program.__eq__" : Str) (meth 59 12)
  f_Program_places : Mt1 c 3 ("places" : Str) ("Program.places" : Str) (meth 59 16)
  f_is_place : Fn1 c mg ("is_place" : Str) (top 60)
  f_Program_look_at_places : Mt1 c 3 ("look_at_places" : Str) ("Program.look_at_places" : Str) (meth 59 17)
  f_Program_delayed : Mt1 c 3 ("delayed" : Str) ("Program.delayed" : Str) (meth 59 18)
  f_look_at_most : Fn1 c mg ("look_at_most" : Str) (top 82)
  f_is_sole : FnK1 c mg ("is_sole" : Str) (top 92) 1 [("most" : Str)] [("program" : Str), ("most" : Str)]
  f_helps : FnK1 c mg ("helps" : Str) (top 95) 2 [("most" : Str)] [("program" : Str), ("places" : Str), ("most" : Str)]
  f_law_pool : Fn1 c mg ("_law_pool" : Str) (top 97)
  f_law_take : Fn1 c mg ("_law_take" : Str) (top 98)
  f_law_one : Fn1 c mg ("_law_one" : Str) (top 99)
  f_law_turned : Fn1 c mg ("_law_turned" : Str) (top 100)
  f_law_words : Fn1 c mg ("_law_words" : Str) (top 101)
  f_law_tree : Fn1 c mg ("_law_tree" : Str) (top 102)
  f_law_tree_text : Fn1 c mg ("_law_tree_text" : Str) (top 103)
  f_law_deed_text : Fn1 c mg ("_law_deed_text" : Str) (top 104)
  f_law_deeds_drawn : Fn1 c mg ("_law_deeds_drawn" : Str) (top 105)
  f_law_less_at_once : Fn1 c mg ("_law_less_at_once" : Str) (top 107)
  f_law_plain : Fn1 c mg ("_law_plain" : Str) (top 106)
  f_law_names : Fn1 c mg ("_law_names" : Str) (top 108)
  f_law_made_process : Fn1 c mg ("_law_made_process" : Str) (top 109)
  f_law_made : Fn1 c mg ("_law_made" : Str) (top 110)
  f_law_places : Fn1 c mg ("_law_places" : Str) (top 111)
  f_law_refused : Fn1 c mg ("_law_refused" : Str) (top 112)
  f_law : Fn1 c mg ("law" : Str) (top 113)
end G
end
section
set_option Elab.async false
set_option linter.all false
set_option maxRecDepth 100000
set_option maxHeartbeats 4000000
namespace G
open PySem PySem.Spec PyProof.Rows L2 DL
def N_is_whole : List Str := [("value" : Str)]
theorem S_is_whole : FnScope N_is_whole [("value" : Str)] (defScope (top 17)) := ⟨rfl, rfl, rfl, by decide +kernel, rfl, by decide +kernel, by decide +kernel⟩
theorem B_is_whole : Bnd ("is_whole" : Str) ("is_whole" : Str) (top 17) [("value" : Str)] := fun _ _ _ _ _ _ us hl => match us, hl with | [_], _ => rfl
def g_is_whole : M Fl :=
  (sRet (vAnd (vIsi (isiB "int") (eB 0)) (vNot (vIsi (isiB "bool") (eB 0)))))
def m_is_whole : List D → Out := runP N_is_whole.length g_is_whole
theorem ok_is_whole {c : Cfg} {mg : Str → Option Value} {base : Heap} (X : Fx c mg) : FnP c.P c.w c.K mg base c 1 ("is_whole" : Str) 1 m_is_whole := fnP_of X.f_is_whole S_is_whole B_is_whole rfl (fun f cdv A outer s H E hr =>
  (s_one (s_ret (v_and (d_isi (isi_b rfl "int") (d_b (pv 0)) (pe_bltn rfl X.b_int (by decide +kernel) rfl) rfl X.b_isinstance) (v_one (v_not (d_isi (isi_b rfl "bool") (d_b (pv 0)) (pe_bltn rfl X.b_bool (by decide +kernel) rfl) rfl X.b_isinstance)))))))
def N_is_number : List Str := [("value" : Str), ("low" : Str), ("high" : Str)]
theorem S_is_number : FnScope N_is_number [("value" : Str), ("low" : Str), ("high" : Str)] (defScope (top 18)) := ⟨rfl, rfl, rfl, by decide +kernel, rfl, by decide +kernel, by decide +kernel⟩
theorem B_is_number : Bnd ("is_number" : Str) ("is_number" : Str) (top 18) [("value" : Str), ("low" : Str), ("high" : Str)] := fun _ _ _ _ _ _ us hl => match us, hl with | [_, _, _], _ => rfl
def g_is_number : M Fl :=
  (sRet (vAnd (mCall m_is_whole (bd (mCons (eV 0) mNil) fun ds => if ds.length = 1 then rt ds else stuck)) (vCh (fun i j => decide (i ≤ j)) (fun i j => decide (i ≤ j)) (eV 1) (eV 0) (eV 2))))
def m_is_number : List D → Out := runP N_is_number.length g_is_number
theorem ok_is_number {c : Cfg} {mg : Str → Option Value} {base : Heap} (X : Fx c mg) : FnP c.P c.w c.K mg base c 2 ("is_number" : Str) 3 m_is_number := fnP_of X.f_is_number S_is_number B_is_number rfl (fun f cdv A outer s H E hr =>
  (s_one (s_ret (v_and (d_call (ok_is_whole X) rfl (hr.mono (by decide : 1 ≤ 1)) rfl (takes_of rfl rfl rfl rfl) (a_cons (d_v (pv 0)) a_nil)) (v_one (d_chain op_le op_le (d_v (pv 1)) (d_v (pv 0)) (d_v (pv 2))))))))
def N_is_word : List Str := [("value" : Str), ("sign" : Str)]
theorem S_is_word : FnScope N_is_word [("value" : Str)] (defScope (top 19)) := ⟨rfl, rfl, rfl, by decide +kernel, rfl, by decide +kernel, by decide +kernel⟩
theorem B_is_word : Bnd ("is_word" : Str) ("is_word" : Str) (top 19) [("value" : Str)] := fun _ _ _ _ _ _ us hl => match us, hl with | [_], _ => rfl
def g_is_word : M Fl :=
  (sq (sIf (mOr (mNot (mB (vIsi (isiB "str") (eB 0)))) (mNot (mCh (fun i j => decide (i ≤ j)) (fun i j => decide (i ≤ j)) (rt (.int 1)) (m1 rLen (eB 0)) (rt (.int 8))))) (sRet (rt (.bl false))) (rt .nx))
  (sRet (m2 rEq (bd (mLc (bd (eV 0) fun d => opt (itemsA d)) [1] (aName 1) (mB (m2B rNotIn 1 (rt (.str ("abcdefghijklmnopqrstuvwxyz" : Str))))) (eV 1)) fun x => opt (Ent.toD x)) (bd (mLst mNil) fun x => opt (Ent.toD x)))))
def m_is_word : List D → Out := runP N_is_word.length g_is_word
theorem ok_is_word {c : Cfg} {mg : Str → Option Value} {base : Heap} (X : Fx c mg) : FnP c.P c.w c.K mg base c 1 ("is_word" : Str) 1 m_is_word := fnP_of X.f_is_word S_is_word B_is_word rfl (fun f cdv A outer s H E hr =>
  (s_cons (s_if (t_w (w_or (t_not (t_val (d_isi (isi_b rfl "str") (d_b (pv 0)) (pe_bltn rfl X.b_str (by decide +kernel) rfl) rfl X.b_isinstance))) (w_or1 (t_not (t_chain op_le op_le d_int (d_b1 (c_len rfl) rfl X.b_len (by decide +kernel) (d_b (pv 0))) (d_ci X.c_MOST_LETTERS rfl)))))) (s_one (s_ret d_bl)) s_nil)
  (s_one (s_ret (d_cmp (o_eq hr.units rfl) (e_f (d_lc rfl S_is_word.nd (i_seq rfl (d_v (pv 0))) (own := [(("sign" : Str), 1)]) (blkOk_by rfl) (fun _ _ _ _ _ => (gw_name S_is_word.nd rfl (by first | exact .inl rfl | exact .inr rfl) (by decide))) (fun _ _ _ _ _ => (ts_one (t_cmpB (o_notIn hr.units rfl) (pv 1) (f_h (d_cs X.c_LETTERS rfl)) (by with_unfolding_all rfl)))) (fun _ _ _ _ _ => (d_v (pv 1))))) (f_h (e_f (e_lst a_nil))) (nomark _))))))
def N_is_digit : List Str := [("value" : Str)]
theorem S_is_digit : FnScope N_is_digit [("value" : Str)] (defScope (top 20)) := ⟨rfl, rfl, rfl, by decide +kernel, rfl, by decide +kernel, by decide +kernel⟩
theorem B_is_digit : Bnd ("is_digit" : Str) ("is_digit" : Str) (top 20) [("value" : Str)] := fun _ _ _ _ _ _ us hl => match us, hl with | [_], _ => rfl
def g_is_digit : M Fl :=
  (sRet (vAnd (vIsi (isiB "str") (eB 0)) (vAnd (m2 rEq (m1 rLen (eB 0)) (rt (.int 1))) (m2B rIn 0 (rt (.str ("0123456789" : Str)))))))
def m_is_digit : List D → Out := runP N_is_digit.length g_is_digit
theorem ok_is_digit {c : Cfg} {mg : Str → Option Value} {base : Heap} (X : Fx c mg) : FnP c.P c.w c.K mg base c 1 ("is_digit" : Str) 1 m_is_digit := fnP_of X.f_is_digit S_is_digit B_is_digit rfl (fun f cdv A outer s H E hr =>
  (s_one (s_ret (v_and (d_isi (isi_b rfl "str") (d_b (pv 0)) (pe_bltn rfl X.b_str (by decide +kernel) rfl) rfl X.b_isinstance) (v_and (d_cmp (o_eq hr.units rfl) (d_b1 (c_len rfl) rfl X.b_len (by decide +kernel) (d_b (pv 0))) (f_h d_int) (nomark _)) (v_one (d_cmpB (o_in hr.units rfl) (pv 0) (f_h (d_cs X.c_DIGITS rfl)) (by with_unfolding_all rfl))))))))
def N_are_unlike_words : List Str := [("value" : Str), ("low" : Str), ("high" : Str), ("word" : Str)]
theorem S_are_unlike_words : FnScope N_are_unlike_words [("value" : Str), ("low" : Str), ("high" : Str)] (defScope (top 21)) := ⟨rfl, rfl, rfl, by decide +kernel, rfl, by decide +kernel, by decide +kernel⟩
theorem B_are_unlike_words : Bnd ("are_unlike_words" : Str) ("are_unlike_words" : Str) (top 21) [("value" : Str), ("low" : Str), ("high" : Str)] := fun _ _ _ _ _ _ us hl => match us, hl with | [_, _, _], _ => rfl
def g_are_unlike_words : M Fl :=
  (sq (sIf (mOr (mNot (mB (vIsi (isi2 "list" "tuple") (eB 0)))) (mNot (mCh (fun i j => decide (i ≤ j)) (fun i j => decide (i ≤ j)) (eV 1) (m1 rLen (eB 0)) (eV 2)))) (sRet (rt (.bl false))) (rt .nx))
  (sq (sIf (mB (m2 rNe (bd (mLc (bd (eV 0) fun d => opt (itemsA d)) [3] (aName 3) (mNot (mB (mCall m_is_word (bd (mCons (eV 3) mNil) fun ds => if ds.length = 1 then rt ds else stuck)))) (eV 3)) fun x => opt (Ent.toD x)) (bd (mLst mNil) fun x => opt (Ent.toD x)))) (sRet (rt (.bl false))) (rt .nx))
  (sRet (m2 rEq (bd (mSetL (eV 0)) fun l => rt (.int (l.length : Nat))) (m1 rLen (eB 0))))))
def m_are_unlike_words : List D → Out := runP N_are_unlike_words.length g_are_unlike_words
theorem ok_are_unlike_words {c : Cfg} {mg : Str → Option Value} {base : Heap} (X : Fx c mg) : FnP c.P c.w c.K mg base c 2 ("are_unlike_words" : Str) 3 m_are_unlike_words := fnP_of X.f_are_unlike_words S_are_unlike_words B_are_unlike_words rfl (fun f cdv A outer s H E hr =>
  (s_cons (s_if (t_w (w_or (t_not (t_val (d_isi2 rfl (d_b (pv 0)) (pe_bltn rfl X.b_list (by decide +kernel) rfl) (pe_bltn rfl X.b_tuple (by decide +kernel) rfl) rfl X.b_isinstance))) (w_or1 (t_not (t_chain op_le op_le (d_v (pv 1)) (d_b1 (c_len rfl) rfl X.b_len (by decide +kernel) (d_b (pv 0))) (d_v (pv 2))))))) (s_one (s_ret d_bl)) s_nil)
  (s_cons (s_if (t_cmp (o_ne hr.units rfl) (e_f (d_lc rfl S_are_unlike_words.nd (i_seq rfl (d_v (pv 0))) (own := [(("word" : Str), 3)]) (blkOk_by rfl) (fun _ _ _ _ _ => (gw_name S_are_unlike_words.nd rfl (by first | exact .inl rfl | exact .inr rfl) (by decide))) (fun _ _ _ _ _ => (ts_one (t_not (t_val (d_call (ok_is_word X) rfl (hr.mono (by decide : 1 ≤ 1)) rfl DL.takes0 (a_cons (d_v (pv 3)) a_nil)))))) (fun _ _ _ _ _ => (d_v (pv 3))))) (f_h (e_f (e_lst a_nil))) (nomark _)) (s_one (s_ret d_bl)) s_nil)
  (s_one (s_ret (d_cmp (o_eq hr.units rfl) (d_lenK rfl X.b_len (k_set rfl rfl X.b_set (d_v (pv 0)))) (f_h (d_b1 (c_len rfl) rfl X.b_len (by decide +kernel) (d_b (pv 0)))) (nomark _)))))))
def N_ascending_words : List Str := [("words" : Str), ("word" : Str)]
theorem S_ascending_words : FnScope N_ascending_words [("words" : Str)] (defScope (top 23)) := ⟨rfl, rfl, rfl, by decide +kernel, rfl, by decide +kernel, by decide +kernel⟩
theorem B_ascending_words : Bnd ("ascending_words" : Str) ("ascending_words" : Str) (top 23) [("words" : Str)] := fun _ _ _ _ _ _ us hl => match us, hl with | [_], _ => rfl
def g_ascending_words : M Fl :=
  (sRet (bd (bd (mSk (bd (eV 0) fun d => opt (itemsA d)) [1] (aName 1) (rt true) (m1 rToStr (eB 1))) fun l => bd (opt (sortKeys l)) fun ds => rt (Ent.ow ds)) fun x => opt (Ent.toD x)))
def m_ascending_words : List D → Out := runP N_ascending_words.length g_ascending_words
theorem ok_ascending_words {c : Cfg} {mg : Str → Option Value} {base : Heap} (X : Fx c mg) : FnP c.P c.w c.K mg base c 1 ("ascending_words" : Str) 1 m_ascending_words := fnP_of X.f_ascending_words S_ascending_words B_ascending_words rfl (fun f cdv A outer s H E hr =>
  (s_one (s_ret (e_f (e_sortK rfl rfl X.b_sorted (k_sk rfl S_ascending_words.nd (i_seq rfl (d_v (pv 0))) (own := [(("word" : Str), 1)]) (blkOk_by rfl) (fun _ _ _ _ _ => (gw_name S_ascending_words.nd rfl (by first | exact .inl rfl | exact .inr rfl) (by decide))) (fun _ _ _ _ _ => ts_nil) (fun _ _ _ _ _ => (d_t1 c_str rfl X.b_str (by decide +kernel) (d_b (pv 1))))))))))
end G
end
section
set_option Elab.async false
set_option linter.all false
set_option maxRecDepth 100000
set_option maxHeartbeats 4000000
namespace G
open PySem PySem.Spec PyProof.Rows L2 DL
def N_ascending_numbers : List Str := [("numbers" : Str), ("number" : Str)]
theorem S_ascending_numbers : FnScope N_ascending_numbers [("numbers" : Str)] (defScope (top 24)) := ⟨rfl, rfl, rfl, by decide +kernel, rfl, by decide +kernel, by decide +kernel⟩
theorem B_ascending_numbers : Bnd ("ascending_numbers" : Str) ("ascending_numbers" : Str) (top 24) [("numbers" : Str)] := fun _ _ _ _ _ _ us hl => match us, hl with | [_], _ => rfl
def g_ascending_numbers : M Fl :=
  (sRet (bd (bd (mSk (bd (eV 0) fun d => opt (itemsA d)) [1] (aName 1) (rt true) (m1 rToInt (eB 1))) fun l => bd (opt (sortKeys l)) fun ds => rt (Ent.ow ds)) fun x => opt (Ent.toD x)))
def m_ascending_numbers : List D → Out := runP N_ascending_numbers.length g_ascending_numbers
theorem ok_ascending_numbers {c : Cfg} {mg : Str → Option Value} {base : Heap} (X : Fx c mg) : FnP c.P c.w c.K mg base c 1 ("ascending_numbers" : Str) 1 m_ascending_numbers := fnP_of X.f_ascending_numbers S_ascending_numbers B_ascending_numbers rfl (fun f cdv A outer s H E hr =>
  (s_one (s_ret (e_f (e_sortK rfl rfl X.b_sorted (k_sk rfl S_ascending_numbers.nd (i_seq rfl (d_v (pv 0))) (own := [(("number" : Str), 1)]) (blkOk_by rfl) (fun _ _ _ _ _ => (gw_name S_ascending_numbers.nd rfl (by first | exact .inl rfl | exact .inr rfl) (by decide))) (fun _ _ _ _ _ => ts_nil) (fun _ _ _ _ _ => (d_t1 c_int rfl X.b_int (by decide +kernel) (d_b (pv 1))))))))))
def N_word_at : List Str := [("text" : Str), ("at" : Str), ("last" : Str)]
theorem S_word_at : FnScope N_word_at [("text" : Str), ("at" : Str)] (defScope (top 29)) := ⟨rfl, rfl, rfl, by decide +kernel, rfl, by decide +kernel, by decide +kernel⟩
theorem B_word_at : Bnd ("word_at" : Str) ("word_at" : Str) (top 29) [("text" : Str), ("at" : Str)] := fun _ _ _ _ _ _ us hl => match us, hl with | [_, _], _ => rfl
def g_word_at : M Fl :=
  (sq (sSetF 2 (eV 1))
  (sq (sWhile (mAnd (mB (m2B rLt 2 (m1 rLen (eB 0)))) (mB (m2 rIn (m2B rIx 0 (eB 2)) (rt (.str ("abcdefghijklmnopqrstuvwxyz" : Str)))))) (sAug (fun i j => i + j) 2 (rt (.int 1))) 100)
  (sRet (mCut (eV 0) (bd (eV 1) fun d => bd (opt (asI d)) fun i => rt (some i)) (bd (eV 2) fun d => bd (opt (asI d)) fun i => rt (some i))))))
def m_word_at : List D → Out := runP N_word_at.length g_word_at
theorem ok_word_at {c : Cfg} {mg : Str → Option Value} {base : Heap} (X : Fx c mg) : FnP c.P c.w c.K mg base c 1 ("word_at" : Str) 2 m_word_at := fnP_of X.f_word_at S_word_at B_word_at rfl (fun f cdv A outer s H E hr =>
  (s_cons (s_setF S_word_at.nd rfl (by first | exact .inl rfl | exact .inr rfl) (d_v (pv 1)))
  (s_cons (s_while 100 (passes_of rfl) (t_w (w_and (t_cmpB o_lt (pv 2) (f_h (d_b1 (c_len rfl) rfl X.b_len (by decide +kernel) (d_b (pv 0)))) (nomark _)) (w_and1 (t_cmp (o_in hr.units rfl) (d_ixB rfl (pv 0) (d_b (pv 2))) (f_h (d_cs X.c_LETTERS rfl)) (by with_unfolding_all rfl))))) (s_one (s_aug ip_add S_word_at.nd rfl (by first | exact .inl rfl | exact .inr rfl) d_int)))
  (s_one (s_ret (d_cut rfl (d_v (pv 0)) (o_some (d_v (pv 1))) (o_some (d_v (pv 2)))))))))
def N_plan_at : List Str := [("text" : Str), ("at" : Str), ("deep" : Str), ("word" : Str), ("parts" : Str), ("sign" : Str), ("found" : Str), ("part" : Str)]
theorem S_plan_at : FnScope N_plan_at [("text" : Str), ("at" : Str), ("deep" : Str)] (defScope (top 30)) := ⟨rfl, rfl, rfl, by decide +kernel, rfl, by decide +kernel, by decide +kernel⟩
theorem B_plan_at : Bnd ("plan_at" : Str) ("plan_at" : Str) (top 30) [("text" : Str), ("at" : Str), ("deep" : Str)] := fun _ _ _ _ _ _ us hl => match us, hl with | [_, _, _], _ => rfl
def g_plan_at (rec : List D → Out) : M Fl :=
  (sq (sIf (mAnd (mB (m2B rLt 1 (m1 rLen (eB 0)))) (mB (mCall m_is_digit (bd (mCons (m2B rIx 0 (eB 1)) mNil) fun ds => if ds.length = 1 then rt ds else stuck)))) (sRet (mTup (mCons (m1 rToInt (m2B rIx 0 (eB 1))) (mCons (m2B rAdd 1 (rt (.int 1))) mNil)))) (rt .nx))
  (sq (sSetF 3 (mCall m_word_at (bd (mCons (eV 0) (mCons (eV 1) mNil)) fun ds => if ds.length = 2 then rt ds else stuck)))
  (sq (sIf (mB (mCall m_is_word (bd (mCons (eV 3) mNil) fun ds => if ds.length = 1 then rt ds else stuck))) (sRet (mTup (mCons (eV 3) (mCons (m2B rAdd 1 (m1 rLen (eB 3))) mNil)))) (rt .nx))
  (sq (sIf (mOr (mB (m2B rGe 1 (m1 rLen (eB 0)))) (mOr (mB (m2 rNe (m2B rIx 0 (eB 1)) (m2 rIx (rt (.tup (([("(" : Str), ("=" : Str), ("?" : Str), (":" : Str), (")" : Str)] : List Str).map D.str))) (rt (.int 0))))) (mB (m2B rEq 2 (rt (.int 1)))))) (sRet (rt .non)) (rt .nx))
  (sq (sSet 4 (mLst mNil))
  (sq (mFor (bd (mCut (rt (.tup (([("(" : Str), ("=" : Str), ("?" : Str), (":" : Str), (")" : Str)] : List Str).map D.str))) (bd (rt (.int 1)) fun d => bd (opt (asI d)) fun i => rt (some i)) (rt none)) fun d => opt (itemsA d)) (aName 5) (sq (sSetF 6 (mCall rec (bd (mCons (eV 0) (mCons (m2B rAdd 1 (rt (.int 1))) (mCons (m2B rSub 2 (rt (.int 1))) mNil))) fun ds => if ds.length = 3 then rt ds else stuck)))
  (sq (sIf (mOr (mB (m2B rIsN 6 (rt .non))) (mOr (mB (m2 rGe (m2B rIx 6 (rt (.int 1))) (m1 rLen (eB 0)))) (mB (m2 rNe (m2B rIx 0 (m2B rIx 6 (rt (.int 1)))) (eB 5))))) (sRet (rt .non)) (rt .nx))
  (sq (sAsg (aTup 2 (aCons (aName 7) (aCons (aName 1) aNil))) (eV 6))
  (sDrop (mLM 4 fAppend (mCons (eV 7) mNil)))))))
  (sRet (mTup (mCons (m1 rToTup (eB 4)) (mCons (m2B rAdd 1 (rt (.int 1))) mNil))))))))))
def m_plan_at : Nat → List D → Out
  | 0 => fun _ => .stuck
  | n + 1 => runP N_plan_at.length (g_plan_at (m_plan_at n))
theorem ok_plan_at {c : Cfg} {mg : Str → Option Value} {base : Heap} (X : Fx c mg) : ∀ n, FnP c.P c.w c.K mg base c (1 + n) ("plan_at" : Str) 3 (m_plan_at n)
  | 0 => fnP_no X.f_plan_at B_plan_at rfl
  | n + 1 => by
    have ih := ok_plan_at (base := base) X n
    have step : ∀ rec, FnP c.P c.w c.K mg base c (1 + n) ("plan_at" : Str) 3 rec → FnP c.P c.w c.K mg base c (1 + n + 1) ("plan_at" : Str) 3 (runP N_plan_at.length (g_plan_at rec)) := fun rec ih => fnP_of X.f_plan_at S_plan_at B_plan_at rfl (fun f cdv A outer s H E hr =>
  (s_cons (s_if (t_w (w_and (t_cmpB o_lt (pv 1) (f_h (d_b1 (c_len rfl) rfl X.b_len (by decide +kernel) (d_b (pv 0)))) (nomark _)) (w_and1 (t_val (d_call (ok_is_digit X) rfl (hr.mono (by omega)) rfl (takes_of rfl rfl rfl rfl) (a_cons (d_ixB rfl (pv 0) (d_b (pv 1))) a_nil)))))) (s_one (s_ret (d_tup (a_cons (d_t1 c_int rfl X.b_int (by decide +kernel) (f_h (d_ixB rfl (pv 0) (d_b (pv 1))))) (a_cons (d_opB (o_add rfl) (pv 1) (f_h d_int)) a_nil))))) s_nil)
  (s_cons (s_setF S_plan_at.nd rfl (by first | exact .inl rfl | exact .inr rfl) (d_call (ok_word_at X) rfl (hr.mono (by omega)) rfl (takes_of rfl rfl rfl rfl) (a_cons (d_v (pv 0)) (a_cons (d_v (pv 1)) a_nil))))
  (s_cons (s_if (t_val (d_call (ok_is_word X) rfl (hr.mono (by omega)) rfl (takes_of rfl rfl rfl rfl) (a_cons (d_v (pv 3)) a_nil))) (s_one (s_ret (d_tup (a_cons (d_v (pv 3)) (a_cons (d_opB (o_add rfl) (pv 1) (f_h (d_b1 (c_len rfl) rfl X.b_len (by decide +kernel) (d_b (pv 3))))) a_nil))))) s_nil)
  (s_cons (s_if (t_w (w_or (t_cmpB o_ge (pv 1) (f_h (d_b1 (c_len rfl) rfl X.b_len (by decide +kernel) (d_b (pv 0)))) (nomark _)) (w_or (t_cmp (o_ne hr.units rfl) (d_ixB rfl (pv 0) (d_b (pv 1))) (f_h (d_ix rfl (d_ct (X.c_SIGNS) rfl) (f_h d_int))) (nomark _)) (w_or1 (t_cmpB (o_eq hr.units rfl) (pv 2) (f_h d_int) (nomark _)))))) (s_one (s_ret d_non)) s_nil)
  (s_cons (s_set S_plan_at.nd rfl (by first | exact .inl rfl | exact .inr rfl) (e_lst a_nil))
  (s_cons (s_for (passes_of rfl) rfl (i_seq rfl (d_cut rfl (d_ct (X.c_SIGNS) rfl) (o_some d_int) o_none)) (g_name S_plan_at.nd rfl (by first | exact .inl rfl | exact .inr rfl)) (s_cons (s_setF S_plan_at.nd rfl (by first | exact .inl rfl | exact .inr rfl) (d_call ih rfl (hr.mono (by omega)) rfl (takes_of rfl rfl rfl rfl) (a_cons (d_v (pv 0)) (a_cons (d_opB (o_add rfl) (pv 1) (f_h d_int)) (a_cons (d_opB o_sub (pv 2) (f_h d_int)) a_nil)))))
  (s_cons (s_if (t_w (w_or (t_cmpB o_isN (pv 6) (f_h d_non) (nomark _)) (w_or (t_cmp o_ge (d_ixB rfl (pv 6) (f_h d_int)) (f_h (d_b1 (c_len rfl) rfl X.b_len (by decide +kernel) (d_b (pv 0)))) (nomark _)) (w_or1 (t_cmp (o_ne hr.units rfl) (d_ixB rfl (pv 0) (f_h (d_ixB rfl (pv 6) (f_h d_int)))) (d_b (pv 5)) (nomark _)))))) (s_one (s_ret d_non)) s_nil)
  (s_cons (s_asg (d_v (pv 6)) (g_tup rfl rfl (g_cons (g_name S_plan_at.nd rfl (by first | exact .inl rfl | exact .inr rfl)) (g_cons (g_name S_plan_at.nd rfl (by first | exact .inl rfl | exact .inr rfl)) g_nil))) (ner := (ne_tup (ne_cons ne_name (ne_cons ne_name ne_nil)))))
  (s_one (s_expr (d_lm PySem.F.slot_list_append PySem.F.type_list_append mt_append lm_append (pv 4) (a_cons (d_v (pv 7)) a_nil))))))) ne_name)
  (s_one (s_ret (d_tup (a_cons (d_t1 (c_tuple rfl) rfl X.b_tuple (by decide +kernel) (d_b (pv 4))) (a_cons (d_opB (o_add rfl) (pv 1) (f_h d_int)) a_nil))))))))))))
    exact step _ ih
def N_leaves_of : List Str := [("plan" : Str), ("found" : Str), ("part" : Str)]
theorem S_leaves_of : FnScope N_leaves_of [("plan" : Str)] (defScope (top 33)) := ⟨rfl, rfl, rfl, by decide +kernel, rfl, by decide +kernel, by decide +kernel⟩
theorem B_leaves_of : Bnd ("leaves_of" : Str) ("leaves_of" : Str) (top 33) [("plan" : Str)] := fun _ _ _ _ _ _ us hl => match us, hl with | [_], _ => rfl
def g_leaves_of (rec : List D → Out) : M Fl :=
  (sq (sIf (mNot (mB (vIsi (isiB "tuple") (eB 0)))) (sRet (bd (mLst (mCons (eV 0) mNil)) fun x => opt (Ent.toD x))) (rt .nx))
  (sq (sSet 1 (mLst mNil))
  (sq (mFor (bd (eV 0) fun d => opt (itemsA d)) (aName 2) (sSetF 1 (m2B rAdd 1 (mCall rec (bd (mCons (eV 2) mNil) fun ds => if ds.length = 1 then rt ds else stuck)))))
  (sRet (eV 1)))))
def m_leaves_of : Nat → List D → Out
  | 0 => fun _ => .stuck
  | n + 1 => runP N_leaves_of.length (g_leaves_of (m_leaves_of n))
theorem ok_leaves_of {c : Cfg} {mg : Str → Option Value} {base : Heap} (X : Fx c mg) : ∀ n, FnP c.P c.w c.K mg base c (0 + n) ("leaves_of" : Str) 1 (m_leaves_of n)
  | 0 => fnP_no X.f_leaves_of B_leaves_of rfl
  | n + 1 => by
    have ih := ok_leaves_of (base := base) X n
    have step : ∀ rec, FnP c.P c.w c.K mg base c (0 + n) ("leaves_of" : Str) 1 rec → FnP c.P c.w c.K mg base c (0 + n + 1) ("leaves_of" : Str) 1 (runP N_leaves_of.length (g_leaves_of rec)) := fun rec ih => fnP_of X.f_leaves_of S_leaves_of B_leaves_of rfl (fun f cdv A outer s H E hr =>
  (s_cons (s_if (t_not (t_val (d_isi (isi_b rfl "tuple") (d_b (pv 0)) (pe_bltn rfl X.b_tuple (by decide +kernel) rfl) rfl X.b_isinstance))) (s_one (s_ret (e_f (e_lst (a_cons (d_v (pv 0)) a_nil))))) s_nil)
  (s_cons (s_set S_leaves_of.nd rfl (by first | exact .inl rfl | exact .inr rfl) (e_lst a_nil))
  (s_cons (s_for (passes_of rfl) rfl (i_seq rfl (d_v (pv 0))) (g_name S_leaves_of.nd rfl (by first | exact .inl rfl | exact .inr rfl)) (s_one (s_setF S_leaves_of.nd rfl (by first | exact .inl rfl | exact .inr rfl) (d_opB (o_add rfl) (pv 1) (f_h (d_call ih rfl (hr.mono (by omega)) rfl (takes_of rfl rfl rfl rfl) (a_cons (d_v (pv 2)) a_nil)))))) ne_name)
  (s_one (s_ret (d_v (pv 1))))))))
    exact step _ ih
def N_plan_of : List Str := [("value" : Str), ("found" : Str)]
theorem S_plan_of : FnScope N_plan_of [("value" : Str)] (defScope (top 36)) := ⟨rfl, rfl, rfl, by decide +kernel, rfl, by decide +kernel, by decide +kernel⟩
theorem B_plan_of : Bnd ("plan_of" : Str) ("plan_of" : Str) (top 36) [("value" : Str)] := fun _ _ _ _ _ _ us hl => match us, hl with | [_], _ => rfl
def g_plan_of : M Fl :=
  (sq (sIf (mB (vIsi (isiO 0) (eB 0))) (sRet (m1 (fldOf 0 ("tree" : Str)) (eV 0))) (rt .nx))
  (sq (sIf (mB (mCall m_is_number (bd (mCons (eV 0) (mCons (rt (.int 0)) (mCons (rt (.int 9)) mNil))) fun ds => if ds.length = 3 then rt ds else stuck))) (sRet (eV 0)) (rt .nx))
  (sq (sIf (mNot (mB (vIsi (isiB "str") (eB 0)))) (sRet (rt .non)) (rt .nx))
  (sq (sSetF 1 (mCall (m_plan_at 4) (bd (mCons (eV 0) (mCons (rt (.int 0)) (mCons (rt (.int 3)) mNil))) fun ds => if ds.length = 3 then rt ds else stuck)))
  (sq (sIf (mOr (mB (m2B rIsN 1 (rt .non))) (mB (m2 rNe (m2B rIx 1 (rt (.int 1))) (m1 rLen (eB 0))))) (sRet (rt .non)) (rt .nx))
  (sRet (m2B rIx 1 (rt (.int 0)))))))))
def m_plan_of : List D → Out := runP N_plan_of.length g_plan_of
theorem ok_plan_of {c : Cfg} {mg : Str → Option Value} {base : Heap} (X : Fx c mg) : FnP c.P c.w c.K mg base c 6 ("plan_of" : Str) 1 m_plan_of := fnP_of X.f_plan_of S_plan_of B_plan_of rfl (fun f cdv A outer s H E hr =>
  (s_cons (s_if (t_val (d_isi (isi_o rfl X.ic0) (d_b (pv 0)) (pe_glob rfl X.g0 rfl) rfl X.b_isinstance)) (s_one (s_ret (d_fld X.cl0 X.na0_tree rfl (d_v (pv 0))))) s_nil)
  (s_cons (s_if (t_val (d_call (ok_is_number X) rfl (hr.mono (by decide : 2 ≤ 5)) rfl (takes_of rfl rfl rfl rfl) (a_cons (d_v (pv 0)) (a_cons d_int (a_cons (d_ci X.c_MOST_CONSTANT rfl) a_nil))))) (s_one (s_ret (d_v (pv 0)))) s_nil)
  (s_cons (s_if (t_not (t_val (d_isi (isi_b rfl "str") (d_b (pv 0)) (pe_bltn rfl X.b_str (by decide +kernel) rfl) rfl X.b_isinstance))) (s_one (s_ret d_non)) s_nil)
  (s_cons (s_setF S_plan_of.nd rfl (by first | exact .inl rfl | exact .inr rfl) (d_call (ok_plan_at X 4) rfl (hr.mono (by decide : 5 ≤ 5)) rfl (takes_of rfl rfl rfl rfl) (a_cons (d_v (pv 0)) (a_cons d_int (a_cons (d_ci X.c_MOST_DEPTH rfl) a_nil)))))
  (s_cons (s_if (t_w (w_or (t_cmpB o_isN (pv 1) (f_h d_non) (nomark _)) (w_or1 (t_cmp (o_ne hr.units rfl) (d_ixB rfl (pv 1) (f_h d_int)) (f_h (d_b1 (c_len rfl) rfl X.b_len (by decide +kernel) (d_b (pv 0)))) (nomark _))))) (s_one (s_ret d_non)) s_nil)
  (s_one (s_ret (d_ixB rfl (pv 1) (f_h d_int))))))))))
def N_Term_init : List Str := [("self" : Str), ("value" : Str), ("plan" : Str)]
theorem S_Term_init : FnScope N_Term_init [("self" : Str), ("value" : Str)] (defScope (meth 37 0)) := ⟨rfl, rfl, rfl, by decide +kernel, rfl, by decide +kernel, by decide +kernel⟩
theorem B_Term_init : Bnd ("__init__" : Str) ("Term.__init__" : Str) (meth 37 0) [("self" : Str), ("value" : Str)] := fun _ _ _ _ _ _ us hl => match us, hl with | [_, _], _ => rfl
def g_Term_init : M Fl :=
  (sq (sSetF 2 (mCall m_plan_of (bd (mCons (eV 1) mNil) fun ds => if ds.length = 1 then rt ds else stuck)))
  (sq (sIf (mB (m2B rIsN 2 (rt .non))) stuck (rt .nx))
  (sFld 0 0 ("tree" : Str) (eV 2))))
def m_Term_init : List D → OutF := runN N_Term_init.length 0 g_Term_init
theorem ok_Term_init {c : Cfg} {mg : Str → Option Value} {base : Heap} (X : Fx c mg) : DL.MkP c.P c.w c.K mg base c 7 0 ("Term" : Str) 1 m_Term_init := mkP_of X.f_Term_init S_Term_init B_Term_init rfl (fun f cdv A outer s H E hr =>
  (s_cons (s_setF S_Term_init.nd rfl (by first | exact .inl rfl | exact .inr rfl) (d_call (ok_plan_of X) rfl (hr.mono (by decide : 6 ≤ 6)) rfl (takes_of rfl rfl rfl rfl) (a_cons (d_v (pv 1)) a_nil)))
  (s_cons (s_if (t_cmpB o_isN (pv 2) (f_h d_non) (nomark _)) (s_one s_stuck) s_nil)
  (s_one (s_fld X.cl0 X.na0_tree (pv 0) (d_v (pv 2)))))))
end G
end
section
set_option Elab.async false
set_option linter.all false
set_option maxRecDepth 100000
set_option maxHeartbeats 4000000
namespace G
open PySem PySem.Spec PyProof.Rows L2 DL
def N_Term_variables : List Str := [("self" : Str), ("leaf" : Str)]
theorem S_Term_variables : FnScope N_Term_variables [("self" : Str)] (defScope (meth 37 5)) := ⟨rfl, rfl, rfl, by decide +kernel, rfl, by decide +kernel, by decide +kernel⟩
theorem B_Term_variables : Bnd ("variables" : Str) ("Term.variables" : Str) (meth 37 5) [("self" : Str)] := fun _ _ _ _ _ _ us hl => match us, hl with | [_], _ => rfl
def g_Term_variables : M Fl :=
  (sRet (mCall m_ascending_words (bd (mCons (bd (mLc (bd (mCall (m_leaves_of 4) (bd (mCons (m1 (fldOf 0 ("tree" : Str)) (eV 0)) mNil) fun ds => if ds.length = 1 then rt ds else stuck)) fun d => opt (itemsA d)) [1] (aName 1) (mB (vIsi (isiB "str") (eB 1))) (eV 1)) fun x => opt (Ent.toD x)) mNil) fun ds => if ds.length = 1 then rt ds else stuck)))
def m_Term_variables : List D → Out := runP N_Term_variables.length g_Term_variables
theorem ok_Term_variables {c : Cfg} {mg : Str → Option Value} {base : Heap} (X : Fx c mg) : MtP c.P c.w c.K mg base c 5 0 ("variables" : Str) 0 m_Term_variables := mtP_of X.f_Term_variables S_Term_variables B_Term_variables rfl (fun f cdv A outer s H E hr =>
  (s_one (s_ret (d_call (ok_ascending_words X) rfl (hr.mono (by decide : 1 ≤ 4)) rfl (takes_of rfl rfl rfl rfl) (a_cons (e_f (d_lc rfl S_Term_variables.nd (i_seq rfl (d_call (ok_leaves_of X 4) rfl (hr.mono (by decide : 4 ≤ 4)) rfl (takes_of rfl rfl rfl rfl) (a_cons (d_fld X.cl0 X.na0_tree rfl (d_v (pv 0))) a_nil))) (own := [(("leaf" : Str), 1)]) (blkOk_by rfl) (fun _ _ _ _ _ => (gw_name S_Term_variables.nd rfl (by first | exact .inl rfl | exact .inr rfl) (by decide))) (fun _ _ _ _ _ => (ts_one (t_val (d_isi (isi_b rfl "str") (d_b (pv 1)) (pe_bltn rfl X.b_str (by decide +kernel) rfl) rfl X.b_isinstance)))) (fun _ _ _ _ _ => (d_v (pv 1))))) a_nil)))))
def N_Term_constants : List Str := [("self" : Str), ("leaf" : Str)]
theorem S_Term_constants : FnScope N_Term_constants [("self" : Str)] (defScope (meth 37 6)) := ⟨rfl, rfl, rfl, by decide +kernel, rfl, by decide +kernel, by decide +kernel⟩
theorem B_Term_constants : Bnd ("constants" : Str) ("Term.constants" : Str) (meth 37 6) [("self" : Str)] := fun _ _ _ _ _ _ us hl => match us, hl with | [_], _ => rfl
def g_Term_constants : M Fl :=
  (sRet (mCall m_ascending_numbers (bd (mCons (bd (mLc (bd (mCall (m_leaves_of 4) (bd (mCons (m1 (fldOf 0 ("tree" : Str)) (eV 0)) mNil) fun ds => if ds.length = 1 then rt ds else stuck)) fun d => opt (itemsA d)) [1] (aName 1) (mB (mCall m_is_whole (bd (mCons (eV 1) mNil) fun ds => if ds.length = 1 then rt ds else stuck))) (eV 1)) fun x => opt (Ent.toD x)) mNil) fun ds => if ds.length = 1 then rt ds else stuck)))
def m_Term_constants : List D → Out := runP N_Term_constants.length g_Term_constants
theorem ok_Term_constants {c : Cfg} {mg : Str → Option Value} {base : Heap} (X : Fx c mg) : MtP c.P c.w c.K mg base c 5 0 ("constants" : Str) 0 m_Term_constants := mtP_of X.f_Term_constants S_Term_constants B_Term_constants rfl (fun f cdv A outer s H E hr =>
  (s_one (s_ret (d_call (ok_ascending_numbers X) rfl (hr.mono (by decide : 1 ≤ 4)) rfl (takes_of rfl rfl rfl rfl) (a_cons (e_f (d_lc rfl S_Term_constants.nd (i_seq rfl (d_call (ok_leaves_of X 4) rfl (hr.mono (by decide : 4 ≤ 4)) rfl (takes_of rfl rfl rfl rfl) (a_cons (d_fld X.cl0 X.na0_tree rfl (d_v (pv 0))) a_nil))) (own := [(("leaf" : Str), 1)]) (blkOk_by rfl) (fun _ _ _ _ _ => (gw_name S_Term_constants.nd rfl (by first | exact .inl rfl | exact .inr rfl) (by decide))) (fun _ _ _ _ _ => (ts_one (t_val (d_call (ok_is_whole X) rfl (hr.mono (by decide : 1 ≤ 4)) rfl DL.takes0 (a_cons (d_v (pv 1)) a_nil))))) (fun _ _ _ _ _ => (d_v (pv 1))))) a_nil)))))
def N_Term_eq : List Str := [("self" : Str), ("other" : Str)]
theorem S_Term_eq : FnScope N_Term_eq [("self" : Str), ("other" : Str)] (defScope (meth 37 12)) := ⟨rfl, rfl, rfl, by decide +kernel, rfl, by decide +kernel, by decide +kernel⟩
theorem B_Term_eq : Bnd ("__eq__" : Str) ("Term.__eq__" : Str) (meth 37 12) [("self" : Str), ("other" : Str)] := fun _ _ _ _ _ _ us hl => match us, hl with | [_, _], _ => rfl
def g_Term_eq : M Fl :=
  (sRet (vAnd (vIsi (isiO 0) (eB 1)) (m2 rEq (m1 (fldOf 0 ("tree" : Str)) (eV 0)) (m1 (fldOf 0 ("tree" : Str)) (eV 1)))))
def m_Term_eq : List D → Out := runP N_Term_eq.length g_Term_eq
theorem eq_Term_eq {c : Cfg} {mg : Str → Option Value} {base : Heap} (X : Fx c mg) : EqP c.P c.w c.K mg base c 1 0 m_Term_eq := eqP_of X.f_Term_eq S_Term_eq B_Term_eq rfl (fun f cdv A outer s H E hr =>
  (s_one (s_ret (v_and (d_isi (isi_o rfl X.ic0) (d_b (pv 1)) (pe_glob rfl X.g0 rfl) rfl X.b_isinstance) (v_one (d_cmp (o_eq hr.units rfl) (d_fld X.cl0 X.na0_tree rfl (d_v (pv 0))) (f_h (d_fld X.cl0 X.na0_tree rfl (d_v (pv 1)))) (nomark _)))))))
def N_deed_parts : List Str := [("text" : Str), ("sign" : Str), ("late" : Str), ("parts" : Str)]
theorem S_deed_parts : FnScope N_deed_parts [("text" : Str)] (defScope (top 44)) := ⟨rfl, rfl, rfl, by decide +kernel, rfl, by decide +kernel, by decide +kernel⟩
theorem B_deed_parts : Bnd ("deed_parts" : Str) ("deed_parts" : Str) (top 44) [("text" : Str)] := fun _ _ _ _ _ _ us hl => match us, hl with | [_], _ => rfl
def g_deed_parts : M Fl :=
  (sq (sIf (mNot (mB (vIsi (isiB "str") (eB 0)))) (sRet (rt .non)) (rt .nx))
  (sq (mFor (bd (mTup (mCons (mTup (mCons (rt (.str (" := " : Str))) (mCons (rt (.bl false)) mNil))) (mCons (mTup (mCons (rt (.str (" <= " : Str))) (mCons (rt (.bl true)) mNil))) mNil))) fun d => opt (itemsA d)) (aTup 2 (aCons (aName 1) (aCons (aName 2) aNil))) (sq (sSetF 3 (mBM D.isStr fSplit (eV 0) (mCons (eV 1) mNil)))
  (sIf (mAnd (mB (m2 rEq (m1 rLen (eB 3)) (rt (.int 2)))) (mAnd (mB (mCall m_is_word (bd (mCons (m2B rIx 3 (rt (.int 0))) mNil) fun ds => if ds.length = 1 then rt ds else stuck))) (mB (m2 rIsNotN (mCall m_plan_of (bd (mCons (m2B rIx 3 (rt (.int 1))) mNil) fun ds => if ds.length = 1 then rt ds else stuck)) (rt .non))))) (sRet (mTup (mCons (m2B rIx 3 (rt (.int 0))) (mCons (m2B rIx 3 (rt (.int 1))) (mCons (eV 2) mNil))))) (rt .nx))))
  (sRet (rt .non))))
def m_deed_parts : List D → Out := runP N_deed_parts.length g_deed_parts
theorem ok_deed_parts {c : Cfg} {mg : Str → Option Value} {base : Heap} (X : Fx c mg) : FnP c.P c.w c.K mg base c 7 ("deed_parts" : Str) 1 m_deed_parts := fnP_of X.f_deed_parts S_deed_parts B_deed_parts rfl (fun f cdv A outer s H E hr =>
  (s_cons (s_if (t_not (t_val (d_isi (isi_b rfl "str") (d_b (pv 0)) (pe_bltn rfl X.b_str (by decide +kernel) rfl) rfl X.b_isinstance))) (s_one (s_ret d_non)) s_nil)
  (s_cons (s_for (passes_of rfl) rfl (i_seq rfl (d_tup (a_cons (d_tup (a_cons (d_cs X.c_AT_ONCE rfl) (a_cons d_bl a_nil))) (a_cons (d_tup (a_cons (d_cs X.c_AT_THE_END rfl) (a_cons d_bl a_nil))) a_nil)))) (g_tup rfl rfl (g_cons (g_name S_deed_parts.nd rfl (by first | exact .inl rfl | exact .inr rfl)) (g_cons (g_name S_deed_parts.nd rfl (by first | exact .inl rfl | exact .inr rfl)) g_nil))) (s_cons (s_setF S_deed_parts.nd rfl (by first | exact .inl rfl | exact .inr rfl) (d_bm PySem.F.plainAttrs_str PySem.F.slot_str_split PySem.F.type_str_split mt_split rf_split ty_str (d_v (pv 0)) (a_cons (d_v (pv 1)) a_nil)))
  (s_one (s_if (t_w (w_and (t_cmp (o_eq hr.units rfl) (d_b1 (c_len rfl) rfl X.b_len (by decide +kernel) (d_b (pv 3))) (f_h d_int) (nomark _)) (w_and (t_val (d_call (ok_is_word X) rfl (hr.mono (by decide : 1 ≤ 6)) rfl (takes_of rfl rfl rfl rfl) (a_cons (d_ixB rfl (pv 3) (f_h d_int)) a_nil))) (w_and1 (t_cmp o_notN (d_call (ok_plan_of X) rfl (hr.mono (by decide : 6 ≤ 6)) rfl (takes_of rfl rfl rfl rfl) (a_cons (d_ixB rfl (pv 3) (f_h d_int)) a_nil)) (f_h d_non) (nomark _)))))) (s_one (s_ret (d_tup (a_cons (d_ixB rfl (pv 3) (f_h d_int)) (a_cons (d_ixB rfl (pv 3) (f_h d_int)) (a_cons (d_v (pv 2)) a_nil)))))) s_nil))) (ne_tup (ne_cons ne_name (ne_cons ne_name ne_nil))))
  (s_one (s_ret d_non)))))
def N_Deed_init : List Str := [("self" : Str), ("variable" : Str), ("term" : Str), ("late" : Str)]
theorem S_Deed_init : FnScope N_Deed_init [("self" : Str), ("variable" : Str), ("term" : Str), ("late" : Str)] (defScope (meth 45 0)) := ⟨rfl, rfl, rfl, by decide +kernel, rfl, by decide +kernel, by decide +kernel⟩
def g_Deed_init : M Fl :=
  (sq (sIf (mNot (mB (mCall m_is_word (bd (mCons (eV 1) mNil) fun ds => if ds.length = 1 then rt ds else stuck)))) stuck (rt .nx))
  (sq (sIf (mB (m2 rIsN (mCall m_plan_of (bd (mCons (eV 2) mNil) fun ds => if ds.length = 1 then rt ds else stuck)) (rt .non))) stuck (rt .nx))
  (sq (sIf (mNot (mB (vIsi (isiB "bool") (eB 3)))) stuck (rt .nx))
  (sq (sFld 1 0 ("target" : Str) (eV 1))
  (sq (sFld 1 0 ("source" : Str) (mMake 0 1 m_Term_init (mCons (eV 2) mNil)))
  (sFld 1 0 ("is_late" : Str) (eV 3)))))))
def m_Deed_init : List D → OutF := runN N_Deed_init.length 1 g_Deed_init
theorem ok_Deed_init {c : Cfg} {mg : Str → Option Value} {base : Heap} (X : Fx c mg) : MkK c.P c.w c.K mg base c 9 1 ("Deed" : Str) 2 [("late" : Str)] m_Deed_init := mkK_of X.f_Deed_init S_Deed_init rfl (fun f cdv A outer s H E hr =>
  (s_cons (s_if (t_not (t_val (d_call (ok_is_word X) rfl (hr.mono (by decide : 1 ≤ 8)) rfl (takes_of rfl rfl rfl rfl) (a_cons (d_v (pv 1)) a_nil)))) (s_one s_stuck) s_nil)
  (s_cons (s_if (t_cmp o_isN (d_call (ok_plan_of X) rfl (hr.mono (by decide : 6 ≤ 8)) rfl (takes_of rfl rfl rfl rfl) (a_cons (d_v (pv 2)) a_nil)) (f_h d_non) (nomark _)) (s_one s_stuck) s_nil)
  (s_cons (s_if (t_not (t_val (d_isi (isi_b rfl "bool") (d_b (pv 3)) (pe_bltn rfl X.b_bool (by decide +kernel) rfl) rfl X.b_isinstance))) (s_one s_stuck) s_nil)
  (s_cons (s_fld X.cl1 X.na1_target (pv 0) (d_v (pv 1)))
  (s_cons (s_fld X.cl1 X.na1_source (pv 0) (d_make (ok_Term_init X) (hr.mono (by decide : 8 ≤ 8)) rfl (takes_of rfl rfl rfl rfl) (a_cons (d_v (pv 2)) a_nil)))
  (s_one (s_fld X.cl1 X.na1_is_late (pv 0) (d_v (pv 3))))))))))
def N_Deed_of : List Str := [("text" : Str), ("parts" : Str), ("variable" : Str), ("term" : Str), ("late" : Str)]
theorem S_Deed_of : FnScope N_Deed_of [("text" : Str)] (defScope (meth 45 1)) := ⟨rfl, rfl, rfl, by decide +kernel, rfl, by decide +kernel, by decide +kernel⟩
theorem B_Deed_of : Bnd ("of" : Str) ("Deed.of" : Str) (meth 45 1) [("text" : Str)] := fun _ _ _ _ _ _ us hl => match us, hl with | [_], _ => rfl
def g_Deed_of : M Fl :=
  (sq (sSetF 1 (mCall m_deed_parts (bd (mCons (eV 0) mNil) fun ds => if ds.length = 1 then rt ds else stuck)))
  (sq (sIf (mB (m2B rIsN 1 (rt .non))) stuck (rt .nx))
  (sq (sAsg (aTup 3 (aCons (aName 2) (aCons (aName 3) (aCons (aName 4) aNil)))) (eV 1))
  (sRet (bd (both 2 ([("late" : Str)] : List Str).length (mCons (eV 2) (mCons (eV 3) mNil)) (mCons (eV 4) mNil)) fun ds => liftF 1 (m_Deed_init ds))))))
def m_Deed_of : List D → Out := runP N_Deed_of.length g_Deed_of
theorem ok_Deed_of {c : Cfg} {mg : Str → Option Value} {base : Heap} (X : Fx c mg) : StP c.P c.w c.K mg base c 11 1 ("Deed" : Str) ("of" : Str) 1 m_Deed_of := stP_of X.f_Deed_of S_Deed_of B_Deed_of rfl (fun f cdv A outer s H E hr =>
  (s_cons (s_setF S_Deed_of.nd rfl (by first | exact .inl rfl | exact .inr rfl) (d_call (ok_deed_parts X) rfl (hr.mono (by decide : 7 ≤ 10)) rfl (takes_of rfl rfl rfl rfl) (a_cons (d_v (pv 0)) a_nil)))
  (s_cons (s_if (t_cmpB o_isN (pv 1) (f_h d_non) (nomark _)) (s_one s_stuck) s_nil)
  (s_cons (s_asg (d_v (pv 1)) (g_tup rfl rfl (g_cons (g_name S_Deed_of.nd rfl (by first | exact .inl rfl | exact .inr rfl)) (g_cons (g_name S_Deed_of.nd rfl (by first | exact .inl rfl | exact .inr rfl)) (g_cons (g_name S_Deed_of.nd rfl (by first | exact .inl rfl | exact .inr rfl)) g_nil)))) (ner := (ne_tup (ne_cons ne_name (ne_cons ne_name (ne_cons ne_name ne_nil))))))
  (s_one (s_ret (d_makeK (ok_Deed_init X) (hr.mono (by decide : 10 ≤ 10)) rfl (takes_of rfl rfl rfl rfl) (a_cons (d_v (pv 2)) (a_cons (d_v (pv 3)) a_nil)) (k_cons (d_v (pv 4)) k_nil))))))))
end G
end
section
set_option Elab.async false
set_option linter.all false
set_option maxRecDepth 100000
set_option maxHeartbeats 4000000
namespace G
open PySem PySem.Spec PyProof.Rows L2 DL
def N_Deed_variable : List Str := [("self" : Str)]
theorem S_Deed_variable : FnScope N_Deed_variable [("self" : Str)] (defScope (meth 45 2)) := ⟨rfl, rfl, rfl, by decide +kernel, rfl, by decide +kernel, by decide +kernel⟩
theorem B_Deed_variable : Bnd ("variable" : Str) ("Deed.variable" : Str) (meth 45 2) [("self" : Str)] := fun _ _ _ _ _ _ us hl => match us, hl with | [_], _ => rfl
def g_Deed_variable : M Fl :=
  (sRet (m1 (fldOf 1 ("target" : Str)) (eV 0)))
def m_Deed_variable : List D → Out := runP N_Deed_variable.length g_Deed_variable
theorem ok_Deed_variable {c : Cfg} {mg : Str → Option Value} {base : Heap} (X : Fx c mg) : PrP c.P c.w c.K mg base c 1 1 ("variable" : Str) m_Deed_variable := prP_of X.f_Deed_variable S_Deed_variable B_Deed_variable rfl (fun f cdv A outer s H E hr =>
  (s_one (s_ret (d_fld X.cl1 X.na1_target rfl (d_v (pv 0))))))
def N_Deed_term : List Str := [("self" : Str)]
theorem S_Deed_term : FnScope N_Deed_term [("self" : Str)] (defScope (meth 45 3)) := ⟨rfl, rfl, rfl, by decide +kernel, rfl, by decide +kernel, by decide +kernel⟩
theorem B_Deed_term : Bnd ("term" : Str) ("Deed.term" : Str) (meth 45 3) [("self" : Str)] := fun _ _ _ _ _ _ us hl => match us, hl with | [_], _ => rfl
def g_Deed_term : M Fl :=
  (sRet (m1 (fldOf 1 ("source" : Str)) (eV 0)))
def m_Deed_term : List D → Out := runP N_Deed_term.length g_Deed_term
theorem ok_Deed_term {c : Cfg} {mg : Str → Option Value} {base : Heap} (X : Fx c mg) : PrP c.P c.w c.K mg base c 1 1 ("term" : Str) m_Deed_term := prP_of X.f_Deed_term S_Deed_term B_Deed_term rfl (fun f cdv A outer s H E hr =>
  (s_one (s_ret (d_fld X.cl1 X.na1_source rfl (d_v (pv 0))))))
def N_Deed_late : List Str := [("self" : Str)]
theorem S_Deed_late : FnScope N_Deed_late [("self" : Str)] (defScope (meth 45 4)) := ⟨rfl, rfl, rfl, by decide +kernel, rfl, by decide +kernel, by decide +kernel⟩
theorem B_Deed_late : Bnd ("late" : Str) ("Deed.late" : Str) (meth 45 4) [("self" : Str)] := fun _ _ _ _ _ _ us hl => match us, hl with | [_], _ => rfl
def g_Deed_late : M Fl :=
  (sRet (m1 (fldOf 1 ("is_late" : Str)) (eV 0)))
def m_Deed_late : List D → Out := runP N_Deed_late.length g_Deed_late
theorem ok_Deed_late {c : Cfg} {mg : Str → Option Value} {base : Heap} (X : Fx c mg) : PrP c.P c.w c.K mg base c 1 1 ("late" : Str) m_Deed_late := prP_of X.f_Deed_late S_Deed_late B_Deed_late rfl (fun f cdv A outer s H E hr =>
  (s_one (s_ret (d_fld X.cl1 X.na1_is_late rfl (d_v (pv 0))))))
def N_Deed_eq : List Str := [("self" : Str), ("other" : Str)]
theorem S_Deed_eq : FnScope N_Deed_eq [("self" : Str), ("other" : Str)] (defScope (meth 45 7)) := ⟨rfl, rfl, rfl, by decide +kernel, rfl, by decide +kernel, by decide +kernel⟩
theorem B_Deed_eq : Bnd ("__eq__" : Str) ("Deed.__eq__" : Str) (meth 45 7) [("self" : Str), ("other" : Str)] := fun _ _ _ _ _ _ us hl => match us, hl with | [_, _], _ => rfl
def g_Deed_eq : M Fl :=
  (sq (sIf (mNot (mB (vIsi (isiO 1) (eB 1)))) (sRet (rt (.bl false))) (rt .nx))
  (sRet (vAnd (m2 rEq (m1 (fldOf 1 ("target" : Str)) (eV 0)) (m1 (fldOf 1 ("target" : Str)) (eV 1))) (vAnd (m2 rEq (m1 (fldOf 1 ("is_late" : Str)) (eV 0)) (m1 (fldOf 1 ("is_late" : Str)) (eV 1))) (m2 (rEqO 0 m_Term_eq) (m1 (fldOf 1 ("source" : Str)) (eV 0)) (m1 (fldOf 1 ("source" : Str)) (eV 1)))))))
def m_Deed_eq : List D → Out := runP N_Deed_eq.length g_Deed_eq
theorem eq_Deed_eq {c : Cfg} {mg : Str → Option Value} {base : Heap} (X : Fx c mg) : EqP c.P c.w c.K mg base c 2 1 m_Deed_eq := eqP_of X.f_Deed_eq S_Deed_eq B_Deed_eq rfl (fun f cdv A outer s H E hr =>
  (s_cons (s_if (t_not (t_val (d_isi (isi_o rfl X.ic1) (d_b (pv 1)) (pe_glob rfl X.g1 rfl) rfl X.b_isinstance))) (s_one (s_ret d_bl)) s_nil)
  (s_one (s_ret (v_and (d_cmp (o_eq hr.units rfl) (d_fld X.cl1 X.na1_target rfl (d_v (pv 0))) (f_h (d_fld X.cl1 X.na1_target rfl (d_v (pv 1)))) (nomark _)) (v_and (d_cmp (o_eq hr.units rfl) (d_fld X.cl1 X.na1_is_late rfl (d_v (pv 0))) (f_h (d_fld X.cl1 X.na1_is_late rfl (d_v (pv 1)))) (nomark _)) (v_one (d_cmp (o_eqO (eq_Term_eq X) (hr.mono (by decide : 1 ≤ 1))) (d_fld X.cl1 X.na1_source rfl (d_v (pv 0))) (f_h (d_fld X.cl1 X.na1_source rfl (d_v (pv 1)))) (nomark _)))))))))
def N_deeds_of : List Str := [("values" : Str), ("found" : Str), ("value" : Str)]
theorem S_deeds_of : FnScope N_deeds_of [("values" : Str)] (defScope (top 46)) := ⟨rfl, rfl, rfl, by decide +kernel, rfl, by decide +kernel, by decide +kernel⟩
theorem B_deeds_of : Bnd ("deeds_of" : Str) ("deeds_of" : Str) (top 46) [("values" : Str)] := fun _ _ _ _ _ _ us hl => match us, hl with | [_], _ => rfl
def g_deeds_of : M Fl :=
  (sq (sIf (mOr (mNot (mB (vIsi (isi2 "list" "tuple") (eB 0)))) (mNot (mCh (fun i j => decide (i ≤ j)) (fun i j => decide (i ≤ j)) (rt (.int 1)) (m1 rLen (eB 0)) (rt (.int 4))))) (sRet (rt .non)) (rt .nx))
  (sq (sSet 1 (mLst mNil))
  (sq (mFor (bd (eV 0) fun d => opt (itemsA d)) (aName 2) (sq (sIf (mAnd (mNot (mB (vIsi (isiO 1) (eB 2)))) (mB (m2 rIsN (mCall m_deed_parts (bd (mCons (eV 2) mNil) fun ds => if ds.length = 1 then rt ds else stuck)) (rt .non)))) (sRet (rt .non)) (rt .nx))
  (sDrop (mLM 1 fAppend (mCons (mIf (mB (vIsi (isiO 1) (eB 2))) (eV 2) (mCall m_Deed_of (bd (mCons (eV 2) mNil) fun ds => if ds.length = 1 then rt ds else stuck))) mNil)))))
  (sRet (eV 1)))))
def m_deeds_of : List D → Out := runP N_deeds_of.length g_deeds_of
theorem ok_deeds_of {c : Cfg} {mg : Str → Option Value} {base : Heap} (X : Fx c mg) : FnP c.P c.w c.K mg base c 12 ("deeds_of" : Str) 1 m_deeds_of := fnP_of X.f_deeds_of S_deeds_of B_deeds_of rfl (fun f cdv A outer s H E hr =>
  (s_cons (s_if (t_w (w_or (t_not (t_val (d_isi2 rfl (d_b (pv 0)) (pe_bltn rfl X.b_list (by decide +kernel) rfl) (pe_bltn rfl X.b_tuple (by decide +kernel) rfl) rfl X.b_isinstance))) (w_or1 (t_not (t_chain op_le op_le d_int (d_b1 (c_len rfl) rfl X.b_len (by decide +kernel) (d_b (pv 0))) (d_ci X.c_MOST_DEEDS rfl)))))) (s_one (s_ret d_non)) s_nil)
  (s_cons (s_set S_deeds_of.nd rfl (by first | exact .inl rfl | exact .inr rfl) (e_lst a_nil))
  (s_cons (s_for (passes_of rfl) rfl (i_seq rfl (d_v (pv 0))) (g_name S_deeds_of.nd rfl (by first | exact .inl rfl | exact .inr rfl)) (s_cons (s_if (t_w (w_and (t_not (t_val (d_isi (isi_o rfl X.ic1) (d_b (pv 2)) (pe_glob rfl X.g1 rfl) rfl X.b_isinstance))) (w_and1 (t_cmp o_isN (d_call (ok_deed_parts X) rfl (hr.mono (by decide : 7 ≤ 11)) rfl (takes_of rfl rfl rfl rfl) (a_cons (d_v (pv 2)) a_nil)) (f_h d_non) (nomark _))))) (s_one (s_ret d_non)) s_nil)
  (s_one (s_expr (d_lm PySem.F.slot_list_append PySem.F.type_list_append mt_append lm_append (pv 1) (a_cons (d_if (t_val (d_isi (isi_o rfl X.ic1) (d_b (pv 2)) (pe_glob rfl X.g1 rfl) rfl X.b_isinstance)) (d_v (pv 2)) (d_static (ok_Deed_of X) (hr.mono (by decide : 11 ≤ 11)) (takes_of rfl rfl rfl rfl) rfl (a_cons (d_v (pv 2)) a_nil))) a_nil))))) ne_name)
  (s_one (s_ret (d_v (pv 1))))))))
def N_Process_init : List Str := [("self" : Str), ("name" : Str), ("waits" : Str), ("deeds" : Str), ("done" : Str)]
theorem S_Process_init : FnScope N_Process_init [("self" : Str), ("name" : Str), ("waits" : Str), ("deeds" : Str)] (defScope (meth 47 0)) := ⟨rfl, rfl, rfl, by decide +kernel, rfl, by decide +kernel, by decide +kernel⟩
theorem B_Process_init : Bnd ("__init__" : Str) ("Process.__init__" : Str) (meth 47 0) [("self" : Str), ("name" : Str), ("waits" : Str), ("deeds" : Str)] := fun _ _ _ _ _ _ us hl => match us, hl with | [_, _, _, _], _ => rfl
def g_Process_init : M Fl :=
  (sq (sIf (mOr (mNot (mB (mCall m_is_word (bd (mCons (eV 1) mNil) fun ds => if ds.length = 1 then rt ds else stuck)))) (mB (m2B rEq 1 (rt (.str ("turn" : Str)))))) stuck (rt .nx))
  (sq (sIf (mNot (mB (mCall m_are_unlike_words (bd (mCons (eV 2) (mCons (rt (.int 1)) (mCons (rt (.int 4)) mNil))) fun ds => if ds.length = 3 then rt ds else stuck)))) stuck (rt .nx))
  (sq (sSetF 4 (mCall m_deeds_of (bd (mCons (eV 3) mNil) fun ds => if ds.length = 1 then rt ds else stuck)))
  (sq (sIf (mB (m2B rIsN 4 (rt .non))) stuck (rt .nx))
  (sq (sFld 2 0 ("title" : Str) (eV 1))
  (sq (sFld 2 0 ("waited" : Str) (bd (m1l rToList (eB 2)) fun x => opt (Ent.toD x)))
  (sFld 2 0 ("done" : Str) (eV 4))))))))
def m_Process_init : List D → OutF := runN N_Process_init.length 2 g_Process_init
theorem ok_Process_init {c : Cfg} {mg : Str → Option Value} {base : Heap} (X : Fx c mg) : DL.MkP c.P c.w c.K mg base c 13 2 ("Process" : Str) 3 m_Process_init := mkP_of X.f_Process_init S_Process_init B_Process_init rfl (fun f cdv A outer s H E hr =>
  (s_cons (s_if (t_w (w_or (t_not (t_val (d_call (ok_is_word X) rfl (hr.mono (by decide : 1 ≤ 12)) rfl (takes_of rfl rfl rfl rfl) (a_cons (d_v (pv 1)) a_nil)))) (w_or1 (t_cmpB (o_eq hr.units rfl) (pv 1) (f_h (d_cs X.c_RESERVED rfl)) (nomark _))))) (s_one s_stuck) s_nil)
  (s_cons (s_if (t_not (t_val (d_call (ok_are_unlike_words X) rfl (hr.mono (by decide : 2 ≤ 12)) rfl (takes_of rfl rfl rfl rfl) (a_cons (d_v (pv 2)) (a_cons d_int (a_cons (d_ci X.c_MOST_WAITS rfl) a_nil)))))) (s_one s_stuck) s_nil)
  (s_cons (s_setF S_Process_init.nd rfl (by first | exact .inl rfl | exact .inr rfl) (d_call (ok_deeds_of X) rfl (hr.mono (by decide : 12 ≤ 12)) rfl (takes_of rfl rfl rfl rfl) (a_cons (d_v (pv 3)) a_nil)))
  (s_cons (s_if (t_cmpB o_isN (pv 4) (f_h d_non) (nomark _)) (s_one s_stuck) s_nil)
  (s_cons (s_fld X.cl2 X.na2_title (pv 0) (d_v (pv 1)))
  (s_cons (s_fld X.cl2 X.na2_waited (pv 0) (e_f (e_t1 (c_list rfl) rfl X.b_list (by decide +kernel) (d_b (pv 2)))))
  (s_one (s_fld X.cl2 X.na2_done (pv 0) (d_v (pv 4)))))))))))
end G
end
section
set_option Elab.async false
set_option linter.all false
set_option maxRecDepth 100000
set_option maxHeartbeats 4000000
namespace G
open PySem PySem.Spec PyProof.Rows L2 DL
def N_Process_name : List Str := [("self" : Str)]
theorem S_Process_name : FnScope N_Process_name [("self" : Str)] (defScope (meth 47 1)) := ⟨rfl, rfl, rfl, by decide +kernel, rfl, by decide +kernel, by decide +kernel⟩
theorem B_Process_name : Bnd ("name" : Str) ("Process.name" : Str) (meth 47 1) [("self" : Str)] := fun _ _ _ _ _ _ us hl => match us, hl with | [_], _ => rfl
def g_Process_name : M Fl :=
  (sRet (m1 (fldOf 2 ("title" : Str)) (eV 0)))
def m_Process_name : List D → Out := runP N_Process_name.length g_Process_name
theorem ok_Process_name {c : Cfg} {mg : Str → Option Value} {base : Heap} (X : Fx c mg) : PrP c.P c.w c.K mg base c 1 2 ("name" : Str) m_Process_name := prP_of X.f_Process_name S_Process_name B_Process_name rfl (fun f cdv A outer s H E hr =>
  (s_one (s_ret (d_fld X.cl2 X.na2_title rfl (d_v (pv 0))))))
def N_Process_reads : List Str := [("self" : Str), ("deed" : Str), ("word" : Str)]
theorem S_Process_reads : FnScope N_Process_reads [("self" : Str)] (defScope (meth 47 5)) := ⟨rfl, rfl, rfl, by decide +kernel, rfl, by decide +kernel, by decide +kernel⟩
theorem B_Process_reads : Bnd ("reads" : Str) ("Process.reads" : Str) (meth 47 5) [("self" : Str)] := fun _ _ _ _ _ _ us hl => match us, hl with | [_], _ => rfl
def g_Process_reads : M Fl :=
  (sRet (mCall m_ascending_words (bd (mCons (bd (mLc2 (bd (m1 (fldOf 2 ("done" : Str)) (eV 0)) fun d => opt (itemsA d)) [1, 2] (aName 1) (rt true) (bd (mMeth0 0 ("variables" : Str) m_Term_variables (mProp 1 m_Deed_term (eV 1))) fun d => opt (itemsA d)) [2] (aName 2) (rt true) (eV 2)) fun x => opt (Ent.toD x)) mNil) fun ds => if ds.length = 1 then rt ds else stuck)))
def m_Process_reads : List D → Out := runP N_Process_reads.length g_Process_reads
theorem ok_Process_reads {c : Cfg} {mg : Str → Option Value} {base : Heap} (X : Fx c mg) : MtP c.P c.w c.K mg base c 6 2 ("reads" : Str) 0 m_Process_reads := mtP_of X.f_Process_reads S_Process_reads B_Process_reads rfl (fun f cdv A outer s H E hr =>
  (s_one (s_ret (d_call (ok_ascending_words X) rfl (hr.mono (by decide : 1 ≤ 5)) rfl (takes_of rfl rfl rfl rfl) (a_cons (e_f (d_lc2 rfl S_Process_reads.nd (i_seq rfl (d_fld X.cl2 X.na2_done rfl (d_v (pv 0)))) (own := [(("deed" : Str), 1), (("word" : Str), 2)]) (vs1 := [2]) (blkOk_by rfl) (by decide) (fun _ _ _ _ _ => (gw_name S_Process_reads.nd rfl (by first | exact .inl rfl | exact .inr rfl) (by decide))) (fun _ _ _ _ _ => ts_nil) (fun _ _ _ _ _ => (i_seq rfl (d_meth0 (ok_Term_variables X) (hr.mono (by decide : 5 ≤ 5)) DL.takes0 (d_prop (ok_Deed_term X) (hr.mono (by decide : 2 ≤ 5)) (d_v (pv 1)))))) (fun _ _ _ _ _ => (gw_name S_Process_reads.nd rfl (by first | exact .inl rfl | exact .inr rfl) (by decide))) (fun _ _ _ _ _ => ts_nil) (fun _ _ _ _ _ => (d_v (pv 2))))) a_nil)))))
def N_Process_writes : List Str := [("self" : Str), ("deed" : Str)]
theorem S_Process_writes : FnScope N_Process_writes [("self" : Str)] (defScope (meth 47 6)) := ⟨rfl, rfl, rfl, by decide +kernel, rfl, by decide +kernel, by decide +kernel⟩
theorem B_Process_writes : Bnd ("writes" : Str) ("Process.writes" : Str) (meth 47 6) [("self" : Str)] := fun _ _ _ _ _ _ us hl => match us, hl with | [_], _ => rfl
def g_Process_writes : M Fl :=
  (sRet (mCall m_ascending_words (bd (mCons (bd (mLc (bd (m1 (fldOf 2 ("done" : Str)) (eV 0)) fun d => opt (itemsA d)) [1] (aName 1) (rt true) (mProp 1 m_Deed_variable (eV 1))) fun x => opt (Ent.toD x)) mNil) fun ds => if ds.length = 1 then rt ds else stuck)))
def m_Process_writes : List D → Out := runP N_Process_writes.length g_Process_writes
theorem ok_Process_writes {c : Cfg} {mg : Str → Option Value} {base : Heap} (X : Fx c mg) : MtP c.P c.w c.K mg base c 3 2 ("writes" : Str) 0 m_Process_writes := mtP_of X.f_Process_writes S_Process_writes B_Process_writes rfl (fun f cdv A outer s H E hr =>
  (s_one (s_ret (d_call (ok_ascending_words X) rfl (hr.mono (by decide : 1 ≤ 2)) rfl (takes_of rfl rfl rfl rfl) (a_cons (e_f (d_lc rfl S_Process_writes.nd (i_seq rfl (d_fld X.cl2 X.na2_done rfl (d_v (pv 0)))) (own := [(("deed" : Str), 1)]) (blkOk_by rfl) (fun _ _ _ _ _ => (gw_name S_Process_writes.nd rfl (by first | exact .inl rfl | exact .inr rfl) (by decide))) (fun _ _ _ _ _ => ts_nil) (fun _ _ _ _ _ => (d_prop (ok_Deed_variable X) (hr.mono (by decide : 2 ≤ 2)) (d_v (pv 1)))))) a_nil)))))
def N_Process_constants : List Str := [("self" : Str), ("deed" : Str), ("number" : Str)]
theorem S_Process_constants : FnScope N_Process_constants [("self" : Str)] (defScope (meth 47 8)) := ⟨rfl, rfl, rfl, by decide +kernel, rfl, by decide +kernel, by decide +kernel⟩
theorem B_Process_constants : Bnd ("constants" : Str) ("Process.constants" : Str) (meth 47 8) [("self" : Str)] := fun _ _ _ _ _ _ us hl => match us, hl with | [_], _ => rfl
def g_Process_constants : M Fl :=
  (sRet (mCall m_ascending_numbers (bd (mCons (bd (mLc2 (bd (m1 (fldOf 2 ("done" : Str)) (eV 0)) fun d => opt (itemsA d)) [1, 2] (aName 1) (rt true) (bd (mMeth0 0 ("constants" : Str) m_Term_constants (mProp 1 m_Deed_term (eV 1))) fun d => opt (itemsA d)) [2] (aName 2) (rt true) (eV 2)) fun x => opt (Ent.toD x)) mNil) fun ds => if ds.length = 1 then rt ds else stuck)))
def m_Process_constants : List D → Out := runP N_Process_constants.length g_Process_constants
theorem ok_Process_constants {c : Cfg} {mg : Str → Option Value} {base : Heap} (X : Fx c mg) : MtP c.P c.w c.K mg base c 6 2 ("constants" : Str) 0 m_Process_constants := mtP_of X.f_Process_constants S_Process_constants B_Process_constants rfl (fun f cdv A outer s H E hr =>
  (s_one (s_ret (d_call (ok_ascending_numbers X) rfl (hr.mono (by decide : 1 ≤ 5)) rfl (takes_of rfl rfl rfl rfl) (a_cons (e_f (d_lc2 rfl S_Process_constants.nd (i_seq rfl (d_fld X.cl2 X.na2_done rfl (d_v (pv 0)))) (own := [(("deed" : Str), 1), (("number" : Str), 2)]) (vs1 := [2]) (blkOk_by rfl) (by decide) (fun _ _ _ _ _ => (gw_name S_Process_constants.nd rfl (by first | exact .inl rfl | exact .inr rfl) (by decide))) (fun _ _ _ _ _ => ts_nil) (fun _ _ _ _ _ => (i_seq rfl (d_meth0 (ok_Term_constants X) (hr.mono (by decide : 5 ≤ 5)) DL.takes0 (d_prop (ok_Deed_term X) (hr.mono (by decide : 2 ≤ 5)) (d_v (pv 1)))))) (fun _ _ _ _ _ => (gw_name S_Process_constants.nd rfl (by first | exact .inl rfl | exact .inr rfl) (by decide))) (fun _ _ _ _ _ => ts_nil) (fun _ _ _ _ _ => (d_v (pv 2))))) a_nil)))))
def N_Process_variables : List Str := [("self" : Str)]
theorem S_Process_variables : FnScope N_Process_variables [("self" : Str)] (defScope (meth 47 9)) := ⟨rfl, rfl, rfl, by decide +kernel, rfl, by decide +kernel, by decide +kernel⟩
theorem B_Process_variables : Bnd ("variables" : Str) ("Process.variables" : Str) (meth 47 9) [("self" : Str)] := fun _ _ _ _ _ _ us hl => match us, hl with | [_], _ => rfl
def g_Process_variables : M Fl :=
  (sRet (mCall m_ascending_words (bd (mCons (m2 rAdd (m2 rAdd (m1 (fldOf 2 ("waited" : Str)) (eV 0)) (mMeth0 2 ("reads" : Str) m_Process_reads (eV 0))) (mMeth0 2 ("writes" : Str) m_Process_writes (eV 0))) mNil) fun ds => if ds.length = 1 then rt ds else stuck)))
def m_Process_variables : List D → Out := runP N_Process_variables.length g_Process_variables
theorem ok_Process_variables {c : Cfg} {mg : Str → Option Value} {base : Heap} (X : Fx c mg) : MtP c.P c.w c.K mg base c 7 2 ("variables" : Str) 0 m_Process_variables := mtP_of X.f_Process_variables S_Process_variables B_Process_variables rfl (fun f cdv A outer s H E hr =>
  (s_one (s_ret (d_call (ok_ascending_words X) rfl (hr.mono (by decide : 1 ≤ 6)) rfl (takes_of rfl rfl rfl rfl) (a_cons (d_op (o_add rfl) (d_op (o_add rfl) (d_fld X.cl2 X.na2_waited rfl (d_v (pv 0))) (f_h (d_meth0 (ok_Process_reads X) (hr.mono (by decide : 6 ≤ 6)) (takes_of rfl rfl rfl rfl) (d_v (pv 0))))) (f_h (d_meth0 (ok_Process_writes X) (hr.mono (by decide : 3 ≤ 6)) (takes_of rfl rfl rfl rfl) (d_v (pv 0))))) a_nil)))))
def N_Process_at_once : List Str := [("self" : Str), ("index" : Str), ("deed" : Str)]
theorem S_Process_at_once : FnScope N_Process_at_once [("self" : Str)] (defScope (meth 47 10)) := ⟨rfl, rfl, rfl, by decide +kernel, rfl, by decide +kernel, by decide +kernel⟩
theorem B_Process_at_once : Bnd ("at_once" : Str) ("Process.at_once" : Str) (meth 47 10) [("self" : Str)] := fun _ _ _ _ _ _ us hl => match us, hl with | [_], _ => rfl
def g_Process_at_once : M Fl :=
  (sRet (bd (mLc (bd (m1 (fldOf 2 ("done" : Str)) (eV 0)) fun d => bd (opt (items d)) fun l => rt (enumD l)) [1, 2] (aTup 2 (aCons (aName 1) (aCons (aName 2) aNil))) (mNot (mB (mProp 1 m_Deed_late (eV 2)))) (eV 1)) fun x => opt (Ent.toD x)))
def m_Process_at_once : List D → Out := runP N_Process_at_once.length g_Process_at_once
theorem ok_Process_at_once {c : Cfg} {mg : Str → Option Value} {base : Heap} (X : Fx c mg) : MtP c.P c.w c.K mg base c 3 2 ("at_once" : Str) 0 m_Process_at_once := mtP_of X.f_Process_at_once S_Process_at_once B_Process_at_once rfl (fun f cdv A outer s H E hr =>
  (s_one (s_ret (e_f (d_lc rfl S_Process_at_once.nd (i_enum rfl X.b_enumerate (d_fld X.cl2 X.na2_done rfl (d_v (pv 0)))) (own := [(("index" : Str), 1), (("deed" : Str), 2)]) (blkOk_by rfl) (fun _ _ _ _ _ => (gw_tup rfl rfl (gw_cons (gw_name S_Process_at_once.nd rfl (by first | exact .inl rfl | exact .inr rfl) (by decide)) (gw_cons (gw_name S_Process_at_once.nd rfl (by first | exact .inl rfl | exact .inr rfl) (by decide)) gw_nil)))) (fun _ _ _ _ _ => (ts_one (t_not (t_val (d_prop (ok_Deed_late X) (hr.mono (by decide : 2 ≤ 2)) (d_v (pv 2))))))) (fun _ _ _ _ _ => (d_v (pv 1))))))))
end G
end
section
set_option Elab.async false
set_option linter.all false
set_option maxRecDepth 100000
set_option maxHeartbeats 4000000
namespace G
open PySem PySem.Spec PyProof.Rows L2 DL
def N_Process_eq : List Str := [("self" : Str), ("other" : Str)]
theorem S_Process_eq : FnScope N_Process_eq [("self" : Str), ("other" : Str)] (defScope (meth 47 17)) := ⟨rfl, rfl, rfl, by decide +kernel, rfl, by decide +kernel, by decide +kernel⟩
theorem B_Process_eq : Bnd ("__eq__" : Str) ("Process.__eq__" : Str) (meth 47 17) [("self" : Str), ("other" : Str)] := fun _ _ _ _ _ _ us hl => match us, hl with | [_, _], _ => rfl
def g_Process_eq : M Fl :=
  (sq (sIf (mNot (mB (vIsi (isiO 2) (eB 1)))) (sRet (rt (.bl false))) (rt .nx))
  (sRet (vAnd (m2 rEq (m1 (fldOf 2 ("title" : Str)) (eV 0)) (m1 (fldOf 2 ("title" : Str)) (eV 1))) (vAnd (m2 rEq (m1 (fldOf 2 ("waited" : Str)) (eV 0)) (m1 (fldOf 2 ("waited" : Str)) (eV 1))) (m2 (rEqOs 1 m_Deed_eq) (m1 (fldOf 2 ("done" : Str)) (eV 0)) (m1 (fldOf 2 ("done" : Str)) (eV 1)))))))
def m_Process_eq : List D → Out := runP N_Process_eq.length g_Process_eq
theorem eq_Process_eq {c : Cfg} {mg : Str → Option Value} {base : Heap} (X : Fx c mg) : EqP c.P c.w c.K mg base c 4 2 m_Process_eq := eqP_of X.f_Process_eq S_Process_eq B_Process_eq rfl (fun f cdv A outer s H E hr =>
  (s_cons (s_if (t_not (t_val (d_isi (isi_o rfl X.ic2) (d_b (pv 1)) (pe_glob rfl X.g2 rfl) rfl X.b_isinstance))) (s_one (s_ret d_bl)) s_nil)
  (s_one (s_ret (v_and (d_cmp (o_eq hr.units rfl) (d_fld X.cl2 X.na2_title rfl (d_v (pv 0))) (f_h (d_fld X.cl2 X.na2_title rfl (d_v (pv 1)))) (nomark _)) (v_and (d_cmp (o_eq hr.units rfl) (d_fld X.cl2 X.na2_waited rfl (d_v (pv 0))) (f_h (d_fld X.cl2 X.na2_waited rfl (d_v (pv 1)))) (nomark _)) (v_one (d_cmp (o_eqOs (X:=_) (eq_Deed_eq X) (hr.mono (by decide : 3 ≤ 3))) (d_fld X.cl2 X.na2_done rfl (d_v (pv 0))) (f_h (d_fld X.cl2 X.na2_done rfl (d_v (pv 1)))) (nomark _)))))))))
def N_are_processes : List Str := [("value" : Str), ("part" : Str)]
theorem S_are_processes : FnScope N_are_processes [("value" : Str)] (defScope (top 54)) := ⟨rfl, rfl, rfl, by decide +kernel, rfl, by decide +kernel, by decide +kernel⟩
theorem B_are_processes : Bnd ("are_processes" : Str) ("are_processes" : Str) (top 54) [("value" : Str)] := fun _ _ _ _ _ _ us hl => match us, hl with | [_], _ => rfl
def g_are_processes : M Fl :=
  (sq (sIf (mOr (mNot (mB (vIsi (isi2 "list" "tuple") (eB 0)))) (mNot (mCh (fun i j => decide (i ≤ j)) (fun i j => decide (i ≤ j)) (rt (.int 1)) (m1 rLen (eB 0)) (rt (.int 5))))) (sRet (rt (.bl false))) (rt .nx))
  (sRet (m2 rEq (bd (mLc (bd (eV 0) fun d => opt (itemsA d)) [1] (aName 1) (mNot (mB (vIsi (isiO 2) (eB 1)))) (eV 1)) fun x => opt (Ent.toD x)) (bd (mLst mNil) fun x => opt (Ent.toD x)))))
def m_are_processes : List D → Out := runP N_are_processes.length g_are_processes
theorem ok_are_processes {c : Cfg} {mg : Str → Option Value} {base : Heap} (X : Fx c mg) : FnP c.P c.w c.K mg base c 1 ("are_processes" : Str) 1 m_are_processes := fnP_of X.f_are_processes S_are_processes B_are_processes rfl (fun f cdv A outer s H E hr =>
  (s_cons (s_if (t_w (w_or (t_not (t_val (d_isi2 rfl (d_b (pv 0)) (pe_bltn rfl X.b_list (by decide +kernel) rfl) (pe_bltn rfl X.b_tuple (by decide +kernel) rfl) rfl X.b_isinstance))) (w_or1 (t_not (t_chain op_le op_le d_int (d_b1 (c_len rfl) rfl X.b_len (by decide +kernel) (d_b (pv 0))) (d_ci X.c_MOST_PROCESSES rfl)))))) (s_one (s_ret d_bl)) s_nil)
  (s_one (s_ret (d_cmp (o_eq hr.units rfl) (e_f (d_lc rfl S_are_processes.nd (i_seq rfl (d_v (pv 0))) (own := [(("part" : Str), 1)]) (blkOk_by rfl) (fun _ _ _ _ _ => (gw_name S_are_processes.nd rfl (by first | exact .inl rfl | exact .inr rfl) (by decide))) (fun _ _ _ _ _ => (ts_one (t_not (t_val (d_isi (isi_o rfl X.ic2) (d_b (pv 1)) (pe_glob rfl X.g2 rfl) rfl X.b_isinstance))))) (fun _ _ _ _ _ => (d_v (pv 1))))) (f_h (e_f (e_lst a_nil))) (nomark _))))))
def N_are_inputs : List Str := [("value" : Str), ("processes" : Str), ("process" : Str), ("word" : Str)]
theorem S_are_inputs : FnScope N_are_inputs [("value" : Str), ("processes" : Str)] (defScope (top 55)) := ⟨rfl, rfl, rfl, by decide +kernel, rfl, by decide +kernel, by decide +kernel⟩
theorem B_are_inputs : Bnd ("are_inputs" : Str) ("are_inputs" : Str) (top 55) [("value" : Str), ("processes" : Str)] := fun _ _ _ _ _ _ us hl => match us, hl with | [_, _], _ => rfl
def g_are_inputs : M Fl :=
  (sq (sIf (mNot (mB (mCall m_are_unlike_words (bd (mCons (eV 0) (mCons (rt (.int 1)) (mCons (rt (.int 3)) mNil))) fun ds => if ds.length = 3 then rt ds else stuck)))) (sRet (rt (.bl false))) (rt .nx))
  (sRet (m2 rEq (bd (mLc (bd (eV 1) fun d => opt (itemsA d)) [2] (aName 2) (mB (m2 rNe (bd (mLc (bd (eV 0) fun d => opt (itemsA d)) [3] (aName 3) (mB (m2B rIn 3 (mMeth0 2 ("writes" : Str) m_Process_writes (eV 2)))) (eV 3)) fun x => opt (Ent.toD x)) (bd (mLst mNil) fun x => opt (Ent.toD x)))) (eV 2)) fun x => opt (Ent.toD x)) (bd (mLst mNil) fun x => opt (Ent.toD x)))))
def m_are_inputs : List D → Out := runP N_are_inputs.length g_are_inputs
theorem ok_are_inputs {c : Cfg} {mg : Str → Option Value} {base : Heap} (X : Fx c mg) : FnP c.P c.w c.K mg base c 4 ("are_inputs" : Str) 2 m_are_inputs := fnP_of X.f_are_inputs S_are_inputs B_are_inputs rfl (fun f cdv A outer s H E hr =>
  (s_cons (s_if (t_not (t_val (d_call (ok_are_unlike_words X) rfl (hr.mono (by decide : 2 ≤ 3)) rfl (takes_of rfl rfl rfl rfl) (a_cons (d_v (pv 0)) (a_cons d_int (a_cons (d_ci X.c_MOST_INPUTS rfl) a_nil)))))) (s_one (s_ret d_bl)) s_nil)
  (s_one (s_ret (d_cmp (o_eq hr.units rfl) (e_f (d_lc rfl S_are_inputs.nd (i_seq rfl (d_v (pv 1))) (own := [(("process" : Str), 2)]) (blkOk_by rfl) (fun _ _ _ _ _ => (gw_name S_are_inputs.nd rfl (by first | exact .inl rfl | exact .inr rfl) (by decide))) (fun _ _ _ _ _ => (ts_one (t_cmp (o_ne hr.units rfl) (e_f (d_lc rfl S_are_inputs.nd (i_seq rfl (d_v (pv 0))) (own := [(("word" : Str), 3)]) (blkOk_by rfl) (fun _ _ _ _ _ => (gw_name S_are_inputs.nd rfl (by first | exact .inl rfl | exact .inr rfl) (by decide))) (fun _ _ _ _ _ => (ts_one (t_cmpB (o_in hr.units rfl) (pv 3) (f_h (d_meth0 (ok_Process_writes X) (hr.mono (by decide : 3 ≤ 3)) DL.takes0 (d_v (pv 2)))) (by with_unfolding_all rfl)))) (fun _ _ _ _ _ => (d_v (pv 3))))) (f_h (e_f (e_lst a_nil))) (nomark _)))) (fun _ _ _ _ _ => (d_v (pv 2))))) (f_h (e_f (e_lst a_nil))) (nomark _))))))
def N_all_variables : List Str := [("processes" : Str), ("inputs" : Str), ("process" : Str), ("word" : Str)]
theorem S_all_variables : FnScope N_all_variables [("processes" : Str), ("inputs" : Str)] (defScope (top 56)) := ⟨rfl, rfl, rfl, by decide +kernel, rfl, by decide +kernel, by decide +kernel⟩
theorem B_all_variables : Bnd ("all_variables" : Str) ("all_variables" : Str) (top 56) [("processes" : Str), ("inputs" : Str)] := fun _ _ _ _ _ _ us hl => match us, hl with | [_, _], _ => rfl
def g_all_variables : M Fl :=
  (sRet (mCall m_ascending_words (bd (mCons (m2 rAdd (bd (m1l rToList (eB 1)) fun x => opt (Ent.toD x)) (bd (mLc2 (bd (eV 0) fun d => opt (itemsA d)) [2, 3] (aName 2) (rt true) (bd (mMeth0 2 ("variables" : Str) m_Process_variables (eV 2)) fun d => opt (itemsA d)) [3] (aName 3) (rt true) (eV 3)) fun x => opt (Ent.toD x))) mNil) fun ds => if ds.length = 1 then rt ds else stuck)))
def m_all_variables : List D → Out := runP N_all_variables.length g_all_variables
theorem ok_all_variables {c : Cfg} {mg : Str → Option Value} {base : Heap} (X : Fx c mg) : FnP c.P c.w c.K mg base c 8 ("all_variables" : Str) 2 m_all_variables := fnP_of X.f_all_variables S_all_variables B_all_variables rfl (fun f cdv A outer s H E hr =>
  (s_one (s_ret (d_call (ok_ascending_words X) rfl (hr.mono (by decide : 1 ≤ 7)) rfl (takes_of rfl rfl rfl rfl) (a_cons (d_op (o_add rfl) (e_f (e_t1 (c_list rfl) rfl X.b_list (by decide +kernel) (d_b (pv 1)))) (f_h (e_f (d_lc2 rfl S_all_variables.nd (i_seq rfl (d_v (pv 0))) (own := [(("process" : Str), 2), (("word" : Str), 3)]) (vs1 := [3]) (blkOk_by rfl) (by decide) (fun _ _ _ _ _ => (gw_name S_all_variables.nd rfl (by first | exact .inl rfl | exact .inr rfl) (by decide))) (fun _ _ _ _ _ => ts_nil) (fun _ _ _ _ _ => (i_seq rfl (d_meth0 (ok_Process_variables X) (hr.mono (by decide : 7 ≤ 7)) DL.takes0 (d_v (pv 2))))) (fun _ _ _ _ _ => (gw_name S_all_variables.nd rfl (by first | exact .inl rfl | exact .inr rfl) (by decide))) (fun _ _ _ _ _ => ts_nil) (fun _ _ _ _ _ => (d_v (pv 3))))))) a_nil)))))
def N_all_constants : List Str := [("processes" : Str), ("process" : Str), ("number" : Str)]
theorem S_all_constants : FnScope N_all_constants [("processes" : Str)] (defScope (top 57)) := ⟨rfl, rfl, rfl, by decide +kernel, rfl, by decide +kernel, by decide +kernel⟩
theorem B_all_constants : Bnd ("all_constants" : Str) ("all_constants" : Str) (top 57) [("processes" : Str)] := fun _ _ _ _ _ _ us hl => match us, hl with | [_], _ => rfl
def g_all_constants : M Fl :=
  (sRet (mCall m_ascending_numbers (bd (mCons (bd (mLc2 (bd (eV 0) fun d => opt (itemsA d)) [1, 2] (aName 1) (rt true) (bd (mMeth0 2 ("constants" : Str) m_Process_constants (eV 1)) fun d => opt (itemsA d)) [2] (aName 2) (rt true) (eV 2)) fun x => opt (Ent.toD x)) mNil) fun ds => if ds.length = 1 then rt ds else stuck)))
def m_all_constants : List D → Out := runP N_all_constants.length g_all_constants
theorem ok_all_constants {c : Cfg} {mg : Str → Option Value} {base : Heap} (X : Fx c mg) : FnP c.P c.w c.K mg base c 7 ("all_constants" : Str) 1 m_all_constants := fnP_of X.f_all_constants S_all_constants B_all_constants rfl (fun f cdv A outer s H E hr =>
  (s_one (s_ret (d_call (ok_ascending_numbers X) rfl (hr.mono (by decide : 1 ≤ 6)) rfl (takes_of rfl rfl rfl rfl) (a_cons (e_f (d_lc2 rfl S_all_constants.nd (i_seq rfl (d_v (pv 0))) (own := [(("process" : Str), 1), (("number" : Str), 2)]) (vs1 := [2]) (blkOk_by rfl) (by decide) (fun _ _ _ _ _ => (gw_name S_all_constants.nd rfl (by first | exact .inl rfl | exact .inr rfl) (by decide))) (fun _ _ _ _ _ => ts_nil) (fun _ _ _ _ _ => (i_seq rfl (d_meth0 (ok_Process_constants X) (hr.mono (by decide : 6 ≤ 6)) DL.takes0 (d_v (pv 1))))) (fun _ _ _ _ _ => (gw_name S_all_constants.nd rfl (by first | exact .inl rfl | exact .inr rfl) (by decide))) (fun _ _ _ _ _ => ts_nil) (fun _ _ _ _ _ => (d_v (pv 2))))) a_nil)))))
def N_first_wrong : List Str := [("processes" : Str), ("inputs" : Str), ("process" : Str)]
theorem S_first_wrong : FnScope N_first_wrong [("processes" : Str), ("inputs" : Str)] (defScope (top 58)) := ⟨rfl, rfl, rfl, by decide +kernel, rfl, by decide +kernel, by decide +kernel⟩
theorem B_first_wrong : Bnd ("first_wrong" : Str) ("first_wrong" : Str) (top 58) [("processes" : Str), ("inputs" : Str)] := fun _ _ _ _ _ _ us hl => match us, hl with | [_, _], _ => rfl
def g_first_wrong : M Fl :=
  (sq (sIf (mNot (mB (mCall m_are_processes (bd (mCons (eV 0) mNil) fun ds => if ds.length = 1 then rt ds else stuck)))) (sRet (rt (.str ("processes" : Str)))) (rt .nx))
  (sq (sIf (mB (m2 rLt (bd (mSk (bd (eV 0) fun d => opt (itemsA d)) [2] (aName 2) (rt true) (mProp 2 m_Process_name (eV 2))) fun l => rt (.int (l.length : Nat))) (m1 rLen (eB 0)))) (sRet (rt (.str ("names" : Str)))) (rt .nx))
  (sq (sIf (mNot (mB (mCall m_are_inputs (bd (mCons (eV 1) (mCons (eV 0) mNil)) fun ds => if ds.length = 2 then rt ds else stuck)))) (sRet (rt (.str ("inputs" : Str)))) (rt .nx))
  (sq (sIf (mB (m2 rGt (m1 rLen (mCall m_all_variables (bd (mCons (eV 0) (mCons (eV 1) mNil)) fun ds => if ds.length = 2 then rt ds else stuck))) (rt (.int 5)))) (sRet (rt (.str ("variables" : Str)))) (rt .nx))
  (sq (sIf (mB (m2 rGt (m1 rLen (mCall m_all_constants (bd (mCons (eV 0) mNil) fun ds => if ds.length = 1 then rt ds else stuck))) (rt (.int 2)))) (sRet (rt (.str ("constants" : Str)))) (rt .nx))
  (sq (sIf (mB (m2 rGt (m1 rSumL (bd (mLc (bd (eV 0) fun d => opt (itemsA d)) [2] (aName 2) (rt true) (m1 rLen (mMeth0 2 ("at_once" : Str) m_Process_at_once (eV 2)))) fun x => opt (Ent.toD x))) (rt (.int 8)))) (sRet (rt (.str ("deeds" : Str)))) (rt .nx))
  (sRet (rt .non))))))))
def m_first_wrong : List D → Out := runP N_first_wrong.length g_first_wrong
theorem ok_first_wrong {c : Cfg} {mg : Str → Option Value} {base : Heap} (X : Fx c mg) : FnP c.P c.w c.K mg base c 9 ("first_wrong" : Str) 2 m_first_wrong := fnP_of X.f_first_wrong S_first_wrong B_first_wrong rfl (fun f cdv A outer s H E hr =>
  (s_cons (s_if (t_not (t_val (d_call (ok_are_processes X) rfl (hr.mono (by decide : 1 ≤ 8)) rfl (takes_of rfl rfl rfl rfl) (a_cons (d_v (pv 0)) a_nil)))) (s_one (s_ret d_str)) s_nil)
  (s_cons (s_if (t_cmp o_lt (d_lenK rfl X.b_len (k_sk rfl S_first_wrong.nd (i_seq rfl (d_v (pv 0))) (own := [(("process" : Str), 2)]) (blkOk_by rfl) (fun _ _ _ _ _ => (gw_name S_first_wrong.nd rfl (by first | exact .inl rfl | exact .inr rfl) (by decide))) (fun _ _ _ _ _ => ts_nil) (fun _ _ _ _ _ => (d_prop (ok_Process_name X) (hr.mono (by decide : 2 ≤ 8)) (d_v (pv 2)))))) (f_h (d_b1 (c_len rfl) rfl X.b_len (by decide +kernel) (d_b (pv 0)))) (nomark _)) (s_one (s_ret d_str)) s_nil)
  (s_cons (s_if (t_not (t_val (d_call (ok_are_inputs X) rfl (hr.mono (by decide : 4 ≤ 8)) rfl (takes_of rfl rfl rfl rfl) (a_cons (d_v (pv 1)) (a_cons (d_v (pv 0)) a_nil))))) (s_one (s_ret d_str)) s_nil)
  (s_cons (s_if (t_cmp o_gt (d_b1 (c_len rfl) rfl X.b_len (by decide +kernel) (f_h (d_call (ok_all_variables X) rfl (hr.mono (by decide : 8 ≤ 8)) rfl (takes_of rfl rfl rfl rfl) (a_cons (d_v (pv 0)) (a_cons (d_v (pv 1)) a_nil))))) (f_h (d_ci X.c_MOST_VARIABLES rfl)) (nomark _)) (s_one (s_ret d_str)) s_nil)
  (s_cons (s_if (t_cmp o_gt (d_b1 (c_len rfl) rfl X.b_len (by decide +kernel) (f_h (d_call (ok_all_constants X) rfl (hr.mono (by decide : 7 ≤ 8)) rfl (takes_of rfl rfl rfl rfl) (a_cons (d_v (pv 0)) a_nil)))) (f_h (d_ci X.c_MOST_CONSTANTS rfl)) (nomark _)) (s_one (s_ret d_str)) s_nil)
  (s_cons (s_if (t_cmp o_gt (d_b1 (c_sum rfl) rfl X.b_sum (by decide +kernel) (f_h (e_f (d_lc rfl S_first_wrong.nd (i_seq rfl (d_v (pv 0))) (own := [(("process" : Str), 2)]) (blkOk_by rfl) (fun _ _ _ _ _ => (gw_name S_first_wrong.nd rfl (by first | exact .inl rfl | exact .inr rfl) (by decide))) (fun _ _ _ _ _ => ts_nil) (fun _ _ _ _ _ => (d_b1 (c_len rfl) rfl X.b_len (by decide +kernel) (f_h (d_meth0 (ok_Process_at_once X) (hr.mono (by decide : 3 ≤ 8)) DL.takes0 (d_v (pv 2)))))))))) (f_h (d_ci X.c_MOST_AT_ONCE rfl)) (nomark _)) (s_one (s_ret d_str)) s_nil)
  (s_one (s_ret d_non)))))))))
end G
end
section
set_option Elab.async false
set_option linter.all false
set_option maxRecDepth 100000
set_option maxHeartbeats 4000000
namespace G
open PySem PySem.Spec PyProof.Rows L2 DL
def N_Program_init : List Str := [("self" : Str), ("processes" : Str), ("inputs" : Str), ("wrong" : Str), ("process" : Str)]
theorem S_Program_init : FnScope N_Program_init [("self" : Str), ("processes" : Str), ("inputs" : Str)] (defScope (meth 59 0)) := ⟨rfl, rfl, rfl, by decide +kernel, rfl, by decide +kernel, by decide +kernel⟩
theorem B_Program_init : Bnd ("__init__" : Str) ("Program.__init__" : Str) (meth 59 0) [("self" : Str), ("processes" : Str), ("inputs" : Str)] := fun _ _ _ _ _ _ us hl => match us, hl with | [_, _, _], _ => rfl
def g_Program_init : M Fl :=
  (sq (sSetF 3 (mCall m_first_wrong (bd (mCons (eV 1) (mCons (eV 2) mNil)) fun ds => if ds.length = 2 then rt ds else stuck)))
  (sq (sIf (mB (m2B rIsNotN 3 (rt .non))) stuck (rt .nx))
  (sq (sFld 3 0 ("line" : Str) (bd (m1l rToList (eB 1)) fun x => opt (Ent.toD x)))
  (sq (sFld 3 0 ("titles" : Str) (bd (mLc (bd (eV 1) fun d => opt (itemsA d)) [4] (aName 4) (rt true) (mProp 2 m_Process_name (eV 4))) fun x => opt (Ent.toD x)))
  (sq (sFld 3 0 ("given" : Str) (bd (m1l rToList (eB 2)) fun x => opt (Ent.toD x)))
  (sq (sFld 3 0 ("words" : Str) (mCall m_all_variables (bd (mCons (eV 1) (mCons (eV 2) mNil)) fun ds => if ds.length = 2 then rt ds else stuck)))
  (sFld 3 0 ("numbers" : Str) (mCall m_all_constants (bd (mCons (eV 1) mNil) fun ds => if ds.length = 1 then rt ds else stuck)))))))))
def m_Program_init : List D → OutF := runN N_Program_init.length 3 g_Program_init
theorem ok_Program_init {c : Cfg} {mg : Str → Option Value} {base : Heap} (X : Fx c mg) : DL.MkP c.P c.w c.K mg base c 10 3 ("Program" : Str) 2 m_Program_init := mkP_of X.f_Program_init S_Program_init B_Program_init rfl (fun f cdv A outer s H E hr =>
  (s_cons (s_setF S_Program_init.nd rfl (by first | exact .inl rfl | exact .inr rfl) (d_call (ok_first_wrong X) rfl (hr.mono (by decide : 9 ≤ 9)) rfl (takes_of rfl rfl rfl rfl) (a_cons (d_v (pv 1)) (a_cons (d_v (pv 2)) a_nil))))
  (s_cons (s_if (t_cmpB o_notN (pv 3) (f_h d_non) (nomark _)) (s_one s_stuck) s_nil)
  (s_cons (s_fld X.cl3 X.na3_line (pv 0) (e_f (e_t1 (c_list rfl) rfl X.b_list (by decide +kernel) (d_b (pv 1)))))
  (s_cons (s_fld X.cl3 X.na3_titles (pv 0) (e_f (d_lc rfl S_Program_init.nd (i_seq rfl (d_v (pv 1))) (own := [(("process" : Str), 4)]) (blkOk_by rfl) (fun _ _ _ _ _ => (gw_name S_Program_init.nd rfl (by first | exact .inl rfl | exact .inr rfl) (by decide))) (fun _ _ _ _ _ => ts_nil) (fun _ _ _ _ _ => (d_prop (ok_Process_name X) (hr.mono (by decide : 2 ≤ 9)) (d_v (pv 4)))))))
  (s_cons (s_fld X.cl3 X.na3_given (pv 0) (e_f (e_t1 (c_list rfl) rfl X.b_list (by decide +kernel) (d_b (pv 2)))))
  (s_cons (s_fld X.cl3 X.na3_words (pv 0) (d_call (ok_all_variables X) rfl (hr.mono (by decide : 8 ≤ 9)) rfl (takes_of rfl rfl rfl rfl) (a_cons (d_v (pv 1)) (a_cons (d_v (pv 2)) a_nil))))
  (s_one (s_fld X.cl3 X.na3_numbers (pv 0) (d_call (ok_all_constants X) rfl (hr.mono (by decide : 7 ≤ 9)) rfl (takes_of rfl rfl rfl rfl) (a_cons (d_v (pv 1)) a_nil)))))))))))
def N_Program_eq : List Str := [("self" : Str), ("other" : Str)]
theorem S_Program_eq : FnScope N_Program_eq [("self" : Str), ("other" : Str)] (defScope (meth 59 12)) := ⟨rfl, rfl, rfl, by decide +kernel, rfl, by decide +kernel, by decide +kernel⟩
theorem B_Program_eq : Bnd ("__eq__" : Str) ("Program.__eq__" : Str) (meth 59 12) [("self" : Str), ("other" : Str)] := fun _ _ _ _ _ _ us hl => match us, hl with | [_, _], _ => rfl
def g_Program_eq : M Fl :=
  (sRet (vAnd (vIsi (isiO 3) (eB 1)) (vAnd (m2 (rEqOs 2 m_Process_eq) (m1 (fldOf 3 ("line" : Str)) (eV 0)) (m1 (fldOf 3 ("line" : Str)) (eV 1))) (m2 rEq (m1 (fldOf 3 ("given" : Str)) (eV 0)) (m1 (fldOf 3 ("given" : Str)) (eV 1))))))
def m_Program_eq : List D → Out := runP N_Program_eq.length g_Program_eq
theorem eq_Program_eq {c : Cfg} {mg : Str → Option Value} {base : Heap} (X : Fx c mg) : EqP c.P c.w c.K mg base c 6 3 m_Program_eq := eqP_of X.f_Program_eq S_Program_eq B_Program_eq rfl (fun f cdv A outer s H E hr =>
  (s_one (s_ret (v_and (d_isi (isi_o rfl X.ic3) (d_b (pv 1)) (pe_glob rfl X.g3 rfl) rfl X.b_isinstance) (v_and (d_cmp (o_eqOs (X:=_) (eq_Process_eq X) (hr.mono (by decide : 5 ≤ 5))) (d_fld X.cl3 X.na3_line rfl (d_v (pv 0))) (f_h (d_fld X.cl3 X.na3_line rfl (d_v (pv 1)))) (nomark _)) (v_one (d_cmp (o_eq hr.units rfl) (d_fld X.cl3 X.na3_given rfl (d_v (pv 0))) (f_h (d_fld X.cl3 X.na3_given rfl (d_v (pv 1)))) (nomark _))))))))
def N_Program_places : List Str := [("self" : Str), ("process" : Str), ("index" : Str)]
theorem S_Program_places : FnScope N_Program_places [("self" : Str)] (defScope (meth 59 16)) := ⟨rfl, rfl, rfl, by decide +kernel, rfl, by decide +kernel, by decide +kernel⟩
theorem B_Program_places : Bnd ("places" : Str) ("Program.places" : Str) (meth 59 16) [("self" : Str)] := fun _ _ _ _ _ _ us hl => match us, hl with | [_], _ => rfl
def g_Program_places : M Fl :=
  (sRet (bd (mLc2 (bd (m1 (fldOf 3 ("line" : Str)) (eV 0)) fun d => opt (itemsA d)) [1, 2] (aName 1) (rt true) (bd (mMeth0 2 ("at_once" : Str) m_Process_at_once (eV 1)) fun d => opt (itemsA d)) [2] (aName 2) (rt true) (mTup (mCons (mProp 2 m_Process_name (eV 1)) (mCons (eV 2) mNil)))) fun x => opt (Ent.toD x)))
def m_Program_places : List D → Out := runP N_Program_places.length g_Program_places
theorem ok_Program_places {c : Cfg} {mg : Str → Option Value} {base : Heap} (X : Fx c mg) : MtP c.P c.w c.K mg base c 4 3 ("places" : Str) 0 m_Program_places := mtP_of X.f_Program_places S_Program_places B_Program_places rfl (fun f cdv A outer s H E hr =>
  (s_one (s_ret (e_f (d_lc2 rfl S_Program_places.nd (i_seq rfl (d_fld X.cl3 X.na3_line rfl (d_v (pv 0)))) (own := [(("process" : Str), 1), (("index" : Str), 2)]) (vs1 := [2]) (blkOk_by rfl) (by decide) (fun _ _ _ _ _ => (gw_name S_Program_places.nd rfl (by first | exact .inl rfl | exact .inr rfl) (by decide))) (fun _ _ _ _ _ => ts_nil) (fun _ _ _ _ _ => (i_seq rfl (d_meth0 (ok_Process_at_once X) (hr.mono (by decide : 3 ≤ 3)) DL.takes0 (d_v (pv 1))))) (fun _ _ _ _ _ => (gw_name S_Program_places.nd rfl (by first | exact .inl rfl | exact .inr rfl) (by decide))) (fun _ _ _ _ _ => ts_nil) (fun _ _ _ _ _ => (d_tup (a_cons (d_prop (ok_Process_name X) (hr.mono (by decide : 2 ≤ 3)) (d_v (pv 1))) (a_cons (d_v (pv 2)) a_nil)))))))))
def N_is_place : List Str := [("value" : Str)]
theorem S_is_place : FnScope N_is_place [("value" : Str)] (defScope (top 60)) := ⟨rfl, rfl, rfl, by decide +kernel, rfl, by decide +kernel, by decide +kernel⟩
theorem B_is_place : Bnd ("is_place" : Str) ("is_place" : Str) (top 60) [("value" : Str)] := fun _ _ _ _ _ _ us hl => match us, hl with | [_], _ => rfl
def g_is_place : M Fl :=
  (sq (sIf (mOr (mNot (mB (vIsi (isiB "tuple") (eB 0)))) (mB (m2 rNe (m1 rLen (eB 0)) (rt (.int 2))))) (sRet (rt (.bl false))) (rt .nx))
  (sRet (vAnd (vIsi (isiB "str") (m2B rIx 0 (rt (.int 0)))) (mCall m_is_whole (bd (mCons (m2B rIx 0 (rt (.int 1))) mNil) fun ds => if ds.length = 1 then rt ds else stuck)))))
def m_is_place : List D → Out := runP N_is_place.length g_is_place
theorem ok_is_place {c : Cfg} {mg : Str → Option Value} {base : Heap} (X : Fx c mg) : FnP c.P c.w c.K mg base c 2 ("is_place" : Str) 1 m_is_place := fnP_of X.f_is_place S_is_place B_is_place rfl (fun f cdv A outer s H E hr =>
  (s_cons (s_if (t_w (w_or (t_not (t_val (d_isi (isi_b rfl "tuple") (d_b (pv 0)) (pe_bltn rfl X.b_tuple (by decide +kernel) rfl) rfl X.b_isinstance))) (w_or1 (t_cmp (o_ne hr.units rfl) (d_b1 (c_len rfl) rfl X.b_len (by decide +kernel) (d_b (pv 0))) (f_h d_int) (nomark _))))) (s_one (s_ret d_bl)) s_nil)
  (s_one (s_ret (v_and (d_isi (isi_b rfl "str") (f_h (d_ixB rfl (pv 0) (f_h d_int))) (pe_bltn rfl X.b_str (by decide +kernel) rfl) rfl X.b_isinstance) (v_one (d_call (ok_is_whole X) rfl (hr.mono (by decide : 1 ≤ 1)) rfl (takes_of rfl rfl rfl rfl) (a_cons (d_ixB rfl (pv 0) (f_h d_int)) a_nil))))))))
def N_Program_look_at_places : List Str := [("self" : Str), ("places" : Str), ("place" : Str)]
theorem S_Program_look_at_places : FnScope N_Program_look_at_places [("self" : Str), ("places" : Str)] (defScope (meth 59 17)) := ⟨rfl, rfl, rfl, by decide +kernel, rfl, by decide +kernel, by decide +kernel⟩
theorem B_Program_look_at_places : Bnd ("look_at_places" : Str) ("Program.look_at_places" : Str) (meth 59 17) [("self" : Str), ("places" : Str)] := fun _ _ _ _ _ _ us hl => match us, hl with | [_, _], _ => rfl
def g_Program_look_at_places : M Fl :=
  (sq (sIf (mNot (mB (vIsi (isi2 "list" "tuple") (eB 1)))) (sRaise 4 ("value" : Str) (rt .non)) (rt .nx))
  (mFor (bd (eV 1) fun d => opt (itemsA d)) (aName 2) (sIf (mOr (mNot (mB (mCall m_is_place (bd (mCons (eV 2) mNil) fun ds => if ds.length = 1 then rt ds else stuck)))) (mB (m2B rNotIn 2 (mMeth0 3 ("places" : Str) m_Program_places (eV 0))))) (sRaise 4 ("value" : Str) (eV 2)) (rt .nx))))
def m_Program_look_at_places : List D → Out := runP N_Program_look_at_places.length g_Program_look_at_places
theorem ok_Program_look_at_places {c : Cfg} {mg : Str → Option Value} {base : Heap} (X : Fx c mg) : MtP c.P c.w c.K mg base c 5 3 ("look_at_places" : Str) 1 m_Program_look_at_places := mtP_of X.f_Program_look_at_places S_Program_look_at_places B_Program_look_at_places rfl (fun f cdv A outer s H E hr =>
  (s_cons (s_if (t_not (t_val (d_isi2 rfl (d_b (pv 1)) (pe_bltn rfl X.b_list (by decide +kernel) rfl) (pe_bltn rfl X.b_tuple (by decide +kernel) rfl) rfl X.b_isinstance))) (s_one (s_raise rfl (takes_of rfl rfl rfl rfl) (X.x4 _) (hr.mono (by decide : 2 ≤ 4)) rfl d_non)) s_nil)
  (s_one (s_for (passes_of rfl) rfl (i_seq rfl (d_v (pv 1))) (g_name S_Program_look_at_places.nd rfl (by first | exact .inl rfl | exact .inr rfl)) (s_one (s_if (t_w (w_or (t_not (t_val (d_call (ok_is_place X) rfl (hr.mono (by decide : 2 ≤ 4)) rfl (takes_of rfl rfl rfl rfl) (a_cons (d_v (pv 2)) a_nil)))) (w_or1 (t_cmpB (o_notIn hr.units rfl) (pv 2) (f_h (d_meth0 (ok_Program_places X) (hr.mono (by decide : 4 ≤ 4)) (takes_of rfl rfl rfl rfl) (d_v (pv 0)))) (by with_unfolding_all rfl))))) (s_one (s_raise rfl (takes_of rfl rfl rfl rfl) (X.x4 _) (hr.mono (by decide : 2 ≤ 4)) rfl (d_v (pv 2)))) s_nil)) ne_name))))
def N_Program_delayed : List Str := [("self" : Str), ("places" : Str), ("line" : Str), ("process" : Str), ("indices" : Str), ("name" : Str), ("index" : Str)]
theorem S_Program_delayed : FnScope N_Program_delayed [("self" : Str), ("places" : Str)] (defScope (meth 59 18)) := ⟨rfl, rfl, rfl, by decide +kernel, rfl, by decide +kernel, by decide +kernel⟩
theorem B_Program_delayed : Bnd ("delayed" : Str) ("Program.delayed" : Str) (meth 59 18) [("self" : Str), ("places" : Str)] := fun _ _ _ _ _ _ us hl => match us, hl with | [_, _], _ => rfl
def g_Program_delayed : M Fl :=
  (sq (sDrop (mMeth 3 ("look_at_places" : Str) m_Program_look_at_places (eV 0) (bd (mCons (eV 1) mNil) fun ds => if ds.length = 1 then rt ds else stuck))) stuck)
def m_Program_delayed : List D → Out := runP N_Program_delayed.length g_Program_delayed
theorem ok_Program_delayed {c : Cfg} {mg : Str → Option Value} {base : Heap} (X : Fx c mg) : MtP c.P c.w c.K mg base c 6 3 ("delayed" : Str) 1 m_Program_delayed := mtP_of X.f_Program_delayed S_Program_delayed B_Program_delayed rfl (fun f cdv A outer s H E hr =>
  (s_cons (s_expr (d_meth (ok_Program_look_at_places X) (hr.mono (by decide : 5 ≤ 5)) (takes_of rfl rfl rfl rfl) (d_v (pv 0)) (a_cons (d_v (pv 1)) a_nil))) ss_stuck))
end G
end
section
set_option Elab.async false
set_option linter.all false
set_option maxRecDepth 100000
set_option maxHeartbeats 4000000
namespace G
open PySem PySem.Spec PyProof.Rows L2 DL
def N_look_at_most : List Str := [("most" : Str)]
theorem S_look_at_most : FnScope N_look_at_most [("most" : Str)] (defScope (top 82)) := ⟨rfl, rfl, rfl, by decide +kernel, rfl, by decide +kernel, by decide +kernel⟩
theorem B_look_at_most : Bnd ("look_at_most" : Str) ("look_at_most" : Str) (top 82) [("most" : Str)] := fun _ _ _ _ _ _ us hl => match us, hl with | [_], _ => rfl
def g_look_at_most : M Fl :=
  (sIf (mOr (mNot (mB (mCall m_is_whole (bd (mCons (eV 0) mNil) fun ds => if ds.length = 1 then rt ds else stuck)))) (mB (m2B rLt 0 (rt (.int 1))))) stuck (rt .nx))
def m_look_at_most : List D → Out := runP N_look_at_most.length g_look_at_most
theorem ok_look_at_most {c : Cfg} {mg : Str → Option Value} {base : Heap} (X : Fx c mg) : FnP c.P c.w c.K mg base c 2 ("look_at_most" : Str) 1 m_look_at_most := fnP_of X.f_look_at_most S_look_at_most B_look_at_most rfl (fun f cdv A outer s H E hr =>
  (s_one (s_if (t_w (w_or (t_not (t_val (d_call (ok_is_whole X) rfl (hr.mono (by decide : 1 ≤ 1)) rfl (takes_of rfl rfl rfl rfl) (a_cons (d_v (pv 0)) a_nil)))) (w_or1 (t_cmpB o_lt (pv 0) (f_h d_int) (nomark _))))) (s_one s_stuck) s_nil)))
def N_is_sole : List Str := [("program" : Str), ("most" : Str)]
theorem S_is_sole : FnScope N_is_sole [("program" : Str), ("most" : Str)] (defScope (top 92)) := ⟨rfl, rfl, rfl, by decide +kernel, rfl, by decide +kernel, by decide +kernel⟩
def m_is_sole : List D → Out := fun _ => .stuck
theorem ok_is_sole {c : Cfg} {mg : Str → Option Value} {base : Heap} (X : Fx c mg) : FnK c.P c.w c.K mg base c 1 ("is_sole" : Str) 1 [("most" : Str)] m_is_sole := fnK_no X.f_is_sole rfl
def N_helps : List Str := [("program" : Str), ("places" : Str), ("most" : Str)]
theorem S_helps : FnScope N_helps [("program" : Str), ("places" : Str), ("most" : Str)] (defScope (top 95)) := ⟨rfl, rfl, rfl, by decide +kernel, rfl, by decide +kernel, by decide +kernel⟩
def g_helps : M Fl :=
  (sq (sDrop (mCall m_look_at_most (bd (mCons (eV 2) mNil) fun ds => if ds.length = 1 then rt ds else stuck)))
  (sRet (bd (both 1 ([("most" : Str)] : List Str).length (mCons (mMeth 3 ("delayed" : Str) m_Program_delayed (eV 0) (bd (mCons (eV 1) mNil) fun ds => if ds.length = 1 then rt ds else stuck)) mNil) (mCons (eV 2) mNil)) fun ds => lift (m_is_sole ds))))
def m_helps : List D → Out := runP N_helps.length g_helps
theorem ok_helps {c : Cfg} {mg : Str → Option Value} {base : Heap} (X : Fx c mg) : FnK c.P c.w c.K mg base c 7 ("helps" : Str) 2 [("most" : Str)] m_helps := fnK_of X.f_helps S_helps rfl (fun f cdv A outer s H E hr =>
  (s_cons (s_expr (d_call (ok_look_at_most X) rfl (hr.mono (by decide : 2 ≤ 6)) rfl (takes_of rfl rfl rfl rfl) (a_cons (d_v (pv 2)) a_nil)))
  (s_one (s_ret (d_callK (ok_is_sole X) (hr.mono (by decide : 1 ≤ 6)) rfl (takes_of rfl rfl rfl rfl) (a_cons (d_meth (ok_Program_delayed X) (hr.mono (by decide : 6 ≤ 6)) (takes_of rfl rfl rfl rfl) (d_v (pv 0)) (a_cons (d_v (pv 1)) a_nil)) a_nil) (k_cons (d_v (pv 2)) k_nil))))))
def N_law_pool : List Str := [("script" : Str), ("k" : Str), ("cell" : Str), ("size" : Str), ("mixed" : Str)]
theorem S_law_pool : FnScope N_law_pool [("script" : Str), ("k" : Str)] (defScope (top 97)) := ⟨rfl, rfl, rfl, by decide +kernel, rfl, by decide +kernel, by decide +kernel⟩
theorem B_law_pool : Bnd ("_law_pool" : Str) ("_law_pool" : Str) (top 97) [("script" : Str), ("k" : Str)] := fun _ _ _ _ _ _ us hl => match us, hl with | [_, _], _ => rfl
def g_law_pool : M Ent :=
  (sqE (sSetF 2 (rt (.int 0)))
  (sqE (sIf (mB (m2B rLt 1 (m1 rLen (eB 0)))) (sSetF 2 (m2B rIx 0 (eB 1))) (rt .nx))
  (sqE (sSetF 3 (mNs rMax2 (mCons (m1 rToInt (eB 2)) (mCons (m1 rToInt (m2 rSub (rt (.int (-1))) (eB 2))) mNil))))
  (sqE (sSetF 4 (m2 rMod (m1 rToInt (m2 rMul (m2 rAdd (m2 rAdd (m2 rAdd (m2 rMod (m1 rToInt (eB 3)) (rt (.int 2147483629))) (m2 rMul (m2 rMul (rt (.int 7919)) (eB 1)) (eB 1))) (m2 rMul (rt (.int 31)) (eB 1))) (rt (.int 17))) (rt (.int 48271)))) (rt (.int 2147483647))))
  (mLst (mCons (m2B rMul 3 (m1 rToInt (m2B rGe 3 (m2 rPow (rt (.int 10)) (rt (.int 18)))))) (mCons (eV 4) mNil)))))))
def m_law_pool : List D → OutL := runE N_law_pool.length g_law_pool
theorem ok_law_pool {c : Cfg} {mg : Str → Option Value} {base : Heap} (X : Fx c mg) : FnE c.P c.w c.K mg base c 1 ("_law_pool" : Str) 2 m_law_pool := fnE_of X.f_law_pool S_law_pool B_law_pool rfl (fun f cdv A outer s H E hr =>
  (se_cons (s_setF S_law_pool.nd rfl (by first | exact .inl rfl | exact .inr rfl) d_int)
  (se_cons (s_if (t_cmpB o_lt (pv 1) (f_h (d_b1 (c_len rfl) rfl X.b_len (by decide +kernel) (d_b (pv 0)))) (nomark _)) (s_one (s_setF S_law_pool.nd rfl (by first | exact .inl rfl | exact .inr rfl) (d_ixB rfl (pv 0) (d_b (pv 1))))) s_nil)
  (se_cons (s_setF S_law_pool.nd rfl (by first | exact .inl rfl | exact .inr rfl) (d_bN (c_max2 rfl) rfl X.b_max (by decide +kernel) (a_cons (d_t1 c_int rfl X.b_int (by decide +kernel) (d_b (pv 2))) (a_cons (d_t1 c_int rfl X.b_int (by decide +kernel) (f_h (d_op o_sub d_neg (d_b (pv 2))))) a_nil))))
  (se_cons (s_setF S_law_pool.nd rfl (by first | exact .inl rfl | exact .inr rfl) (d_op o_mod (d_t1 c_int rfl X.b_int (by decide +kernel) (f_h (d_op o_mul (d_op (o_add rfl) (d_op (o_add rfl) (d_op (o_add rfl) (d_op o_mod (d_t1 c_int rfl X.b_int (by decide +kernel) (d_b (pv 3))) (f_h d_int)) (f_h (d_op o_mul (d_op o_mul d_int (d_b (pv 1))) (d_b (pv 1))))) (f_h (d_op o_mul d_int (d_b (pv 1))))) (f_h d_int)) (f_h d_int)))) (f_h d_int)))
  (se_ret (e_lst (a_cons (d_opB o_mul (pv 3) (f_h (d_t1 c_int rfl X.b_int (by decide +kernel) (f_h (d_cmpB o_ge (pv 3) (f_h (d_op o_pow d_int (f_h d_int))) (nomark _)))))) (a_cons (d_v (pv 4)) a_nil)))))))))
def N_law_take : List Str := [("pool" : Str), ("bound" : Str), ("result" : Str)]
theorem S_law_take : FnScope N_law_take [("pool" : Str), ("bound" : Str)] (defScope (top 98)) := ⟨rfl, rfl, rfl, by decide +kernel, rfl, by decide +kernel, by decide +kernel⟩
theorem B_law_take : Bnd ("_law_take" : Str) ("_law_take" : Str) (top 98) [("pool" : Str), ("bound" : Str)] := fun _ _ _ _ _ _ us hl => match us, hl with | [_, _], _ => rfl
def g_law_take : M Fl :=
  (sq (sIf (mB (m2 rGt (m2B rIx 0 (rt (.int 0))) (rt (.int 0)))) (sq (sSetF 2 (m2 rMod (m1 rToInt (m2B rIx 0 (rt (.int 0)))) (eB 1)))
  (sq (sIx 0 (rt (.int 0)) (m2 rDiv (m2B rIx 0 (rt (.int 0))) (eB 1)))
  (sRet (eV 2)))) (rt .nx))
  (sq (sIx 0 (rt (.int 1)) (m2 rMod (m1 rToInt (m2 rAdd (m2 rMul (m2B rIx 0 (rt (.int 1))) (rt (.int 39373))) (rt (.int 7)))) (rt (.int 2147483647))))
  (sRet (m2 rMod (m1 rToInt (m2 rDiv (m2 rMod (m1 rToInt (m2 rMul (m2B rIx 0 (rt (.int 1))) (m2B rIx 0 (rt (.int 1))))) (rt (.int 2147483629))) (rt (.int 32)))) (eB 1)))))
def m_law_take : List D → List D → OutI := runI N_law_take.length g_law_take
theorem ok_law_take {c : Cfg} {mg : Str → Option Value} {base : Heap} (X : Fx c mg) : FnI c.P c.w c.K mg base c 1 ("_law_take" : Str) 1 m_law_take := fnI_of X.f_law_take S_law_take B_law_take rfl (fun f cdv A outer s H E hr =>
  (s_cons (s_if (t_cmp o_gt (d_ixB rfl (pv 0) (f_h d_int)) (f_h d_int) (nomark _)) (s_cons (s_setF S_law_take.nd rfl (by first | exact .inl rfl | exact .inr rfl) (d_op o_mod (d_t1 c_int rfl X.b_int (by decide +kernel) (f_h (d_ixB rfl (pv 0) (f_h d_int)))) (d_b (pv 1))))
  (s_cons (s_ix (d_op o_div (d_ixB rfl (pv 0) (f_h d_int)) (d_b (pv 1))) (pv 0) d_int)
  (s_one (s_ret (d_v (pv 2)))))) s_nil)
  (s_cons (s_ix (d_op o_mod (d_t1 c_int rfl X.b_int (by decide +kernel) (f_h (d_op (o_add rfl) (d_op o_mul (d_ixB rfl (pv 0) (f_h d_int)) (f_h d_int)) (f_h d_int)))) (f_h d_int)) (pv 0) d_int)
  (s_one (s_ret (d_op o_mod (d_t1 c_int rfl X.b_int (by decide +kernel) (f_h (d_op o_div (d_op o_mod (d_t1 c_int rfl X.b_int (by decide +kernel) (f_h (d_op o_mul (d_ixB rfl (pv 0) (f_h d_int)) (f_h (d_ixB rfl (pv 0) (f_h d_int)))))) (f_h d_int)) (f_h d_int)))) (d_b (pv 1))))))))
def N_law_one : List Str := [("pool" : Str), ("things" : Str)]
theorem S_law_one : FnScope N_law_one [("pool" : Str), ("things" : Str)] (defScope (top 99)) := ⟨rfl, rfl, rfl, by decide +kernel, rfl, by decide +kernel, by decide +kernel⟩
theorem B_law_one : Bnd ("_law_one" : Str) ("_law_one" : Str) (top 99) [("pool" : Str), ("things" : Str)] := fun _ _ _ _ _ _ us hl => match us, hl with | [_, _], _ => rfl
def g_law_one : M Fl :=
  (sRet (m2B rIx 1 (mCallI 0 m_law_take 1 (mCons (m1 rLen (eB 1)) mNil))))
def m_law_one : List D → List D → OutI := runI N_law_one.length g_law_one
theorem ok_law_one {c : Cfg} {mg : Str → Option Value} {base : Heap} (X : Fx c mg) : FnI c.P c.w c.K mg base c 2 ("_law_one" : Str) 1 m_law_one := fnI_of X.f_law_one S_law_one B_law_one rfl (fun f cdv A outer s H E hr =>
  (s_one (s_ret (d_ixB rfl (pv 1) (f_h (d_callI (ok_law_take X) (hr.mono (by decide : 1 ≤ 1)) rfl (takes_of rfl rfl rfl rfl) (pv 0) (a_cons (d_b1 (c_len rfl) rfl X.b_len (by decide +kernel) (d_b (pv 1))) a_nil)))))))
end G
end
section
set_option Elab.async false
set_option linter.all false
set_option maxRecDepth 100000
set_option maxHeartbeats 4000000
namespace G
open PySem PySem.Spec PyProof.Rows L2 DL
def N_law_turned : List Str := [("pool" : Str), ("things" : Str), ("left" : Str), ("found" : Str)]
theorem S_law_turned : FnScope N_law_turned [("pool" : Str), ("things" : Str)] (defScope (top 100)) := ⟨rfl, rfl, rfl, by decide +kernel, rfl, by decide +kernel, by decide +kernel⟩
theorem B_law_turned : Bnd ("_law_turned" : Str) ("_law_turned" : Str) (top 100) [("pool" : Str), ("things" : Str)] := fun _ _ _ _ _ _ us hl => match us, hl with | [_, _], _ => rfl
def g_law_turned : M Fl :=
  (sq (sPar 2 3 (m1l rToList (eB 1)) (mLst mNil))
  (sq (sWhile (mB (m2B rNe 2 (bd (mLst mNil) fun x => opt (Ent.toD x)))) (sDrop (mLM 3 fAppend (mCons (mLM 2 fPopAt (mCons (mCallI 0 m_law_take 1 (mCons (m1 rLen (eB 2)) mNil)) mNil)) mNil))) 10)
  (sRet (eV 3))))
def m_law_turned : List D → List D → OutI := runI N_law_turned.length g_law_turned
theorem ok_law_turned {c : Cfg} {mg : Str → Option Value} {base : Heap} (X : Fx c mg) : FnI c.P c.w c.K mg base c 2 ("_law_turned" : Str) 1 m_law_turned := fnI_of X.f_law_turned S_law_turned B_law_turned rfl (fun f cdv A outer s H E hr =>
  (s_cons (s_par rfl S_law_turned.nd rfl rfl (by decide) rfl rfl (e_t1 (c_list rfl) rfl X.b_list (by decide +kernel) (d_b (pv 1))) (e_lst a_nil) rfl)
  (s_cons (s_while 10 (passes_of rfl) (t_cmpB (o_ne hr.units rfl) (pv 2) (f_h (e_f (e_lst a_nil))) (nomark _)) (s_one (s_expr (d_lm PySem.F.slot_list_append PySem.F.type_list_append mt_append lm_append (pv 3) (a_cons (d_lm PySem.F.slot_list_pop PySem.F.type_list_pop mt_popAt lm_popAt (pv 2) (a_cons (d_callI (ok_law_take X) (hr.mono (by decide : 1 ≤ 1)) rfl (takes_of rfl rfl rfl rfl) (pv 0) (a_cons (d_b1 (c_len rfl) rfl X.b_len (by decide +kernel) (d_b (pv 2))) a_nil)) a_nil)) a_nil)))))
  (s_one (s_ret (d_v (pv 3)))))))
def N_law_words : List Str := [("pool" : Str), ("bound" : Str), ("letters" : Str), ("first" : Str), ("stride" : Str), ("head" : Str), ("turn" : Str), ("tail" : Str), ("spot" : Str)]
theorem S_law_words : FnScope N_law_words [("pool" : Str), ("bound" : Str)] (defScope (top 101)) := ⟨rfl, rfl, rfl, by decide +kernel, rfl, by decide +kernel, by decide +kernel⟩
theorem B_law_words : Bnd ("_law_words" : Str) ("_law_words" : Str) (top 101) [("pool" : Str), ("bound" : Str)] := fun _ _ _ _ _ _ us hl => match us, hl with | [_, _], _ => rfl
def g_law_words : M Fl :=
  (sq (sSetF 2 (rt (.str ("abcdefghijklmnopqrstuvwxyz" : Str))))
  (sq (sAsg (aTup 2 (aCons (aName 3) (aCons (aName 4) aNil))) (mTup (mCons (mCallI 0 m_law_take 1 (mCons (rt (.int 26)) mNil)) (mCons (mCallI 0 m_law_one 1 (mCons (bd (mLst (mCons (rt (.int 1)) (mCons (rt (.int 3)) (mCons (rt (.int 5)) (mCons (rt (.int 7)) (mCons (rt (.int 9)) (mCons (rt (.int 11)) (mCons (rt (.int 15)) (mCons (rt (.int 17)) (mCons (rt (.int 19)) (mCons (rt (.int 21)) (mCons (rt (.int 23)) (mCons (rt (.int 25)) mNil))))))))))))) fun x => opt (Ent.toD x)) mNil)) mNil))))
  (sq (sSetF 5 (mBM D.isStr fJoin (rt (.str ("" : Str))) (mCons (bd (mLc (bd (mCons (mCallI 0 m_law_take 1 (mCons (rt (.int 3)) mNil)) mNil) fun ds => opt (if ds.length = 1 then rRange ds else none)) [6] (aName 6) (rt true) (mCallI 0 m_law_one 1 (mCons (eV 2) mNil))) fun x => opt (Ent.toD x)) mNil)))
  (sq (sSetF 7 (mBM D.isStr fJoin (rt (.str ("" : Str))) (mCons (bd (mLc (bd (mCons (mCallI 0 m_law_take 1 (mCons (rt (.int 3)) mNil)) mNil) fun ds => opt (if ds.length = 1 then rRange ds else none)) [6] (aName 6) (rt true) (mCallI 0 m_law_one 1 (mCons (eV 2) mNil))) fun x => opt (Ent.toD x)) mNil)))
  (sRet (bd (mLc (bd (mCons (eV 1) mNil) fun ds => opt (if ds.length = 1 then rRange ds else none)) [8] (aName 8) (rt true) (m2 rAdd (m2B rAdd 5 (m2B rIx 2 (m2 rMod (m1 rToInt (m2B rAdd 3 (m2B rMul 4 (eB 8)))) (rt (.int 26))))) (eB 7))) fun x => opt (Ent.toD x)))))))
def m_law_words : List D → List D → OutI := runI N_law_words.length g_law_words
theorem ok_law_words {c : Cfg} {mg : Str → Option Value} {base : Heap} (X : Fx c mg) : FnI c.P c.w c.K mg base c 3 ("_law_words" : Str) 1 m_law_words := fnI_of X.f_law_words S_law_words B_law_words rfl (fun f cdv A outer s H E hr =>
  (s_cons (s_setF S_law_words.nd rfl (by first | exact .inl rfl | exact .inr rfl) d_str)
  (s_cons (s_asg (d_tup (a_cons (d_callI (ok_law_take X) (hr.mono (by decide : 1 ≤ 2)) rfl (takes_of rfl rfl rfl rfl) (pv 0) (a_cons d_int a_nil)) (a_cons (d_callI (ok_law_one X) (hr.mono (by decide : 2 ≤ 2)) rfl (takes_of rfl rfl rfl rfl) (pv 0) (a_cons (e_f (e_lst (a_cons d_int (a_cons d_int (a_cons d_int (a_cons d_int (a_cons d_int (a_cons d_int (a_cons d_int (a_cons d_int (a_cons d_int (a_cons d_int (a_cons d_int (a_cons d_int a_nil)))))))))))))) a_nil)) a_nil))) (g_tup rfl rfl (g_cons (g_name S_law_words.nd rfl (by first | exact .inl rfl | exact .inr rfl)) (g_cons (g_name S_law_words.nd rfl (by first | exact .inl rfl | exact .inr rfl)) g_nil))) (ner := (ne_tup (ne_cons ne_name (ne_cons ne_name ne_nil)))))
  (s_cons (s_setF S_law_words.nd rfl (by first | exact .inl rfl | exact .inr rfl) (d_bm PySem.F.plainAttrs_str PySem.F.slot_str_join PySem.F.type_str_join mt_join rf_join ty_str d_str (a_cons (e_f (d_lc rfl S_law_words.nd (i_range1 rfl X.b_range (a_cons (d_callI (ok_law_take X) (hr.mono (by decide : 1 ≤ 2)) rfl (takes_of rfl rfl rfl rfl) (pv 0) (a_cons d_int a_nil)) a_nil)) (own := [(("turn" : Str), 6)]) (blkOk_by rfl) (fun _ _ _ _ _ => (gw_name S_law_words.nd rfl (by first | exact .inl rfl | exact .inr rfl) (by decide))) (fun _ _ _ _ _ => ts_nil) (fun _ _ _ _ _ => (d_callI (ok_law_one X) (hr.mono (by decide : 2 ≤ 2)) rfl DL.takes0 (pv 0) (a_cons (d_v (pv 2)) a_nil))))) a_nil)))
  (s_cons (s_setF S_law_words.nd rfl (by first | exact .inl rfl | exact .inr rfl) (d_bm PySem.F.plainAttrs_str PySem.F.slot_str_join PySem.F.type_str_join mt_join rf_join ty_str d_str (a_cons (e_f (d_lc rfl S_law_words.nd (i_range1 rfl X.b_range (a_cons (d_callI (ok_law_take X) (hr.mono (by decide : 1 ≤ 2)) rfl (takes_of rfl rfl rfl rfl) (pv 0) (a_cons d_int a_nil)) a_nil)) (own := [(("turn" : Str), 6)]) (blkOk_by rfl) (fun _ _ _ _ _ => (gw_name S_law_words.nd rfl (by first | exact .inl rfl | exact .inr rfl) (by decide))) (fun _ _ _ _ _ => ts_nil) (fun _ _ _ _ _ => (d_callI (ok_law_one X) (hr.mono (by decide : 2 ≤ 2)) rfl DL.takes0 (pv 0) (a_cons (d_v (pv 2)) a_nil))))) a_nil)))
  (s_one (s_ret (e_f (d_lc rfl S_law_words.nd (i_range1 rfl X.b_range (a_cons (d_v (pv 1)) a_nil)) (own := [(("spot" : Str), 8)]) (blkOk_by rfl) (fun _ _ _ _ _ => (gw_name S_law_words.nd rfl (by first | exact .inl rfl | exact .inr rfl) (by decide))) (fun _ _ _ _ _ => ts_nil) (fun _ _ _ _ _ => (d_op (o_add rfl) (d_opB (o_add rfl) (pv 5) (f_h (d_ixB rfl (pv 2) (f_h (d_op o_mod (d_t1 c_int rfl X.b_int (by decide +kernel) (f_h (d_opB (o_add rfl) (pv 3) (f_h (d_opB o_mul (pv 4) (d_b (pv 8))))))) (f_h d_int)))))) (d_b (pv 7)))))))))))))
def N_law_tree : List Str := [("pool" : Str), ("words" : Str), ("digits" : Str), ("deep" : Str), ("part" : Str)]
theorem S_law_tree : FnScope N_law_tree [("pool" : Str), ("words" : Str), ("digits" : Str), ("deep" : Str)] (defScope (top 102)) := ⟨rfl, rfl, rfl, by decide +kernel, rfl, by decide +kernel, by decide +kernel⟩
theorem B_law_tree : Bnd ("_law_tree" : Str) ("_law_tree" : Str) (top 102) [("pool" : Str), ("words" : Str), ("digits" : Str), ("deep" : Str)] := fun _ _ _ _ _ _ us hl => match us, hl with | [_, _, _, _], _ => rfl
def g_law_tree (rec : List D → List D → OutI) : M Fl :=
  (sq (sIf (mAnd (mB (m2B rGt 3 (rt (.int 1)))) (mB (m2 rEq (mCallI 0 m_law_take 1 (mCons (rt (.int 3)) mNil)) (rt (.int 0))))) (sRet (m1 rToTup (bd (mLc (bd (mCons (rt (.int 4)) mNil) fun ds => opt (if ds.length = 1 then rRange ds else none)) [4] (aName 4) (rt true) (mCallI 0 rec 3 (mCons (eV 1) (mCons (eV 2) (mCons (m2B rSub 3 (rt (.int 1))) mNil))))) fun x => opt (Ent.toD x)))) (rt .nx))
  (sq (sIf (mAnd (mB (m2B rNe 2 (bd (mLst mNil) fun x => opt (Ent.toD x)))) (mB (m2 rEq (mCallI 0 m_law_take 1 (mCons (rt (.int 3)) mNil)) (rt (.int 0))))) (sRet (mCallI 0 m_law_one 1 (mCons (eV 2) mNil))) (rt .nx))
  (sRet (mCallI 0 m_law_one 1 (mCons (eV 1) mNil)))))
def m_law_tree : Nat → List D → List D → OutI
  | 0 => fun _ _ => .stuck
  | n + 1 => runI N_law_tree.length (g_law_tree (m_law_tree n))
theorem ok_law_tree {c : Cfg} {mg : Str → Option Value} {base : Heap} (X : Fx c mg) : ∀ n, FnI c.P c.w c.K mg base c (2 + n) ("_law_tree" : Str) 3 (m_law_tree n)
  | 0 => fnI_no X.f_law_tree B_law_tree rfl
  | n + 1 => by
    have ih := ok_law_tree (base := base) X n
    have step : ∀ rec, FnI c.P c.w c.K mg base c (2 + n) ("_law_tree" : Str) 3 rec → FnI c.P c.w c.K mg base c (2 + n + 1) ("_law_tree" : Str) 3 (runI N_law_tree.length (g_law_tree rec)) := fun rec ih => fnI_of X.f_law_tree S_law_tree B_law_tree rfl (fun f cdv A outer s H E hr =>
  (s_cons (s_if (t_w (w_and (t_cmpB o_gt (pv 3) (f_h d_int) (nomark _)) (w_and1 (t_cmp (o_eq hr.units rfl) (d_callI (ok_law_take X) (hr.mono (by omega)) rfl (takes_of rfl rfl rfl rfl) (pv 0) (a_cons d_int a_nil)) (f_h d_int) (nomark _))))) (s_one (s_ret (d_t1 (c_tuple rfl) rfl X.b_tuple (by decide +kernel) (f_h (e_f (d_lc rfl S_law_tree.nd (i_range1 rfl X.b_range (a_cons d_int a_nil)) (own := [(("part" : Str), 4)]) (blkOk_by rfl) (fun _ _ _ _ _ => (gw_name S_law_tree.nd rfl (by first | exact .inl rfl | exact .inr rfl) (by decide))) (fun _ _ _ _ _ => ts_nil) (fun _ _ _ _ _ => (d_callI ih (hr.mono (by omega)) rfl DL.takes0 (pv 0) (a_cons (d_v (pv 1)) (a_cons (d_v (pv 2)) (a_cons (d_opB o_sub (pv 3) (f_h d_int)) a_nil))))))))))) s_nil)
  (s_cons (s_if (t_w (w_and (t_cmpB (o_ne hr.units rfl) (pv 2) (f_h (e_f (e_lst a_nil))) (nomark _)) (w_and1 (t_cmp (o_eq hr.units rfl) (d_callI (ok_law_take X) (hr.mono (by omega)) rfl (takes_of rfl rfl rfl rfl) (pv 0) (a_cons d_int a_nil)) (f_h d_int) (nomark _))))) (s_one (s_ret (d_callI (ok_law_one X) (hr.mono (by omega)) rfl (takes_of rfl rfl rfl rfl) (pv 0) (a_cons (d_v (pv 2)) a_nil)))) s_nil)
  (s_one (s_ret (d_callI (ok_law_one X) (hr.mono (by omega)) rfl (takes_of rfl rfl rfl rfl) (pv 0) (a_cons (d_v (pv 1)) a_nil)))))))
    exact step _ ih
def N_law_tree_text : List Str := [("tree" : Str), ("near" : Str), ("far" : Str), ("yes" : Str), ("no" : Str), ("part" : Str)]
theorem S_law_tree_text : FnScope N_law_tree_text [("tree" : Str)] (defScope (top 103)) := ⟨rfl, rfl, rfl, by decide +kernel, rfl, by decide +kernel, by decide +kernel⟩
theorem B_law_tree_text : Bnd ("_law_tree_text" : Str) ("_law_tree_text" : Str) (top 103) [("tree" : Str)] := fun _ _ _ _ _ _ us hl => match us, hl with | [_], _ => rfl
def g_law_tree_text (rec : List D → Out) : M Fl :=
  (sq (sIf (mB (vIsi (isiB "tuple") (eB 0))) (sq (sAsg (aLst 4 (aCons (aName 1) (aCons (aName 2) (aCons (aName 3) (aCons (aName 4) aNil))))) (bd (mLc (bd (eV 0) fun d => opt (itemsA d)) [5] (aName 5) (rt true) (mCall rec (bd (mCons (eV 5) mNil) fun ds => if ds.length = 1 then rt ds else stuck))) fun x => opt (Ent.toD x)))
  (sRet (m2 rAdd (m2 rAdd (m2 rAdd (m2 rAdd (m2 rAdd (m2 rAdd (m2 rAdd (m2 rAdd (rt (.str ("(" : Str))) (eB 1)) (rt (.str ("=" : Str)))) (eB 2)) (rt (.str ("?" : Str)))) (eB 3)) (rt (.str (":" : Str)))) (eB 4)) (rt (.str (")" : Str)))))) (rt .nx))
  (sRet (m1 rToStr (eB 0))))
def m_law_tree_text : Nat → List D → Out
  | 0 => fun _ => .stuck
  | n + 1 => runP N_law_tree_text.length (g_law_tree_text (m_law_tree_text n))
theorem ok_law_tree_text {c : Cfg} {mg : Str → Option Value} {base : Heap} (X : Fx c mg) : ∀ n, FnP c.P c.w c.K mg base c (0 + n) ("_law_tree_text" : Str) 1 (m_law_tree_text n)
  | 0 => fnP_no X.f_law_tree_text B_law_tree_text rfl
  | n + 1 => by
    have ih := ok_law_tree_text (base := base) X n
    have step : ∀ rec, FnP c.P c.w c.K mg base c (0 + n) ("_law_tree_text" : Str) 1 rec → FnP c.P c.w c.K mg base c (0 + n + 1) ("_law_tree_text" : Str) 1 (runP N_law_tree_text.length (g_law_tree_text rec)) := fun rec ih => fnP_of X.f_law_tree_text S_law_tree_text B_law_tree_text rfl (fun f cdv A outer s H E hr =>
  (s_cons (s_if (t_val (d_isi (isi_b rfl "tuple") (d_b (pv 0)) (pe_bltn rfl X.b_tuple (by decide +kernel) rfl) rfl X.b_isinstance)) (s_cons (s_asg (e_f (d_lc rfl S_law_tree_text.nd (i_seq rfl (d_v (pv 0))) (own := [(("part" : Str), 5)]) (blkOk_by rfl) (fun _ _ _ _ _ => (gw_name S_law_tree_text.nd rfl (by first | exact .inl rfl | exact .inr rfl) (by decide))) (fun _ _ _ _ _ => ts_nil) (fun _ _ _ _ _ => (d_call ih rfl (hr.mono (by omega)) rfl DL.takes0 (a_cons (d_v (pv 5)) a_nil))))) (g_lst rfl (g_cons (g_name S_law_tree_text.nd rfl (by first | exact .inl rfl | exact .inr rfl)) (g_cons (g_name S_law_tree_text.nd rfl (by first | exact .inl rfl | exact .inr rfl)) (g_cons (g_name S_law_tree_text.nd rfl (by first | exact .inl rfl | exact .inr rfl)) (g_cons (g_name S_law_tree_text.nd rfl (by first | exact .inl rfl | exact .inr rfl)) g_nil))))) (ner := (ne_lst (ne_cons ne_name (ne_cons ne_name (ne_cons ne_name (ne_cons ne_name ne_nil)))))))
  (s_one (s_ret (d_op (o_add rfl) (d_op (o_add rfl) (d_op (o_add rfl) (d_op (o_add rfl) (d_op (o_add rfl) (d_op (o_add rfl) (d_op (o_add rfl) (d_op (o_add rfl) d_str (d_b (pv 1))) (f_h d_str)) (d_b (pv 2))) (f_h d_str)) (d_b (pv 3))) (f_h d_str)) (d_b (pv 4))) (f_h d_str))))) s_nil)
  (s_one (s_ret (d_t1 c_str rfl X.b_str (by decide +kernel) (d_b (pv 0)))))))
    exact step _ ih
def N_law_deed_text : List Str := [("deed" : Str)]
theorem S_law_deed_text : FnScope N_law_deed_text [("deed" : Str)] (defScope (top 104)) := ⟨rfl, rfl, rfl, by decide +kernel, rfl, by decide +kernel, by decide +kernel⟩
theorem B_law_deed_text : Bnd ("_law_deed_text" : Str) ("_law_deed_text" : Str) (top 104) [("deed" : Str)] := fun _ _ _ _ _ _ us hl => match us, hl with | [_], _ => rfl
def g_law_deed_text : M Fl :=
  (sRet (m2 rAdd (m2 rAdd (m2B rIx 0 (rt (.int 0))) (mIf (mB (m2B rIx 0 (rt (.int 1)))) (rt (.str (" <= " : Str))) (rt (.str (" := " : Str))))) (mCall (m_law_tree_text 4) (bd (mCons (m2B rIx 0 (rt (.int 2))) mNil) fun ds => if ds.length = 1 then rt ds else stuck))))
def m_law_deed_text : List D → Out := runP N_law_deed_text.length g_law_deed_text
theorem ok_law_deed_text {c : Cfg} {mg : Str → Option Value} {base : Heap} (X : Fx c mg) : FnP c.P c.w c.K mg base c 5 ("_law_deed_text" : Str) 1 m_law_deed_text := fnP_of X.f_law_deed_text S_law_deed_text B_law_deed_text rfl (fun f cdv A outer s H E hr =>
  (s_one (s_ret (d_op (o_add rfl) (d_op (o_add rfl) (d_ixB rfl (pv 0) (f_h d_int)) (f_h (d_if (t_val (d_ixB rfl (pv 0) (f_h d_int))) d_str d_str))) (f_h (d_call (ok_law_tree_text X 4) rfl (hr.mono (by decide : 4 ≤ 4)) rfl (takes_of rfl rfl rfl rfl) (a_cons (d_ixB rfl (pv 0) (f_h d_int)) a_nil)))))))
def N_law_deeds_drawn : List Str := [("pool" : Str), ("written" : Str), ("words" : Str), ("digits" : Str), ("bound" : Str), ("deep" : Str), ("found" : Str), ("turn" : Str), ("tree" : Str)]
theorem S_law_deeds_drawn : FnScope N_law_deeds_drawn [("pool" : Str), ("written" : Str), ("words" : Str), ("digits" : Str), ("bound" : Str), ("deep" : Str)] (defScope (top 105)) := ⟨rfl, rfl, rfl, by decide +kernel, rfl, by decide +kernel, by decide +kernel⟩
theorem B_law_deeds_drawn : Bnd ("_law_deeds_drawn" : Str) ("_law_deeds_drawn" : Str) (top 105) [("pool" : Str), ("written" : Str), ("words" : Str), ("digits" : Str), ("bound" : Str), ("deep" : Str)] := fun _ _ _ _ _ _ us hl => match us, hl with | [_, _, _, _, _, _], _ => rfl
def g_law_deeds_drawn : M Fl :=
  (sq (sSet 6 (mLst mNil))
  (sq (mFor (bd (mCons (m2 rAdd (rt (.int 1)) (mCallI 0 m_law_take 1 (mCons (eV 4) mNil))) mNil) fun ds => opt (if ds.length = 1 then rRange ds else none)) (aName 7) (sq (sSetF 8 (mCallI 0 (m_law_tree 3) 3 (mCons (eV 2) (mCons (eV 3) (mCons (eV 5) mNil)))))
  (sDrop (mLM 6 fAppend (mCons (mTup (mCons (mCallI 0 m_law_one 1 (mCons (eV 1) mNil)) (mCons (m2 rEq (mCallI 0 m_law_take 1 (mCons (rt (.int 3)) mNil)) (rt (.int 0))) (mCons (eV 8) mNil)))) mNil)))))
  (sRet (eV 6))))
def m_law_deeds_drawn : List D → List D → OutI := runI N_law_deeds_drawn.length g_law_deeds_drawn
theorem ok_law_deeds_drawn {c : Cfg} {mg : Str → Option Value} {base : Heap} (X : Fx c mg) : FnI c.P c.w c.K mg base c 6 ("_law_deeds_drawn" : Str) 5 m_law_deeds_drawn := fnI_of X.f_law_deeds_drawn S_law_deeds_drawn B_law_deeds_drawn rfl (fun f cdv A outer s H E hr =>
  (s_cons (s_set S_law_deeds_drawn.nd rfl (by first | exact .inl rfl | exact .inr rfl) (e_lst a_nil))
  (s_cons (s_for (passes_of rfl) rfl (i_range1 rfl X.b_range (a_cons (d_op (o_add rfl) d_int (f_h (d_callI (ok_law_take X) (hr.mono (by decide : 1 ≤ 5)) rfl (takes_of rfl rfl rfl rfl) (pv 0) (a_cons (d_v (pv 4)) a_nil)))) a_nil)) (g_name S_law_deeds_drawn.nd rfl (by first | exact .inl rfl | exact .inr rfl)) (s_cons (s_setF S_law_deeds_drawn.nd rfl (by first | exact .inl rfl | exact .inr rfl) (d_callI (ok_law_tree X 3) (hr.mono (by decide : 5 ≤ 5)) rfl (takes_of rfl rfl rfl rfl) (pv 0) (a_cons (d_v (pv 2)) (a_cons (d_v (pv 3)) (a_cons (d_v (pv 5)) a_nil)))))
  (s_one (s_expr (d_lm PySem.F.slot_list_append PySem.F.type_list_append mt_append lm_append (pv 6) (a_cons (d_tup (a_cons (d_callI (ok_law_one X) (hr.mono (by decide : 2 ≤ 5)) rfl (takes_of rfl rfl rfl rfl) (pv 0) (a_cons (d_v (pv 1)) a_nil)) (a_cons (d_cmp (o_eq hr.units rfl) (d_callI (ok_law_take X) (hr.mono (by decide : 1 ≤ 5)) rfl (takes_of rfl rfl rfl rfl) (pv 0) (a_cons d_int a_nil)) (f_h d_int) (nomark _)) (a_cons (d_v (pv 8)) a_nil)))) a_nil))))) ne_name)
  (s_one (s_ret (d_v (pv 6)))))))
end G
end
section
set_option Elab.async false
set_option linter.all false
set_option maxRecDepth 100000
set_option maxHeartbeats 4000000
namespace G
open PySem PySem.Spec PyProof.Rows L2 DL
def N_law_less_at_once : List Str := [("plain" : Str), ("left" : Str), ("processes" : Str), ("name" : Str), ("waits" : Str), ("deeds" : Str), ("made" : Str), ("variable" : Str), ("is_late" : Str), ("tree" : Str)]
theorem S_law_less_at_once : FnScope N_law_less_at_once [("plain" : Str)] (defScope (top 107)) := ⟨rfl, rfl, rfl, by decide +kernel, rfl, by decide +kernel, by decide +kernel⟩
theorem B_law_less_at_once : Bnd ("_law_less_at_once" : Str) ("_law_less_at_once" : Str) (top 107) [("plain" : Str)] := fun _ _ _ _ _ _ us hl => match us, hl with | [_], _ => rfl
def g_law_less_at_once : M Fl :=
  (sq (sPar 1 2 (bd (rt (.int 8)) fun d => rt (Ent.fz d)) (mLst mNil))
  (sq (mFor (bd (mDget (eV 0) (rt (.str ("processes" : Str)))) fun d => opt (itemsA d)) (aTup 3 (aCons (aName 3) (aCons (aName 4) (aCons (aName 5) aNil)))) (sq (sSet 6 (mLst mNil))
  (sq (mFor (bd (eV 5) fun d => opt (itemsA d)) (aTup 3 (aCons (aName 7) (aCons (aName 8) (aCons (aName 9) aNil)))) (sq (sSetF 1 (m2B rSub 1 (m1 rToInt (vNot (eV 8)))))
  (sDrop (mLM 6 fAppend (mCons (mTup (mCons (eV 7) (mCons (vOr (eV 8) (m2B rLt 1 (rt (.int 0)))) (mCons (eV 9) mNil)))) mNil)))))
  (sDrop (mLM 2 fAppend (mCons (mTup (mCons (eV 3) (mCons (eV 4) (mCons (eV 6) mNil)))) mNil))))))
  (sRet (bd (mDisp2 ("processes" : Str) ("inputs" : Str) (eV 2) (mDget (eV 0) (rt (.str ("inputs" : Str))))) fun x => opt (Ent.toD x)))))
def m_law_less_at_once : List D → Out := runP N_law_less_at_once.length g_law_less_at_once
theorem ok_law_less_at_once {c : Cfg} {mg : Str → Option Value} {base : Heap} (X : Fx c mg) : FnP c.P c.w c.K mg base c 1 ("_law_less_at_once" : Str) 1 m_law_less_at_once := fnP_of X.f_law_less_at_once S_law_less_at_once B_law_less_at_once rfl (fun f cdv A outer s H E hr =>
  (s_cons (s_par rfl S_law_less_at_once.nd rfl rfl (by decide) rfl rfl (f_e d_int) (e_lst a_nil) rfl)
  (s_cons (s_for (passes_of rfl) rfl (i_seq rfl (d_dget (Nat.lt_of_le_of_lt (Nat.add_le_add_left (by decide : 1 ≤ 64) _) hr.units) (d_v (pv 0)) d_str)) (g_tup rfl rfl (g_cons (g_name S_law_less_at_once.nd rfl (by first | exact .inl rfl | exact .inr rfl)) (g_cons (g_name S_law_less_at_once.nd rfl (by first | exact .inl rfl | exact .inr rfl)) (g_cons (g_name S_law_less_at_once.nd rfl (by first | exact .inl rfl | exact .inr rfl)) g_nil)))) (s_cons (s_set S_law_less_at_once.nd rfl (by first | exact .inl rfl | exact .inr rfl) (e_lst a_nil))
  (s_cons (s_for (passes_of rfl) rfl (i_seq rfl (d_v (pv 5))) (g_tup rfl rfl (g_cons (g_name S_law_less_at_once.nd rfl (by first | exact .inl rfl | exact .inr rfl)) (g_cons (g_name S_law_less_at_once.nd rfl (by first | exact .inl rfl | exact .inr rfl)) (g_cons (g_name S_law_less_at_once.nd rfl (by first | exact .inl rfl | exact .inr rfl)) g_nil)))) (s_cons (s_setF S_law_less_at_once.nd rfl (by first | exact .inl rfl | exact .inr rfl) (d_opB o_sub (pv 1) (f_h (d_t1 c_int rfl X.b_int (by decide +kernel) (f_h (v_not (d_v (pv 8))))))))
  (s_one (s_expr (d_lm PySem.F.slot_list_append PySem.F.type_list_append mt_append lm_append (pv 6) (a_cons (d_tup (a_cons (d_v (pv 7)) (a_cons (v_or (d_v (pv 8)) (v_one (d_cmpB o_lt (pv 1) (f_h d_int) (nomark _)))) (a_cons (d_v (pv 9)) a_nil)))) a_nil))))) (ne_tup (ne_cons ne_name (ne_cons ne_name (ne_cons ne_name ne_nil)))))
  (s_one (s_expr (d_lm PySem.F.slot_list_append PySem.F.type_list_append mt_append lm_append (pv 2) (a_cons (d_tup (a_cons (d_v (pv 3)) (a_cons (d_v (pv 4)) (a_cons (d_v (pv 6)) a_nil)))) a_nil)))))) (ne_tup (ne_cons ne_name (ne_cons ne_name (ne_cons ne_name ne_nil)))))
  (s_one (s_ret (e_f (e_disp2 (d_v (pv 2)) (d_dget (Nat.lt_of_le_of_lt (Nat.add_le_add_left (by decide : 1 ≤ 64) _) hr.units) (d_v (pv 0)) d_str))))))))
def N_law_plain : List Str := [("pool" : Str), ("many_processes" : Str), ("many_deeds" : Str), ("deep" : Str), ("words" : Str), ("taken" : Str), ("written" : Str), ("digits" : Str), ("processes" : Str), ("titles" : Str), ("name" : Str), ("waits" : Str), ("deeds" : Str)]
theorem S_law_plain : FnScope N_law_plain [("pool" : Str), ("many_processes" : Str), ("many_deeds" : Str), ("deep" : Str)] (defScope (top 106)) := ⟨rfl, rfl, rfl, by decide +kernel, rfl, by decide +kernel, by decide +kernel⟩
theorem B_law_plain : Bnd ("_law_plain" : Str) ("_law_plain" : Str) (top 106) [("pool" : Str), ("many_processes" : Str), ("many_deeds" : Str), ("deep" : Str)] := fun _ _ _ _ _ _ us hl => match us, hl with | [_, _, _, _], _ => rfl
def g_law_plain : M Fl :=
  (sq (sSetF 4 (mCallI 0 m_law_words 1 (mCons (m2 rAdd (rt (.int 3)) (mCallI 0 m_law_take 1 (mCons (rt (.int 2)) mNil))) mNil)))
  (sq (sSetF 5 (mCut (eV 4) (rt none) (bd (m2 rAdd (rt (.int 1)) (m1 rToInt (vAnd (m2 rGt (m1 rLen (eB 4)) (rt (.int 3))) (m2 rEq (mCallI 0 m_law_take 1 (mCons (rt (.int 3)) mNil)) (rt (.int 0)))))) fun d => bd (opt (asI d)) fun i => rt (some i))))
  (sq (sSetF 6 (mCut (eV 4) (bd (m1 rLen (eB 5)) fun d => bd (opt (asI d)) fun i => rt (some i)) (rt none)))
  (sq (sSetF 7 (mCallI 0 m_law_one 1 (mCons (bd (mLst (mCons (bd (mLst mNil) fun x => opt (Ent.toD x)) (mCons (bd (mLst (mCons (rt (.int 0)) mNil)) fun x => opt (Ent.toD x)) (mCons (bd (mLst (mCons (rt (.int 1)) mNil)) fun x => opt (Ent.toD x)) (mCons (bd (mLst (mCons (rt (.int 0)) (mCons (rt (.int 1)) mNil))) fun x => opt (Ent.toD x)) (mCons (bd (mLst (mCons (rt (.int 2)) (mCons (rt (.int 7)) mNil))) fun x => opt (Ent.toD x)) mNil)))))) fun x => opt (Ent.toD x)) mNil)))
  (sq (sSet 8 (mLst mNil))
  (sq (sSetF 9 (mCallI 0 m_law_one 1 (mCons (bd (mLst (mCons (bd (mLst (mCons (rt (.str ("p" : Str))) (mCons (rt (.str ("q" : Str))) (mCons (rt (.str ("r" : Str))) (mCons (rt (.str ("s" : Str))) (mCons (rt (.str ("t" : Str))) mNil)))))) fun x => opt (Ent.toD x)) (mCons (bd (mLst (mCons (rt (.str ("t" : Str))) (mCons (rt (.str ("s" : Str))) (mCons (rt (.str ("r" : Str))) (mCons (rt (.str ("q" : Str))) (mCons (rt (.str ("p" : Str))) mNil)))))) fun x => opt (Ent.toD x)) mNil))) fun x => opt (Ent.toD x)) mNil)))
  (sq (mFor (bd (mCut (eV 9) (rt none) (bd (m2 rAdd (rt (.int 1)) (mCallI 0 m_law_take 1 (mCons (eV 1) mNil))) fun d => bd (opt (asI d)) fun i => rt (some i))) fun d => opt (itemsA d)) (aName 10) (sq (sSetF 11 (mCut (mCallI 0 m_law_turned 1 (mCons (eV 4) mNil)) (rt none) (bd (m2 rAdd (rt (.int 1)) (mCallI 0 m_law_take 1 (mCons (rt (.int 2)) mNil))) fun d => bd (opt (asI d)) fun i => rt (some i))))
  (sq (sSetF 12 (mCallI 0 m_law_deeds_drawn 5 (mCons (eV 6) (mCons (eV 4) (mCons (eV 7) (mCons (eV 2) (mCons (eV 3) mNil)))))))
  (sDrop (mLM 8 fAppend (mCons (mTup (mCons (eV 10) (mCons (eV 11) (mCons (eV 12) mNil)))) mNil))))))
  (sRet (mCall m_law_less_at_once (bd (mCons (bd (mDisp2 ("processes" : Str) ("inputs" : Str) (eV 8) (eV 5)) fun x => opt (Ent.toD x)) mNil) fun ds => if ds.length = 1 then rt ds else stuck))))))))))
def m_law_plain : List D → List D → OutI := runI N_law_plain.length g_law_plain
theorem ok_law_plain {c : Cfg} {mg : Str → Option Value} {base : Heap} (X : Fx c mg) : FnI c.P c.w c.K mg base c 7 ("_law_plain" : Str) 3 m_law_plain := fnI_of X.f_law_plain S_law_plain B_law_plain rfl (fun f cdv A outer s H E hr =>
  (s_cons (s_setF S_law_plain.nd rfl (by first | exact .inl rfl | exact .inr rfl) (d_callI (ok_law_words X) (hr.mono (by decide : 3 ≤ 6)) rfl (takes_of rfl rfl rfl rfl) (pv 0) (a_cons (d_op (o_add rfl) d_int (f_h (d_callI (ok_law_take X) (hr.mono (by decide : 1 ≤ 6)) rfl (takes_of rfl rfl rfl rfl) (pv 0) (a_cons d_int a_nil)))) a_nil)))
  (s_cons (s_setF S_law_plain.nd rfl (by first | exact .inl rfl | exact .inr rfl) (d_cut rfl (d_v (pv 4)) o_none (o_some (d_op (o_add rfl) d_int (f_h (d_t1 c_int rfl X.b_int (by decide +kernel) (f_h (v_and (d_cmp o_gt (d_b1 (c_len rfl) rfl X.b_len (by decide +kernel) (d_b (pv 4))) (f_h d_int) (nomark _)) (v_one (d_cmp (o_eq hr.units rfl) (d_callI (ok_law_take X) (hr.mono (by decide : 1 ≤ 6)) rfl (takes_of rfl rfl rfl rfl) (pv 0) (a_cons d_int a_nil)) (f_h d_int) (nomark _)))))))))))
  (s_cons (s_setF S_law_plain.nd rfl (by first | exact .inl rfl | exact .inr rfl) (d_cut rfl (d_v (pv 4)) (o_some (d_b1 (c_len rfl) rfl X.b_len (by decide +kernel) (d_b (pv 5)))) o_none))
  (s_cons (s_setF S_law_plain.nd rfl (by first | exact .inl rfl | exact .inr rfl) (d_callI (ok_law_one X) (hr.mono (by decide : 2 ≤ 6)) rfl (takes_of rfl rfl rfl rfl) (pv 0) (a_cons (e_f (e_lst (a_cons (e_f (e_lst a_nil)) (a_cons (e_f (e_lst (a_cons d_int a_nil))) (a_cons (e_f (e_lst (a_cons d_int a_nil))) (a_cons (e_f (e_lst (a_cons d_int (a_cons d_int a_nil)))) (a_cons (e_f (e_lst (a_cons d_int (a_cons d_int a_nil)))) a_nil))))))) a_nil)))
  (s_cons (s_set S_law_plain.nd rfl (by first | exact .inl rfl | exact .inr rfl) (e_lst a_nil))
  (s_cons (s_setF S_law_plain.nd rfl (by first | exact .inl rfl | exact .inr rfl) (d_callI (ok_law_one X) (hr.mono (by decide : 2 ≤ 6)) rfl (takes_of rfl rfl rfl rfl) (pv 0) (a_cons (e_f (e_lst (a_cons (e_f (e_lst (a_cons d_str (a_cons d_str (a_cons d_str (a_cons d_str (a_cons d_str a_nil))))))) (a_cons (e_f (e_lst (a_cons d_str (a_cons d_str (a_cons d_str (a_cons d_str (a_cons d_str a_nil))))))) a_nil)))) a_nil)))
  (s_cons (s_for (passes_of rfl) rfl (i_seq rfl (d_cut rfl (d_v (pv 9)) o_none (o_some (d_op (o_add rfl) d_int (f_h (d_callI (ok_law_take X) (hr.mono (by decide : 1 ≤ 6)) rfl (takes_of rfl rfl rfl rfl) (pv 0) (a_cons (d_v (pv 1)) a_nil))))))) (g_name S_law_plain.nd rfl (by first | exact .inl rfl | exact .inr rfl)) (s_cons (s_setF S_law_plain.nd rfl (by first | exact .inl rfl | exact .inr rfl) (d_cut rfl (d_callI (ok_law_turned X) (hr.mono (by decide : 2 ≤ 6)) rfl (takes_of rfl rfl rfl rfl) (pv 0) (a_cons (d_v (pv 4)) a_nil)) o_none (o_some (d_op (o_add rfl) d_int (f_h (d_callI (ok_law_take X) (hr.mono (by decide : 1 ≤ 6)) rfl (takes_of rfl rfl rfl rfl) (pv 0) (a_cons d_int a_nil)))))))
  (s_cons (s_setF S_law_plain.nd rfl (by first | exact .inl rfl | exact .inr rfl) (d_callI (ok_law_deeds_drawn X) (hr.mono (by decide : 6 ≤ 6)) rfl (takes_of rfl rfl rfl rfl) (pv 0) (a_cons (d_v (pv 6)) (a_cons (d_v (pv 4)) (a_cons (d_v (pv 7)) (a_cons (d_v (pv 2)) (a_cons (d_v (pv 3)) a_nil)))))))
  (s_one (s_expr (d_lm PySem.F.slot_list_append PySem.F.type_list_append mt_append lm_append (pv 8) (a_cons (d_tup (a_cons (d_v (pv 10)) (a_cons (d_v (pv 11)) (a_cons (d_v (pv 12)) a_nil)))) a_nil)))))) ne_name)
  (s_one (s_ret (d_call (ok_law_less_at_once X) rfl (hr.mono (by decide : 1 ≤ 6)) rfl (takes_of rfl rfl rfl rfl) (a_cons (e_f (e_disp2 (d_v (pv 8)) (d_v (pv 5)))) a_nil))))))))))))
def N_law_names : List Str := [("plain" : Str), ("name" : Str), ("waits" : Str), ("deeds" : Str)]
theorem S_law_names : FnScope N_law_names [("plain" : Str)] (defScope (top 108)) := ⟨rfl, rfl, rfl, by decide +kernel, rfl, by decide +kernel, by decide +kernel⟩
theorem B_law_names : Bnd ("_law_names" : Str) ("_law_names" : Str) (top 108) [("plain" : Str)] := fun _ _ _ _ _ _ us hl => match us, hl with | [_], _ => rfl
def g_law_names : M Fl :=
  (sRet (bd (mLc (bd (mDget (eV 0) (rt (.str ("processes" : Str)))) fun d => opt (itemsA d)) [1, 2, 3] (aTup 3 (aCons (aName 1) (aCons (aName 2) (aCons (aName 3) aNil)))) (rt true) (eV 1)) fun x => opt (Ent.toD x)))
def m_law_names : List D → Out := runP N_law_names.length g_law_names
theorem ok_law_names {c : Cfg} {mg : Str → Option Value} {base : Heap} (X : Fx c mg) : FnP c.P c.w c.K mg base c 1 ("_law_names" : Str) 1 m_law_names := fnP_of X.f_law_names S_law_names B_law_names rfl (fun f cdv A outer s H E hr =>
  (s_one (s_ret (e_f (d_lc rfl S_law_names.nd (i_seq rfl (d_dget (Nat.lt_of_le_of_lt (Nat.add_le_add_left (by decide : 1 ≤ 64) _) hr.units) (d_v (pv 0)) d_str)) (own := [(("name" : Str), 1), (("waits" : Str), 2), (("deeds" : Str), 3)]) (blkOk_by rfl) (fun _ _ _ _ _ => (gw_tup rfl rfl (gw_cons (gw_name S_law_names.nd rfl (by first | exact .inl rfl | exact .inr rfl) (by decide)) (gw_cons (gw_name S_law_names.nd rfl (by first | exact .inl rfl | exact .inr rfl) (by decide)) (gw_cons (gw_name S_law_names.nd rfl (by first | exact .inl rfl | exact .inr rfl) (by decide)) gw_nil))))) (fun _ _ _ _ _ => ts_nil) (fun _ _ _ _ _ => (d_v (pv 1))))))))
def N_law_made_process : List Str := [("entry" : Str), ("deed" : Str)]
theorem S_law_made_process : FnScope N_law_made_process [("entry" : Str)] (defScope (top 109)) := ⟨rfl, rfl, rfl, by decide +kernel, rfl, by decide +kernel, by decide +kernel⟩
theorem B_law_made_process : Bnd ("_law_made_process" : Str) ("_law_made_process" : Str) (top 109) [("entry" : Str)] := fun _ _ _ _ _ _ us hl => match us, hl with | [_], _ => rfl
def g_law_made_process : M Fl :=
  (sRet (mMake 2 3 m_Process_init (mCons (m2B rIx 0 (rt (.int 0))) (mCons (m2B rIx 0 (rt (.int 1))) (mCons (bd (mLc (bd (m2B rIx 0 (rt (.int 2))) fun d => opt (itemsA d)) [1] (aName 1) (rt true) (mCall m_law_deed_text (bd (mCons (eV 1) mNil) fun ds => if ds.length = 1 then rt ds else stuck))) fun x => opt (Ent.toD x)) mNil)))))
def m_law_made_process : List D → Out := runP N_law_made_process.length g_law_made_process
theorem ok_law_made_process {c : Cfg} {mg : Str → Option Value} {base : Heap} (X : Fx c mg) : FnP c.P c.w c.K mg base c 15 ("_law_made_process" : Str) 1 m_law_made_process := fnP_of X.f_law_made_process S_law_made_process B_law_made_process rfl (fun f cdv A outer s H E hr =>
  (s_one (s_ret (d_make (ok_Process_init X) (hr.mono (by decide : 14 ≤ 14)) rfl (takes_of rfl rfl rfl rfl) (a_cons (d_ixB rfl (pv 0) (f_h d_int)) (a_cons (d_ixB rfl (pv 0) (f_h d_int)) (a_cons (e_f (d_lc rfl S_law_made_process.nd (i_seq rfl (d_ixB rfl (pv 0) (f_h d_int))) (own := [(("deed" : Str), 1)]) (blkOk_by rfl) (fun _ _ _ _ _ => (gw_name S_law_made_process.nd rfl (by first | exact .inl rfl | exact .inr rfl) (by decide))) (fun _ _ _ _ _ => ts_nil) (fun _ _ _ _ _ => (d_call (ok_law_deed_text X) rfl (hr.mono (by decide : 5 ≤ 14)) rfl DL.takes0 (a_cons (d_v (pv 1)) a_nil))))) a_nil)))))))
def N_law_made : List Str := [("plain" : Str), ("entry" : Str)]
theorem S_law_made : FnScope N_law_made [("plain" : Str)] (defScope (top 110)) := ⟨rfl, rfl, rfl, by decide +kernel, rfl, by decide +kernel, by decide +kernel⟩
theorem B_law_made : Bnd ("_law_made" : Str) ("_law_made" : Str) (top 110) [("plain" : Str)] := fun _ _ _ _ _ _ us hl => match us, hl with | [_], _ => rfl
def g_law_made : M Fl :=
  (sRet (mMake 3 2 m_Program_init (mCons (bd (mLc (bd (mDget (eV 0) (rt (.str ("processes" : Str)))) fun d => opt (itemsA d)) [1] (aName 1) (rt true) (mCall m_law_made_process (bd (mCons (eV 1) mNil) fun ds => if ds.length = 1 then rt ds else stuck))) fun x => opt (Ent.toD x)) (mCons (mDget (eV 0) (rt (.str ("inputs" : Str)))) mNil))))
def m_law_made : List D → Out := runP N_law_made.length g_law_made
theorem ok_law_made {c : Cfg} {mg : Str → Option Value} {base : Heap} (X : Fx c mg) : FnP c.P c.w c.K mg base c 16 ("_law_made" : Str) 1 m_law_made := fnP_of X.f_law_made S_law_made B_law_made rfl (fun f cdv A outer s H E hr =>
  (s_one (s_ret (d_make (ok_Program_init X) (hr.mono (by decide : 11 ≤ 15)) rfl (takes_of rfl rfl rfl rfl) (a_cons (e_f (d_lc rfl S_law_made.nd (i_seq rfl (d_dget (Nat.lt_of_le_of_lt (Nat.add_le_add_left (by decide : 1 ≤ 64) _) hr.units) (d_v (pv 0)) d_str)) (own := [(("entry" : Str), 1)]) (blkOk_by rfl) (fun _ _ _ _ _ => (gw_name S_law_made.nd rfl (by first | exact .inl rfl | exact .inr rfl) (by decide))) (fun _ _ _ _ _ => ts_nil) (fun _ _ _ _ _ => (d_call (ok_law_made_process X) rfl (hr.mono (by decide : 15 ≤ 15)) rfl DL.takes0 (a_cons (d_v (pv 1)) a_nil))))) (a_cons (d_dget (Nat.lt_of_le_of_lt (Nat.add_le_add_left (by decide : 1 ≤ 64) _) hr.units) (d_v (pv 0)) d_str) a_nil))))))
def N_law_places : List Str := [("plain" : Str), ("found" : Str), ("name" : Str), ("waits" : Str), ("deeds" : Str), ("spot" : Str), ("deed" : Str)]
theorem S_law_places : FnScope N_law_places [("plain" : Str)] (defScope (top 111)) := ⟨rfl, rfl, rfl, by decide +kernel, rfl, by decide +kernel, by decide +kernel⟩
theorem B_law_places : Bnd ("_law_places" : Str) ("_law_places" : Str) (top 111) [("plain" : Str)] := fun _ _ _ _ _ _ us hl => match us, hl with | [_], _ => rfl
def g_law_places : M Fl :=
  (sq (sSet 1 (mLst mNil))
  (sq (mFor (bd (mDget (eV 0) (rt (.str ("processes" : Str)))) fun d => opt (itemsA d)) (aTup 3 (aCons (aName 2) (aCons (aName 3) (aCons (aName 4) aNil)))) (sSetF 1 (m2B rAdd 1 (bd (mLc (bd (eV 4) fun d => bd (opt (items d)) fun l => rt (enumD l)) [5, 6] (aTup 2 (aCons (aName 5) (aCons (aName 6) aNil))) (mNot (mB (m2B rIx 6 (rt (.int 1))))) (mTup (mCons (eV 2) (mCons (eV 5) mNil)))) fun x => opt (Ent.toD x)))))
  (sRet (eV 1))))
def m_law_places : List D → Out := runP N_law_places.length g_law_places
theorem ok_law_places {c : Cfg} {mg : Str → Option Value} {base : Heap} (X : Fx c mg) : FnP c.P c.w c.K mg base c 1 ("_law_places" : Str) 1 m_law_places := fnP_of X.f_law_places S_law_places B_law_places rfl (fun f cdv A outer s H E hr =>
  (s_cons (s_set S_law_places.nd rfl (by first | exact .inl rfl | exact .inr rfl) (e_lst a_nil))
  (s_cons (s_for (passes_of rfl) rfl (i_seq rfl (d_dget (Nat.lt_of_le_of_lt (Nat.add_le_add_left (by decide : 1 ≤ 64) _) hr.units) (d_v (pv 0)) d_str)) (g_tup rfl rfl (g_cons (g_name S_law_places.nd rfl (by first | exact .inl rfl | exact .inr rfl)) (g_cons (g_name S_law_places.nd rfl (by first | exact .inl rfl | exact .inr rfl)) (g_cons (g_name S_law_places.nd rfl (by first | exact .inl rfl | exact .inr rfl)) g_nil)))) (s_one (s_setF S_law_places.nd rfl (by first | exact .inl rfl | exact .inr rfl) (d_opB (o_add rfl) (pv 1) (f_h (e_f (d_lc rfl S_law_places.nd (i_enum rfl X.b_enumerate (d_v (pv 4))) (own := [(("spot" : Str), 5), (("deed" : Str), 6)]) (blkOk_by rfl) (fun _ _ _ _ _ => (gw_tup rfl rfl (gw_cons (gw_name S_law_places.nd rfl (by first | exact .inl rfl | exact .inr rfl) (by decide)) (gw_cons (gw_name S_law_places.nd rfl (by first | exact .inl rfl | exact .inr rfl) (by decide)) gw_nil)))) (fun _ _ _ _ _ => (ts_one (t_not (t_val (d_ixB rfl (pv 6) (f_h d_int)))))) (fun _ _ _ _ _ => (d_tup (a_cons (d_v (pv 2)) (a_cons (d_v (pv 5)) a_nil)))))))))) (ne_tup (ne_cons ne_name (ne_cons ne_name (ne_cons ne_name ne_nil)))))
  (s_one (s_ret (d_v (pv 1)))))))
end G
end
section
set_option Elab.async false
set_option linter.all false
set_option maxRecDepth 100000
set_option maxHeartbeats 4000000
namespace G
open PySem PySem.Spec PyProof.Rows L2 DL
def N_law_refused : List Str := [("program" : Str), ("places" : Str), ("way" : Str), ("e" : Str)]
theorem S_law_refused : FnScope N_law_refused [("program" : Str), ("places" : Str), ("way" : Str)] (defScope (top 112)) := ⟨rfl, rfl, rfl, by decide +kernel, rfl, by decide +kernel, by decide +kernel⟩
theorem B_law_refused : Bnd ("_law_refused" : Str) ("_law_refused" : Str) (top 112) [("program" : Str), ("places" : Str), ("way" : Str)] := fun _ _ _ _ _ _ us hl => match us, hl with | [_, _, _], _ => rfl
def g_law_refused : M Fl :=
  (sq (sTry 3 [4] (fun k fs => if memN k [4] = true then hdRepr ("value" : Str) k fs else stuck) (sIf (mB (m2B rEq 2 (rt (.int 0)))) (sDrop (mMeth 3 ("delayed" : Str) m_Program_delayed (eV 0) (bd (mCons (eV 1) mNil) fun ds => if ds.length = 1 then rt ds else stuck))) (sDrop (bd (both 2 ([("most" : Str)] : List Str).length (mCons (eV 0) (mCons (eV 1) mNil)) (mCons (rt (.int 1)) mNil)) fun ds => lift (m_helps ds)))))
  (sRet (rt .non)))
def m_law_refused : List D → Out := runP N_law_refused.length g_law_refused
theorem bd_law_refused {c : Cfg} {mg : Str → Option Value} {base : Heap} (X : Fx c mg) : ∀ f, BodyG c c.P c.w c.K mg base N_law_refused ("_law_refused" : Str) (defScope (top 112)) f 7 (defBody (top 112)) g_law_refused := fun f cdv A outer s H E hr hgd =>
  (s_cons (s_try rfl rfl S_law_refused.nd rfl rfl ⟨rfl, by decide, .inl X.g4⟩ (takes_of rfl rfl rfl rfl) (by intro k hk; cases hk with | head => exact X.exm4 | tail _ h => cases h) (fun W0' pn xe tk hp => (s_one (s_if (t_cmpB (o_eq hr.units rfl) (pv 2) (f_h d_int) (nomark _)) (s_one (s_expr (d_meth (ok_Program_delayed X) (hr.mono (by decide : 6 ≤ 7)) tk (d_v (pv 0)) (a_cons (d_v (pv 1)) a_nil)))) (s_one (s_expr (d_callK (ok_helps X) (hr.mono (by decide : 7 ≤ 7)) rfl tk (a_cons (d_v (pv 0)) (a_cons (d_v (pv 1)) a_nil)) (k_cons d_int k_nil))))))) (fun a oe cls d pn hz hf => X.xf4.elim fun B hB => su_repr rfl hgd hr.units rfl (by first | exact Or.inl rfl | exact Or.inr (Or.inl rfl)) (by decide) (by decide) rfl X.b_repr rfl X.b_isinstance rfl hB.1 (by decide) hB.2 hz hf rfl rfl rfl rfl rfl rfl rfl))
  (s_one (s_ret d_non)))
theorem ok_law_refused {c : Cfg} {mg : Str → Option Value} {base : Heap} (X : Fx c mg) : FnPG c.P c.w c.K mg base c 8 ("_law_refused" : Str) 3 m_law_refused := fnPG_of X.f_law_refused S_law_refused B_law_refused rfl (bd_law_refused X)
def N_law : List Str := [("script" : Str), ("plain" : Str), ("program" : Str), ("places" : Str), ("name" : Str), ("whole" : Str), ("title" : Str), ("waits" : Str), ("deeds" : Str), ("at" : Str), ("odd" : Str), ("place" : Str), ("value" : Str), ("way" : Str), ("some" : Str)]
theorem S_law : FnScope N_law [("script" : Str)] (defScope (top 113)) := ⟨rfl, rfl, rfl, by decide +kernel, rfl, by decide +kernel, by decide +kernel⟩
theorem B_law : Bnd ("law" : Str) ("law" : Str) (top 113) [("script" : Str)] := fun _ _ _ _ _ _ us hl => match us, hl with | [_], _ => rfl
def g_law : M Fl :=
  (sq (sSetF 1 (mCallIE (mCallE m_law_pool 2 (mCons (eV 0) (mCons (rt (.int 0)) mNil))) m_law_plain 3 (mCons (rt (.int 4)) (mCons (rt (.int 2)) (mCons (rt (.int 2)) mNil)))))
  (sq (sAsg (aTup 2 (aCons (aName 2) (aCons (aName 3) aNil))) (mTup (mCons (mCall m_law_made (bd (mCons (eV 1) mNil) fun ds => if ds.length = 1 then rt ds else stuck)) (mCons (mCall m_law_places (bd (mCons (eV 1) mNil) fun ds => if ds.length = 1 then rt ds else stuck)) mNil))))
  (sq (sPar 4 5 (bd (m2 rIx (mCall m_law_names (bd (mCons (eV 1) mNil) fun ds => if ds.length = 1 then rt ds else stuck)) (rt (.int 0))) fun d => rt (Ent.fz d)) (mLst mNil))
  (sq (mFor (bd (mDget (eV 1) (rt (.str ("processes" : Str)))) fun d => opt (itemsA d)) (aTup 3 (aCons (aName 6) (aCons (aName 7) (aCons (aName 8) aNil)))) (sSetF 5 (m2B rAdd 5 (bd (mLc (bd (mCons (m1 rLen (eB 8)) mNil) fun ds => opt (if ds.length = 1 then rRange ds else none)) [9] (aName 9) (rt true) (mTup (mCons (eV 6) (mCons (eV 9) mNil)))) fun x => opt (Ent.toD x)))))
  (sq (sSet 10 (mLst (mCons (rt .non) (mCons (rt (.int 5)) (mCons (eV 4) (mCons (mTup (mCons (eV 4) mNil)) (mCons (bd (mLst (mCons (eV 4) (mCons (rt (.int 0)) mNil))) fun x => opt (Ent.toD x)) (mCons (mTup (mCons (eV 4) (mCons (rt (.int 0)) (mCons (rt (.int 0)) mNil)))) (mCons (mTup (mCons (eV 4) (mCons (rt (.int (-1))) mNil))) (mCons (mTup (mCons (eV 4) (mCons (rt (.int 9)) mNil))) (mCons (mTup (mCons (eV 4) (mCons (rt .non) mNil))) (mCons (mTup (mCons (eV 4) (mCons (rt (.bl true)) mNil))) mNil))))))))))))
  (sq (sSetF 10 (m2 rAdd (m2B rAdd 10 (bd (mLst (mCons (mTup (mCons (rt (.str ("nobody" : Str))) (mCons (rt (.int 0)) mNil))) (mCons (mTup (mCons (rt .non) (mCons (rt (.int 0)) mNil))) (mCons (mTup (mCons (rt (.int 0)) (mCons (eV 4) mNil))) (mCons (mTup (mCons (mTup (mCons (eV 4) mNil)) (mCons (rt (.int 0)) mNil))) mNil))))) fun x => opt (Ent.toD x))) (bd (mLc (bd (eV 5) fun d => opt (itemsA d)) [11] (aName 11) (mB (m2B rNotIn 11 (eB 3))) (eV 11)) fun x => opt (Ent.toD x))))
  (sq (mFor (bd (eV 10) fun d => opt (itemsA d)) (aName 12) (mFor (bd (mCons (rt (.int 2)) mNil) fun ds => opt (if ds.length = 1 then rRange ds else none)) (aName 13) (mFor (bd (bd (mLst (mCons (bd (mLst (mCons (eV 12) mNil)) fun x => opt (Ent.toD x)) (mCons (m2B rAdd 3 (bd (mLst (mCons (eV 12) mNil)) fun x => opt (Ent.toD x))) (mCons (m2 rAdd (m1 rToTup (eB 3)) (mTup (mCons (eV 12) (mCons (rt .non) mNil)))) mNil)))) fun x => opt (Ent.toD x)) fun d => opt (itemsA d)) (aName 14) (sIf (mB (m2 rNe (mCall m_law_refused (bd (mCons (eV 2) (mCons (eV 14) (mCons (eV 13) mNil))) fun ds => if ds.length = 3 then rt ds else stuck)) (bd (mLst (mCons (m1 rRepr (eB 12)) (mCons (rt (.bl true)) mNil))) fun x => opt (Ent.toD x)))) (sRet (rt (.bl false))) (rt .nx)))))
  (sq (mFor (bd (bd (mLst (mCons (rt .non) (mCons (rt (.int 5)) (mCons (eV 4) (mCons (bd (rt (Ent.dc [])) fun x => opt (Ent.toD x)) (mCons (rt (.bl true)) mNil)))))) fun x => opt (Ent.toD x)) fun d => opt (itemsA d)) (aName 12) (sIf (mOr (mB (m2 rNe (mCall m_law_refused (bd (mCons (eV 2) (mCons (eV 12) (mCons (rt (.int 0)) mNil))) fun ds => if ds.length = 3 then rt ds else stuck)) (bd (mLst (mCons (rt (.str ("None" : Str))) (mCons (rt (.bl true)) mNil))) fun x => opt (Ent.toD x)))) (mB (m2 rNe (mCall m_law_refused (bd (mCons (eV 2) (mCons (eV 12) (mCons (rt (.int 1)) mNil))) fun ds => if ds.length = 3 then rt ds else stuck)) (bd (mLst (mCons (rt (.str ("None" : Str))) (mCons (rt (.bl true)) mNil))) fun x => opt (Ent.toD x))))) (sRet (rt (.bl false))) (rt .nx)))
  (sRet (vAnd (m2B (rEqO 3 m_Program_eq) 2 (mCall m_law_made (bd (mCons (eV 1) mNil) fun ds => if ds.length = 1 then rt ds else stuck))) (m2 rEq (mMeth0 3 ("places" : Str) m_Program_places (eV 2)) (eB 3))))))))))))
def m_law : List D → Out := runP N_law.length g_law
theorem bd_law {c : Cfg} {mg : Str → Option Value} {base : Heap} (X : Fx c mg) : ∀ f, BodyG c c.P c.w c.K mg base N_law ("law" : Str) (defScope (top 113)) f 16 (defBody (top 113)) g_law := fun f cdv A outer s H E hr hgd =>
  (s_cons (s_setF S_law.nd rfl (by first | exact .inl rfl | exact .inr rfl) (d_callIE (ok_law_plain X) (hr.mono (by decide : 7 ≤ 16)) rfl (takes_of rfl rfl rfl rfl) (d_callE (ok_law_pool X) (hr.mono (by decide : 1 ≤ 16)) rfl (takes_of rfl rfl rfl rfl) (a_cons (d_v (pv 0)) (a_cons d_int a_nil))) (a_cons d_int (a_cons d_int (a_cons d_int a_nil)))))
  (s_cons (s_asg (d_tup (a_cons (d_call (ok_law_made X) rfl (hr.mono (by decide : 16 ≤ 16)) rfl (takes_of rfl rfl rfl rfl) (a_cons (d_v (pv 1)) a_nil)) (a_cons (d_call (ok_law_places X) rfl (hr.mono (by decide : 1 ≤ 16)) rfl (takes_of rfl rfl rfl rfl) (a_cons (d_v (pv 1)) a_nil)) a_nil))) (g_tup rfl rfl (g_cons (g_name S_law.nd rfl (by first | exact .inl rfl | exact .inr rfl)) (g_cons (g_name S_law.nd rfl (by first | exact .inl rfl | exact .inr rfl)) g_nil))) (ner := (ne_tup (ne_cons ne_name (ne_cons ne_name ne_nil)))))
  (s_cons (s_par rfl S_law.nd rfl rfl (by decide) rfl rfl (f_e (d_ix rfl (d_call (ok_law_names X) rfl (hr.mono (by decide : 1 ≤ 16)) rfl (takes_of rfl rfl rfl rfl) (a_cons (d_v (pv 1)) a_nil)) (f_h d_int))) (e_lst a_nil) rfl)
  (s_cons (s_for (passes_of rfl) rfl (i_seq rfl (d_dget (Nat.lt_of_le_of_lt (Nat.add_le_add_left (by decide : 1 ≤ 64) _) hr.units) (d_v (pv 1)) d_str)) (g_tup rfl rfl (g_cons (g_name S_law.nd rfl (by first | exact .inl rfl | exact .inr rfl)) (g_cons (g_name S_law.nd rfl (by first | exact .inl rfl | exact .inr rfl)) (g_cons (g_name S_law.nd rfl (by first | exact .inl rfl | exact .inr rfl)) g_nil)))) (s_one (s_setF S_law.nd rfl (by first | exact .inl rfl | exact .inr rfl) (d_opB (o_add rfl) (pv 5) (f_h (e_f (d_lc rfl S_law.nd (i_range1 rfl X.b_range (a_cons (d_b1 (c_len rfl) rfl X.b_len (by decide +kernel) (d_b (pv 8))) a_nil)) (own := [(("at" : Str), 9)]) (blkOk_by rfl) (fun _ _ _ _ _ => (gw_name S_law.nd rfl (by first | exact .inl rfl | exact .inr rfl) (by decide))) (fun _ _ _ _ _ => ts_nil) (fun _ _ _ _ _ => (d_tup (a_cons (d_v (pv 6)) (a_cons (d_v (pv 9)) a_nil)))))))))) (ne_tup (ne_cons ne_name (ne_cons ne_name (ne_cons ne_name ne_nil)))))
  (s_cons (s_set S_law.nd rfl (by first | exact .inl rfl | exact .inr rfl) (e_lst (a_cons d_non (a_cons d_int (a_cons (d_v (pv 4)) (a_cons (d_tup (a_cons (d_v (pv 4)) a_nil)) (a_cons (e_f (e_lst (a_cons (d_v (pv 4)) (a_cons d_int a_nil)))) (a_cons (d_tup (a_cons (d_v (pv 4)) (a_cons d_int (a_cons d_int a_nil)))) (a_cons (d_tup (a_cons (d_v (pv 4)) (a_cons d_neg a_nil))) (a_cons (d_tup (a_cons (d_v (pv 4)) (a_cons d_int a_nil))) (a_cons (d_tup (a_cons (d_v (pv 4)) (a_cons d_non a_nil))) (a_cons (d_tup (a_cons (d_v (pv 4)) (a_cons d_bl a_nil))) a_nil))))))))))))
  (s_cons (s_setF S_law.nd rfl (by first | exact .inl rfl | exact .inr rfl) (d_op (o_add rfl) (d_opB (o_add rfl) (pv 10) (f_h (e_f (e_lst (a_cons (d_tup (a_cons d_str (a_cons d_int a_nil))) (a_cons (d_tup (a_cons d_non (a_cons d_int a_nil))) (a_cons (d_tup (a_cons d_int (a_cons (d_v (pv 4)) a_nil))) (a_cons (d_tup (a_cons (d_tup (a_cons (d_v (pv 4)) a_nil)) (a_cons d_int a_nil))) a_nil)))))))) (f_h (e_f (d_lc rfl S_law.nd (i_seq rfl (d_v (pv 5))) (own := [(("place" : Str), 11)]) (blkOk_by rfl) (fun _ _ _ _ _ => (gw_name S_law.nd rfl (by first | exact .inl rfl | exact .inr rfl) (by decide))) (fun _ _ _ _ _ => (ts_one (t_cmpB (o_notIn hr.units rfl) (pv 11) (d_b (pv 3)) (by with_unfolding_all rfl)))) (fun _ _ _ _ _ => (d_v (pv 11))))))))
  (s_cons (s_for (passes_of rfl) rfl (i_seq rfl (d_v (pv 10))) (g_name S_law.nd rfl (by first | exact .inl rfl | exact .inr rfl)) (s_one (s_for (passes_of rfl) rfl (i_range1 rfl X.b_range (a_cons d_int a_nil)) (g_name S_law.nd rfl (by first | exact .inl rfl | exact .inr rfl)) (s_one (s_for (passes_of rfl) rfl (i_seq rfl (e_f (e_lst (a_cons (e_f (e_lst (a_cons (d_v (pv 12)) a_nil))) (a_cons (d_opB (o_add rfl) (pv 3) (f_h (e_f (e_lst (a_cons (d_v (pv 12)) a_nil))))) (a_cons (d_op (o_add rfl) (d_t1 (c_tuple rfl) rfl X.b_tuple (by decide +kernel) (d_b (pv 3))) (f_h (d_tup (a_cons (d_v (pv 12)) (a_cons d_non a_nil))))) a_nil)))))) (g_name S_law.nd rfl (by first | exact .inl rfl | exact .inr rfl)) (s_one (s_if (t_cmp (o_ne hr.units rfl) (d_callG (ok_law_refused X) hgd (hr.mono (by decide : 8 ≤ 16)) rfl (takes_of rfl rfl rfl rfl) (a_cons (d_v (pv 2)) (a_cons (d_v (pv 14)) (a_cons (d_v (pv 13)) a_nil)))) (f_h (e_f (e_lst (a_cons (d_b1 (c_repr rfl hgd hr.units) rfl X.b_repr (by decide +kernel) (d_b (pv 12))) (a_cons d_bl a_nil))))) (nomark _)) (s_one (s_ret d_bl)) s_nil)) ne_name)) ne_name)) ne_name)
  (s_cons (s_for (passes_of rfl) rfl (i_seq rfl (e_f (e_lst (a_cons d_non (a_cons d_int (a_cons (d_v (pv 4)) (a_cons (e_f e_dic0) (a_cons d_bl a_nil)))))))) (g_name S_law.nd rfl (by first | exact .inl rfl | exact .inr rfl)) (s_one (s_if (t_w (w_or (t_cmp (o_ne hr.units rfl) (d_callG (ok_law_refused X) hgd (hr.mono (by decide : 8 ≤ 16)) rfl (takes_of rfl rfl rfl rfl) (a_cons (d_v (pv 2)) (a_cons (d_v (pv 12)) (a_cons d_int a_nil)))) (f_h (e_f (e_lst (a_cons d_str (a_cons d_bl a_nil))))) (nomark _)) (w_or1 (t_cmp (o_ne hr.units rfl) (d_callG (ok_law_refused X) hgd (hr.mono (by decide : 8 ≤ 16)) rfl (takes_of rfl rfl rfl rfl) (a_cons (d_v (pv 2)) (a_cons (d_v (pv 12)) (a_cons d_int a_nil)))) (f_h (e_f (e_lst (a_cons d_str (a_cons d_bl a_nil))))) (nomark _))))) (s_one (s_ret d_bl)) s_nil)) ne_name)
  (s_one (s_ret (v_and (d_cmpB (o_eqO (eq_Program_eq X) (hr.mono (by decide : 6 ≤ 16))) (pv 2) (f_h (d_call (ok_law_made X) rfl (hr.mono (by decide : 16 ≤ 16)) rfl (takes_of rfl rfl rfl rfl) (a_cons (d_v (pv 1)) a_nil))) (nomark _)) (v_one (d_cmp (o_eq hr.units rfl) (d_meth0 (ok_Program_places X) (hr.mono (by decide : 4 ≤ 16)) (takes_of rfl rfl rfl rfl) (d_v (pv 2))) (d_b (pv 3)) (nomark _))))))))))))))
theorem ok_law {c : Cfg} {mg : Str → Option Value} {base : Heap} (X : Fx c mg) : FnPG c.P c.w c.K mg base c 17 ("law" : Str) 1 m_law := fnPG_of X.f_law S_law B_law rfl (bd_law X)
end G
end
section
set_option Elab.async false
set_option linter.all false
set_option maxRecDepth 100000
set_option maxHeartbeats 1000000
namespace G
open PySem PySem.Spec PyProof.Rows L2 DL
theorem m_is_whole_int (i : Int) : m_is_whole [.int i] = .ok (.bl true) := rfl
theorem m_is_whole_str (s : Str) : m_is_whole [.str s] = .ok (.bl false) := rfl
theorem m_is_whole_non : m_is_whole [.non] = .ok (.bl false) := rfl
theorem m_is_whole_bl (b : Bool) : m_is_whole [.bl b] = .ok (.bl false) := rfl
theorem m_is_place_non : m_is_place [.non] = .ok (.bl false) := rfl
theorem m_is_place_int (i : Int) : m_is_place [.int i] = .ok (.bl false) := rfl
theorem m_is_place_str (i : Str) : m_is_place [.str i] = .ok (.bl false) := rfl
theorem m_is_place_lst (l : List D) : m_is_place [.lst l] = .ok (.bl false) := rfl
theorem m_is_place_2 (s : Str) (i : Int) : m_is_place [.tup [.str s, .int i]] = .ok (.bl true) := rfl
theorem m_is_place_1 (s : D) : m_is_place [.tup [s]] = .ok (.bl false) := rfl
theorem m_is_place_3 (s t u : D) : m_is_place [.tup [s, t, u]] = .ok (.bl false) := rfl
theorem m_is_place_sn (s : Str) : m_is_place [.tup [.str s, .non]] = .ok (.bl false) := rfl
theorem m_is_place_sb (s : Str) (b : Bool) : m_is_place [.tup [.str s, .bl b]] = .ok (.bl false) := rfl
theorem m_term_eq (t u : D) : m_Term_eq [.obj 0 [("tree", t)], .obj 0 [("tree", u)]] = (match DL.rEq t u with
  | some d => .ok d
  | none => .stuck) := by
  show toOut (Res.bd (opt (DL.rEq t u) _) _) = _
  cases DL.rEq t u <;> rfl
end G
end
section
set_option Elab.async false
set_option linter.all false
set_option maxRecDepth 100000
set_option maxHeartbeats 1000000
namespace G
open PySem PySem.Spec PyProof.Rows L2 DL
/-! ### runs of mirrors -/
section
variable {α β : Type} {m : M α} {f : α → M β} {a : α} {ρ ρ' : DL.Env} {g h : M Fl} {t : M Bool} {d : D} {ge : M D}
theorem run_bd (e : m ρ = .ok a ρ') : bd m f ρ = f a ρ' := by unfold bd; rw [e]; rfl
theorem run_sq (e : g ρ = .ok .nx ρ') : sq g h ρ = h ρ' := by
  unfold sq
  rw [run_bd e]
theorem run_sqr (e : g ρ = .ok (.ret d) ρ') : sq g h ρ = .ok (.ret d) ρ' := by
  unfold sq
  rw [run_bd e]
  rfl
theorem run_t (e : t ρ = .ok true ρ') : sIf t g h ρ = g ρ' := run_bd (f := fun x => if x = true then g else h) e
theorem run_f (e : t ρ = .ok false ρ') : sIf t g h ρ = h ρ' := run_bd (f := fun x => if x = true then g else h) e
theorem run_ret (e : ge ρ = .ok d ρ') : sRet ge ρ = .ok (.ret d) ρ' := by
  unfold sRet
  rw [run_bd e]
  rfl
end
theorem rMod_pos {i j : Int} (h : 0 < j) : DL.rMod (.int i) (.int j) = some (.int (i % j)) := if_pos h
theorem rDiv_pos {i j : Int} (h : 0 < j) (h2 : j < 1073741824) : DL.rDiv (.int i) (.int j) = some (.int (i / j)) := if_pos ⟨h, h2⟩
def tk1 : M Bool := (mB (m2 DL.rGt (m2B DL.rIx 0 (rt (.int 0))) (rt (.int 0))))
theorem tk1_run {a b n : Int} : tk1 [.pin [.int a, .int b], .fz (.int n), .no] = .ok (decide (0 < a)) [.pin [.int a, .int b], .fz (.int n), .no] := rfl
theorem opt_some {α : Type} {o : Option α} {x : α} {ρ : DL.Env} (e : o = some x) : opt o ρ = .ok x ρ := by rw [e]; rfl
theorem take_pos {a b n : Int} (ha : 0 < a) (hn : 0 < n) (hn2 : n < 1073741824) : m_law_take [.int a, .int b] [.int n] = .ok (.int (a % n)) [.int (a / n), .int b] := by
  have e1 : tk1 [.pin [.int a, .int b], .fz (.int n), .no] = .ok true [.pin [.int a, .int b], .fz (.int n), .no] := by rw [tk1_run, decide_eq_true ha]
  have e : g_law_take [.pin [.int a, .int b], .fz (.int n), .no] = .ok (.ret (.int (a % n))) [.pin [.int (a / n), .int b], .fz (.int n), .fz (.int (a % n))] := by
    refine run_sqr ((run_t (t := tk1) e1).trans ?_)
    refine (run_sq (ρ' := [.pin [.int a, .int b], .fz (.int n), .fz (.int (a % n))]) ?_).trans ?_
    · exact run_bd (f := fun d => setE 2 (.fz d)) (opt_some (rMod_pos hn))
    refine (run_sq (ρ' := [.pin [.int (a / n), .int b], .fz (.int n), .fz (.int (a % n))]) ?_).trans ?_
    · exact (run_bd (opt_some (rDiv_pos hn hn2))).trans rfl
    exact run_ret rfl
  show toOutI (g_law_take _) = _
  exact (congrArg toOutI e).trans rfl
theorem bd_run {α β : Type} (m : M α) (f : α → M β) (ρ : DL.Env) : bd m f ρ = (m ρ).bd f := rfl
theorem ok_run {α β : Type} (a : α) (f : α → M β) (ρ : DL.Env) : (Res.ok a ρ).bd f = f a ρ := rfl
theorem rt_run {α : Type} (a : α) (ρ : DL.Env) : rt a ρ = .ok a ρ := rfl
theorem os_run {α : Type} (a : α) (ρ : DL.Env) : opt (some a) ρ = .ok a ρ := rfl
theorem rMul_r {i j : Int} (h : inW j = true) : DL.rMul (.int i) (.int j) = some (.int (i * j)) := by
  show (if (inW i || inW j) = true then _ else _) = _
  rw [h, Bool.or_true]; rfl
theorem bt1 {a b n : Int} : (m2B DL.rIx 0 (rt (.int 1))) [.pin [.int a, .int b], .fz (.int n), .no] = .ok (.int b) [.pin [.int a, .int b], .fz (.int n), .no] := rfl
theorem inW_of {i : Int} (h : 0 ≤ i) (h2 : i < 2147483648) : inW i = true := by
  unfold inW
  simp
  omega
end G
end
section
set_option Elab.async false
set_option linter.all false
set_option maxRecDepth 100000
set_option maxHeartbeats 1000000
namespace G
open PySem PySem.Spec PyProof.Rows L2 DL
abbrev nb (b : Int) : Int := (b * 39373 + 7) % 2147483647
theorem nb_in (b : Int) : inW (nb b) = true := inW_of (Int.emod_nonneg _ (by omega)) (by have := Int.emod_lt_of_pos (b * 39373 + 7) (show (0 : Int) < 2147483647 by decide); unfold nb; omega)
theorem take_neg {a b n : Int} (ha : ¬ 0 < a) (hn : 0 < n) : m_law_take [.int a, .int b] [.int n] = .ok (.int ((nb b * nb b % 2147483629 / 32) % n)) [.int a, .int (nb b)] := by
  have e1 : tk1 [.pin [.int a, .int b], .fz (.int n), .no] = .ok false [.pin [.int a, .int b], .fz (.int n), .no] := by rw [tk1_run, decide_eq_false ha]
  have c1 : inW 39373 = true := by decide
  have m1' : m2 DL.rMul (m2B DL.rIx 0 (rt (.int 1))) (rt (.int 39373)) [.pin [.int a, .int b], .fz (.int n), .no] = .ok (.int (b * 39373)) [.pin [.int a, .int b], .fz (.int n), .no] := by
    show opt (DL.rMul (.int b) (.int 39373)) _ = _
    rw [rMul_r c1]; rfl
  have m2' : m2 DL.rMul (m2B DL.rIx 0 (rt (.int 1))) (m2B DL.rIx 0 (rt (.int 1))) [.pin [.int a, .int (nb b)], .fz (.int n), .no] = .ok (.int (nb b * nb b)) [.pin [.int a, .int (nb b)], .fz (.int n), .no] := by
    show opt (DL.rMul (.int (nb b)) (.int (nb b))) _ = _
    rw [rMul_r (nb_in b)]; rfl
  have e : g_law_take [.pin [.int a, .int b], .fz (.int n), .no] = .ok (.ret (.int ((nb b * nb b % 2147483629 / 32) % n))) [.pin [.int a, .int (nb b)], .fz (.int n), .no] := by
    refine (run_sq (ρ' := [.pin [.int a, .int b], .fz (.int n), .no]) ((run_f (t := tk1) e1).trans rfl)).trans ?_
    refine (run_sq (ρ' := [.pin [.int a, .int (nb b)], .fz (.int n), .no]) ?_).trans ?_
    · refine (run_bd (a := .int (nb b)) (ρ' := [.pin [.int a, .int b], .fz (.int n), .no]) ?_).trans rfl
      refine (run_bd (a := .int (b * 39373 + 7)) (ρ' := [.pin [.int a, .int b], .fz (.int n), .no]) ?_).trans (opt_some (rMod_pos (by decide)))
      refine (run_bd (a := .int (b * 39373 + 7)) (ρ' := [.pin [.int a, .int b], .fz (.int n), .no]) ?_).trans rfl
      exact (run_bd m1').trans rfl
    refine run_ret ?_
    refine (run_bd (a := .int (nb b * nb b % 2147483629 / 32)) (ρ' := [.pin [.int a, .int (nb b)], .fz (.int n), .no]) ?_).trans (opt_some (rMod_pos hn))
    refine (run_bd (a := .int (nb b * nb b % 2147483629 / 32)) (ρ' := [.pin [.int a, .int (nb b)], .fz (.int n), .no]) ?_).trans rfl
    refine (run_bd (a := .int (nb b * nb b % 2147483629)) (ρ' := [.pin [.int a, .int (nb b)], .fz (.int n), .no]) ?_).trans (opt_some (rDiv_pos (by decide) (by decide)))
    refine (run_bd (a := .int (nb b * nb b)) (ρ' := [.pin [.int a, .int (nb b)], .fz (.int n), .no]) ?_).trans (opt_some (rMod_pos (by decide)))
    exact (run_bd m2').trans rfl
  show toOutI (g_law_take _) = _
  exact (congrArg toOutI e).trans rfl
/-- a pool -/
def Pool (l : List D) : Prop := ∃ a b : Int, l = [.int a, .int b]
theorem take_ok {l : List D} {n : Int} (h : Pool l) (hn : 0 < n) (hn2 : n < 1073741824) : ∃ r l', m_law_take l [.int n] = .ok (.int r) l' ∧ Pool l' ∧ 0 ≤ r ∧ r < n := by
  obtain ⟨a, b, rfl⟩ := h
  by_cases ha : 0 < a
  · exact ⟨_, _, take_pos ha hn hn2, ⟨_, _, rfl⟩, Int.emod_nonneg _ (by omega), Int.emod_lt_of_pos _ hn⟩
  · exact ⟨_, _, take_neg ha hn, ⟨_, _, rfl⟩, Int.emod_nonneg _ (by omega), Int.emod_lt_of_pos _ hn⟩
end G
end
section
set_option Elab.async false
set_option linter.all false
set_option maxRecDepth 100000
set_option maxHeartbeats 1000000
namespace G
open PySem PySem.Spec PyProof.Rows L2 DL
/-- a call with the pool, the caller's own parameter in slot 0 -/
theorem run_callP {m : List D → List D → OutI} {n : Nat} {gs : M (List D)} {l l' : List D} {r : D} {ρ : DL.Env} {ds : List D} (hg : gs (.pin l :: ρ) = .ok ds (.pin l :: ρ)) (hn : ds.length = n) (hm : m l ds = .ok r l') :
    mCallI 0 m n gs (.pin l :: ρ) = .ok r (.pin l' :: ρ) := by
  unfold mCallI
  refine (run_bd (m := isOwn 0) (a := ()) (ρ' := .pin l :: ρ) rfl).trans ?_
  refine (run_bd hg).trans ?_
  rw [if_pos hn]
  show (match m l ds with
    | .ok d l' => Res.ok d ((Ent.pin l :: ρ).set 0 (.pin l'))
    | .er k fs l' => Res.er k fs ((Ent.pin l :: ρ).set 0 (.pin l'))
    | .stuck => Res.stuck) = _
  rw [hm]
  rfl
/-- the pool, in a slot of its own -/
theorem one_ok {l ts : List D} (h : Pool l) (h0 : ts ≠ []) (h1 : ts.length < 1000) : ∃ d l', m_law_one l [.lst ts] = .ok d l' ∧ Pool l' ∧ d ∈ ts := by
  have hl : 0 < ts.length := List.length_pos_iff.mpr h0
  obtain ⟨r, l', hm, hp, h2, h3⟩ := take_ok (n := (ts.length : Int)) h (by omega) (by omega)
  have hr : r.toNat < ts.length := by omega
  refine ⟨ts[r.toNat], l', ?_, hp, List.getElem_mem hr⟩
  have e : g_law_one [.pin l, .fz (.lst ts)] = .ok (.ret ts[r.toNat]) [.pin l', .fz (.lst ts)] := by
    refine run_ret ?_
    refine (run_bd (m := eB 1) (a := D.lst ts) (ρ' := [.pin l, .fz (.lst ts)]) rfl).trans ?_
    refine (run_bd (a := .int r) (ρ' := [.pin l', .fz (.lst ts)]) (run_callP (ds := [.int (ts.length : Int)]) rfl rfl hm)).trans ?_
    refine (run_bd (m := eB 1) (a := D.lst ts) (ρ' := [.pin l', .fz (.lst ts)]) rfl).trans ?_
    refine opt_some ?_
    show atI ts r = _
    unfold atI ixN
    rw [if_pos h2, if_pos h3]
    exact List.getElem?_eq_getElem hr
  show toOutI (g_law_one _) = _
  exact (congrArg toOutI e).trans rfl
end G
end
section
set_option Elab.async false
set_option linter.all false
set_option maxRecDepth 100000
set_option maxHeartbeats 1000000
namespace G
open PySem PySem.Spec PyProof.Rows L2 DL
/-- a comprehension whose turns leave the slots as they were -/
theorem loopL_run {vs : List Nat} {ga : D → M Unit} {tt : M Bool} {ge : M D} {o : D → Option D} {ρ : DL.Env} : ∀ (ds acc : List D), (∀ d ∈ ds, turnLc vs ga tt ge d ρ = .ok (o d) ρ) → acc.length + ds.length ≤ sizeLine → loopL vs ga tt ge ds acc ρ = .ok (acc ++ ds.filterMap o) ρ
  | [], acc, _, _ => by show Res.ok acc ρ = _; simp
  | d :: r, acc, h, hl => by
    unfold loopL
    have hl' : acc.length < sizeLine := by rw [List.length_cons] at hl; omega
    rw [if_pos hl', run_bd (h d List.mem_cons_self)]
    cases e : o d with
    | none =>
      refine (loopL_run r acc (fun x hx => h x (List.mem_cons_of_mem _ hx)) (by rw [List.length_cons] at hl; omega)).trans ?_
      rw [List.filterMap_cons, e]
    | some y =>
      refine (loopL_run r (acc ++ [y]) (fun x hx => h x (List.mem_cons_of_mem _ hx)) (by rw [List.length_cons] at hl; rw [List.length_append, List.length_singleton]; omega)).trans ?_
      rw [List.filterMap_cons, e, List.append_assoc]; rfl
/-- a for loop by an invariant -/
theorem for_run {P : Nat → DL.Env → Prop} {ga : D → M Unit} {gb : M Fl} : ∀ (ds : List D) (k : Nat), (∀ i d ρ, ds[i]? = some d → P (k + i) ρ → ∃ ρ1 ρ2, ga d ρ = .ok () ρ1 ∧ gb ρ1 = .ok .nx ρ2 ∧ P (k + i + 1) ρ2) →
    ∀ ρ, P k ρ → ∃ ρ', sFor ga gb ds ρ = .ok .nx ρ' ∧ P (k + ds.length) ρ'
  | [], k, _, ρ, p => ⟨ρ, rfl, p⟩
  | d :: r, k, h, ρ, p => by
    obtain ⟨ρ1, ρ2, e1, e2, p2⟩ := h 0 d ρ rfl p
    obtain ⟨ρ', e3, p3⟩ := for_run (P := P) (ga := ga) (gb := gb) r (k + 1) (fun i d ρ hd hp => by
      have := h (i + 1) d ρ (by simpa using hd) (by rw [show k + (i + 1) = k + 1 + i by omega]; exact hp)
      rw [show k + (i + 1) + 1 = k + 1 + i + 1 by omega] at this
      exact this) ρ2 p2
    refine ⟨ρ', ?_, by rw [List.length_cons, show k + (r.length + 1) = k + 1 + r.length by omega]; exact p3⟩
    unfold sFor
    rw [run_bd e1, run_bd e2]
    exact e3
theorem run_m2 {r : D → D → Option D} {ga gb : M D} {x y z : D} {ρ ρ1 ρ2 : DL.Env} (ea : ga ρ = .ok x ρ1) (eb : gb ρ1 = .ok y ρ2) (er : r x y = some z) : m2 r ga gb ρ = .ok z ρ2 := by
  unfold m2
  rw [run_bd ea, run_bd eb, er]; rfl
theorem run_m1 {r : D → Option D} {ga : M D} {x z : D} {ρ ρ1 : DL.Env} (ea : ga ρ = .ok x ρ1) (er : r x = some z) : m1 r ga ρ = .ok z ρ1 := by
  unfold m1
  rw [run_bd ea, er]; rfl
end G
end
section
set_option Elab.async false
set_option linter.all false
set_option maxRecDepth 100000
set_option maxHeartbeats 1000000
namespace G
open PySem PySem.Spec PyProof.Rows L2 DL
theorem run_cons {g : M D} {gs : M (List D)} {d : D} {ds : List D} {ρ ρ1 ρ2 : DL.Env} (ea : g ρ = .ok d ρ1) (eb : gs ρ1 = .ok ds ρ2) : mCons g gs ρ = .ok (d :: ds) ρ2 := by
  unfold mCons
  rw [run_bd ea, run_bd eb]; rfl
theorem run_sqE {g : M Fl} {h : M Ent} {ρ ρ' : DL.Env} (e : g ρ = .ok .nx ρ') : sqE g h ρ = h ρ' := by
  unfold sqE
  rw [run_bd e]
def pl1 : M Bool := (mB (m2B DL.rLt 1 (m1 rLen (eB 0))))
theorem pl1_run {ns : List Int} : pl1 [.fz (.scr ns), .fz (.int 0), .fz (.int 0), .no, .no] = .ok (decide ((0 : Int) < (ns.length : Int))) [.fz (.scr ns), .fz (.int 0), .fz (.int 0), .no, .no] := rfl
theorem pool_ok (ns : List Int) : ∃ l, m_law_pool [.scr ns, .int 0] = .ok l ∧ Pool l := by
  have hc : ∃ c : Int, (sIf pl1 (sSetF 2 (m2B DL.rIx 0 (eB 1))) (rt .nx)) [.fz (.scr ns), .fz (.int 0), .fz (.int 0), .no, .no] = .ok .nx [.fz (.scr ns), .fz (.int 0), .fz (.int c), .no, .no] := by
    cases ns with
    | nil => exact ⟨0, rfl⟩
    | cons x xs =>
      refine ⟨x, (run_t (t := pl1) (ρ' := [.fz (.scr (x :: xs)), .fz (.int 0), .fz (.int 0), .no, .no]) ?_).trans ?_⟩
      · rw [pl1_run, decide_eq_true (by rw [List.length_cons]; omega)]
      · refine (run_bd (m := m2B DL.rIx 0 (eB 1)) (a := .int x) (ρ' := [.fz (.scr (x :: xs)), .fz (.int 0), .fz (.int 0), .no, .no]) ?_).trans rfl
        show opt ((atI (x :: xs) 0).map D.int) _ = _
        refine opt_some ?_
        unfold atI ixN
        rw [if_pos (by decide), if_pos (by rw [List.length_cons]; omega)]
        rfl
  obtain ⟨cv, hc⟩ := hc
  have key : ∀ s : Int, ∃ l ρ', (sqE (sSetF 4 (m2 DL.rMod (m1 rToInt (m2 DL.rMul (m2 DL.rAdd (m2 DL.rAdd (m2 DL.rAdd (m2 DL.rMod (m1 rToInt (eB 3)) (rt (.int 2147483629))) (m2 DL.rMul (m2 DL.rMul (rt (.int 7919)) (eB 1)) (eB 1))) (m2 DL.rMul (rt (.int 31)) (eB 1))) (rt (.int 17))) (rt (.int 48271)))) (rt (.int 2147483647))))
      (mLst (mCons (m2B DL.rMul 3 (m1 rToInt (m2B DL.rGe 3 (m2 DL.rPow (rt (.int 10)) (rt (.int 18)))))) (mCons (eV 4) mNil)))) [.fz (.scr ns), .fz (.int 0), .fz (.int cv), .fz (.int s), .no] = .ok (.ow l) ρ' ∧ Pool l := by
    intro s
    have ha : (m2 DL.rMod (m1 rToInt (eB 3)) (rt (.int 2147483629))) [.fz (.scr ns), .fz (.int 0), .fz (.int cv), .fz (.int s), .no] = .ok (.int (s % 2147483629)) [.fz (.scr ns), .fz (.int 0), .fz (.int cv), .fz (.int s), .no] := by
      show opt (DL.rMod (.int s) (.int 2147483629)) _ = _
      exact opt_some (rMod_pos (by decide))
    have hb : (m2 DL.rMul (m2 DL.rMul (rt (.int 7919)) (eB 1)) (eB 1)) [.fz (.scr ns), .fz (.int 0), .fz (.int cv), .fz (.int s), .no] = .ok (.int 0) [.fz (.scr ns), .fz (.int 0), .fz (.int cv), .fz (.int s), .no] := rfl
    have hd : (m2 DL.rMul (rt (.int 31)) (eB 1)) [.fz (.scr ns), .fz (.int 0), .fz (.int cv), .fz (.int s), .no] = .ok (.int 0) [.fz (.scr ns), .fz (.int 0), .fz (.int cv), .fz (.int s), .no] := rfl
    have he := run_m2 (r := DL.rAdd) (run_m2 (r := DL.rAdd) (run_m2 (r := DL.rAdd) ha hb rfl) hd rfl) (show rt (D.int 17) [.fz (.scr ns), .fz (.int 0), .fz (.int cv), .fz (.int s), .no] = _ from rfl) rfl
    have hf := run_m2 (r := DL.rMul) he (show rt (D.int 48271) [.fz (.scr ns), .fz (.int 0), .fz (.int cv), .fz (.int s), .no] = _ from rfl) (rMul_r (by decide))
    have hg := run_m2 (r := DL.rMod) (run_m1 (r := rToInt) hf rfl) (show rt (D.int 2147483647) [.fz (.scr ns), .fz (.int 0), .fz (.int cv), .fz (.int s), .no] = _ from rfl) (rMod_pos (by decide))
    refine ⟨[.int (s * (if decide (s ≥ 10 ^ 18) = true then 1 else 0)), .int ((s % 2147483629 + 0 + 0 + 17) * 48271 % 2147483647)], [.fz (.scr ns), .fz (.int 0), .fz (.int cv), .fz (.int s), .fz (.int ((s % 2147483629 + 0 + 0 + 17) * 48271 % 2147483647))], ?_, ⟨_, _, rfl⟩⟩
    refine (run_sqE (ρ' := [.fz (.scr ns), .fz (.int 0), .fz (.int cv), .fz (.int s), .fz (.int ((s % 2147483629 + 0 + 0 + 17) * 48271 % 2147483647))]) ?_).trans ?_
    · exact (run_bd hg).trans rfl
    · have hw : inW (if decide (s ≥ 10 ^ 18) = true then 1 else 0) = true := by split <;> decide
      have hp : (m1 rToInt (m2B DL.rGe 3 (m2 DL.rPow (rt (.int 10)) (rt (.int 18))))) [.fz (.scr ns), .fz (.int 0), .fz (.int cv), .fz (.int s), .fz (.int ((s % 2147483629 + 0 + 0 + 17) * 48271 % 2147483647))] = .ok (.int (if decide (s ≥ 10 ^ 18) = true then 1 else 0)) [.fz (.scr ns), .fz (.int 0), .fz (.int cv), .fz (.int s), .fz (.int ((s % 2147483629 + 0 + 0 + 17) * 48271 % 2147483647))] := rfl
      have hq : (m2B DL.rMul 3 (m1 rToInt (m2B DL.rGe 3 (m2 DL.rPow (rt (.int 10)) (rt (.int 18)))))) [.fz (.scr ns), .fz (.int 0), .fz (.int cv), .fz (.int s), .fz (.int ((s % 2147483629 + 0 + 0 + 17) * 48271 % 2147483647))] = .ok (.int (s * (if decide (s ≥ 10 ^ 18) = true then 1 else 0))) [.fz (.scr ns), .fz (.int 0), .fz (.int cv), .fz (.int s), .fz (.int ((s % 2147483629 + 0 + 0 + 17) * 48271 % 2147483647))] := by
        unfold m2B
        refine (run_bd (m := eB 3) (a := .int s) (ρ' := [.fz (.scr ns), .fz (.int 0), .fz (.int cv), .fz (.int s), .fz (.int ((s % 2147483629 + 0 + 0 + 17) * 48271 % 2147483647))]) rfl).trans ((run_bd hp).trans ((run_bd (m := eB 3) (a := .int s) (ρ' := [.fz (.scr ns), .fz (.int 0), .fz (.int cv), .fz (.int s), .fz (.int ((s % 2147483629 + 0 + 0 + 17) * 48271 % 2147483647))]) rfl).trans (opt_some (rMul_r hw))))
      have hz := run_cons hq (run_cons (show eV 4 [.fz (.scr ns), .fz (.int 0), .fz (.int cv), .fz (.int s), .fz (.int ((s % 2147483629 + 0 + 0 + 17) * 48271 % 2147483647))] = _ from rfl) (show mNil _ = _ from rfl))
      unfold mLst
      exact (run_bd hz).trans rfl
  have hsz : (sSetF 3 (mNs rMax2 (mCons (m1 rToInt (eB 2)) (mCons (m1 rToInt (m2 DL.rSub (rt (.int (-1))) (eB 2))) mNil)))) [.fz (.scr ns), .fz (.int 0), .fz (.int cv), .no, .no] = .ok .nx [.fz (.scr ns), .fz (.int 0), .fz (.int cv), .fz (.int (if -1 - cv > cv then -1 - cv else cv)), .no] := rfl
  obtain ⟨l, ρ', hk, hp⟩ := key (if -1 - cv > cv then -1 - cv else cv)
  refine ⟨l, ?_, hp⟩
  have e : g_law_pool [.fz (.scr ns), .fz (.int 0), .no, .no, .no] = .ok (.ow l) ρ' :=
    (run_sqE (ρ' := [.fz (.scr ns), .fz (.int 0), .fz (.int 0), .no, .no]) rfl).trans ((run_sqE hc).trans ((run_sqE hsz).trans hk))
  show toOutL (g_law_pool _) = _
  exact (congrArg toOutL e).trans rfl
end G
end
section
set_option Elab.async false
set_option linter.all false
set_option maxRecDepth 100000
set_option maxHeartbeats 1000000
namespace G
open PySem PySem.Spec PyProof.Rows L2 DL
/-- a comprehension over the pool -/
theorem loopL_pool {vs : List Nat} {ga : D → M Unit} {tt : M Bool} {ge : M D} {ρ : DL.Env} {Q : D → Prop} : ∀ (ds acc : List D) (l : List D), Pool l → (∀ l, Pool l → ∀ d ∈ ds, ∃ e l', turnLc vs ga tt ge d (.pin l :: ρ) = .ok (some e) (.pin l' :: ρ) ∧ Pool l' ∧ Q e) → acc.length + ds.length ≤ sizeLine →
    ∃ es l', loopL vs ga tt ge ds acc (.pin l :: ρ) = .ok (acc ++ es) (.pin l' :: ρ) ∧ Pool l' ∧ es.length = ds.length ∧ ∀ e ∈ es, Q e
  | [], acc, l, hp, _, _ => ⟨[], l, by rw [List.append_nil]; rfl, hp, rfl, fun _ h => by cases h⟩
  | d :: r, acc, l, hp, h, hl => by
    obtain ⟨e, l1, e1, p1, q1⟩ := h l hp d List.mem_cons_self
    obtain ⟨es, l2, e2, p2, n2, q2⟩ := loopL_pool (ρ := ρ) (Q := Q) (vs := vs) (ga := ga) (tt := tt) (ge := ge) r (acc ++ [e]) l1 p1 (fun l hl d hd => h l hl d (List.mem_cons_of_mem _ hd)) (by rw [List.length_cons] at hl; rw [List.length_append, List.length_singleton]; omega)
    refine ⟨e :: es, l2, ?_, p2, by rw [List.length_cons, n2, List.length_cons], fun x hx => ?_⟩
    · unfold loopL
      have hl' : acc.length < sizeLine := by rw [List.length_cons] at hl; omega
      rw [if_pos hl', run_bd e1]
      exact e2.trans (by rw [List.append_assoc]; rfl)
    · cases hx with
      | head => exact q1
      | tail _ hx => exact q2 x hx
end G
end
section
set_option Elab.async false
set_option linter.all false
set_option maxRecDepth 100000
set_option maxHeartbeats 1000000
namespace G
open PySem PySem.Spec PyProof.Rows L2 DL
def abc : Str := "abcdefghijklmnopqrstuvwxyz"
/-- a letter drawn -/
theorem one_abc {l : List D} (h : Pool l) : ∃ z l', m_law_one l [.str abc] = .ok (.str ⟨#[z]⟩) l' ∧ Pool l' ∧ z ∈ abc.cps.toList := by
  obtain ⟨r, l', hm, hp, h2, h3⟩ := take_ok (n := 26) h (by omega) (by omega)
  have hr : r.toNat < abc.cps.toList.length := by
    show r.toNat < 26
    omega
  refine ⟨abc.cps.toList[r.toNat], l', ?_, hp, List.getElem_mem hr⟩
  have e : g_law_one [.pin l, .fz (.str abc)] = .ok (.ret (.str ⟨#[abc.cps.toList[r.toNat]]⟩)) [.pin l', .fz (.str abc)] := by
    refine run_ret ?_
    refine (run_bd (m := eB 1) (a := D.str abc) (ρ' := [.pin l, .fz (.str abc)]) rfl).trans ?_
    refine (run_bd (a := .int r) (ρ' := [.pin l', .fz (.str abc)]) (run_callP (ds := [.int 26]) rfl rfl hm)).trans ?_
    refine (run_bd (m := eB 1) (a := D.str abc) (ρ' := [.pin l', .fz (.str abc)]) rfl).trans ?_
    refine opt_some ?_
    show (if abc.length ≤ sizeLine then (atI abc.cps.toList r).map (fun z => D.str ⟨#[z]⟩) else none) = _
    rw [if_pos (by decide)]
    have : atI abc.cps.toList r = some abc.cps.toList[r.toNat] := by
      unfold atI ixN
      have h4 : r < ((abc.cps.toList.length : Nat) : Int) := by omega
      rw [if_pos h2, if_pos h4]
      exact List.getElem?_eq_getElem hr
    rw [this]; rfl
  show toOutI (g_law_one _) = _
  exact (congrArg toOutI e).trans rfl
end G
end
section
set_option Elab.async false
set_option linter.all false
set_option maxRecDepth 100000
set_option maxHeartbeats 1000000
namespace G
open PySem PySem.Spec PyProof.Rows L2 DL
/-- a text of letters alone -/
def Lets (s : Str) : Prop := ∀ z ∈ s.cps.toList, z ∈ abc.cps.toList
theorem run_toD {g : M Ent} {ds : List D} {ρ ρ' : DL.Env} (e : g ρ = .ok (.ow ds) ρ') : bd g (fun x => opt (Ent.toD x)) ρ = .ok (.lst ds) ρ' := (run_bd e).trans rfl
theorem run_lc {gi : M (List D)} {vs : List Nat} {ga : D → M Unit} {tt : M Bool} {ge : M D} {ds es : List D} {ρ ρ1 ρ2 : DL.Env} (e1 : gi ρ = .ok ds ρ1) (e2 : loopL vs ga tt ge ds [] ρ1 = .ok es ρ2) : mLc gi vs ga tt ge ρ = .ok (.ow es) ρ2 := by
  unfold mLc
  rw [run_bd e1]
  refine (run_bd (a := es) (ρ' := ρ2) ?_).trans rfl
  unfold sole
  rw [e2]
theorem upI_length {lo : Int} {n : Nat} : (upI lo n).length = n := by unfold upI; rw [List.length_map, List.length_range]
abbrev gJ (i : Nat) : M D := mBM D.isStr fJoin (rt (.str ("" : Str))) (mCons (bd (mLc (bd (mCons (mCallI 0 m_law_take 1 (mCons (rt (.int 3)) mNil)) mNil) fun ds => opt (if ds.length = 1 then DL.rRange ds else none)) [i] (aName i) (rt true) (mCallI 0 m_law_one 1 (mCons (eV 2) mNil))) fun x => opt (Ent.toD x)) mNil)
theorem strs_lets : ∀ es : List D, (∀ e ∈ es, ∃ z, e = D.str ⟨#[z]⟩ ∧ z ∈ abc.cps.toList) → ∃ ys : List Str, es = ys.map D.str ∧ (∀ y ∈ ys, ∃ z, y = ⟨#[z]⟩ ∧ z ∈ abc.cps.toList)
  | [], _ => ⟨[], rfl, fun _ h => by cases h⟩
  | e :: r, h => by
    obtain ⟨z, rfl, hz⟩ := h e List.mem_cons_self
    obtain ⟨ys, rfl, hy⟩ := strs_lets r fun e he => h e (List.mem_cons_of_mem _ he)
    refine ⟨⟨#[z]⟩ :: ys, rfl, fun y hy' => ?_⟩
    cases hy' with
    | head => exact ⟨z, rfl, hz⟩
    | tail _ hy' => exact hy y hy'
end G
end
section
set_option Elab.async false
set_option linter.all false
set_option maxRecDepth 100000
set_option maxHeartbeats 4000000
namespace G
open PySem PySem.Spec PyProof.Rows L2 DL
/-! ### a mirror run step by step, as rewriting -/
section
variable {α β : Type}
theorem r_bd (m : M α) (f : α → M β) (ρ : DL.Env) : bd m f ρ = (m ρ).bd f := rfl
theorem r_ok (a : α) (ρ : DL.Env) (f : α → M β) : (Res.ok a ρ).bd f = f a ρ := rfl
theorem r_er (k : Nat) (fs : List (Str × D)) (ρ : DL.Env) (f : α → M β) : (Res.er k fs ρ).bd f = Res.er k fs ρ := rfl
theorem r_stuck (f : α → M β) : (Res.stuck : Res α).bd f = Res.stuck := rfl
theorem r_rt (a : α) (ρ : DL.Env) : rt a ρ = .ok a ρ := rfl
theorem r_os (a : α) (ρ : DL.Env) : opt (some a) ρ = .ok a ρ := rfl
end
section
variable {e : Ent} {d : D} {l : List D} {kl : List (Key × D)} {ρ : DL.Env} {i : Nat}
theorem r_eV (i : Nat) (ρ : DL.Env) : eV i ρ = match ρ[i]? with
  | some (.fz d) => .ok d ρ
  | some (.ow l) => .ok (.lst l) (ρ.set i (.fz (.lst l)))
  | some (.dc l) => .ok (.dic l) (ρ.set i (.fz (.dic l)))
  | _ => .stuck := rfl
theorem r_eB (i : Nat) (ρ : DL.Env) : eB i ρ = match ρ[i]? with
  | some (.fz d) => .ok d ρ
  | some (.ow l) => .ok (.lst l) ρ
  | some (.pin l) => .ok (.lst l) ρ
  | some (.dc l) => .ok (.dic l) ρ
  | _ => .stuck := rfl
end
section
variable {ga gb : M D} {r : D → D → Option D} {r1 : D → Option D} {ta tb : M Bool} {g h : M Fl} {gs : M (List D)} {ge : M Ent} {i : Nat} (ρ : DL.Env)
theorem r_m2 : m2 r ga gb ρ = (ga ρ).bd fun x => bd gb fun y => opt (r x y) := rfl
theorem r_m2B : m2B r i gb ρ = (eB i ρ).bd fun _ => bd gb fun y => bd (eB i) fun x => opt (r x y) := rfl
theorem r_m1 : m1 r1 ga ρ = (ga ρ).bd fun d => opt (r1 d) := rfl
theorem r_mB : mB ga ρ = (ga ρ).bd fun d => opt (asB d) := rfl
theorem r_mAnd : mAnd ta tb ρ = (ta ρ).bd fun x => if x = true then tb else rt false := rfl
theorem r_mOr : mOr ta tb ρ = (ta ρ).bd fun x => if x = true then rt true else tb := rfl
theorem r_mNot : mNot ta ρ = (ta ρ).bd fun x => rt (!x) := rfl
theorem r_vAnd : vAnd ga gb ρ = (ga ρ).bd fun d => bd (opt (asB d)) fun x => if x = true then gb else rt (.bl false) := by
  unfold vAnd mB; rw [r_bd, r_bd]; cases ga ρ <;> rfl
theorem r_vOr : vOr ga gb ρ = (ga ρ).bd fun d => bd (opt (asB d)) fun x => if x = true then rt (.bl true) else gb := by
  unfold vOr mB; rw [r_bd, r_bd]; cases ga ρ <;> rfl
theorem r_vNot : vNot ga ρ = (ga ρ).bd fun d => bd (opt (asB d)) fun x => rt (.bl (!x)) := by
  unfold vNot mB; rw [r_bd, r_bd]; cases ga ρ <;> rfl
theorem r_mIf : mIf ta ga gb ρ = (ta ρ).bd fun x => if x = true then ga else gb := rfl
def sqK (h : M Fl) : Fl → M Fl
  | .nx => h
  | f => rt f
theorem r_sq : sq g h ρ = (g ρ).bd (sqK h) := by
  unfold sq; rw [r_bd]; congr 1
theorem r_sqnx : sqK h .nx = h := rfl
theorem r_sqret (d : D) : sqK h (.ret d) = rt (.ret d) := rfl
theorem r_sqbk : sqK h .bk = rt .bk := rfl
theorem r_sqct : sqK h .ct = rt .ct := rfl
theorem r_sIf : sIf ta g h ρ = (ta ρ).bd fun x => if x = true then g else h := rfl
theorem r_sRet : sRet ga ρ = (ga ρ).bd fun d => rt (.ret d) := rfl
theorem r_sDrop : sDrop ga ρ = (ga ρ).bd fun _ => rt .nx := rfl
theorem r_setE (i : Nat) (e : Ent) : setE i e ρ = if i < ρ.length then .ok .nx (ρ.set i e) else .stuck := rfl
theorem r_setU (i : Nat) (e : Ent) : setU i e ρ = if i < ρ.length then .ok () (ρ.set i e) else .stuck := rfl
theorem r_sSet : sSet i ge ρ = (ge ρ).bd fun e => setE i e := rfl
theorem r_sSetF : sSetF i ga ρ = (ga ρ).bd fun d => setE i (.fz d) := rfl
theorem r_aName (i : Nat) (d : D) : aName i d ρ = setU i (.fz d) ρ := rfl
theorem r_aNil : aNil [] ρ = .ok () ρ := rfl
theorem r_aCons {q : D → M Unit} {qs : List D → M Unit} (d : D) (l : List D) : aCons q qs (d :: l) ρ = (q d ρ).bd fun _ => qs l := rfl
theorem r_aTup {qs : List D → M Unit} (n : Nat) (l : List D) : aTup n qs (.tup l) ρ = (if l.length = n then qs l else stuck) ρ := rfl
theorem r_aLst {qs : List D → M Unit} (n : Nat) (l : List D) : aLst n qs (.lst l) ρ = (if l.length = n then qs l else stuck) ρ := rfl
theorem r_sAsg {q : D → M Unit} : sAsg q ga ρ = (ga ρ).bd fun d => bd (q d) fun _ => rt .nx := rfl
theorem r_mNil : mNil ρ = .ok [] ρ := rfl
theorem r_mCons : mCons ga gs ρ = (ga ρ).bd fun d => bd gs fun ds => rt (d :: ds) := rfl
theorem r_mTup : mTup gs ρ = (gs ρ).bd fun ds => bd (opt (short ds)) fun l => rt (.tup l) := rfl
theorem r_mLst : mLst gs ρ = (gs ρ).bd fun ds => bd (opt (short ds)) fun l => rt (.ow l) := rfl
theorem r_mNs {q : List D → Option D} : mNs q gs ρ = (gs ρ).bd fun ds => opt (q ds) := rfl
theorem r_mCall {m : List D → Out} : mCall m gs ρ = (gs ρ).bd fun ds => lift (m ds) := rfl
theorem r_lift (d : D) : lift (.ok d) ρ = .ok d ρ := rfl
theorem r_lifter (k : Nat) (fs : List (Str × D)) : lift (.er k fs) ρ = .er k fs ρ := rfl
theorem r_mMeth {j : Nat} {x : Str} {m : List D → Out} : mMeth j x m ga gs ρ = (ga ρ).bd fun d => bd (opt (recv j x d)) fun d => bd gs fun ds => lift (m (d :: ds)) := rfl
theorem r_mMeth0 {j : Nat} {x : Str} {m : List D → Out} : mMeth0 j x m ga ρ = (ga ρ).bd fun d => bd (opt (recv j x d)) fun d => lift (m [d]) := rfl
theorem r_mProp {j : Nat} {m : List D → Out} : mProp j m ga ρ = (ga ρ).bd fun d => bd (opt (objOf j d)) fun d => opt (okOf (m [d])) := rfl
theorem r_okOf (d : D) : okOf (.ok d) = some d := rfl
theorem r_vIsi {f : D → Option Bool} : vIsi f ga ρ = (ga ρ).bd fun d => bd (opt (f d)) fun b => rt (.bl b) := rfl
theorem r_mCut {gl gh : M (Option Int)} : mCut ga gl gh ρ = (ga ρ).bd fun x => bd gl fun lo => bd gh fun hi => opt (rCut x lo hi) := rfl
theorem r_mDget : mDget ga gb ρ = (ga ρ).bd fun d => bd gb fun k => opt (rDget d k) := rfl
theorem r_mDisp2 {kx ky : Str} : mDisp2 kx ky ga gb ρ = (ga ρ).bd fun a => bd gb fun b => rt (.dc [(.inr kx, a), (.inr ky, b)]) := rfl
theorem r_mBM {ty : D → Bool} {f : D → List D → Option D} : mBM ty f ga gs ρ = (ga ρ).bd fun d => if ty d = true then bd gs fun ds => opt (f d ds) else stuck := rfl
theorem r_vCh {q q' : Int → Int → Bool} {gc : M D} : vCh q q' ga gb gc ρ = (mCh q q' ga gb gc ρ).bd fun x => rt (.bl x) := rfl
theorem r_mCh {q q' : Int → Int → Bool} {gc : M D} : mCh q q' ga gb gc ρ = (ga ρ).bd fun x => bd gb fun y => bd (opt (asI x)) fun i => bd (opt (asI y)) fun j => if q i j = true then bd gc fun z => bd (opt (asI z)) fun k => rt (q' j k) else rt false := rfl
theorem r_sPar {j : Nat} {ha hb : M Ent} : sPar i j ha hb ρ = (ha ρ).bd fun a => bd hb fun b => bd (setE i a) fun _ => setE j b := rfl
theorem r_mFor {gi : M (List D)} {q : D → M Unit} {gb : M Fl} : mFor gi q gb ρ = (gi ρ).bd fun ds => sFor q gb ds := rfl
theorem r_sFld {j i : Nat} {f : Str} : sFld j i f ga ρ = (ga ρ).bd fun d => putFld j i f d := rfl
theorem r_sRaise {j : Nat} {f : Str} : sRaise j f ga ρ = (ga ρ).bd fun d => fun ρ => .er j [(f, d)] ρ := rfl
theorem r_m1l {rl : D → Option (List D)} : m1l rl ga ρ = (ga ρ).bd fun d => bd (opt (rl d)) fun l => rt (.ow l) := rfl
theorem r_mMake {j n : Nat} {mf : List D → OutF} : mMake j n mf gs ρ = (gs ρ).bd fun ds => if ds.length = n then liftF j (mf ds) else stuck := rfl
theorem r_liftF {j : Nat} (fs : List (Str × D)) : liftF j (.ok fs) ρ = .ok (.obj j fs) ρ := rfl
theorem r_both {n q : Nat} {gk : M (List D)} : both n q gs gk ρ = (gs ρ).bd fun ds => bd gk fun es => if ds.length = n ∧ es.length = q then rt (ds ++ es) else stuck := rfl
theorem r_mLc {gi : M (List D)} {vs : List Nat} {q : D → M Unit} {tt : M Bool} : mLc gi vs q tt ga ρ = (gi ρ).bd fun ds => bd (sole (loopL vs q tt ga ds [])) fun l => rt (.ow l) := rfl
theorem r_mLc2 {gi gi1 : M (List D)} {vs vs1 : List Nat} {q q1 : D → M Unit} {tt tt1 : M Bool} : mLc2 gi vs q tt gi1 vs1 q1 tt1 ga ρ = (gi ρ).bd fun ds => bd (sole (loopL2 vs q tt gi1 vs1 q1 tt1 ga ds [])) fun l => rt (.ow l) := rfl
theorem r_mSk {gi : M (List D)} {vs : List Nat} {q : D → M Unit} {tt : M Bool} : mSk gi vs q tt ga ρ = (gi ρ).bd fun ds => sole (loopK vs q tt ga ds []) := rfl
theorem r_mSetL : mSetL ga ρ = (ga ρ).bd fun d => bd (opt (items d)) fun l => bd (opt (keysD l)) fun ks => if ks.length + 1 < scanBound then rt (dedK ks) else stuck := rfl
theorem r_sole {α : Type} {m : M α} {a : α} {ρ ρ' : DL.Env} (h : m ρ = .ok a ρ') : sole m ρ = .ok a ρ' := by unfold sole; rw [h]
theorem r_toDfz (d : D) : Ent.toD (.fz d) = some d := rfl
theorem r_toDow (d : List D) : Ent.toD (.ow d) = some (.lst d) := rfl
theorem r_toDdc (d : List (Key × D)) : Ent.toD (.dc d) = some (.dic d) := rfl
theorem r_asB (b : Bool) : asB (.bl b) = some b := rfl
theorem r_asI (b : Int) : asI (.int b) = some b := rfl
theorem r_iteA {α : Type} {p : Prop} [Decidable p] (f g : M α) (ρ : DL.Env) : (if p then f else g) ρ = if p then f ρ else g ρ := by split <;> rfl
theorem r_itlst (l : List D) : itemsA (.lst l) = some l := rfl
theorem r_ittup (l : List D) : itemsA (.tup l) = some l := rfl
theorem r_it1 (l : List D) : items (.lst l) = some l := rfl
theorem r_fAp (l : List D) (d : D) : fAppend l [d] = if l.length < sizeLine then some (.non, l ++ [d]) else none := rfl
def liftL (i : Nat) (f : List D → List D → Option (D × List D)) (es : List D) : M D := liftI i (fun ds es => outI (f ds es)) es
theorem r_mLM {i : Nat} {f : List D → List D → Option (D × List D)} : mLM i f gs ρ = (isOwn i ρ).bd fun _ => bd gs fun es => liftL i f es := rfl
theorem r_mCallI {i n : Nat} {m : List D → List D → OutI} : mCallI i m n gs ρ = (isOwn i ρ).bd fun _ => bd gs fun es => if es.length = n then liftI i m es else stuck := rfl
theorem r_isOwn (i : Nat) : isOwn i ρ = match ρ[i]? with
  | some (.pin _) => .ok () ρ
  | some (.ow _) => .ok () ρ
  | _ => .stuck := rfl
theorem r_outS (d : D) (l : List D) : outI (some (d, l)) = .ok d l := rfl
theorem r_liftI (i : Nat) (f : List D → List D → Option (D × List D)) (es : List D) : liftL i f es ρ = match ρ[i]? with
  | some (.pin l) => (match f l es with
    | some (d, l') => .ok d (ρ.set i (.pin l'))
    | none => .stuck)
  | some (.ow l) => (match f l es with
    | some (d, l') => .ok d (ρ.set i (.ow l'))
    | none => .stuck)
  | _ => .stuck := by
  unfold liftL liftI
  cases ρ[i]? with
  | none => rfl
  | some e =>
    cases e with
    | pin l => dsimp only; cases f l es <;> rfl
    | ow l => dsimp only; cases f l es <;> rfl
    | _ => rfl
theorem liftI_ok {m : List D → List D → OutI} {l l' es : List D} {d : D} {ρ : DL.Env} (h : m l es = .ok d l') : liftI 0 m es (.pin l :: ρ) = .ok d (.pin l' :: ρ) := by
  show (match m l es with
    | .ok d l' => Res.ok d ((Ent.pin l :: ρ).set 0 (.pin l'))
    | .er k fs l' => Res.er k fs ((Ent.pin l :: ρ).set 0 (.pin l'))
    | .stuck => Res.stuck) = _
  rw [h]; rfl
theorem r_short {l : List D} (h : l.length ≤ 1000) : short l = some l := if_pos h
end
end G
end
section
set_option Elab.async false
set_option linter.all false
set_option maxRecDepth 100000
set_option maxHeartbeats 4000000
namespace G
open PySem PySem.Spec PyProof.Rows L2 DL
/-! ### turns and loops -/
section
variable {X T : Type} {vs vs1 : List Nat} {ga ga1 : D → M Unit} {tt tt1 : M Bool} {ge : M D} {gi1 : M (List D)} {gb : M Fl} {d e : D} {ρ ρ1 ρ2 ρ3 ρ4 ρ' : DL.Env}
theorem turn_some (h0 : stillAt ρ vs = true) (h1 : ga d (wipeE ρ vs) = .ok () ρ1) (h2 : tt ρ1 = .ok true ρ2) (h3 : ge ρ2 = .ok e ρ3) (h4 : stillAt ρ3 vs = true ∧ ρ3.length = ρ.length) (h5 : backE ρ3 ρ vs = ρ') : turnLc vs ga tt ge d ρ = .ok (some e) ρ' := by
  unfold turnLc
  rw [if_pos h0, h1]
  dsimp only
  rw [h2]
  dsimp only
  rw [h3]
  dsimp only
  rw [if_pos h4, h5]
theorem turn_none (h0 : stillAt ρ vs = true) (h1 : ga d (wipeE ρ vs) = .ok () ρ1) (h2 : tt ρ1 = .ok false ρ2) (h4 : stillAt ρ2 vs = true ∧ ρ2.length = ρ.length) (h5 : backE ρ2 ρ vs = ρ') : turnLc vs ga tt ge d ρ = .ok none ρ' := by
  unfold turnLc
  rw [if_pos h0, h1]
  dsimp only
  rw [h2]
  dsimp only
  rw [if_pos h4, h5]
/-- a comprehension whose turns leave the slots as they were -/
theorem loop_fm {f : X → D} {g : X → Option D} : ∀ (xs : List X) (acc : List D), (∀ x ∈ xs, turnLc vs ga tt ge (f x) ρ = .ok (g x) ρ) → acc.length + xs.length ≤ sizeLine → loopL vs ga tt ge (xs.map f) acc ρ = .ok (acc ++ xs.filterMap g) ρ
  | [], acc, _, _ => by show Res.ok acc ρ = _; simp
  | x :: r, acc, h, hl => by
    rw [List.map_cons]
    unfold loopL
    have hl' : acc.length < sizeLine := by rw [List.length_cons] at hl; omega
    rw [if_pos hl', run_bd (h x List.mem_cons_self)]
    cases eg : g x with
    | none =>
      refine (loop_fm r acc (fun x hx => h x (List.mem_cons_of_mem _ hx)) (by rw [List.length_cons] at hl; omega)).trans ?_
      rw [List.filterMap_cons, eg]
    | some y =>
      refine (loop_fm r (acc ++ [y]) (fun x hx => h x (List.mem_cons_of_mem _ hx)) (by rw [List.length_cons] at hl; rw [List.length_append, List.length_singleton]; omega)).trans ?_
      rw [List.filterMap_cons, eg, List.append_assoc]; rfl
theorem loop_mp {f g : X → D} (xs : List X) (acc : List D) (h : ∀ x ∈ xs, turnLc vs ga tt ge (f x) ρ = .ok (some (g x)) ρ) (hl : acc.length + xs.length ≤ sizeLine) : loopL vs ga tt ge (xs.map f) acc ρ = .ok (acc ++ xs.map g) ρ := by
  rw [loop_fm (g := fun x => some (g x)) xs acc h hl, List.filterMap_eq_map']
/-- .. over two loops -/
theorem turn2 {ds : List D} {acc acc' : List D} (h0 : stillAt ρ vs = true) (h1 : ga d (wipeE ρ vs) = .ok () ρ1) (h2 : tt ρ1 = .ok true ρ2) (h3 : gi1 ρ2 = .ok ds ρ3) (hl : loopL vs1 ga1 tt1 ge ds acc ρ3 = .ok acc' ρ4) (h4 : stillAt ρ4 vs = true ∧ ρ4.length = ρ.length) (h5 : backE ρ4 ρ vs = ρ') :
    turnL2 vs ga tt gi1 vs1 ga1 tt1 ge d acc ρ = .ok acc' ρ' := by
  unfold turnL2
  rw [if_pos h0, h1]
  dsimp only
  rw [h2]
  dsimp only
  rw [h3]
  dsimp only
  rw [hl]
  dsimp only
  rw [if_pos h4, h5]
theorem loop2 {f : X → D} {g : X → List D} : ∀ (xs : List X) (acc : List D), (∀ x ∈ xs, ∀ acc, acc.length + (g x).length ≤ sizeLine → turnL2 vs ga tt gi1 vs1 ga1 tt1 ge (f x) acc ρ = .ok (acc ++ g x) ρ) → acc.length + (xs.flatMap g).length ≤ sizeLine →
    loopL2 vs ga tt gi1 vs1 ga1 tt1 ge (xs.map f) acc ρ = .ok (acc ++ xs.flatMap g) ρ
  | [], acc, _, _ => by show Res.ok acc ρ = _; simp
  | x :: r, acc, h, hl => by
    rw [List.flatMap_cons, List.length_append] at hl
    rw [List.map_cons]
    unfold loopL2
    rw [run_bd (h x List.mem_cons_self acc (by omega))]
    refine (loop2 r (acc ++ g x) (fun x hx => h x (List.mem_cons_of_mem _ hx)) (by rw [List.length_append]; omega)).trans ?_
    rw [List.flatMap_cons, List.append_assoc]
/-- a set comprehension -/
theorem loop_k {f : X → D} {g : X → Key} : ∀ (xs : List X) (acc : List Key), (∀ x ∈ xs, ∃ e, turnLc vs ga tt ge (f x) ρ = .ok (some e) ρ ∧ keyD e = some (g x)) → acc.length + xs.length < 4096 →
    loopK vs ga tt ge (xs.map f) acc ρ = .ok ((xs.map g).foldl (fun acc k => addK k acc) acc) ρ
  | [], acc, _, _ => rfl
  | x :: r, acc, h, hl => by
    obtain ⟨e, h1, h2⟩ := h x List.mem_cons_self
    rw [List.map_cons]
    unfold loopK
    rw [run_bd h1]
    dsimp only
    rw [h2]
    dsimp only
    have hs : scanBound = 4096 := rfl
    rw [List.length_cons] at hl
    rw [if_pos (by rw [hs]; omega)]
    have := addK_len (g x) acc
    exact (loop_k r (addK (g x) acc) (fun x hx => h x (List.mem_cons_of_mem _ hx)) (by omega)).trans rfl
/-- a for loop that folds -/
theorem for_fold {f : X → D} {R : T → DL.Env → Prop} {st : T → X → T} : ∀ (xs : List X) (s : T), (∀ s x ρ, x ∈ xs → R s ρ → ∃ ρ', (bd (ga (f x)) fun _ => gb) ρ = .ok .nx ρ' ∧ R (st s x) ρ') → ∀ ρ, R s ρ → ∃ ρ', sFor ga gb (xs.map f) ρ = .ok .nx ρ' ∧ R (xs.foldl st s) ρ'
  | [], s, _, ρ, r => ⟨ρ, rfl, r⟩
  | x :: xs, s, h, ρ, r => by
    obtain ⟨ρ1, e1, r1⟩ := h s x ρ List.mem_cons_self r
    obtain ⟨ρ2, e2, r2⟩ := for_fold xs (st s x) (fun s x ρ hx => h s x ρ (List.mem_cons_of_mem _ hx)) ρ1 r1
    refine ⟨ρ2, ?_, r2⟩
    rw [List.map_cons]
    unfold sFor
    rw [r_bd] at e1
    rw [r_bd]
    cases e0 : ga (f x) ρ with
    | ok u ρ0 =>
      rw [e0] at e1
      rw [r_ok] at e1 ⊢
      rw [run_bd e1]
      exact e2
    | er k fs ρ0 => rw [e0] at e1; cases e1
    | stuck => rw [e0] at e1; cases e1
/-- a for loop by what holds of the part taken -/
theorem for_pre {f : X → D} {R : List X → DL.Env → Prop} (xs : List X) (h : ∀ pre x post ρ, xs = pre ++ x :: post → R pre ρ → ∃ ρ', (bd (ga (f x)) fun _ => gb) ρ = .ok .nx ρ' ∧ R (pre ++ [x]) ρ') :
    ∀ (post pre : List X), xs = pre ++ post → ∀ ρ, R pre ρ → ∃ ρ', sFor ga gb (post.map f) ρ = .ok .nx ρ' ∧ R xs ρ'
  | [], pre, e, ρ, r => ⟨ρ, rfl, by rw [e, List.append_nil]; exact r⟩
  | x :: post, pre, e, ρ, r => by
    obtain ⟨ρ1, e1, r1⟩ := h pre x post ρ e r
    obtain ⟨ρ2, e2, r2⟩ := for_pre xs h post (pre ++ [x]) (by rw [e]; simp) ρ1 r1
    refine ⟨ρ2, ?_, r2⟩
    rw [List.map_cons]
    unfold sFor
    rw [r_bd] at e1
    rw [r_bd]
    cases e0 : ga (f x) ρ with
    | ok u ρ0 =>
      rw [e0] at e1
      rw [r_ok] at e1 ⊢
      rw [run_bd e1]
      exact e2
    | er k fs ρ0 => rw [e0] at e1; cases e1
    | stuck => rw [e0] at e1; cases e1
theorem sFor_cons (d : D) (r : List D) : sFor ga gb (d :: r) ρ = (ga d ρ).bd fun _ => bd gb fun f => match f with
    | .nx => sFor ga gb r
    | .ct => sFor ga gb r
    | .bk => rt .nx
    | .ret d => rt (.ret d) := rfl
theorem sFor_nil : sFor ga gb [] ρ = .ok .nx ρ := rfl
/-- .. that raises -/
theorem for_er {f : X → D} {R : DL.Env → Prop} {k : Nat} {fs : List (Str × D)} {ds : List D} {Q : DL.Env → Prop} : ∀ (xs : List X), (∀ x ρ, x ∈ xs → R ρ → ∃ ρ', (bd (ga (f x)) fun _ => gb) ρ = .ok .nx ρ' ∧ R ρ') → (∀ ρ, R ρ → ∃ ρ', (bd (ga d) fun _ => gb) ρ = .er k fs ρ' ∧ Q ρ') →
    ∀ ρ, R ρ → ∃ ρ', sFor ga gb (xs.map f ++ d :: ds) ρ = .er k fs ρ' ∧ Q ρ'
  | [], _, he, ρ, r => by
    obtain ⟨ρ1, e1, q1⟩ := he ρ r
    refine ⟨ρ1, ?_, q1⟩
    rw [List.map_nil, List.nil_append]
    unfold sFor
    rw [r_bd] at e1 ⊢
    cases e0 : ga d ρ with
    | ok u ρ0 =>
      rw [e0] at e1
      rw [r_ok] at e1 ⊢
      rw [r_bd, e1]
      rfl
    | er k' fs' ρ0 => rw [e0] at e1; exact e1
    | stuck => rw [e0] at e1; cases e1
  | x :: xs, h, he, ρ, r => by
    obtain ⟨ρ1, e1, r1⟩ := h x ρ List.mem_cons_self r
    obtain ⟨ρ2, e2, r2⟩ := for_er xs (fun x ρ hx => h x ρ (List.mem_cons_of_mem _ hx)) he ρ1 r1
    refine ⟨ρ2, ?_, r2⟩
    rw [List.map_cons, List.cons_append]
    unfold sFor
    rw [r_bd] at e1
    rw [r_bd]
    cases e0 : ga (f x) ρ with
    | ok u ρ0 =>
      rw [e0] at e1
      rw [r_ok] at e1 ⊢
      rw [run_bd e1]
      exact e2
    | er k fs ρ0 => rw [e0] at e1; cases e1
    | stuck => rw [e0] at e1; cases e1
end
end G
end
section
set_option Elab.async false
set_option linter.all false
set_option maxRecDepth 100000
set_option maxHeartbeats 4000000
namespace G
open PySem PySem.Spec PyProof.Rows L2 DL
/-! ### texts by their codes -/
def S (l : List Nat) : Str := ⟨l.toArray⟩
abbrev sD (l : List Nat) : D := .str (S l)
theorem S_list (l : List Nat) : (S l).cps.toList = l := by unfold S; simp
theorem S_len (l : List Nat) : (S l).length = l.length := by unfold S Str.length; simp
theorem S_app (a b : List Nat) : S a ++ S b = S (a ++ b) := by
  apply str_ext
  show ((S a).cps ++ (S b).cps).toList = _
  rw [Array.toList_append, S_list, S_list, S_list]
theorem S_of (s : Str) : S s.cps.toList = s := by apply str_ext; rw [S_list]
theorem S_inj {a b : List Nat} (h : S a = S b) : a = b := by rw [← S_list a, h, S_list]
theorem szl : sizeLine = 16777216 := by decide
theorem add_S {a b : List Nat} (h : a.length + b.length ≤ 16777216) : DL.rAdd (sD a) (sD b) = some (sD (a ++ b)) := by
  show (if (S a).length + (S b).length ≤ sizeLine then some (D.str (S a ++ S b)) else none) = _
  rw [S_len, S_len, szl, if_pos h, S_app]
theorem ix_S {a : List Nat} {i z : Nat} (h : a.length ≤ 16777216) (hz : a[i]? = some z) : rIx (sD a) (.int (i : Nat)) = some (sD [z]) := by
  show (if (S a).length ≤ sizeLine then (atI (S a).cps.toList (i : Int)).map (fun z => D.str ⟨#[z]⟩) else none) = _
  rw [S_len, szl, if_pos h, S_list, atI_nat hz]; rfl
theorem cut_S {a : List Nat} {i j : Nat} (h : a.length ≤ 16777216) (hi : i ≤ a.length) (hj : j ≤ a.length) : rCut (sD a) (some (i : Nat)) (some (j : Nat)) = some (sD ((a.drop i).take (j - i))) := by
  show (if (S a).length ≤ sizeLine then some (D.str (cutS (S a) (some (i : Int)) (some (j : Int)))) else none) = _
  rw [S_len, szl, if_pos h]
  unfold cutS
  rw [HT.sIx_nat, HT.sIx_nat, S_len, S_list, Nat.min_eq_left hi, Nat.min_eq_left hj]; rfl
theorem len_S {a : List Nat} (h : a.length ≤ 10000) : DL.rLen (sD a) = some (.int (a.length : Nat)) := by
  show (if (S a).length ≤ sizeLine then some (D.int ((S a).length : Nat)) else none) = _
  rw [S_len, szl, if_pos (by omega)]
theorem it_S {a : List Nat} (h : a.length ≤ 16777216) : itemsA (sD a) = some (a.map fun z => sD [z]) := by
  show (if (S a).length ≤ sizeLine then some (DL.signs (S a)) else none) = _
  rw [S_len, szl, if_pos h]; unfold DL.signs; rw [S_list]; rfl
abbrev abcS : List Nat := [97,98,99,100,101,102,103,104,105,106,107,108,109,110,111,112,113,114,115,116,117,118,119,120,121,122]
theorem abc_S : ("abcdefghijklmnopqrstuvwxyz" : Str) = S abcS := by decide +kernel
theorem in_S (z : Nat) (l : List Nat) : rInB (sD [z]) (sD l) = some (decide (z ∈ l)) := by
  show some (strIn (S [z]) (S l)) = _
  unfold strIn
  have := PySem.StrLaws.found_one (S l) z
  rw [S_list] at this
  exact congrArg some this
theorem rin_S (z : Nat) (l : List Nat) : DL.rIn (sD [z]) (sD l) = some (.bl (decide (z ∈ l))) := by unfold DL.rIn; rw [in_S]; rfl
theorem rnin_S (z : Nat) (l : List Nat) : DL.rNotIn (sD [z]) (sD l) = some (.bl (!decide (z ∈ l))) := by unfold DL.rNotIn; rw [in_S]; rfl
def Let (z : Nat) : Prop := 97 ≤ z ∧ z ≤ 122
theorem let_mem {z : Nat} : z ∈ abcS ↔ Let z := by
  unfold Let abcS
  simp only [List.mem_cons, List.not_mem_nil, or_false]
  omega
/-- two texts that are compared -/
theorem eqv_str (x y : Str) : PyData.eqv (.str x) (.str y) = decide (x = y) := by
  simp only [PyData.eqv]
  by_cases h : x = y
  · subst h; simp
  · simp [h]
theorem req_S (a b : List Nat) : DL.rEq (sD a) (sD b) = some (.bl (decide (a = b))) := by
  have : PyData.eqv (.str (S a)) (.str (S b)) = decide (a = b) := by
    rw [eqv_str]
    by_cases h : a = b
    · subst h; simp
    · rw [decide_eq_false h, decide_eq_false fun e => h (S_inj e)]
  show (if okEq (sD a) (sD b) = true then some (D.bl (PyData.eqv (.str (S a)) (.str (S b)))) else none) = _
  rw [this]; rfl
theorem rne_S (a b : List Nat) : DL.rNe (sD a) (sD b) = some (.bl (!decide (a = b))) := by
  have : PyData.eqv (.str (S a)) (.str (S b)) = decide (a = b) := by
    rw [eqv_str]
    by_cases h : a = b
    · subst h; simp
    · rw [decide_eq_false h, decide_eq_false fun e => h (S_inj e)]
  show (if okEq (sD a) (sD b) = true then some (D.bl (!PyData.eqv (.str (S a)) (.str (S b)))) else none) = _
  rw [this]; rfl
/-! ### a text cut by a sign between blanks -/
open Builtin Builtin.Str in
theorem at_iff {x y : List Nat} {i : Nat} : StrLaws.At (S x) (S y) (S x).length i ↔ i + y.length ≤ x.length ∧ (x.drop i).take y.length = y := by
  unfold StrLaws.At
  rw [StrLaws.subAt_eq, S_list, S_list, S_len, S_len, beq_iff_eq]
theorem kind1 {x : List Nat} (h : ∀ z ∈ x, z < 256) : Builtin.Str.strKind (S x) = 1 := by
  unfold Builtin.Str.strKind
  rw [if_pos]
  show (S x).cps.all _ = true
  rw [← Array.all_toList, S_list]
  exact List.all_eq_true.mpr fun z hz => decide_eq_true (h z hz)
theorem kind_ge (x : Str) : 1 ≤ Builtin.Str.strKind x := by
  unfold Builtin.Str.strKind
  split
  · omega
  · split <;> omega
abbrev sgn (c : Nat) : List Nat := [32, c, 61, 32]
theorem at_sgn {a b : List Nat} {c d i : Nat} (ha : 32 ∉ a) (hb : 32 ∉ b) (hc : c ≠ 32) : StrLaws.At (S (a ++ sgn c ++ b)) (S (sgn d)) (S (a ++ sgn c ++ b)).length i ↔ i = a.length ∧ c = d := by
  rw [at_iff]
  constructor
  · rintro ⟨h1, h2⟩
    have g0 : (a ++ sgn c ++ b)[i]? = some 32 := by
      have : ((a ++ sgn c ++ b).drop i |>.take 4)[0]? = some 32 := by
        have e : (sgn d).length = 4 := rfl
        rw [← e, h2]; rfl
      rw [List.getElem?_take_of_lt (by omega), List.getElem?_drop] at this
      simpa using this
    have g1 : (a ++ sgn c ++ b)[i + 1]? = some d := by
      have : ((a ++ sgn c ++ b).drop i |>.take 4)[1]? = some d := by
        have e : (sgn d).length = 4 := rfl
        rw [← e, h2]; rfl
      rw [List.getElem?_take_of_lt (by omega), List.getElem?_drop] at this
      exact this
    have g3 : (a ++ sgn c ++ b)[i + 3]? = some 32 := by
      have : ((a ++ sgn c ++ b).drop i |>.take 4)[3]? = some 32 := by
        have e : (sgn d).length = 4 := rfl
        rw [← e, h2]; rfl
      rw [List.getElem?_take_of_lt (by omega), List.getElem?_drop] at this
      exact this
    have key : ∀ j, (a ++ sgn c ++ b)[j]? = some 32 → j = a.length ∨ j = a.length + 3 := by
      intro j hj
      rw [List.append_assoc] at hj
      by_cases h : j < a.length
      · rw [List.getElem?_append_left h] at hj
        exact absurd (List.mem_of_getElem? hj) ha
      · rw [List.getElem?_append_right (by omega)] at hj
        by_cases h4 : j - a.length < 4
        · rw [List.getElem?_append_left (by simpa using h4)] at hj
          have : j - a.length = 0 ∨ j - a.length = 1 ∨ j - a.length = 2 ∨ j - a.length = 3 := by omega
          rcases this with e | e | e | e
          · exact .inl (by omega)
          · rw [e] at hj; simp at hj; exact absurd hj hc
          · rw [e] at hj; simp at hj
          · exact .inr (by omega)
        · rw [List.getElem?_append_right (by simp; omega)] at hj
          exact absurd (List.mem_of_getElem? hj) hb
    rcases key i g0 with e | e
    · refine ⟨e, ?_⟩
      rw [e, List.append_assoc, List.getElem?_append_right (by omega)] at g1
      simp at g1
      exact g1
    · rcases key (i + 3) g3 with e' | e' <;> omega
  · rintro ⟨rfl, rfl⟩
    constructor
    · simp
    · rw [List.append_assoc, List.drop_left, List.take_left' rfl]
theorem occ_sgn {a b : List Nat} {c : Nat} (ha : 32 ∉ a) (hb : 32 ∉ b) (hc : c ≠ 32) (limit : Nat) (hl : 1 ≤ limit) : Builtin.Str.occurrences (S (a ++ sgn c ++ b)) (S (sgn c)) 0 (S (a ++ sgn c ++ b)).length limit = [a.length] := by
  rcases StrLaws.occ_head (S (a ++ sgn c ++ b)) (S (sgn c)) limit hl with ⟨_, h⟩ | ⟨i, r, e, h, _⟩
  · exact absurd ((at_sgn ha hb hc).mpr ⟨rfl, rfl⟩) (h a.length)
  · obtain ⟨h1, _⟩ := (at_sgn ha hb hc).mp h
    obtain ⟨f, ch⟩ := StrLaws.occ_chain (S (a ++ sgn c ++ b)) (S (sgn c)) limit
    rw [e] at ch ⊢
    subst h1
    cases r with
    | nil => rfl
    | cons j r =>
      obtain ⟨_, _, h2, h3, _⟩ := ch
      obtain ⟨h4, _⟩ := (at_sgn ha hb hc).mp h3
      rw [S_len] at h2
      simp at h2
      omega
theorem occ_not {a b : List Nat} {c d : Nat} (ha : 32 ∉ a) (hb : 32 ∉ b) (hc : c ≠ 32) (hd : c ≠ d) (limit : Nat) (hl : 1 ≤ limit) : Builtin.Str.occurrences (S (a ++ sgn c ++ b)) (S (sgn d)) 0 (S (a ++ sgn c ++ b)).length limit = [] := by
  rcases StrLaws.occ_head (S (a ++ sgn c ++ b)) (S (sgn d)) limit hl with ⟨h, _⟩ | ⟨i, r, e, h, _⟩
  · exact h
  · exact absurd ((at_sgn ha hb hc).mp h).2 hd
theorem split_yes {a b : List Nat} {c : Nat} (ha : 32 ∉ a) (hb : 32 ∉ b) (hc : c ≠ 32) (hc2 : c < 256) : Txt.split (S (a ++ sgn c ++ b)) (S (sgn c)) = [S a, S b] := by
  unfold Txt.split
  have hk : Builtin.Str.strKind (S (sgn c)) = 1 := kind1 (by intro z hz; simp at hz; omega)
  have hg := kind_ge (S (a ++ sgn c ++ b))
  rw [if_neg (by rw [hk, S_len, S_len, Bool.or_eq_true, decide_eq_true_eq, decide_eq_true_eq]; simp only [List.length_append, List.length_cons, List.length_nil]; omega), occ_sgn ha hb hc _ (by omega), if_neg (by simp), StrLaws.partsBetween_eq]
  unfold StrLaws.partsFrom StrLaws.partsFrom
  congr 1
  · apply str_ext
    rw [StrLaws.strSub_toList, S_list, S_list, List.append_assoc]
    simp
  · congr 1
    apply str_ext
    rw [StrLaws.strSub_toList, S_list, S_list, S_len, S_len]
    rw [show a.length + (sgn c).length = (a ++ sgn c).length by simp]
    rw [List.drop_left' rfl]
    exact List.take_of_length_le (by simp; omega)
theorem split_no {a b : List Nat} {c d : Nat} (ha : 32 ∉ a) (hb : 32 ∉ b) (hc : c ≠ 32) (hd : c ≠ d) (hd2 : d < 256) : Txt.split (S (a ++ sgn c ++ b)) (S (sgn d)) = [S (a ++ sgn c ++ b)] := by
  unfold Txt.split
  rw [occ_not ha hb hc hd _ (by omega)]
  split <;> rfl
end G
end
section
set_option Elab.async false
set_option linter.all false
set_option maxRecDepth 100000
set_option maxHeartbeats 4000000
namespace G
open PySem PySem.Spec PyProof.Rows L2 DL
/-! ### words -/
theorem isi_str (s : Str) : isiB "str" (.str s) = some true := rfl
theorem isw_len {l : List Nat} (hl : l.length ≤ 10000) (h : ¬ (1 ≤ l.length ∧ l.length ≤ 8)) : m_is_word [sD l] = .ok (.bl false) := by
  show toOut (g_is_word [.fz (sD l), .no]) = _
  unfold g_is_word
  have hs := len_S hl
  simp only [r_bd, r_ok, r_er, r_stuck, r_rt, r_os, r_eV, r_eB, r_m2, r_m2B, r_m1, r_mB, r_mAnd, r_mOr, r_mNot, r_vAnd, r_vOr, r_vNot, r_mIf, r_sq, r_sqnx, r_sqret, r_sIf, r_sRet, r_sDrop, r_setE, r_setU, r_sSet, r_sSetF, r_aName, r_aNil, r_aCons, r_aTup, r_aLst, r_sAsg, r_mNil, r_mCons, r_mTup, r_mLst, r_mNs, r_mCall, r_lift, r_lifter, r_mMeth, r_mMeth0, r_mProp, r_okOf, r_vIsi, r_mCut, r_mDget, r_mDisp2, r_mBM, r_vCh, r_mCh, r_sPar, r_mFor, r_sFld, r_sRaise, r_m1l, r_mMake, r_liftF, r_both, r_mLc, r_mLc2, r_mSk, r_mSetL, r_toDfz, r_toDow, r_toDdc, r_asB, r_asI, r_iteA, r_itlst, r_ittup, r_it1, r_mLM, r_mCallI, r_isOwn, r_liftI, r_outS, List.getElem?_cons_zero, List.getElem?_cons_succ, List.nil_append, List.set_cons_zero, List.set_cons_succ, List.length_cons, List.length_nil, Nat.reduceAdd, Nat.reduceLT, Nat.reduceEqDiff, ↓reduceIte, if_true, Bool.not_true, Bool.not_false, and_self, Bool.false_eq_true, isi_str, hs]
  by_cases h1 : 1 ≤ l.length
  · have h2 : ¬ l.length ≤ 8 := fun e => h ⟨h1, e⟩
    have e1 : ((1 : Int) ≤ (l.length : Nat)) := by omega
    have e2 : ¬ (((l.length : Nat) : Int) ≤ 8) := by omega
    simp only [r_bd, r_ok, r_er, r_stuck, r_rt, r_os, r_eV, r_eB, r_m2, r_m2B, r_m1, r_mB, r_mAnd, r_mOr, r_mNot, r_vAnd, r_vOr, r_vNot, r_mIf, r_sq, r_sqnx, r_sqret, r_sIf, r_sRet, r_sDrop, r_setE, r_setU, r_sSet, r_sSetF, r_aName, r_aNil, r_aCons, r_aTup, r_aLst, r_sAsg, r_mNil, r_mCons, r_mTup, r_mLst, r_mNs, r_mCall, r_lift, r_lifter, r_mMeth, r_mMeth0, r_mProp, r_okOf, r_vIsi, r_mCut, r_mDget, r_mDisp2, r_mBM, r_vCh, r_mCh, r_sPar, r_mFor, r_sFld, r_sRaise, r_m1l, r_mMake, r_liftF, r_both, r_mLc, r_mLc2, r_mSk, r_mSetL, r_toDfz, r_toDow, r_toDdc, r_asB, r_asI, r_iteA, r_itlst, r_ittup, r_it1, r_mLM, r_mCallI, r_isOwn, r_liftI, r_outS, List.getElem?_cons_zero, List.getElem?_cons_succ, List.nil_append, List.set_cons_zero, List.set_cons_succ, List.length_cons, List.length_nil, Nat.reduceAdd, Nat.reduceLT, Nat.reduceEqDiff, ↓reduceIte, if_true, Bool.not_true, Bool.not_false, and_self, Bool.false_eq_true, e1, e2, decide_true, decide_false]
    rfl
  · have e1 : ¬ ((1 : Int) ≤ (l.length : Nat)) := by omega
    simp only [r_bd, r_ok, r_er, r_stuck, r_rt, r_os, r_eV, r_eB, r_m2, r_m2B, r_m1, r_mB, r_mAnd, r_mOr, r_mNot, r_vAnd, r_vOr, r_vNot, r_mIf, r_sq, r_sqnx, r_sqret, r_sIf, r_sRet, r_sDrop, r_setE, r_setU, r_sSet, r_sSetF, r_aName, r_aNil, r_aCons, r_aTup, r_aLst, r_sAsg, r_mNil, r_mCons, r_mTup, r_mLst, r_mNs, r_mCall, r_lift, r_lifter, r_mMeth, r_mMeth0, r_mProp, r_okOf, r_vIsi, r_mCut, r_mDget, r_mDisp2, r_mBM, r_vCh, r_mCh, r_sPar, r_mFor, r_sFld, r_sRaise, r_m1l, r_mMake, r_liftF, r_both, r_mLc, r_mLc2, r_mSk, r_mSetL, r_toDfz, r_toDow, r_toDdc, r_asB, r_asI, r_iteA, r_itlst, r_ittup, r_it1, r_mLM, r_mCallI, r_isOwn, r_liftI, r_outS, List.getElem?_cons_zero, List.getElem?_cons_succ, List.nil_append, List.set_cons_zero, List.set_cons_succ, List.length_cons, List.length_nil, Nat.reduceAdd, Nat.reduceLT, Nat.reduceEqDiff, ↓reduceIte, if_true, Bool.not_true, Bool.not_false, and_self, Bool.false_eq_true, e1, decide_false]
    rfl
theorem isw_ok {l : List Nat} (h1 : 1 ≤ l.length) (h2 : l.length ≤ 8) (hl : ∀ z ∈ l, Let z) : m_is_word [sD l] = .ok (.bl true) := by
  show toOut (g_is_word [.fz (sD l), .no]) = _
  unfold g_is_word
  have e1 : ((1 : Int) ≤ (l.length : Nat)) := by omega
  have e2 : (((l.length : Nat) : Int) ≤ 8) := by omega
  have hloop : loopL [1] (aName 1) (mB (m2B DL.rNotIn 1 (rt (.str ("abcdefghijklmnopqrstuvwxyz" : Str))))) (eV 1) (l.map fun z => sD [z]) [] [.fz (sD l), .no] = .ok ([] ++ l.filterMap fun _ => none) [.fz (sD l), .no] := by
    refine loop_fm l [] (fun z hz => ?_) (by rw [szl]; simp; omega)
    have hz' : z ∈ abcS := let_mem.mpr (hl z hz)
    refine turn_none rfl (ρ1 := [.fz (sD l), .fz (sD [z])]) rfl (ρ2 := [.fz (sD l), .fz (sD [z])]) ?_ ⟨rfl, rfl⟩ rfl
    simp only [r_bd, r_ok, r_er, r_stuck, r_rt, r_os, r_eV, r_eB, r_m2, r_m2B, r_m1, r_mB, r_mAnd, r_mOr, r_mNot, r_vAnd, r_vOr, r_vNot, r_mIf, r_sq, r_sqnx, r_sqret, r_sIf, r_sRet, r_sDrop, r_setE, r_setU, r_sSet, r_sSetF, r_aName, r_aNil, r_aCons, r_aTup, r_aLst, r_sAsg, r_mNil, r_mCons, r_mTup, r_mLst, r_mNs, r_mCall, r_lift, r_lifter, r_mMeth, r_mMeth0, r_mProp, r_okOf, r_vIsi, r_mCut, r_mDget, r_mDisp2, r_mBM, r_vCh, r_mCh, r_sPar, r_mFor, r_sFld, r_sRaise, r_m1l, r_mMake, r_liftF, r_both, r_mLc, r_mLc2, r_mSk, r_mSetL, r_toDfz, r_toDow, r_toDdc, r_asB, r_asI, r_iteA, r_itlst, r_ittup, r_it1, r_mLM, r_mCallI, r_isOwn, r_liftI, r_outS, List.getElem?_cons_zero, List.getElem?_cons_succ, List.nil_append, List.set_cons_zero, List.set_cons_succ, List.length_cons, List.length_nil, Nat.reduceAdd, Nat.reduceLT, Nat.reduceEqDiff, ↓reduceIte, if_true, Bool.not_true, Bool.not_false, and_self, Bool.false_eq_true, abc_S, rnin_S, hz', decide_true]
  have hn : (l.filterMap fun _ => (none : Option D)) = [] := by simp
  rw [hn] at hloop
  simp only [r_bd, r_ok, r_er, r_stuck, r_rt, r_os, r_eV, r_eB, r_m2, r_m2B, r_m1, r_mB, r_mAnd, r_mOr, r_mNot, r_vAnd, r_vOr, r_vNot, r_mIf, r_sq, r_sqnx, r_sqret, r_sIf, r_sRet, r_sDrop, r_setE, r_setU, r_sSet, r_sSetF, r_aName, r_aNil, r_aCons, r_aTup, r_aLst, r_sAsg, r_mNil, r_mCons, r_mTup, r_mLst, r_mNs, r_mCall, r_lift, r_lifter, r_mMeth, r_mMeth0, r_mProp, r_okOf, r_vIsi, r_mCut, r_mDget, r_mDisp2, r_mBM, r_vCh, r_mCh, r_sPar, r_mFor, r_sFld, r_sRaise, r_m1l, r_mMake, r_liftF, r_both, r_mLc, r_mLc2, r_mSk, r_mSetL, r_toDfz, r_toDow, r_toDdc, r_asB, r_asI, r_iteA, r_itlst, r_ittup, r_it1, r_mLM, r_mCallI, r_isOwn, r_liftI, r_outS, List.getElem?_cons_zero, List.getElem?_cons_succ, List.nil_append, List.set_cons_zero, List.set_cons_succ, List.length_cons, List.length_nil, Nat.reduceAdd, Nat.reduceLT, Nat.reduceEqDiff, ↓reduceIte, if_true, Bool.not_true, Bool.not_false, and_self, Bool.false_eq_true, isi_str, len_S (show l.length ≤ 10000 by omega), e1, e2, decide_true, it_S (show l.length ≤ 16777216 by omega), r_sole hloop]
  rfl
end G
end
section
set_option Elab.async false
set_option linter.all false
set_option maxRecDepth 100000
set_option maxHeartbeats 4000000
namespace G
open PySem PySem.Spec PyProof.Rows L2 DL
/-! ### trees -/
inductive Tr where
  | n (i : Nat)
  | w (l : List Nat)
  | c (a b c d : Tr)
def tD : Tr → D
  | .n i => .int i
  | .w l => sD l
  | .c a b c d => .tup [tD a, tD b, tD c, tD d]
def dp : Tr → Nat
  | .c a b c d => 1 + max (max (dp a) (dp b)) (max (dp c) (dp d))
  | _ => 1
def tx : Tr → List Nat
  | .n i => [48 + i]
  | .w l => l
  | .c a b c d => 40 :: (tx a ++ (61 :: (tx b ++ (63 :: (tx c ++ (58 :: (tx d ++ [41])))))))
structure Wd (l : List Nat) : Prop where
  lo : 1 ≤ l.length
  hi : l.length ≤ 8
  le : ∀ z ∈ l, Let z
def Tg : Tr → Prop
  | .n i => i ≤ 9
  | .w l => Wd l
  | .c a b c d => Tg a ∧ Tg b ∧ Tg c ∧ Tg d
theorem dp_pos (t : Tr) : 1 ≤ dp t := by cases t <;> simp [dp]
theorem tx_len : ∀ (k : Nat) (t : Tr), dp t ≤ k → Tg t → (tx t).length + 2 ≤ 10 * 5 ^ (k - 1)
  | 0, t, h, _ => absurd (dp_pos t) (by omega)
  | k + 1, t, h, g => by
    have hp : 1 ≤ 5 ^ k := Nat.one_le_pow _ _ (by omega)
    cases t with
    | n i => simp [tx]; omega
    | w l => have := (show Wd l from g).hi; simp [tx]; omega
    | c a b c d =>
      simp only [dp] at h
      obtain ⟨ga, gb, gc, gd⟩ := g
      cases k with
      | zero => have := dp_pos a; omega
      | succ k =>
        have ha := tx_len (k + 1) a (by omega) ga
        have hb := tx_len (k + 1) b (by omega) gb
        have hc := tx_len (k + 1) c (by omega) gc
        have hd := tx_len (k + 1) d (by omega) gd
        simp only [Nat.add_sub_cancel, tx, List.length_cons, List.length_append, List.length_nil, Nat.pow_succ] at ha hb hc hd ⊢
        omega
theorem tx_le {t : Tr} (h : dp t ≤ 3) (g : Tg t) : (tx t).length ≤ 248 := by have := tx_len 3 t h g; omega
theorem tx_32 : ∀ (t : Tr), Tg t → 32 ∉ tx t
  | .n i, g => by simp [tx]; omega
  | .w l, g => fun h => by have := (show Wd l from g).le _ h; unfold Let at this; omega
  | .c a b c d, ⟨ga, gb, gc, gd⟩ => by
    have := tx_32 a ga
    have := tx_32 b gb
    have := tx_32 c gc
    have := tx_32 d gd
    simp [tx, *]
theorem dig_S : ∀ i : Fin 10, rToStr (.int (i.val : Nat)) = some (sD [48 + i.val]) := by
  have : ∀ i : Fin 10, (if ((i.val : Nat) : Int).natAbs.log2 < 1920 then decide ((toString ((i.val : Nat) : Int) : Str) = S [48 + i.val]) else false) = true := by decide +kernel
  intro i
  have h := this i
  show (if ((i.val : Nat) : Int).natAbs.log2 < 1920 then some (D.str (toString ((i.val : Nat) : Int) : Str)) else none) = _
  by_cases h1 : ((i.val : Nat) : Int).natAbs.log2 < 1920
  · rw [if_pos h1] at h ⊢
    rw [of_decide_eq_true h]
  · rw [if_neg h1] at h; cases h
theorem lit_po : ("(" : Str) = S [40] := by decide +kernel
theorem lit_eq : ("=" : Str) = S [61] := by decide +kernel
theorem lit_qu : ("?" : Str) = S [63] := by decide +kernel
theorem lit_co : (":" : Str) = S [58] := by decide +kernel
theorem lit_pc : (")" : Str) = S [41] := by decide +kernel
/-- the text of a tree -/
theorem tree_text : ∀ (k : Nat) (t : Tr), dp t ≤ k → k ≤ 3 → Tg t → m_law_tree_text (k + 1) [tD t] = .ok (sD (tx t))
  | 0, t, h, _, _ => absurd (dp_pos t) (by omega)
  | k + 1, t, h, hk, g => by
    show toOut (g_law_tree_text (m_law_tree_text (k + 1)) [.fz (tD t), .no, .no, .no, .no, .no]) = _
    unfold g_law_tree_text
    cases t with
    | n i =>
      have e := dig_S ⟨i, Nat.lt_succ_of_le (show i ≤ 9 from g)⟩
      have e' : rToStr (tD (.n i)) = some (sD [48 + i]) := e
      have i0 : isiB "tuple" (tD (.n i)) = some false := rfl
      simp only [r_bd, r_ok, r_er, r_stuck, r_rt, r_os, r_eV, r_eB, r_m2, r_m2B, r_m1, r_mB, r_mAnd, r_mOr, r_mNot, r_vAnd, r_vOr, r_vNot, r_mIf, r_sq, r_sqnx, r_sqret, r_sIf, r_sRet, r_sDrop, r_setE, r_setU, r_sSet, r_sSetF, r_aName, r_aNil, r_aCons, r_aTup, r_aLst, r_sAsg, r_mNil, r_mCons, r_mTup, r_mLst, r_mNs, r_mCall, r_lift, r_lifter, r_mMeth, r_mMeth0, r_mProp, r_okOf, r_vIsi, r_mCut, r_mDget, r_mDisp2, r_mBM, r_vCh, r_mCh, r_sPar, r_mFor, r_sFld, r_sRaise, r_m1l, r_mMake, r_liftF, r_both, r_mLc, r_mLc2, r_mSk, r_mSetL, r_toDfz, r_toDow, r_toDdc, r_asB, r_asI, r_iteA, r_itlst, r_ittup, r_it1, r_mLM, r_mCallI, r_isOwn, r_liftI, r_outS, List.getElem?_cons_zero, List.getElem?_cons_succ, List.nil_append, List.set_cons_zero, List.set_cons_succ, List.length_cons, List.length_nil, Nat.reduceAdd, Nat.reduceLT, Nat.reduceEqDiff, ↓reduceIte, if_true, Bool.not_true, Bool.not_false, and_self, Bool.false_eq_true, i0, e']
      rfl
    | w l =>
      have e' : rToStr (tD (.w l)) = some (sD l) := rfl
      have i0 : isiB "tuple" (tD (.w l)) = some false := rfl
      simp only [r_bd, r_ok, r_er, r_stuck, r_rt, r_os, r_eV, r_eB, r_m2, r_m2B, r_m1, r_mB, r_mAnd, r_mOr, r_mNot, r_vAnd, r_vOr, r_vNot, r_mIf, r_sq, r_sqnx, r_sqret, r_sIf, r_sRet, r_sDrop, r_setE, r_setU, r_sSet, r_sSetF, r_aName, r_aNil, r_aCons, r_aTup, r_aLst, r_sAsg, r_mNil, r_mCons, r_mTup, r_mLst, r_mNs, r_mCall, r_lift, r_lifter, r_mMeth, r_mMeth0, r_mProp, r_okOf, r_vIsi, r_mCut, r_mDget, r_mDisp2, r_mBM, r_vCh, r_mCh, r_sPar, r_mFor, r_sFld, r_sRaise, r_m1l, r_mMake, r_liftF, r_both, r_mLc, r_mLc2, r_mSk, r_mSetL, r_toDfz, r_toDow, r_toDdc, r_asB, r_asI, r_iteA, r_itlst, r_ittup, r_it1, r_mLM, r_mCallI, r_isOwn, r_liftI, r_outS, List.getElem?_cons_zero, List.getElem?_cons_succ, List.nil_append, List.set_cons_zero, List.set_cons_succ, List.length_cons, List.length_nil, Nat.reduceAdd, Nat.reduceLT, Nat.reduceEqDiff, ↓reduceIte, if_true, Bool.not_true, Bool.not_false, and_self, Bool.false_eq_true, i0, e']
      rfl
    | c a b c d =>
      simp only [dp] at h
      obtain ⟨ga, gb, gc, gd⟩ := g
      have i0 : isiB "tuple" (tD (.c a b c d)) = some true := rfl
      have ia : itemsA (tD (.c a b c d)) = some [tD a, tD b, tD c, tD d] := rfl
      have hl : loopL [5] (aName 5) (rt true) (mCall (m_law_tree_text (k + 1)) (bd (mCons (eV 5) mNil) fun ds => if ds.length = 1 then rt ds else stuck)) ([a, b, c, d].map tD) [] [.fz (tD (.c a b c d)), .no, .no, .no, .no, .no] = .ok ([] ++ [a, b, c, d].map fun t => sD (tx t)) [.fz (tD (.c a b c d)), .no, .no, .no, .no, .no] := by
        refine loop_mp [a, b, c, d] [] (fun x hx => ?_) (by rw [szl]; simp)
        have hx' : m_law_tree_text (k + 1) [tD x] = .ok (sD (tx x)) := by
          simp only [List.mem_cons, List.not_mem_nil, or_false] at hx
          rcases hx with rfl | rfl | rfl | rfl
          · exact tree_text k _ (by omega) (by omega) ga
          · exact tree_text k _ (by omega) (by omega) gb
          · exact tree_text k _ (by omega) (by omega) gc
          · exact tree_text k _ (by omega) (by omega) gd
        refine turn_some (ρ1 := [.fz (tD (.c a b c d)), .no, .no, .no, .no, .fz (tD x)]) rfl rfl rfl (ρ3 := [.fz (tD (.c a b c d)), .no, .no, .no, .no, .fz (tD x)]) ?_ ⟨rfl, rfl⟩ rfl
        simp only [r_bd, r_ok, r_er, r_stuck, r_rt, r_os, r_eV, r_eB, r_m2, r_m2B, r_m1, r_mB, r_mAnd, r_mOr, r_mNot, r_vAnd, r_vOr, r_vNot, r_mIf, r_sq, r_sqnx, r_sqret, r_sIf, r_sRet, r_sDrop, r_setE, r_setU, r_sSet, r_sSetF, r_aName, r_aNil, r_aCons, r_aTup, r_aLst, r_sAsg, r_mNil, r_mCons, r_mTup, r_mLst, r_mNs, r_mCall, r_lift, r_lifter, r_mMeth, r_mMeth0, r_mProp, r_okOf, r_vIsi, r_mCut, r_mDget, r_mDisp2, r_mBM, r_vCh, r_mCh, r_sPar, r_mFor, r_sFld, r_sRaise, r_m1l, r_mMake, r_liftF, r_both, r_mLc, r_mLc2, r_mSk, r_mSetL, r_toDfz, r_toDow, r_toDdc, r_asB, r_asI, r_iteA, r_itlst, r_ittup, r_it1, r_mLM, r_mCallI, r_isOwn, r_liftI, r_outS, List.getElem?_cons_zero, List.getElem?_cons_succ, List.nil_append, List.set_cons_zero, List.set_cons_succ, List.length_cons, List.length_nil, Nat.reduceAdd, Nat.reduceLT, Nat.reduceEqDiff, ↓reduceIte, if_true, Bool.not_true, Bool.not_false, and_self, Bool.false_eq_true, hx']
      have la := tx_le (t := a) (by omega) ga
      have lb := tx_le (t := b) (by omega) gb
      have lc := tx_le (t := c) (by omega) gc
      have ld := tx_le (t := d) (by omega) gd
      have hl' := r_sole hl
      simp only [r_bd, r_ok, r_er, r_stuck, r_rt, r_os, r_eV, r_eB, r_m2, r_m2B, r_m1, r_mB, r_mAnd, r_mOr, r_mNot, r_vAnd, r_vOr, r_vNot, r_mIf, r_sq, r_sqnx, r_sqret, r_sIf, r_sRet, r_sDrop, r_setE, r_setU, r_sSet, r_sSetF, r_aName, r_aNil, r_aCons, r_aTup, r_aLst, r_sAsg, r_mNil, r_mCons, r_mTup, r_mLst, r_mNs, r_mCall, r_lift, r_lifter, r_mMeth, r_mMeth0, r_mProp, r_okOf, r_vIsi, r_mCut, r_mDget, r_mDisp2, r_mBM, r_vCh, r_mCh, r_sPar, r_mFor, r_sFld, r_sRaise, r_m1l, r_mMake, r_liftF, r_both, r_mLc, r_mLc2, r_mSk, r_mSetL, r_toDfz, r_toDow, r_toDdc, r_asB, r_asI, r_iteA, r_itlst, r_ittup, r_it1, r_mLM, r_mCallI, r_isOwn, r_liftI, r_outS, List.getElem?_cons_zero, List.getElem?_cons_succ, List.nil_append, List.set_cons_zero, List.set_cons_succ, List.length_cons, List.length_nil, Nat.reduceAdd, Nat.reduceLT, Nat.reduceEqDiff, ↓reduceIte, if_true, Bool.not_true, Bool.not_false, and_self, Bool.false_eq_true, i0, ia, List.map_cons, List.map_nil, List.nil_append] at hl' ⊢
      rw [hl']
      simp only [r_bd, r_ok, r_er, r_stuck, r_rt, r_os, r_eV, r_eB, r_m2, r_m2B, r_m1, r_mB, r_mAnd, r_mOr, r_mNot, r_vAnd, r_vOr, r_vNot, r_mIf, r_sq, r_sqnx, r_sqret, r_sIf, r_sRet, r_sDrop, r_setE, r_setU, r_sSet, r_sSetF, r_aName, r_aNil, r_aCons, r_aTup, r_aLst, r_sAsg, r_mNil, r_mCons, r_mTup, r_mLst, r_mNs, r_mCall, r_lift, r_lifter, r_mMeth, r_mMeth0, r_mProp, r_okOf, r_vIsi, r_mCut, r_mDget, r_mDisp2, r_mBM, r_vCh, r_mCh, r_sPar, r_mFor, r_sFld, r_sRaise, r_m1l, r_mMake, r_liftF, r_both, r_mLc, r_mLc2, r_mSk, r_mSetL, r_toDfz, r_toDow, r_toDdc, r_asB, r_asI, r_iteA, r_itlst, r_ittup, r_it1, r_mLM, r_mCallI, r_isOwn, r_liftI, r_outS, List.getElem?_cons_zero, List.getElem?_cons_succ, List.nil_append, List.set_cons_zero, List.set_cons_succ, List.length_cons, List.length_nil, Nat.reduceAdd, Nat.reduceLT, Nat.reduceEqDiff, ↓reduceIte, if_true, Bool.not_true, Bool.not_false, and_self, Bool.false_eq_true, lit_po, lit_eq, lit_qu, lit_co, lit_pc]
      rw [add_S (by simp only [List.length_append, List.length_cons, List.length_nil]; omega)]; simp only [r_bd, r_ok, r_er, r_stuck, r_rt, r_os, r_eV, r_eB, r_m2, r_m2B, r_m1, r_mB, r_mAnd, r_mOr, r_mNot, r_vAnd, r_vOr, r_vNot, r_mIf, r_sq, r_sqnx, r_sqret, r_sIf, r_sRet, r_sDrop, r_setE, r_setU, r_sSet, r_sSetF, r_aName, r_aNil, r_aCons, r_aTup, r_aLst, r_sAsg, r_mNil, r_mCons, r_mTup, r_mLst, r_mNs, r_mCall, r_lift, r_lifter, r_mMeth, r_mMeth0, r_mProp, r_okOf, r_vIsi, r_mCut, r_mDget, r_mDisp2, r_mBM, r_vCh, r_mCh, r_sPar, r_mFor, r_sFld, r_sRaise, r_m1l, r_mMake, r_liftF, r_both, r_mLc, r_mLc2, r_mSk, r_mSetL, r_toDfz, r_toDow, r_toDdc, r_asB, r_asI, r_iteA, r_itlst, r_ittup, r_it1, r_mLM, r_mCallI, r_isOwn, r_liftI, r_outS, List.getElem?_cons_zero, List.getElem?_cons_succ, List.nil_append, List.set_cons_zero, List.set_cons_succ, List.length_cons, List.length_nil, Nat.reduceAdd, Nat.reduceLT, Nat.reduceEqDiff, ↓reduceIte, if_true, Bool.not_true, Bool.not_false, and_self, Bool.false_eq_true]
      rw [add_S (by simp only [List.length_append, List.length_cons, List.length_nil]; omega)]; simp only [r_bd, r_ok, r_er, r_stuck, r_rt, r_os, r_eV, r_eB, r_m2, r_m2B, r_m1, r_mB, r_mAnd, r_mOr, r_mNot, r_vAnd, r_vOr, r_vNot, r_mIf, r_sq, r_sqnx, r_sqret, r_sIf, r_sRet, r_sDrop, r_setE, r_setU, r_sSet, r_sSetF, r_aName, r_aNil, r_aCons, r_aTup, r_aLst, r_sAsg, r_mNil, r_mCons, r_mTup, r_mLst, r_mNs, r_mCall, r_lift, r_lifter, r_mMeth, r_mMeth0, r_mProp, r_okOf, r_vIsi, r_mCut, r_mDget, r_mDisp2, r_mBM, r_vCh, r_mCh, r_sPar, r_mFor, r_sFld, r_sRaise, r_m1l, r_mMake, r_liftF, r_both, r_mLc, r_mLc2, r_mSk, r_mSetL, r_toDfz, r_toDow, r_toDdc, r_asB, r_asI, r_iteA, r_itlst, r_ittup, r_it1, r_mLM, r_mCallI, r_isOwn, r_liftI, r_outS, List.getElem?_cons_zero, List.getElem?_cons_succ, List.nil_append, List.set_cons_zero, List.set_cons_succ, List.length_cons, List.length_nil, Nat.reduceAdd, Nat.reduceLT, Nat.reduceEqDiff, ↓reduceIte, if_true, Bool.not_true, Bool.not_false, and_self, Bool.false_eq_true]
      rw [add_S (by simp only [List.length_append, List.length_cons, List.length_nil]; omega)]; simp only [r_bd, r_ok, r_er, r_stuck, r_rt, r_os, r_eV, r_eB, r_m2, r_m2B, r_m1, r_mB, r_mAnd, r_mOr, r_mNot, r_vAnd, r_vOr, r_vNot, r_mIf, r_sq, r_sqnx, r_sqret, r_sIf, r_sRet, r_sDrop, r_setE, r_setU, r_sSet, r_sSetF, r_aName, r_aNil, r_aCons, r_aTup, r_aLst, r_sAsg, r_mNil, r_mCons, r_mTup, r_mLst, r_mNs, r_mCall, r_lift, r_lifter, r_mMeth, r_mMeth0, r_mProp, r_okOf, r_vIsi, r_mCut, r_mDget, r_mDisp2, r_mBM, r_vCh, r_mCh, r_sPar, r_mFor, r_sFld, r_sRaise, r_m1l, r_mMake, r_liftF, r_both, r_mLc, r_mLc2, r_mSk, r_mSetL, r_toDfz, r_toDow, r_toDdc, r_asB, r_asI, r_iteA, r_itlst, r_ittup, r_it1, r_mLM, r_mCallI, r_isOwn, r_liftI, r_outS, List.getElem?_cons_zero, List.getElem?_cons_succ, List.nil_append, List.set_cons_zero, List.set_cons_succ, List.length_cons, List.length_nil, Nat.reduceAdd, Nat.reduceLT, Nat.reduceEqDiff, ↓reduceIte, if_true, Bool.not_true, Bool.not_false, and_self, Bool.false_eq_true]
      rw [add_S (by simp only [List.length_append, List.length_cons, List.length_nil]; omega)]; simp only [r_bd, r_ok, r_er, r_stuck, r_rt, r_os, r_eV, r_eB, r_m2, r_m2B, r_m1, r_mB, r_mAnd, r_mOr, r_mNot, r_vAnd, r_vOr, r_vNot, r_mIf, r_sq, r_sqnx, r_sqret, r_sIf, r_sRet, r_sDrop, r_setE, r_setU, r_sSet, r_sSetF, r_aName, r_aNil, r_aCons, r_aTup, r_aLst, r_sAsg, r_mNil, r_mCons, r_mTup, r_mLst, r_mNs, r_mCall, r_lift, r_lifter, r_mMeth, r_mMeth0, r_mProp, r_okOf, r_vIsi, r_mCut, r_mDget, r_mDisp2, r_mBM, r_vCh, r_mCh, r_sPar, r_mFor, r_sFld, r_sRaise, r_m1l, r_mMake, r_liftF, r_both, r_mLc, r_mLc2, r_mSk, r_mSetL, r_toDfz, r_toDow, r_toDdc, r_asB, r_asI, r_iteA, r_itlst, r_ittup, r_it1, r_mLM, r_mCallI, r_isOwn, r_liftI, r_outS, List.getElem?_cons_zero, List.getElem?_cons_succ, List.nil_append, List.set_cons_zero, List.set_cons_succ, List.length_cons, List.length_nil, Nat.reduceAdd, Nat.reduceLT, Nat.reduceEqDiff, ↓reduceIte, if_true, Bool.not_true, Bool.not_false, and_self, Bool.false_eq_true]
      rw [add_S (by simp only [List.length_append, List.length_cons, List.length_nil]; omega)]; simp only [r_bd, r_ok, r_er, r_stuck, r_rt, r_os, r_eV, r_eB, r_m2, r_m2B, r_m1, r_mB, r_mAnd, r_mOr, r_mNot, r_vAnd, r_vOr, r_vNot, r_mIf, r_sq, r_sqnx, r_sqret, r_sIf, r_sRet, r_sDrop, r_setE, r_setU, r_sSet, r_sSetF, r_aName, r_aNil, r_aCons, r_aTup, r_aLst, r_sAsg, r_mNil, r_mCons, r_mTup, r_mLst, r_mNs, r_mCall, r_lift, r_lifter, r_mMeth, r_mMeth0, r_mProp, r_okOf, r_vIsi, r_mCut, r_mDget, r_mDisp2, r_mBM, r_vCh, r_mCh, r_sPar, r_mFor, r_sFld, r_sRaise, r_m1l, r_mMake, r_liftF, r_both, r_mLc, r_mLc2, r_mSk, r_mSetL, r_toDfz, r_toDow, r_toDdc, r_asB, r_asI, r_iteA, r_itlst, r_ittup, r_it1, r_mLM, r_mCallI, r_isOwn, r_liftI, r_outS, List.getElem?_cons_zero, List.getElem?_cons_succ, List.nil_append, List.set_cons_zero, List.set_cons_succ, List.length_cons, List.length_nil, Nat.reduceAdd, Nat.reduceLT, Nat.reduceEqDiff, ↓reduceIte, if_true, Bool.not_true, Bool.not_false, and_self, Bool.false_eq_true]
      rw [add_S (by simp only [List.length_append, List.length_cons, List.length_nil]; omega)]; simp only [r_bd, r_ok, r_er, r_stuck, r_rt, r_os, r_eV, r_eB, r_m2, r_m2B, r_m1, r_mB, r_mAnd, r_mOr, r_mNot, r_vAnd, r_vOr, r_vNot, r_mIf, r_sq, r_sqnx, r_sqret, r_sIf, r_sRet, r_sDrop, r_setE, r_setU, r_sSet, r_sSetF, r_aName, r_aNil, r_aCons, r_aTup, r_aLst, r_sAsg, r_mNil, r_mCons, r_mTup, r_mLst, r_mNs, r_mCall, r_lift, r_lifter, r_mMeth, r_mMeth0, r_mProp, r_okOf, r_vIsi, r_mCut, r_mDget, r_mDisp2, r_mBM, r_vCh, r_mCh, r_sPar, r_mFor, r_sFld, r_sRaise, r_m1l, r_mMake, r_liftF, r_both, r_mLc, r_mLc2, r_mSk, r_mSetL, r_toDfz, r_toDow, r_toDdc, r_asB, r_asI, r_iteA, r_itlst, r_ittup, r_it1, r_mLM, r_mCallI, r_isOwn, r_liftI, r_outS, List.getElem?_cons_zero, List.getElem?_cons_succ, List.nil_append, List.set_cons_zero, List.set_cons_succ, List.length_cons, List.length_nil, Nat.reduceAdd, Nat.reduceLT, Nat.reduceEqDiff, ↓reduceIte, if_true, Bool.not_true, Bool.not_false, and_self, Bool.false_eq_true]
      rw [add_S (by simp only [List.length_append, List.length_cons, List.length_nil]; omega)]; simp only [r_bd, r_ok, r_er, r_stuck, r_rt, r_os, r_eV, r_eB, r_m2, r_m2B, r_m1, r_mB, r_mAnd, r_mOr, r_mNot, r_vAnd, r_vOr, r_vNot, r_mIf, r_sq, r_sqnx, r_sqret, r_sIf, r_sRet, r_sDrop, r_setE, r_setU, r_sSet, r_sSetF, r_aName, r_aNil, r_aCons, r_aTup, r_aLst, r_sAsg, r_mNil, r_mCons, r_mTup, r_mLst, r_mNs, r_mCall, r_lift, r_lifter, r_mMeth, r_mMeth0, r_mProp, r_okOf, r_vIsi, r_mCut, r_mDget, r_mDisp2, r_mBM, r_vCh, r_mCh, r_sPar, r_mFor, r_sFld, r_sRaise, r_m1l, r_mMake, r_liftF, r_both, r_mLc, r_mLc2, r_mSk, r_mSetL, r_toDfz, r_toDow, r_toDdc, r_asB, r_asI, r_iteA, r_itlst, r_ittup, r_it1, r_mLM, r_mCallI, r_isOwn, r_liftI, r_outS, List.getElem?_cons_zero, List.getElem?_cons_succ, List.nil_append, List.set_cons_zero, List.set_cons_succ, List.length_cons, List.length_nil, Nat.reduceAdd, Nat.reduceLT, Nat.reduceEqDiff, ↓reduceIte, if_true, Bool.not_true, Bool.not_false, and_self, Bool.false_eq_true]
      rw [add_S (by simp only [List.length_append, List.length_cons, List.length_nil]; omega)]; simp only [r_bd, r_ok, r_er, r_stuck, r_rt, r_os, r_eV, r_eB, r_m2, r_m2B, r_m1, r_mB, r_mAnd, r_mOr, r_mNot, r_vAnd, r_vOr, r_vNot, r_mIf, r_sq, r_sqnx, r_sqret, r_sIf, r_sRet, r_sDrop, r_setE, r_setU, r_sSet, r_sSetF, r_aName, r_aNil, r_aCons, r_aTup, r_aLst, r_sAsg, r_mNil, r_mCons, r_mTup, r_mLst, r_mNs, r_mCall, r_lift, r_lifter, r_mMeth, r_mMeth0, r_mProp, r_okOf, r_vIsi, r_mCut, r_mDget, r_mDisp2, r_mBM, r_vCh, r_mCh, r_sPar, r_mFor, r_sFld, r_sRaise, r_m1l, r_mMake, r_liftF, r_both, r_mLc, r_mLc2, r_mSk, r_mSetL, r_toDfz, r_toDow, r_toDdc, r_asB, r_asI, r_iteA, r_itlst, r_ittup, r_it1, r_mLM, r_mCallI, r_isOwn, r_liftI, r_outS, List.getElem?_cons_zero, List.getElem?_cons_succ, List.nil_append, List.set_cons_zero, List.set_cons_succ, List.length_cons, List.length_nil, Nat.reduceAdd, Nat.reduceLT, Nat.reduceEqDiff, ↓reduceIte, if_true, Bool.not_true, Bool.not_false, and_self, Bool.false_eq_true]
      show Out.ok _ = _
      congr 3
      simp only [tx, List.append_assoc, List.cons_append, List.nil_append]
end G
end
section
set_option Elab.async false
set_option linter.all false
set_option maxRecDepth 100000
set_option maxHeartbeats 4000000
namespace G
open PySem PySem.Spec PyProof.Rows L2 DL
/-! ### parsing -/
theorem r_sAug (f : Int → Int → Int) (i : Nat) (g : M D) (ρ : DL.Env) : sAug f i g ρ = (eB i ρ).bd fun d0 => bd g fun d => augE f i d0 d := rfl
theorem addI (a b : Int) : DL.rAdd (.int a) (.int b) = some (.int (a + b)) := rfl
theorem subI (a b : Int) : DL.rSub (.int a) (.int b) = some (.int (a - b)) := rfl
theorem ltI (a b : Int) : DL.rLt (.int a) (.int b) = some (.bl (decide (a < b))) := rfl
theorem gtI (a b : Int) : DL.rGt (.int a) (.int b) = some (.bl (decide (b < a))) := rfl
theorem geI (a b : Int) : DL.rGe (.int a) (.int b) = some (.bl (decide (b ≤ a))) := rfl
theorem eqI (a b : Int) : DL.rEq (.int a) (.int b) = some (.bl (decide (a = b))) := by
  have : PyData.eqv (.int a) (.int b) = decide (a = b) := by
    simp only [PyData.eqv]
    by_cases h : a = b
    · subst h; simp
    · simp [h]
  show (if okEq (.int a) (.int b) = true then some (D.bl (PyData.eqv (.int a) (.int b))) else none) = _
  rw [this]; rfl
theorem neI (a b : Int) : DL.rNe (.int a) (.int b) = some (.bl (!decide (a = b))) := by
  have : PyData.eqv (.int a) (.int b) = decide (a = b) := by
    simp only [PyData.eqv]
    by_cases h : a = b
    · subst h; simp
    · simp [h]
  show (if okEq (.int a) (.int b) = true then some (D.bl (!PyData.eqv (.int a) (.int b))) else none) = _
  rw [this]; rfl
def Stp (l : List Nat) : Prop := ∀ z, l.head? = some z → ¬ Let z
abbrev tw : M Bool := (mAnd (mB (m2B DL.rLt 2 (m1 rLen (eB 0)))) (mB (m2 DL.rIn (m2B DL.rIx 0 (eB 2)) (rt (.str ("abcdefghijklmnopqrstuvwxyz" : Str))))))
theorem get_mid (pre : List Nat) (z : Nat) (post : List Nat) : (pre ++ z :: post)[pre.length]? = some z := by simp
theorem while_word : ∀ (w pre post : List Nat) (n : Nat) (e1 : Ent), w.length < n → (∀ z ∈ w, Let z) → Stp post → (pre ++ (w ++ post)).length ≤ 10000 →
    sWhile tw (sAug (fun i j => i + j) 2 (rt (.int 1))) n [.fz (sD (pre ++ (w ++ post))), e1, .fz (.int (pre.length : Nat))] = .ok .nx [.fz (sD (pre ++ (w ++ post))), e1, .fz (.int ((pre.length + w.length : Nat) : Int))]
  | [], pre, post, n + 1, e1, _, _, hs, hl => by
    unfold sWhile tw
    simp only [List.nil_append] at hl ⊢
    cases post with
    | nil =>
      have e : ¬ ((pre.length : Int) < ((pre ++ []).length : Nat)) := by simp
      simp only [r_bd, r_ok, r_er, r_stuck, r_rt, r_os, r_eV, r_eB, r_m2, r_m2B, r_m1, r_mB, r_mAnd, r_mOr, r_mNot, r_vAnd, r_vOr, r_vNot, r_mIf, r_sq, r_sqnx, r_sqret, r_sIf, r_sRet, r_sDrop, r_setE, r_setU, r_sSet, r_sSetF, r_aName, r_aNil, r_aCons, r_aTup, r_aLst, r_sAsg, r_mNil, r_mCons, r_mTup, r_mLst, r_mNs, r_mCall, r_lift, r_lifter, r_mMeth, r_mMeth0, r_mProp, r_okOf, r_vIsi, r_mCut, r_mDget, r_mDisp2, r_mBM, r_vCh, r_mCh, r_sPar, r_mFor, r_sFld, r_sRaise, r_m1l, r_mMake, r_liftF, r_both, r_mLc, r_mLc2, r_mSk, r_mSetL, r_toDfz, r_toDow, r_toDdc, r_asB, r_asI, r_iteA, r_itlst, r_ittup, r_it1, r_mLM, r_mCallI, r_isOwn, r_liftI, r_outS, List.getElem?_cons_zero, List.getElem?_cons_succ, List.nil_append, List.set_cons_zero, List.set_cons_succ, List.length_cons, List.length_nil, Nat.reduceAdd, Nat.reduceLT, Nat.reduceEqDiff, ↓reduceIte, if_true, Bool.not_true, Bool.not_false, and_self, Bool.false_eq_true, len_S hl, ltI, e, decide_false]
      rfl
    | cons z r =>
      have e : ((pre.length : Int) < ((pre ++ z :: r).length : Nat)) := by simp <;> omega
      have hz : z ∉ abcS := fun h => hs z rfl (let_mem.mp h)
      have hx := ix_S (a := pre ++ z :: r) (i := pre.length) (z := z) (by omega) (by simp)
      simp only [r_bd, r_ok, r_er, r_stuck, r_rt, r_os, r_eV, r_eB, r_m2, r_m2B, r_m1, r_mB, r_mAnd, r_mOr, r_mNot, r_vAnd, r_vOr, r_vNot, r_mIf, r_sq, r_sqnx, r_sqret, r_sIf, r_sRet, r_sDrop, r_setE, r_setU, r_sSet, r_sSetF, r_aName, r_aNil, r_aCons, r_aTup, r_aLst, r_sAsg, r_mNil, r_mCons, r_mTup, r_mLst, r_mNs, r_mCall, r_lift, r_lifter, r_mMeth, r_mMeth0, r_mProp, r_okOf, r_vIsi, r_mCut, r_mDget, r_mDisp2, r_mBM, r_vCh, r_mCh, r_sPar, r_mFor, r_sFld, r_sRaise, r_m1l, r_mMake, r_liftF, r_both, r_mLc, r_mLc2, r_mSk, r_mSetL, r_toDfz, r_toDow, r_toDdc, r_asB, r_asI, r_iteA, r_itlst, r_ittup, r_it1, r_mLM, r_mCallI, r_isOwn, r_liftI, r_outS, List.getElem?_cons_zero, List.getElem?_cons_succ, List.nil_append, List.set_cons_zero, List.set_cons_succ, List.length_cons, List.length_nil, Nat.reduceAdd, Nat.reduceLT, Nat.reduceEqDiff, ↓reduceIte, if_true, Bool.not_true, Bool.not_false, and_self, Bool.false_eq_true, len_S hl, ltI, e, decide_true, hx, abc_S, rin_S, hz, decide_false]
      rfl
  | z :: w, pre, post, n + 1, e1, hn, hw, hs, hl => by
    unfold sWhile
    have e : ((pre.length : Int) < ((pre ++ (z :: w ++ post)).length : Nat)) := by simp <;> omega
    have hz : z ∈ abcS := let_mem.mpr (hw z List.mem_cons_self)
    have hx := ix_S (a := pre ++ (z :: w ++ post)) (i := pre.length) (z := z) (by omega) (by simp)
    have ht : tw [.fz (sD (pre ++ (z :: w ++ post))), e1, .fz (.int (pre.length : Nat))] = .ok true [.fz (sD (pre ++ (z :: w ++ post))), e1, .fz (.int (pre.length : Nat))] := by
      unfold tw
      simp only [r_bd, r_ok, r_er, r_stuck, r_rt, r_os, r_eV, r_eB, r_m2, r_m2B, r_m1, r_mB, r_mAnd, r_mOr, r_mNot, r_vAnd, r_vOr, r_vNot, r_mIf, r_sq, r_sqnx, r_sqret, r_sIf, r_sRet, r_sDrop, r_setE, r_setU, r_sSet, r_sSetF, r_aName, r_aNil, r_aCons, r_aTup, r_aLst, r_sAsg, r_mNil, r_mCons, r_mTup, r_mLst, r_mNs, r_mCall, r_lift, r_lifter, r_mMeth, r_mMeth0, r_mProp, r_okOf, r_vIsi, r_mCut, r_mDget, r_mDisp2, r_mBM, r_vCh, r_mCh, r_sPar, r_mFor, r_sFld, r_sRaise, r_m1l, r_mMake, r_liftF, r_both, r_mLc, r_mLc2, r_mSk, r_mSetL, r_toDfz, r_toDow, r_toDdc, r_asB, r_asI, r_iteA, r_itlst, r_ittup, r_it1, r_mLM, r_mCallI, r_isOwn, r_liftI, r_outS, List.getElem?_cons_zero, List.getElem?_cons_succ, List.nil_append, List.set_cons_zero, List.set_cons_succ, List.length_cons, List.length_nil, Nat.reduceAdd, Nat.reduceLT, Nat.reduceEqDiff, ↓reduceIte, if_true, Bool.not_true, Bool.not_false, and_self, Bool.false_eq_true, len_S hl, ltI, e, decide_true, hx, abc_S, rin_S, hz]
    have hb : sAug (fun i j => i + j) 2 (rt (.int 1)) [.fz (sD (pre ++ (z :: w ++ post))), e1, .fz (.int (pre.length : Nat))] = .ok .nx [.fz (sD (pre ++ (z :: w ++ post))), e1, .fz (.int ((pre.length : Nat) + 1))] := rfl
    have e2 : pre ++ (z :: w ++ post) = (pre ++ [z]) ++ (w ++ post) := by simp
    have ih := while_word w (pre ++ [z]) post n e1 (by simp at hn; omega) (fun x hx => hw x (List.mem_cons_of_mem _ hx)) hs (by rw [← e2]; exact hl)
    rw [← e2] at ih
    rw [run_bd ht, if_pos rfl, run_bd hb]
    dsimp only
    have e3 : ((pre ++ [z]).length : Int) = (pre.length : Int) + 1 := by simp
    rw [e3] at ih
    rw [ih]
    congr 4
    simp; omega
theorem word_at_ok {pre w post : List Nat} (hw : ∀ z ∈ w, Let z) (h8 : w.length < 100) (hs : Stp post) (hl : (pre ++ (w ++ post)).length ≤ 10000) : m_word_at [sD (pre ++ (w ++ post)), .int (pre.length : Nat)] = .ok (sD w) := by
  show toOut (g_word_at [.fz (sD (pre ++ (w ++ post))), .fz (.int (pre.length : Nat)), .no]) = _
  unfold g_word_at
  have hwh := while_word w pre post 100 (.fz (.int (pre.length : Nat))) h8 hw hs hl
  unfold tw at hwh
  have hc := cut_S (a := pre ++ (w ++ post)) (i := pre.length) (j := pre.length + w.length) (by omega) (by simp) (by simp <;> omega)
  have hd : ((pre ++ (w ++ post)).drop pre.length).take (pre.length + w.length - pre.length) = w := by simp
  rw [hd] at hc
  simp only [r_bd, r_ok, r_er, r_stuck, r_rt, r_os, r_eV, r_eB, r_m2, r_m2B, r_m1, r_mB, r_mAnd, r_mOr, r_mNot, r_vAnd, r_vOr, r_vNot, r_mIf, r_sq, r_sqnx, r_sqret, r_sIf, r_sRet, r_sDrop, r_setE, r_setU, r_sSet, r_sSetF, r_aName, r_aNil, r_aCons, r_aTup, r_aLst, r_sAsg, r_mNil, r_mCons, r_mTup, r_mLst, r_mNs, r_mCall, r_lift, r_lifter, r_mMeth, r_mMeth0, r_mProp, r_okOf, r_vIsi, r_mCut, r_mDget, r_mDisp2, r_mBM, r_vCh, r_mCh, r_sPar, r_mFor, r_sFld, r_sRaise, r_m1l, r_mMake, r_liftF, r_both, r_mLc, r_mLc2, r_mSk, r_mSetL, r_toDfz, r_toDow, r_toDdc, r_asB, r_asI, r_iteA, r_itlst, r_ittup, r_it1, r_mLM, r_mCallI, r_isOwn, r_liftI, r_outS, List.getElem?_cons_zero, List.getElem?_cons_succ, List.nil_append, List.set_cons_zero, List.set_cons_succ, List.length_cons, List.length_nil, Nat.reduceAdd, Nat.reduceLT, Nat.reduceEqDiff, ↓reduceIte, if_true, Bool.not_true, Bool.not_false, and_self, Bool.false_eq_true, hwh, hc]
  rfl
abbrev digS : List Nat := [48,49,50,51,52,53,54,55,56,57]
theorem dig_lit : ("0123456789" : Str) = S digS := by decide +kernel
theorem isdig (z : Nat) : m_is_digit [sD [z]] = .ok (.bl (decide (z ∈ digS))) := by
  show toOut (g_is_digit [.fz (sD [z])]) = _
  unfold g_is_digit
  simp only [r_bd, r_ok, r_er, r_stuck, r_rt, r_os, r_eV, r_eB, r_m2, r_m2B, r_m1, r_mB, r_mAnd, r_mOr, r_mNot, r_vAnd, r_vOr, r_vNot, r_mIf, r_sq, r_sqnx, r_sqret, r_sIf, r_sRet, r_sDrop, r_setE, r_setU, r_sSet, r_sSetF, r_aName, r_aNil, r_aCons, r_aTup, r_aLst, r_sAsg, r_mNil, r_mCons, r_mTup, r_mLst, r_mNs, r_mCall, r_lift, r_lifter, r_mMeth, r_mMeth0, r_mProp, r_okOf, r_vIsi, r_mCut, r_mDget, r_mDisp2, r_mBM, r_vCh, r_mCh, r_sPar, r_mFor, r_sFld, r_sRaise, r_m1l, r_mMake, r_liftF, r_both, r_mLc, r_mLc2, r_mSk, r_mSetL, r_toDfz, r_toDow, r_toDdc, r_asB, r_asI, r_iteA, r_itlst, r_ittup, r_it1, r_mLM, r_mCallI, r_isOwn, r_liftI, r_outS, List.getElem?_cons_zero, List.getElem?_cons_succ, List.nil_append, List.set_cons_zero, List.set_cons_succ, List.length_cons, List.length_nil, Nat.reduceAdd, Nat.reduceLT, Nat.reduceEqDiff, ↓reduceIte, if_true, Bool.not_true, Bool.not_false, and_self, Bool.false_eq_true, isi_str, len_S (show [z].length ≤ 10000 by simp), eqI, dig_lit, rin_S, decide_true]
  rfl
theorem dig_int : ∀ i : Fin 10, rToInt (sD [48 + i.val]) = some (.int (i.val : Nat)) := by
  have : ∀ i : Fin 10, (decide ((S [48 + i.val]).length ≤ 640) && decide (PySem.intText? (S [48 + i.val]) = some ((i.val : Nat) : Int))) = true := by decide +kernel
  intro i
  have h := this i
  rw [Bool.and_eq_true] at h
  show (if (S [48 + i.val]).length ≤ 640 then (PySem.intText? (S [48 + i.val])).map D.int else none) = _
  rw [if_pos (of_decide_eq_true h.1), of_decide_eq_true h.2]
  rfl
theorem for_step {ga : D → M Unit} {gb : M Fl} {d : D} {r : List D} {ρ ρ' : DL.Env} (e1 : (bd (ga d) fun _ => gb) ρ = .ok .nx ρ') : sFor ga gb (d :: r) ρ = sFor ga gb r ρ' := by
  show (bd (ga d) _) ρ = _
  rw [r_bd] at e1 ⊢
  cases e0 : ga d ρ with
  | ok u ρ0 =>
    rw [e0] at e1
    rw [r_ok] at e1 ⊢
    rw [run_bd e1]
  | er k fs ρ0 => rw [e0] at e1; cases e1
  | stuck => rw [e0] at e1; cases e1
theorem isn_tup (l : List D) : rIsN (.tup l) .non = some (.bl false) := rfl
theorem tup_ix0 (a b : D) : rIx (.tup [a, b]) (.int 0) = some a := rfl
theorem tup_ix1 (a b : D) : rIx (.tup [a, b]) (.int 1) = some b := rfl
theorem fap_small {l : List D} {d : D} (h : l.length < 1000) : fAppend l [d] = some (.non, l ++ [d]) := if_pos (by rw [szl]; omega)
end G
end
section
set_option Elab.async false
set_option linter.all false
set_option maxRecDepth 100000
set_option maxHeartbeats 4000000
namespace G
open PySem PySem.Spec PyProof.Rows L2 DL
abbrev pb (rec : List D → Out) : M Fl := (sq (sSetF 6 (mCall rec (bd (mCons (eV 0) (mCons (m2B DL.rAdd 1 (rt (.int 1))) (mCons (m2B DL.rSub 2 (rt (.int 1))) mNil))) fun ds => if ds.length = 3 then rt ds else stuck)))
  (sq (sIf (mOr (mB (m2B rIsN 6 (rt .non))) (mOr (mB (m2 DL.rGe (m2B DL.rIx 6 (rt (.int 1))) (m1 rLen (eB 0)))) (mB (m2 DL.rNe (m2B DL.rIx 0 (m2B DL.rIx 6 (rt (.int 1)))) (eB 5))))) (sRet (rt .non)) (rt .nx))
  (sq (sAsg (aTup 2 (aCons (aName 7) (aCons (aName 1) aNil))) (eV 6))
  (sDrop (mLM 4 fAppend (mCons (eV 7) mNil))))))
theorem plan_turn {rec : List D → Out} {X : List Nat} {i j : Nat} {dd : Int} {s : Nat} {p : D} {e3 e5 e6 e7 : Ent} {parts : List D} (hr : rec [sD X, .int ((i : Nat) + 1), .int (dd - 1)] = .ok (.tup [p, .int (j : Nat)])) (hj : X[j]? = some s) (hX : X.length ≤ 10000) (hp : parts.length < 1000) :
    (bd (aName 5 (sD [s])) fun _ => pb rec) [.fz (sD X), .fz (.int (i : Nat)), .fz (.int dd), e3, .ow parts, e5, e6, e7] = .ok .nx [.fz (sD X), .fz (.int (j : Nat)), .fz (.int dd), e3, .ow (parts ++ [p]), .fz (sD [s]), .fz (.tup [p, .int (j : Nat)]), .fz p] := by
  have hj' : j < X.length := (List.getElem?_eq_some_iff.mp hj).1
  have e1 : ¬ (((X.length : Nat) : Int) ≤ (j : Nat)) := by omega
  unfold pb
  simp only [r_bd, r_ok, r_er, r_stuck, r_rt, r_os, r_eV, r_eB, r_m2, r_m2B, r_m1, r_mB, r_mAnd, r_mOr, r_mNot, r_vAnd, r_vOr, r_vNot, r_mIf, r_sq, r_sqnx, r_sqret, r_sIf, r_sRet, r_sDrop, r_setE, r_setU, r_sSet, r_sSetF, r_aName, r_aNil, r_aCons, r_aTup, r_aLst, r_sAsg, r_mNil, r_mCons, r_mTup, r_mLst, r_mNs, r_mCall, r_lift, r_lifter, r_mMeth, r_mMeth0, r_mProp, r_okOf, r_vIsi, r_mCut, r_mDget, r_mDisp2, r_mBM, r_vCh, r_mCh, r_sPar, r_mFor, r_sFld, r_sRaise, r_m1l, r_mMake, r_liftF, r_both, r_mLc, r_mLc2, r_mSk, r_mSetL, r_toDfz, r_toDow, r_toDdc, r_asB, r_asI, r_iteA, r_itlst, r_ittup, r_it1, r_mLM, r_mCallI, r_isOwn, r_liftI, r_outS, List.getElem?_cons_zero, List.getElem?_cons_succ, List.nil_append, List.set_cons_zero, List.set_cons_succ, List.length_cons, List.length_nil, Nat.reduceAdd, Nat.reduceLT, Nat.reduceEqDiff, ↓reduceIte, if_true, Bool.not_true, Bool.not_false, and_self, Bool.false_eq_true, addI, subI, hr, isn_tup, tup_ix1, geI, len_S hX, e1, decide_false, ix_S (show X.length ≤ 16777216 by omega) hj, rne_S, decide_true, fap_small hp]
theorem sg0 : DL.rIx (.tup (([("(" : Str), ("=" : Str), ("?" : Str), (":" : Str), (")" : Str)] : List Str).map D.str)) (.int 0) = some (sD [40]) := by
  show some (D.str ("(" : Str)) = _
  rw [lit_po]
theorem sgc : rCut (.tup (([("(" : Str), ("=" : Str), ("?" : Str), (":" : Str), (")" : Str)] : List Str).map D.str)) (some 1) none = some (.tup [sD [61], sD [63], sD [58], sD [41]]) := by
  show some (D.tup [D.str ("=" : Str), D.str ("?" : Str), D.str (":" : Str), D.str (")" : Str)]) = _
  rw [lit_eq, lit_qu, lit_co, lit_pc]
theorem stp_of {z : Nat} {r : List Nat} (h : ¬ Let z) : Stp (z :: r) := fun x e => by cases e; exact h
theorem plan_at_ok : ∀ (k : Nat) (t : Tr) (pre post : List Nat) (dd : Int), dp t ≤ k → (dp t : Int) ≤ dd → Tg t → Stp post → (pre ++ (tx t ++ post)).length ≤ 10000 →
    m_plan_at k [sD (pre ++ (tx t ++ post)), .int (pre.length : Nat), .int dd] = .ok (.tup [tD t, .int ((pre.length + (tx t).length : Nat) : Int)])
  | 0, t, _, _, _, h, _, _, _, _ => absurd (dp_pos t) (by omega)
  | k + 1, t, pre, post, dd, h, hd, g, hs, hl => by
    show toOut (g_plan_at (m_plan_at k) [.fz (sD (pre ++ (tx t ++ post))), .fz (.int (pre.length : Nat)), .fz (.int dd), .no, .no, .no, .no, .no]) = _
    unfold g_plan_at
    cases t with
    | n i =>
      have hi : i ≤ 9 := g
      have e1 : ((pre.length : Nat) : Int) < ((pre ++ (tx (.n i) ++ post)).length : Nat) := by simp [tx] <;> omega
      have hx := ix_S (a := pre ++ (tx (.n i) ++ post)) (i := pre.length) (z := 48 + i) (by omega) (by simp [tx])
      have hz : 48 + i ∈ digS := by simp [digS]; omega
      have hy : rToInt (sD [48 + i]) = some (.int (i : Nat)) := dig_int ⟨i, Nat.lt_succ_of_le hi⟩
      simp only [r_bd, r_ok, r_er, r_stuck, r_rt, r_os, r_eV, r_eB, r_m2, r_m2B, r_m1, r_mB, r_mAnd, r_mOr, r_mNot, r_vAnd, r_vOr, r_vNot, r_mIf, r_sq, r_sqnx, r_sqret, r_sIf, r_sRet, r_sDrop, r_setE, r_setU, r_sSet, r_sSetF, r_aName, r_aNil, r_aCons, r_aTup, r_aLst, r_sAsg, r_mNil, r_mCons, r_mTup, r_mLst, r_mNs, r_mCall, r_lift, r_lifter, r_mMeth, r_mMeth0, r_mProp, r_okOf, r_vIsi, r_mCut, r_mDget, r_mDisp2, r_mBM, r_vCh, r_mCh, r_sPar, r_mFor, r_sFld, r_sRaise, r_m1l, r_mMake, r_liftF, r_both, r_mLc, r_mLc2, r_mSk, r_mSetL, r_toDfz, r_toDow, r_toDdc, r_asB, r_asI, r_iteA, r_itlst, r_ittup, r_it1, r_mLM, r_mCallI, r_isOwn, r_liftI, r_outS, List.getElem?_cons_zero, List.getElem?_cons_succ, List.nil_append, List.set_cons_zero, List.set_cons_succ, List.length_cons, List.length_nil, Nat.reduceAdd, Nat.reduceLT, Nat.reduceEqDiff, ↓reduceIte, if_true, Bool.not_true, Bool.not_false, and_self, Bool.false_eq_true, len_S hl, ltI, e1, decide_true, hx, isdig, hz, hy, addI, r_short (l := [_, _]) (show 2 ≤ 1000 by decide)]
      rfl
    | w l =>
      have gl : Wd l := g
      obtain ⟨z, r, rfl⟩ : ∃ z r, l = z :: r := by
        cases l with
        | nil => have := gl.lo; simp at this
        | cons z r => exact ⟨z, r, rfl⟩
      have e1 : ((pre.length : Nat) : Int) < ((pre ++ (tx (.w (z :: r)) ++ post)).length : Nat) := by simp [tx] <;> omega
      have hx := ix_S (a := pre ++ (tx (.w (z :: r)) ++ post)) (i := pre.length) (z := z) (by omega) (by simp [tx])
      have hz : z ∉ digS := by have := gl.le z List.mem_cons_self; unfold Let at this; simp [digS]; omega
      have hw := word_at_ok (pre := pre) (w := tx (.w (z :: r))) (post := post) gl.le (by have := gl.hi; show (z :: r).length < 100; omega) hs hl
      have hi := isw_ok (l := tx (.w (z :: r))) gl.lo gl.hi gl.le
      simp only [r_bd, r_ok, r_er, r_stuck, r_rt, r_os, r_eV, r_eB, r_m2, r_m2B, r_m1, r_mB, r_mAnd, r_mOr, r_mNot, r_vAnd, r_vOr, r_vNot, r_mIf, r_sq, r_sqnx, r_sqret, r_sIf, r_sRet, r_sDrop, r_setE, r_setU, r_sSet, r_sSetF, r_aName, r_aNil, r_aCons, r_aTup, r_aLst, r_sAsg, r_mNil, r_mCons, r_mTup, r_mLst, r_mNs, r_mCall, r_lift, r_lifter, r_mMeth, r_mMeth0, r_mProp, r_okOf, r_vIsi, r_mCut, r_mDget, r_mDisp2, r_mBM, r_vCh, r_mCh, r_sPar, r_mFor, r_sFld, r_sRaise, r_m1l, r_mMake, r_liftF, r_both, r_mLc, r_mLc2, r_mSk, r_mSetL, r_toDfz, r_toDow, r_toDdc, r_asB, r_asI, r_iteA, r_itlst, r_ittup, r_it1, r_mLM, r_mCallI, r_isOwn, r_liftI, r_outS, List.getElem?_cons_zero, List.getElem?_cons_succ, List.nil_append, List.set_cons_zero, List.set_cons_succ, List.length_cons, List.length_nil, Nat.reduceAdd, Nat.reduceLT, Nat.reduceEqDiff, ↓reduceIte, if_true, Bool.not_true, Bool.not_false, and_self, Bool.false_eq_true, len_S hl, len_S (show (tx (.w (z :: r))).length ≤ 10000 by have := gl.hi; show (z :: r).length ≤ 10000; omega), ltI, e1, decide_true, hx, isdig, hz, decide_false, hw, hi, addI, r_short (l := [_, _]) (show 2 ≤ 1000 by decide)]
      rfl
    | c a b c d =>
      simp only [dp] at h hd
      obtain ⟨ga, gb, gc, gd⟩ := g
      have e1 : ((pre.length : Nat) : Int) < ((pre ++ (tx (.c a b c d) ++ post)).length : Nat) := by simp [tx] <;> omega
      have e1' : ¬ (((pre ++ (tx (.c a b c d) ++ post)).length : Nat) : Int) ≤ ((pre.length : Nat) : Int) := by omega
      have hx := ix_S (a := pre ++ (tx (.c a b c d) ++ post)) (i := pre.length) (z := 40) (by omega) (by simp [tx])
      have hz : 40 ∉ digS := by decide
      have hw : m_word_at [sD (pre ++ (tx (.c a b c d) ++ post)), .int (pre.length : Nat)] = .ok (sD []) :=
        word_at_ok (pre := pre) (w := []) (post := tx (.c a b c d) ++ post) (fun _ h => by cases h) (by decide) (stp_of (z := 40) (by unfold Let; omega)) hl
      have hi := isw_len (l := []) (by simp) (by simp)
      have ed : ¬ dd = 1 := by have := dp_pos a; omega
      have q1 : pre ++ (tx (.c a b c d) ++ post) = (pre ++ [40]) ++ (tx a ++ (61 :: (tx b ++ (63 :: (tx c ++ (58 :: (tx d ++ (41 :: post)))))))) := by simp [tx]
      have q2 : pre ++ (tx (.c a b c d) ++ post) = (pre ++ 40 :: (tx a ++ [61])) ++ (tx b ++ (63 :: (tx c ++ (58 :: (tx d ++ (41 :: post)))))) := by simp [tx]
      have q3 : pre ++ (tx (.c a b c d) ++ post) = (pre ++ 40 :: (tx a ++ 61 :: (tx b ++ [63]))) ++ (tx c ++ (58 :: (tx d ++ (41 :: post)))) := by simp [tx]
      have q4 : pre ++ (tx (.c a b c d) ++ post) = (pre ++ 40 :: (tx a ++ 61 :: (tx b ++ 63 :: (tx c ++ [58])))) ++ (tx d ++ (41 :: post)) := by simp [tx]
      have i1 := plan_at_ok k a (pre ++ [40]) (61 :: (tx b ++ (63 :: (tx c ++ (58 :: (tx d ++ (41 :: post))))))) (dd - 1) (by omega) (by omega) ga (stp_of (by unfold Let; omega)) (by rw [← q1]; exact hl)
      have i2 := plan_at_ok k b (pre ++ 40 :: (tx a ++ [61])) (63 :: (tx c ++ (58 :: (tx d ++ (41 :: post))))) (dd - 1) (by omega) (by omega) gb (stp_of (by unfold Let; omega)) (by rw [← q2]; exact hl)
      have i3 := plan_at_ok k c (pre ++ 40 :: (tx a ++ 61 :: (tx b ++ [63]))) (58 :: (tx d ++ (41 :: post))) (dd - 1) (by omega) (by omega) gc (stp_of (by unfold Let; omega)) (by rw [← q3]; exact hl)
      have i4 := plan_at_ok k d (pre ++ 40 :: (tx a ++ 61 :: (tx b ++ 63 :: (tx c ++ [58])))) (41 :: post) (dd - 1) (by omega) (by omega) gd (stp_of (by unfold Let; omega)) (by rw [← q4]; exact hl)
      rw [← q1] at i1
      rw [← q2] at i2
      rw [← q3] at i3
      rw [← q4] at i4
      have g1 : (pre ++ (tx (.c a b c d) ++ post))[(pre ++ [40]).length + (tx a).length]? = some 61 := by rw [q1, List.getElem?_append_right (by omega), List.getElem?_append_right (by omega)]; simp
      have g2 : (pre ++ (tx (.c a b c d) ++ post))[(pre ++ 40 :: (tx a ++ [61])).length + (tx b).length]? = some 63 := by rw [q2, List.getElem?_append_right (by omega), List.getElem?_append_right (by omega)]; simp
      have g3 : (pre ++ (tx (.c a b c d) ++ post))[(pre ++ 40 :: (tx a ++ 61 :: (tx b ++ [63]))).length + (tx c).length]? = some 58 := by rw [q3, List.getElem?_append_right (by omega), List.getElem?_append_right (by omega)]; simp
      have g4 : (pre ++ (tx (.c a b c d) ++ post))[(pre ++ 40 :: (tx a ++ 61 :: (tx b ++ 63 :: (tx c ++ [58])))).length + (tx d).length]? = some 41 := by rw [q4, List.getElem?_append_right (by omega), List.getElem?_append_right (by omega)]; simp
      have n1 : ((pre ++ [40]).length : Int) = (pre.length : Nat) + 1 := by simp
      have n2 : ((pre ++ 40 :: (tx a ++ [61])).length : Int) = (((pre ++ [40]).length + (tx a).length : Nat) : Int) + 1 := by simp; omega
      have n3 : ((pre ++ 40 :: (tx a ++ 61 :: (tx b ++ [63]))).length : Int) = (((pre ++ 40 :: (tx a ++ [61])).length + (tx b).length : Nat) : Int) + 1 := by simp; omega
      have n4 : ((pre ++ 40 :: (tx a ++ 61 :: (tx b ++ 63 :: (tx c ++ [58])))).length : Int) = (((pre ++ 40 :: (tx a ++ 61 :: (tx b ++ [63]))).length + (tx c).length : Nat) : Int) + 1 := by simp; omega
      have n5 : (((pre ++ 40 :: (tx a ++ 61 :: (tx b ++ 63 :: (tx c ++ [58])))).length + (tx d).length : Nat) : Int) + 1 = ((pre.length + (tx (.c a b c d)).length : Nat) : Int) := by simp [tx]; omega
      rw [n1] at i1
      rw [n2] at i2
      rw [n3] at i3
      rw [n4] at i4
      generalize pre ++ (tx (.c a b c d) ++ post) = X at *
      generalize (pre ++ [40]).length + (tx a).length = j1 at *
      generalize (pre ++ 40 :: (tx a ++ [61])).length + (tx b).length = j2 at *
      generalize (pre ++ 40 :: (tx a ++ 61 :: (tx b ++ [63]))).length + (tx c).length = j3 at *
      generalize (pre ++ 40 :: (tx a ++ 61 :: (tx b ++ 63 :: (tx c ++ [58])))).length + (tx d).length = j4 at *
      have t1 := fun e3 e5 e6 e7 => plan_turn (e3 := e3) (e5 := e5) (e6 := e6) (e7 := e7) (parts := []) i1 g1 hl (by decide)
      have t2 := fun e3 e5 e6 e7 => plan_turn (e3 := e3) (e5 := e5) (e6 := e6) (e7 := e7) (parts := [tD a]) i2 g2 hl (by simp)
      have t3 := fun e3 e5 e6 e7 => plan_turn (e3 := e3) (e5 := e5) (e6 := e6) (e7 := e7) (parts := [tD a, tD b]) i3 g3 hl (by simp)
      have t4 := fun e3 e5 e6 e7 => plan_turn (e3 := e3) (e5 := e5) (e6 := e6) (e7 := e7) (parts := [tD a, tD b, tD c]) i4 g4 hl (by simp)
      have loop : ∀ e3 e5 e6 e7, sFor (aName 5) (pb (m_plan_at k)) [sD [61], sD [63], sD [58], sD [41]] [.fz (sD X), .fz (.int (pre.length : Nat)), .fz (.int dd), e3, .ow [], e5, e6, e7] = .ok .nx [.fz (sD X), .fz (.int (j4 : Nat)), .fz (.int dd), e3, .ow [tD a, tD b, tD c, tD d], .fz (sD [41]), .fz (.tup [tD d, .int (j4 : Nat)]), .fz (tD d)] := by
        intro e3 e5 e6 e7
        refine (for_step (t1 _ _ _ _)).trans ?_
        refine (for_step (t2 _ _ _ _)).trans ?_
        refine (for_step (t3 _ _ _ _)).trans ?_
        refine (for_step (t4 _ _ _ _)).trans ?_
        rfl
      unfold pb at loop
      have tl : rToTup (.lst [tD a, tD b, tD c, tD d]) = some (.tup [tD a, tD b, tD c, tD d]) := rfl
      simp only [r_bd, r_ok, r_er, r_stuck, r_rt, r_os, r_eV, r_eB, r_m2, r_m2B, r_m1, r_mB, r_mAnd, r_mOr, r_mNot, r_vAnd, r_vOr, r_vNot, r_mIf, r_sq, r_sqnx, r_sqret, r_sIf, r_sRet, r_sDrop, r_setE, r_setU, r_sSet, r_sSetF, r_aName, r_aNil, r_aCons, r_aTup, r_aLst, r_sAsg, r_mNil, r_mCons, r_mTup, r_mLst, r_mNs, r_mCall, r_lift, r_lifter, r_mMeth, r_mMeth0, r_mProp, r_okOf, r_vIsi, r_mCut, r_mDget, r_mDisp2, r_mBM, r_vCh, r_mCh, r_sPar, r_mFor, r_sFld, r_sRaise, r_m1l, r_mMake, r_liftF, r_both, r_mLc, r_mLc2, r_mSk, r_mSetL, r_toDfz, r_toDow, r_toDdc, r_asB, r_asI, r_iteA, r_itlst, r_ittup, r_it1, r_mLM, r_mCallI, r_isOwn, r_liftI, r_outS, List.getElem?_cons_zero, List.getElem?_cons_succ, List.nil_append, List.set_cons_zero, List.set_cons_succ, List.length_cons, List.length_nil, Nat.reduceAdd, Nat.reduceLT, Nat.reduceEqDiff, ↓reduceIte, if_true, Bool.not_true, Bool.not_false, and_self, Bool.false_eq_true, len_S hl, ltI, e1, decide_true, hx, isdig, hz, decide_false, hw, hi, geI, e1', sg0, rne_S, eqI, ed, r_short (l := []) (show 0 ≤ 1000 by decide), sgc, loop, tl, addI, r_short (l := [_, _]) (show 2 ≤ 1000 by decide)]
      show Out.ok _ = _
      rw [n5]
      rfl
theorem isi0_str (s : Str) : isiO 0 (.str s) = some false := rfl
theorem isnum_str (s : Str) (a b : D) : m_is_number [.str s, a, b] = .ok (.bl false) := by
  show toOut (g_is_number [.fz (.str s), .fz a, .fz b]) = _
  unfold g_is_number
  simp only [r_bd, r_ok, r_er, r_stuck, r_rt, r_os, r_eV, r_eB, r_m2, r_m2B, r_m1, r_mB, r_mAnd, r_mOr, r_mNot, r_vAnd, r_vOr, r_vNot, r_mIf, r_sq, r_sqnx, r_sqret, r_sIf, r_sRet, r_sDrop, r_setE, r_setU, r_sSet, r_sSetF, r_aName, r_aNil, r_aCons, r_aTup, r_aLst, r_sAsg, r_mNil, r_mCons, r_mTup, r_mLst, r_mNs, r_mCall, r_lift, r_lifter, r_mMeth, r_mMeth0, r_mProp, r_okOf, r_vIsi, r_mCut, r_mDget, r_mDisp2, r_mBM, r_vCh, r_mCh, r_sPar, r_mFor, r_sFld, r_sRaise, r_m1l, r_mMake, r_liftF, r_both, r_mLc, r_mLc2, r_mSk, r_mSetL, r_toDfz, r_toDow, r_toDdc, r_asB, r_asI, r_iteA, r_itlst, r_ittup, r_it1, r_mLM, r_mCallI, r_isOwn, r_liftI, r_outS, List.getElem?_cons_zero, List.getElem?_cons_succ, List.nil_append, List.set_cons_zero, List.set_cons_succ, List.length_cons, List.length_nil, Nat.reduceAdd, Nat.reduceLT, Nat.reduceEqDiff, ↓reduceIte, if_true, Bool.not_true, Bool.not_false, and_self, Bool.false_eq_true, m_is_whole_str]
  rfl
theorem plan_of_ok {t : Tr} (h : dp t ≤ 3) (g : Tg t) : m_plan_of [sD (tx t)] = .ok (tD t) := by
  show toOut (g_plan_of [.fz (sD (tx t)), .no]) = _
  unfold g_plan_of
  have hp := plan_at_ok 4 t [] [] 3 (by omega) (by omega) g (fun z e => by cases e) (by have := tx_le h g; simp; omega)
  simp only [List.nil_append, List.append_nil, List.length_nil, Nat.zero_add, Int.natCast_zero] at hp
  simp only [r_bd, r_ok, r_er, r_stuck, r_rt, r_os, r_eV, r_eB, r_m2, r_m2B, r_m1, r_mB, r_mAnd, r_mOr, r_mNot, r_vAnd, r_vOr, r_vNot, r_mIf, r_sq, r_sqnx, r_sqret, r_sIf, r_sRet, r_sDrop, r_setE, r_setU, r_sSet, r_sSetF, r_aName, r_aNil, r_aCons, r_aTup, r_aLst, r_sAsg, r_mNil, r_mCons, r_mTup, r_mLst, r_mNs, r_mCall, r_lift, r_lifter, r_mMeth, r_mMeth0, r_mProp, r_okOf, r_vIsi, r_mCut, r_mDget, r_mDisp2, r_mBM, r_vCh, r_mCh, r_sPar, r_mFor, r_sFld, r_sRaise, r_m1l, r_mMake, r_liftF, r_both, r_mLc, r_mLc2, r_mSk, r_mSetL, r_toDfz, r_toDow, r_toDdc, r_asB, r_asI, r_iteA, r_itlst, r_ittup, r_it1, r_mLM, r_mCallI, r_isOwn, r_liftI, r_outS, List.getElem?_cons_zero, List.getElem?_cons_succ, List.nil_append, List.set_cons_zero, List.set_cons_succ, List.length_cons, List.length_nil, Nat.reduceAdd, Nat.reduceLT, Nat.reduceEqDiff, ↓reduceIte, if_true, Bool.not_true, Bool.not_false, and_self, Bool.false_eq_true, isi0_str, isnum_str, isi_str, hp, isn_tup, tup_ix1, tup_ix0, len_S (show (tx t).length ≤ 10000 by have := tx_le h g; omega), neI, decide_true]
  rfl
theorem tD_non (t : Tr) : rIsN (tD t) .non = some (.bl false) := by cases t <;> rfl
theorem tD_notn (t : Tr) : rIsNotN (tD t) .non = some (.bl true) := by cases t <;> rfl
theorem r_putFld (j i : Nat) (f : Str) (d : D) (ρ : DL.Env) : putFld j i f d ρ = match ρ[i]? with
  | some (.ob k fs) => if k = j ∧ fs.length < 900 then .ok .nx (ρ.set i (.ob k (putD f d fs))) else .stuck
  | _ => .stuck := rfl
def termO (t : Tr) : D := .obj 0 [("tree", tD t)]
theorem put_tree (d : D) : putD ("tree" : Str) d [] = [(("tree" : Str), d)] := rfl
theorem term_init {t : Tr} (h : dp t ≤ 3) (g : Tg t) : m_Term_init [sD (tx t)] = .ok [("tree", tD t)] := by
  show toOutF 0 (g_Term_init [.ob 0 [], .fz (sD (tx t)), .no]) = _
  unfold g_Term_init
  simp only [r_bd, r_ok, r_er, r_stuck, r_rt, r_os, r_eV, r_eB, r_m2, r_m2B, r_m1, r_mB, r_mAnd, r_mOr, r_mNot, r_vAnd, r_vOr, r_vNot, r_mIf, r_sq, r_sqnx, r_sqret, r_sIf, r_sRet, r_sDrop, r_setE, r_setU, r_sSet, r_sSetF, r_aName, r_aNil, r_aCons, r_aTup, r_aLst, r_sAsg, r_mNil, r_mCons, r_mTup, r_mLst, r_mNs, r_mCall, r_lift, r_lifter, r_mMeth, r_mMeth0, r_mProp, r_okOf, r_vIsi, r_mCut, r_mDget, r_mDisp2, r_mBM, r_vCh, r_mCh, r_sPar, r_mFor, r_sFld, r_sRaise, r_m1l, r_mMake, r_liftF, r_both, r_mLc, r_mLc2, r_mSk, r_mSetL, r_toDfz, r_toDow, r_toDdc, r_asB, r_asI, r_iteA, r_itlst, r_ittup, r_it1, r_mLM, r_mCallI, r_isOwn, r_liftI, r_outS, List.getElem?_cons_zero, List.getElem?_cons_succ, List.nil_append, List.set_cons_zero, List.set_cons_succ, List.length_cons, List.length_nil, Nat.reduceAdd, Nat.reduceLT, Nat.reduceEqDiff, ↓reduceIte, if_true, Bool.not_true, Bool.not_false, and_self, Bool.false_eq_true, plan_of_ok h g, tD_non, r_putFld, put_tree]
  rfl
end G
end
section
set_option Elab.async false
set_option linter.all false
set_option maxRecDepth 100000
set_option maxHeartbeats 4000000
namespace G
open PySem PySem.Spec PyProof.Rows L2 DL
/-! ### deeds -/
structure Dd where
  v : List Nat
  late : Bool
  t : Tr
structure Dd.Ok (d : Dd) : Prop where
  v : Wd d.v
  dp : dp d.t ≤ 3
  t : Tg d.t
def dtx (d : Dd) : List Nat := d.v ++ sgn (if d.late then 60 else 58) ++ tx d.t
def deedD (d : Dd) : D := .tup [sD d.v, .bl d.late, tD d.t]
def deedO (d : Dd) : D := .obj 1 [("target", sD d.v), ("source", termO d.t), ("is_late", .bl d.late)]
theorem t3_0 (a b c : D) : DL.rIx (.tup [a, b, c]) (.int 0) = some a := rfl
theorem t3_1 (a b c : D) : DL.rIx (.tup [a, b, c]) (.int 1) = some b := rfl
theorem t3_2 (a b c : D) : DL.rIx (.tup [a, b, c]) (.int 2) = some c := rfl
theorem l2_0 (a b : D) : DL.rIx (.lst [a, b]) (.int 0) = some a := rfl
theorem l2_1 (a b : D) : DL.rIx (.lst [a, b]) (.int 1) = some b := rfl
theorem lit_now : (" := " : Str) = S (sgn 58) := by decide +kernel
theorem lit_end : (" <= " : Str) = S (sgn 60) := by decide +kernel
theorem dtx_len {d : Dd} (h : d.Ok) : (dtx d).length ≤ 260 := by
  have := h.v.hi
  have := tx_le h.dp h.t
  unfold dtx
  simp only [List.length_append, List.length_cons, List.length_nil]
  omega
theorem deed_text {d : Dd} (h : d.Ok) : m_law_deed_text [deedD d] = .ok (sD (dtx d)) := by
  show toOut (g_law_deed_text [.fz (.tup [sD d.v, .bl d.late, tD d.t])]) = _
  unfold g_law_deed_text
  have ht := tree_text 3 d.t h.dp (by omega) h.t
  have hv := h.v.hi
  have hx := tx_le h.dp h.t
  cases hl : d.late with
  | true =>
    simp only [r_bd, r_ok, r_er, r_stuck, r_rt, r_os, r_eV, r_eB, r_m2, r_m2B, r_m1, r_mB, r_mAnd, r_mOr, r_mNot, r_vAnd, r_vOr, r_vNot, r_mIf, r_sq, r_sqnx, r_sqret, r_sIf, r_sRet, r_sDrop, r_setE, r_setU, r_sSet, r_sSetF, r_aName, r_aNil, r_aCons, r_aTup, r_aLst, r_sAsg, r_mNil, r_mCons, r_mTup, r_mLst, r_mNs, r_mCall, r_lift, r_lifter, r_mMeth, r_mMeth0, r_mProp, r_okOf, r_vIsi, r_mCut, r_mDget, r_mDisp2, r_mBM, r_vCh, r_mCh, r_sPar, r_mFor, r_sFld, r_sRaise, r_m1l, r_mMake, r_liftF, r_both, r_mLc, r_mLc2, r_mSk, r_mSetL, r_toDfz, r_toDow, r_toDdc, r_asB, r_asI, r_iteA, r_itlst, r_ittup, r_it1, r_mLM, r_mCallI, r_isOwn, r_liftI, r_outS, List.getElem?_cons_zero, List.getElem?_cons_succ, List.nil_append, List.set_cons_zero, List.set_cons_succ, List.length_cons, List.length_nil, Nat.reduceAdd, Nat.reduceLT, Nat.reduceEqDiff, ↓reduceIte, if_true, Bool.not_true, Bool.not_false, and_self, Bool.false_eq_true, t3_0, t3_1, t3_2, ht, lit_end, add_S (show d.v.length + (sgn 60).length ≤ 16777216 by simp; omega), add_S (show (d.v ++ sgn 60).length + (tx d.t).length ≤ 16777216 by simp; omega)]
    unfold dtx
    rw [hl]; rfl
  | false =>
    simp only [r_bd, r_ok, r_er, r_stuck, r_rt, r_os, r_eV, r_eB, r_m2, r_m2B, r_m1, r_mB, r_mAnd, r_mOr, r_mNot, r_vAnd, r_vOr, r_vNot, r_mIf, r_sq, r_sqnx, r_sqret, r_sIf, r_sRet, r_sDrop, r_setE, r_setU, r_sSet, r_sSetF, r_aName, r_aNil, r_aCons, r_aTup, r_aLst, r_sAsg, r_mNil, r_mCons, r_mTup, r_mLst, r_mNs, r_mCall, r_lift, r_lifter, r_mMeth, r_mMeth0, r_mProp, r_okOf, r_vIsi, r_mCut, r_mDget, r_mDisp2, r_mBM, r_vCh, r_mCh, r_sPar, r_mFor, r_sFld, r_sRaise, r_m1l, r_mMake, r_liftF, r_both, r_mLc, r_mLc2, r_mSk, r_mSetL, r_toDfz, r_toDow, r_toDdc, r_asB, r_asI, r_iteA, r_itlst, r_ittup, r_it1, r_mLM, r_mCallI, r_isOwn, r_liftI, r_outS, List.getElem?_cons_zero, List.getElem?_cons_succ, List.nil_append, List.set_cons_zero, List.set_cons_succ, List.length_cons, List.length_nil, Nat.reduceAdd, Nat.reduceLT, Nat.reduceEqDiff, ↓reduceIte, if_true, Bool.not_true, Bool.not_false, and_self, Bool.false_eq_true, t3_0, t3_1, t3_2, ht, lit_now, add_S (show d.v.length + (sgn 58).length ≤ 16777216 by simp; omega), add_S (show (d.v ++ sgn 58).length + (tx d.t).length ≤ 16777216 by simp; omega)]
    unfold dtx
    rw [hl]; rfl
theorem isStr_S (s : Str) : D.isStr (.str s) = true := rfl
theorem fsplit {s t : Str} {l : List Str} (h1 : t.length ≠ 0) (h2 : s.length ≤ 10000) (h : Txt.split s t = l) : fSplit (.str s) [.str t] = some (.lst (l.map D.str)) := by
  show (if t.length ≠ 0 ∧ s.length + 2 ≤ sizeLine then some (D.lst (strsD (Txt.split s t))) else none) = _
  rw [if_pos ⟨h1, by rw [szl]; omega⟩, h]
  congr 2
theorem len_lst (l : List D) : DL.rLen (.lst l) = some (.int (l.length : Nat)) := rfl
theorem len_tup (l : List D) : DL.rLen (.tup l) = some (.int (l.length : Nat)) := rfl
theorem isw_Wd {l : List Nat} (h : Wd l) : m_is_word [sD l] = .ok (.bl true) := isw_ok h.lo h.hi h.le
theorem Wd.no32 {l : List Nat} (h : Wd l) : 32 ∉ l := fun e => by have := h.le _ e; unfold Let at this; omega
theorem Dparts {d : Dd} (h : d.Ok) : m_deed_parts [sD (dtx d)] = .ok (.tup [sD d.v, sD (tx d.t), .bl d.late]) := by
  show toOut (g_deed_parts [.fz (sD (dtx d)), .no, .no, .no]) = _
  unfold g_deed_parts
  have hl := dtx_len h
  have h1 := h.v.no32
  have h2 := tx_32 d.t h.t
  have hp := plan_of_ok h.dp h.t
  have sh2 : ∀ a b : D, short [a, b] = some [a, b] := fun _ _ => rfl
  have sh3 : ∀ a b c : D, short [a, b, c] = some [a, b, c] := fun _ _ _ => rfl
  cases hb : d.late with
  | false =>
    have e : dtx d = d.v ++ sgn 58 ++ tx d.t := by unfold dtx; rw [hb]; rfl
    have hs := fsplit (s := S (dtx d)) (t := S (sgn 58)) (by simp [S_len]) (by rw [S_len]; omega) (l := [S d.v, S (tx d.t)]) (by rw [e]; exact split_yes h1 h2 (by decide) (by decide))
    simp only [r_bd, r_ok, r_er, r_stuck, r_rt, r_os, r_eV, r_eB, r_m2, r_m2B, r_m1, r_mB, r_mAnd, r_mOr, r_mNot, r_vAnd, r_vOr, r_vNot, r_mIf, r_sq, r_sqnx, r_sqret, r_sIf, r_sRet, r_sDrop, r_setE, r_setU, r_sSet, r_sSetF, r_aName, r_aNil, r_aCons, r_aTup, r_aLst, r_sAsg, r_mNil, r_mCons, r_mTup, r_mLst, r_mNs, r_mCall, r_lift, r_lifter, r_mMeth, r_mMeth0, r_mProp, r_okOf, r_vIsi, r_mCut, r_mDget, r_mDisp2, r_mBM, r_vCh, r_mCh, r_sPar, r_mFor, r_sFld, r_sRaise, r_m1l, r_mMake, r_liftF, r_both, r_mLc, r_mLc2, r_mSk, r_mSetL, r_toDfz, r_toDow, r_toDdc, r_asB, r_asI, r_iteA, r_itlst, r_ittup, r_it1, r_mLM, r_mCallI, r_isOwn, r_liftI, r_outS, List.getElem?_cons_zero, List.getElem?_cons_succ, List.nil_append, List.set_cons_zero, List.set_cons_succ, List.length_cons, List.length_nil, Nat.reduceAdd, Nat.reduceLT, Nat.reduceEqDiff, ↓reduceIte, if_true, Bool.not_true, Bool.not_false, and_self, Bool.false_eq_true, isi_str, sh2, sh3, sFor_cons, sFor_nil, isStr_S, lit_now, hs, List.map_cons, List.map_nil, len_lst, eqI, decide_true, l2_0, l2_1, isw_Wd h.v, hp, tD_notn]
    rfl
  | true =>
    have e : dtx d = d.v ++ sgn 60 ++ tx d.t := by unfold dtx; rw [hb]; rfl
    have hs := fsplit (s := S (dtx d)) (t := S (sgn 60)) (by simp [S_len]) (by rw [S_len]; omega) (l := [S d.v, S (tx d.t)]) (by rw [e]; exact split_yes h1 h2 (by decide) (by decide))
    have hn := fsplit (s := S (dtx d)) (t := S (sgn 58)) (by simp [S_len]) (by rw [S_len]; omega) (l := [S (dtx d)]) (by rw [e]; exact split_no h1 h2 (by decide) (by decide) (by decide))
    have e12 : ¬ (((1 : Nat) : Int) = 2) := by decide
    simp only [r_bd, r_ok, r_er, r_stuck, r_rt, r_os, r_eV, r_eB, r_m2, r_m2B, r_m1, r_mB, r_mAnd, r_mOr, r_mNot, r_vAnd, r_vOr, r_vNot, r_mIf, r_sq, r_sqnx, r_sqret, r_sIf, r_sRet, r_sDrop, r_setE, r_setU, r_sSet, r_sSetF, r_aName, r_aNil, r_aCons, r_aTup, r_aLst, r_sAsg, r_mNil, r_mCons, r_mTup, r_mLst, r_mNs, r_mCall, r_lift, r_lifter, r_mMeth, r_mMeth0, r_mProp, r_okOf, r_vIsi, r_mCut, r_mDget, r_mDisp2, r_mBM, r_vCh, r_mCh, r_sPar, r_mFor, r_sFld, r_sRaise, r_m1l, r_mMake, r_liftF, r_both, r_mLc, r_mLc2, r_mSk, r_mSetL, r_toDfz, r_toDow, r_toDdc, r_asB, r_asI, r_iteA, r_itlst, r_ittup, r_it1, r_mLM, r_mCallI, r_isOwn, r_liftI, r_outS, List.getElem?_cons_zero, List.getElem?_cons_succ, List.nil_append, List.set_cons_zero, List.set_cons_succ, List.length_cons, List.length_nil, Nat.reduceAdd, Nat.reduceLT, Nat.reduceEqDiff, ↓reduceIte, if_true, Bool.not_true, Bool.not_false, and_self, Bool.false_eq_true, isi_str, sh2, sh3, sFor_cons, sFor_nil, isStr_S, lit_now, lit_end, hn, hs, List.map_cons, List.map_nil, len_lst, eqI, e12, decide_true, decide_false, l2_0, l2_1, isw_Wd h.v, hp, tD_notn]
    rfl
theorem isi_bool (b : Bool) : isiB "bool" (.bl b) = some true := rfl
theorem put_nil (f : Str) (x : D) : putD f x [] = [(f, x)] := rfl
theorem put_source (a x : D) : putD ("source" : Str) x [(("target" : Str), a)] = [(("target" : Str), a), (("source" : Str), x)] := rfl
theorem put_late (a b x : D) : putD ("is_late" : Str) x [(("target" : Str), a), (("source" : Str), b)] = [(("target" : Str), a), (("source" : Str), b), (("is_late" : Str), x)] := rfl
theorem deed_init {d : Dd} (h : d.Ok) : m_Deed_init [sD d.v, sD (tx d.t), .bl d.late] = .ok [("target", sD d.v), ("source", termO d.t), ("is_late", .bl d.late)] := by
  show toOutF 1 (g_Deed_init [.ob 1 [], .fz (sD d.v), .fz (sD (tx d.t)), .fz (.bl d.late)]) = _
  unfold g_Deed_init
  simp only [r_bd, r_ok, r_er, r_stuck, r_rt, r_os, r_eV, r_eB, r_m2, r_m2B, r_m1, r_mB, r_mAnd, r_mOr, r_mNot, r_vAnd, r_vOr, r_vNot, r_mIf, r_sq, r_sqnx, r_sqret, r_sIf, r_sRet, r_sDrop, r_setE, r_setU, r_sSet, r_sSetF, r_aName, r_aNil, r_aCons, r_aTup, r_aLst, r_sAsg, r_mNil, r_mCons, r_mTup, r_mLst, r_mNs, r_mCall, r_lift, r_lifter, r_mMeth, r_mMeth0, r_mProp, r_okOf, r_vIsi, r_mCut, r_mDget, r_mDisp2, r_mBM, r_vCh, r_mCh, r_sPar, r_mFor, r_sFld, r_sRaise, r_m1l, r_mMake, r_liftF, r_both, r_mLc, r_mLc2, r_mSk, r_mSetL, r_toDfz, r_toDow, r_toDdc, r_asB, r_asI, r_iteA, r_itlst, r_ittup, r_it1, r_mLM, r_mCallI, r_isOwn, r_liftI, r_outS, List.getElem?_cons_zero, List.getElem?_cons_succ, List.nil_append, List.set_cons_zero, List.set_cons_succ, List.length_cons, List.length_nil, Nat.reduceAdd, Nat.reduceLT, Nat.reduceEqDiff, ↓reduceIte, if_true, Bool.not_true, Bool.not_false, and_self, Bool.false_eq_true, isw_Wd h.v, plan_of_ok h.dp h.t, tD_non, isi_bool, r_putFld, put_nil, put_source, put_late, term_init h.dp h.t]
  rfl
theorem deed_of {d : Dd} (h : d.Ok) : m_Deed_of [sD (dtx d)] = .ok (deedO d) := by
  show toOut (g_Deed_of [.fz (sD (dtx d)), .no, .no, .no, .no]) = _
  unfold g_Deed_of
  simp only [r_bd, r_ok, r_er, r_stuck, r_rt, r_os, r_eV, r_eB, r_m2, r_m2B, r_m1, r_mB, r_mAnd, r_mOr, r_mNot, r_vAnd, r_vOr, r_vNot, r_mIf, r_sq, r_sqnx, r_sqret, r_sIf, r_sRet, r_sDrop, r_setE, r_setU, r_sSet, r_sSetF, r_aName, r_aNil, r_aCons, r_aTup, r_aLst, r_sAsg, r_mNil, r_mCons, r_mTup, r_mLst, r_mNs, r_mCall, r_lift, r_lifter, r_mMeth, r_mMeth0, r_mProp, r_okOf, r_vIsi, r_mCut, r_mDget, r_mDisp2, r_mBM, r_vCh, r_mCh, r_sPar, r_mFor, r_sFld, r_sRaise, r_m1l, r_mMake, r_liftF, r_both, r_mLc, r_mLc2, r_mSk, r_mSetL, r_toDfz, r_toDow, r_toDdc, r_asB, r_asI, r_iteA, r_itlst, r_ittup, r_it1, r_mLM, r_mCallI, r_isOwn, r_liftI, r_outS, List.getElem?_cons_zero, List.getElem?_cons_succ, List.nil_append, List.set_cons_zero, List.set_cons_succ, List.length_cons, List.length_nil, Nat.reduceAdd, Nat.reduceLT, Nat.reduceEqDiff, ↓reduceIte, if_true, Bool.not_true, Bool.not_false, and_self, Bool.false_eq_true, Dparts h, isn_tup, deed_init h, List.cons_append, List.nil_append]
  rfl
theorem isi1_str (s : Str) : isiO 1 (.str s) = some false := rfl
theorem isi2_lst (l : List D) : isi2 "list" "tuple" (.lst l) = some true := rfl
theorem isi2_tup (l : List D) : isi2 "list" "tuple" (.tup l) = some true := rfl
theorem deeds_of {ds : List Dd} (h : ∀ d ∈ ds, d.Ok) (h1 : 1 ≤ ds.length) (h4 : ds.length ≤ 4) : m_deeds_of [.lst (ds.map fun d => sD (dtx d))] = .ok (.lst (ds.map deedO)) := by
  show toOut (g_deeds_of [.fz (.lst (ds.map fun d => sD (dtx d))), .no, .no]) = _
  unfold g_deeds_of
  have e1 : (1 : Int) ≤ ((ds.length : Nat) : Int) := by omega
  have e4 : ((ds.length : Nat) : Int) ≤ 4 := by omega
  have hf := for_pre (f := fun d => sD (dtx d)) (ga := aName 2) (gb := (sq (sIf (mAnd (mNot (mB (vIsi (isiO 1) (eB 2)))) (mB (m2 rIsN (mCall m_deed_parts (bd (mCons (eV 2) mNil) fun ds => if ds.length = 1 then rt ds else stuck)) (rt .non)))) (sRet (rt .non)) (rt .nx))
      (sDrop (mLM 1 fAppend (mCons (mIf (mB (vIsi (isiO 1) (eB 2))) (eV 2) (mCall m_Deed_of (bd (mCons (eV 2) mNil) fun ds => if ds.length = 1 then rt ds else stuck))) mNil)))))
    (R := fun pre ρ => ∃ e2, ρ = [.fz (.lst (ds.map fun d => sD (dtx d))), .ow (pre.map deedO), e2]) ds (by
      rintro pre d post ρ hd ⟨e2, rfl⟩
      have hk : d.Ok := h d (by rw [hd]; simp)
      have hp : (pre.map deedO).length < 1000 := by rw [hd] at h4; simp at h4 ⊢; omega
      refine ⟨_, ?_, .fz (sD (dtx d)), rfl⟩
      simp only [r_bd, r_ok, r_er, r_stuck, r_rt, r_os, r_eV, r_eB, r_m2, r_m2B, r_m1, r_mB, r_mAnd, r_mOr, r_mNot, r_vAnd, r_vOr, r_vNot, r_mIf, r_sq, r_sqnx, r_sqret, r_sIf, r_sRet, r_sDrop, r_setE, r_setU, r_sSet, r_sSetF, r_aName, r_aNil, r_aCons, r_aTup, r_aLst, r_sAsg, r_mNil, r_mCons, r_mTup, r_mLst, r_mNs, r_mCall, r_lift, r_lifter, r_mMeth, r_mMeth0, r_mProp, r_okOf, r_vIsi, r_mCut, r_mDget, r_mDisp2, r_mBM, r_vCh, r_mCh, r_sPar, r_mFor, r_sFld, r_sRaise, r_m1l, r_mMake, r_liftF, r_both, r_mLc, r_mLc2, r_mSk, r_mSetL, r_toDfz, r_toDow, r_toDdc, r_asB, r_asI, r_iteA, r_itlst, r_ittup, r_it1, r_mLM, r_mCallI, r_isOwn, r_liftI, r_outS, List.getElem?_cons_zero, List.getElem?_cons_succ, List.nil_append, List.set_cons_zero, List.set_cons_succ, List.length_cons, List.length_nil, Nat.reduceAdd, Nat.reduceLT, Nat.reduceEqDiff, ↓reduceIte, if_true, Bool.not_true, Bool.not_false, and_self, Bool.false_eq_true, isi1_str, Dparts hk, isn_tup, deed_of hk, fap_small hp, List.map_append, List.map_cons, List.map_nil]) ds [] rfl
  obtain ⟨ρ', e, e2, rfl⟩ := hf [.fz (.lst (ds.map fun d => sD (dtx d))), .ow [], .no] ⟨.no, rfl⟩
  simp only [r_bd, r_ok, r_er, r_stuck, r_rt, r_os, r_eV, r_eB, r_m2, r_m2B, r_m1, r_mB, r_mAnd, r_mOr, r_mNot, r_vAnd, r_vOr, r_vNot, r_mIf, r_sq, r_sqnx, r_sqret, r_sIf, r_sRet, r_sDrop, r_setE, r_setU, r_sSet, r_sSetF, r_aName, r_aNil, r_aCons, r_aTup, r_aLst, r_sAsg, r_mNil, r_mCons, r_mTup, r_mLst, r_mNs, r_mCall, r_lift, r_lifter, r_mMeth, r_mMeth0, r_mProp, r_okOf, r_vIsi, r_mCut, r_mDget, r_mDisp2, r_mBM, r_vCh, r_mCh, r_sPar, r_mFor, r_sFld, r_sRaise, r_m1l, r_mMake, r_liftF, r_both, r_mLc, r_mLc2, r_mSk, r_mSetL, r_toDfz, r_toDow, r_toDdc, r_asB, r_asI, r_iteA, r_itlst, r_ittup, r_it1, r_mLM, r_mCallI, r_isOwn, r_liftI, r_outS, List.getElem?_cons_zero, List.getElem?_cons_succ, List.nil_append, List.set_cons_zero, List.set_cons_succ, List.length_cons, List.length_nil, Nat.reduceAdd, Nat.reduceLT, Nat.reduceEqDiff, ↓reduceIte, if_true, Bool.not_true, Bool.not_false, and_self, Bool.false_eq_true, isi2_lst, len_lst, List.length_map, e1, e4, decide_true, r_short (l := []) (show 0 ≤ 1000 by decide), e]
  rfl
end G
end
section
set_option Elab.async false
set_option linter.all false
set_option maxRecDepth 100000
set_option maxHeartbeats 4000000
namespace G
open PySem PySem.Spec PyProof.Rows L2 DL
/-! ### each once, ascending -/
section
variable {X : Type} [DecidableEq X]
def ad (acc : List X) (x : X) : List X := if x ∈ acc then acc else acc ++ [x]
def dup (xs : List X) : List X := xs.foldl ad []
theorem ad_mem (acc : List X) (x y : X) : y ∈ ad acc x ↔ y ∈ acc ∨ y = x := by
  unfold ad
  by_cases h : x ∈ acc
  · rw [if_pos h]
    constructor
    · exact .inl
    · rintro (h1 | rfl) <;> assumption
  · rw [if_neg h]; simp
theorem ad_nd {acc : List X} (h : acc.Nodup) (x : X) : (ad acc x).Nodup := by
  unfold ad
  by_cases hx : x ∈ acc
  · rw [if_pos hx]; exact h
  · rw [if_neg hx, List.nodup_append]
    exact ⟨h, by simp, fun a ha b hb => by rw [List.mem_singleton] at hb; subst hb; exact fun e => hx (e ▸ ha)⟩
theorem fold_mem : ∀ (xs acc : List X) (y : X), y ∈ xs.foldl ad acc ↔ y ∈ acc ∨ y ∈ xs
  | [], acc, y => by simp
  | x :: r, acc, y => by
    rw [List.foldl_cons, fold_mem r, ad_mem, List.mem_cons]
    constructor
    · rintro ((h | h) | h)
      · exact .inl h
      · exact .inr (.inl h)
      · exact .inr (.inr h)
    · rintro (h | h | h)
      · exact .inl (.inl h)
      · exact .inl (.inr h)
      · exact .inr h
theorem fold_nd : ∀ (xs acc : List X), acc.Nodup → (xs.foldl ad acc).Nodup
  | [], _, h => h
  | x :: r, acc, h => fold_nd r _ (ad_nd h x)
theorem dup_mem {xs : List X} {y : X} : y ∈ dup xs ↔ y ∈ xs := by unfold dup; rw [fold_mem]; simp
theorem dup_nd (xs : List X) : (dup xs).Nodup := fold_nd xs [] List.nodup_nil
theorem fold_id : ∀ (xs acc : List X), (acc ++ xs).Nodup → xs.foldl ad acc = acc ++ xs
  | [], acc, _ => by simp
  | x :: r, acc, h => by
    have hx : x ∉ acc := fun e => by
      rw [List.nodup_append] at h
      exact h.2.2 x e x List.mem_cons_self rfl
    rw [List.foldl_cons]
    have e : ad acc x = acc ++ [x] := by unfold ad; rw [if_neg hx]
    rw [e, fold_id r (acc ++ [x]) (by simpa using h)]
    simp
theorem dup_id {xs : List X} (h : xs.Nodup) : dup xs = xs := by unfold dup; rw [fold_id xs [] (by simpa using h)]; simp
theorem nd_len : ∀ (xs ys : List X), xs.Nodup → (∀ x ∈ xs, x ∈ ys) → xs.length ≤ ys.length
  | [], _, _, _ => by simp
  | x :: r, ys, h, hs => by
    rw [List.nodup_cons] at h
    have hx : x ∈ ys := hs x List.mem_cons_self
    have := nd_len r (ys.erase x) h.2 fun y hy => (List.mem_erase_of_ne fun e => h.1 (by rw [← e]; exact hy)).mpr (hs y (List.mem_cons_of_mem _ hy))
    rw [List.length_erase_of_mem hx] at this
    have hp : 0 < ys.length := List.length_pos_of_mem hx
    rw [List.length_cons]; omega
theorem dup_len {xs ys : List X} (h : ∀ x ∈ xs, x ∈ ys) : (dup xs).length ≤ ys.length := nd_len _ _ (dup_nd xs) fun x hx => h x (dup_mem.mp hx)
theorem addK_map {k : X → Key} (hk : ∀ a b, k a = k b → a = b) (acc : List X) (x : X) : addK (k x) (acc.map k) = (ad acc x).map k := by
  unfold addK ad
  by_cases h : x ∈ acc
  · rw [if_pos h, if_pos (memK_iff.mpr (List.mem_map_of_mem h))]
  · rw [if_neg h, if_neg (fun e => by
      obtain ⟨y, hy, e⟩ := List.mem_map.mp (memK_iff.mp e)
      exact h (hk _ _ e ▸ hy))]
    simp
theorem foldK_map {k : X → Key} (hk : ∀ a b, k a = k b → a = b) : ∀ (xs acc : List X), (xs.map k).foldl (fun acc k => addK k acc) (acc.map k) = (xs.foldl ad acc).map k
  | [], _ => rfl
  | x :: r, acc => by
    rw [List.map_cons, List.foldl_cons, List.foldl_cons, addK_map hk, foldK_map hk r]
theorem dedK_map {k : X → Key} (hk : ∀ a b, k a = k b → a = b) (xs : List X) : dedK (xs.map k) = (dup xs).map k := foldK_map hk xs []
end
theorem isort_map {X Y : Type} {le : X → X → Bool} {le' : Y → Y → Bool} {f : X → Y} (h : ∀ a b, le' (f a) (f b) = le a b) : ∀ l : List X, isort le' (l.map f) = (isort le l).map f := by
  have ins : ∀ (x : X) (l : List X), insL le' (f x) (l.map f) = (insL le x l).map f := by
    intro x l
    induction l with
    | nil => rfl
    | cons y r ih =>
      rw [List.map_cons]
      unfold insL
      rw [h]
      by_cases hc : le x y = true
      · rw [if_pos hc, if_pos hc]; rfl
      · rw [if_neg hc, if_neg hc, ih]; rfl
  intro l
  induction l with
  | nil => rfl
  | cons x r ih =>
    rw [List.map_cons]
    show insL le' (f x) (isort le' (r.map f)) = (insL le x (isort le r)).map f
    rw [ih, ins]
def leC (a b : List Nat) : Bool := leS (S a) (S b)
def ascW (ws : List (List Nat)) : List (List Nat) := isort leC (dup ws)
def ascN (ns : List Int) : List Int := isort leI (dup ns)
theorem ascW_mem {ws : List (List Nat)} {w : List Nat} : w ∈ ascW ws ↔ w ∈ ws := by unfold ascW; rw [(isort_perm _).mem_iff, dup_mem]
theorem ascN_mem {ws : List Int} {w : Int} : w ∈ ascN ws ↔ w ∈ ws := by unfold ascN; rw [(isort_perm _).mem_iff, dup_mem]
theorem ascW_len {ws ys : List (List Nat)} (h : ∀ x ∈ ws, x ∈ ys) : (ascW ws).length ≤ ys.length := by unfold ascW; rw [(isort_perm _).length_eq]; exact dup_len h
theorem ascN_len {ws ys : List Int} (h : ∀ x ∈ ws, x ∈ ys) : (ascN ws).length ≤ ys.length := by unfold ascN; rw [(isort_perm _).length_eq]; exact dup_len h
def kS (w : List Nat) : Key := .inr (S w)
def kI (n : Int) : Key := .inl n
theorem kS_inj (a b : List Nat) (h : kS a = kS b) : a = b := S_inj (Sum.inr.inj h)
theorem kI_inj (a b : Int) (h : kI a = kI b) : a = b := Sum.inl.inj h
theorem keyStrs_S : ∀ l : List (List Nat), keyStrs? (l.map kS) = some (l.map S)
  | [] => rfl
  | x :: r => by show (keyStrs? (r.map kS)).map _ = _; rw [keyStrs_S r]; rfl
theorem keyInts_I : ∀ l : List Int, keyInts? (l.map kI) = some l
  | [] => rfl
  | x :: r => by show (keyInts? (r.map kI)).map _ = _; rw [keyInts_I r]; rfl
theorem sortK_S {l : List (List Nat)} (h : l.length < 60) : sortKeys (l.map kS) = some ((isort leC l).map sD) := by
  unfold sortKeys
  rw [if_pos (by rw [List.length_map]; exact h), keyStrs_S]
  dsimp only
  rw [isort_map (le := leC) (f := S) (fun _ _ => rfl), List.map_map]
  rfl
theorem sortK_I {l : List Int} (h : l.length < 60) : sortKeys (l.map kI) = some ((isort leI l).map D.int) := by
  unfold sortKeys
  rw [if_pos (by rw [List.length_map]; exact h), keyInts_I]
  cases l with
  | nil => rfl
  | cons x r => rfl
theorem keysD_S : ∀ l : List (List Nat), keysD (l.map sD) = some (l.map kS)
  | [] => rfl
  | x :: r => by show (some (kS x)).bind (fun k => (keysD (r.map sD)).map (k :: ·)) = _; rw [keysD_S r]; rfl
theorem asc_words {ws : List (List Nat)} (h : (dup ws).length < 60) (hl : ws.length < 4096) : m_ascending_words [.lst (ws.map sD)] = .ok (.lst ((ascW ws).map sD)) := by
  show toOut (g_ascending_words [.fz (.lst (ws.map sD)), .no]) = _
  unfold g_ascending_words
  have hk := loop_k (vs := [1]) (ga := aName 1) (tt := rt true) (ge := m1 rToStr (eB 1)) (ρ := [.fz (.lst (ws.map sD)), .no]) (f := sD) (g := kS) ws [] (fun x hx => ⟨sD x, by
    refine turn_some rfl (ρ1 := [.fz (.lst (ws.map sD)), .fz (sD x)]) rfl rfl (ρ3 := [.fz (.lst (ws.map sD)), .fz (sD x)]) rfl ⟨rfl, rfl⟩ rfl, rfl⟩) (by simp; omega)
  have hf : (ws.map kS).foldl (fun acc k => addK k acc) [] = (dup ws).map kS := foldK_map kS_inj ws []
  rw [hf] at hk
  have hs := r_sole hk
  simp only [r_bd, r_ok, r_er, r_stuck, r_rt, r_os, r_eV, r_eB, r_m2, r_m2B, r_m1, r_mB, r_mAnd, r_mOr, r_mNot, r_vAnd, r_vOr, r_vNot, r_mIf, r_sq, r_sqnx, r_sqret, r_sIf, r_sRet, r_sDrop, r_setE, r_setU, r_sSet, r_sSetF, r_aName, r_aNil, r_aCons, r_aTup, r_aLst, r_sAsg, r_mNil, r_mCons, r_mTup, r_mLst, r_mNs, r_mCall, r_lift, r_lifter, r_mMeth, r_mMeth0, r_mProp, r_okOf, r_vIsi, r_mCut, r_mDget, r_mDisp2, r_mBM, r_vCh, r_mCh, r_sPar, r_mFor, r_sFld, r_sRaise, r_m1l, r_mMake, r_liftF, r_both, r_mLc, r_mLc2, r_mSk, r_mSetL, r_toDfz, r_toDow, r_toDdc, r_asB, r_asI, r_iteA, r_itlst, r_ittup, r_it1, r_mLM, r_mCallI, r_isOwn, r_liftI, r_outS, List.getElem?_cons_zero, List.getElem?_cons_succ, List.nil_append, List.set_cons_zero, List.set_cons_succ, List.length_cons, List.length_nil, Nat.reduceAdd, Nat.reduceLT, Nat.reduceEqDiff, ↓reduceIte, if_true, Bool.not_true, Bool.not_false, and_self, Bool.false_eq_true, hs, sortK_S h]
  rfl
theorem asc_numbers {ns : List Int} (h : (dup ns).length < 60) (hl : ns.length < 4096) : m_ascending_numbers [.lst (ns.map D.int)] = .ok (.lst ((ascN ns).map D.int)) := by
  show toOut (g_ascending_numbers [.fz (.lst (ns.map D.int)), .no]) = _
  unfold g_ascending_numbers
  have hk := loop_k (vs := [1]) (ga := aName 1) (tt := rt true) (ge := m1 rToInt (eB 1)) (ρ := [.fz (.lst (ns.map D.int)), .no]) (f := D.int) (g := kI) ns [] (fun x hx => ⟨.int x, by
    refine turn_some rfl (ρ1 := [.fz (.lst (ns.map D.int)), .fz (.int x)]) rfl rfl (ρ3 := [.fz (.lst (ns.map D.int)), .fz (.int x)]) rfl ⟨rfl, rfl⟩ rfl, rfl⟩) (by simp; omega)
  have hf : (ns.map kI).foldl (fun acc k => addK k acc) [] = (dup ns).map kI := foldK_map kI_inj ns []
  rw [hf] at hk
  have hs := r_sole hk
  simp only [r_bd, r_ok, r_er, r_stuck, r_rt, r_os, r_eV, r_eB, r_m2, r_m2B, r_m1, r_mB, r_mAnd, r_mOr, r_mNot, r_vAnd, r_vOr, r_vNot, r_mIf, r_sq, r_sqnx, r_sqret, r_sIf, r_sRet, r_sDrop, r_setE, r_setU, r_sSet, r_sSetF, r_aName, r_aNil, r_aCons, r_aTup, r_aLst, r_sAsg, r_mNil, r_mCons, r_mTup, r_mLst, r_mNs, r_mCall, r_lift, r_lifter, r_mMeth, r_mMeth0, r_mProp, r_okOf, r_vIsi, r_mCut, r_mDget, r_mDisp2, r_mBM, r_vCh, r_mCh, r_sPar, r_mFor, r_sFld, r_sRaise, r_m1l, r_mMake, r_liftF, r_both, r_mLc, r_mLc2, r_mSk, r_mSetL, r_toDfz, r_toDow, r_toDdc, r_asB, r_asI, r_iteA, r_itlst, r_ittup, r_it1, r_mLM, r_mCallI, r_isOwn, r_liftI, r_outS, List.getElem?_cons_zero, List.getElem?_cons_succ, List.nil_append, List.set_cons_zero, List.set_cons_succ, List.length_cons, List.length_nil, Nat.reduceAdd, Nat.reduceLT, Nat.reduceEqDiff, ↓reduceIte, if_true, Bool.not_true, Bool.not_false, and_self, Bool.false_eq_true, hs, sortK_I h]
  rfl
theorem req_nil : DL.rEq (.lst []) (.lst []) = some (.bl true) := rfl
theorem rne_nil : DL.rNe (.lst []) (.lst []) = some (.bl false) := rfl
theorem fm_none {X : Type} (l : List X) : (l.filterMap fun _ => (none : Option D)) = [] := by simp
theorem unlike {ws : List (List Nat)} {lo hi : Int} (h : ∀ w ∈ ws, Wd w) (nd : ws.Nodup) (h1 : lo ≤ (ws.length : Nat)) (h2 : (ws.length : Nat) ≤ hi) (hl : ws.length ≤ 1000) : m_are_unlike_words [.lst (ws.map sD), .int lo, .int hi] = .ok (.bl true) := by
  show toOut (g_are_unlike_words [.fz (.lst (ws.map sD)), .fz (.int lo), .fz (.int hi), .no]) = _
  unfold g_are_unlike_words
  have hloop := loop_fm (vs := [3]) (ga := aName 3) (tt := (mNot (mB (mCall m_is_word (bd (mCons (eV 3) mNil) fun ds => if ds.length = 1 then rt ds else stuck))))) (ge := eV 3) (ρ := [.fz (.lst (ws.map sD)), .fz (.int lo), .fz (.int hi), .no]) (f := sD) (g := fun _ => none) ws [] (fun x hx => by
    refine turn_none rfl (ρ1 := [.fz (.lst (ws.map sD)), .fz (.int lo), .fz (.int hi), .fz (sD x)]) rfl (ρ2 := [.fz (.lst (ws.map sD)), .fz (.int lo), .fz (.int hi), .fz (sD x)]) ?_ ⟨rfl, rfl⟩ rfl
    simp only [r_bd, r_ok, r_er, r_stuck, r_rt, r_os, r_eV, r_eB, r_m2, r_m2B, r_m1, r_mB, r_mAnd, r_mOr, r_mNot, r_vAnd, r_vOr, r_vNot, r_mIf, r_sq, r_sqnx, r_sqret, r_sIf, r_sRet, r_sDrop, r_setE, r_setU, r_sSet, r_sSetF, r_aName, r_aNil, r_aCons, r_aTup, r_aLst, r_sAsg, r_mNil, r_mCons, r_mTup, r_mLst, r_mNs, r_mCall, r_lift, r_lifter, r_mMeth, r_mMeth0, r_mProp, r_okOf, r_vIsi, r_mCut, r_mDget, r_mDisp2, r_mBM, r_vCh, r_mCh, r_sPar, r_mFor, r_sFld, r_sRaise, r_m1l, r_mMake, r_liftF, r_both, r_mLc, r_mLc2, r_mSk, r_mSetL, r_toDfz, r_toDow, r_toDdc, r_asB, r_asI, r_iteA, r_itlst, r_ittup, r_it1, r_mLM, r_mCallI, r_isOwn, r_liftI, r_outS, List.getElem?_cons_zero, List.getElem?_cons_succ, List.nil_append, List.set_cons_zero, List.set_cons_succ, List.length_cons, List.length_nil, Nat.reduceAdd, Nat.reduceLT, Nat.reduceEqDiff, ↓reduceIte, if_true, Bool.not_true, Bool.not_false, and_self, Bool.false_eq_true, isw_Wd (h x hx)]) (by rw [szl]; simp; omega)
  rw [fm_none] at hloop
  have hs := r_sole hloop
  have hb : (ws.map kS).length + 1 < scanBound := by rw [List.length_map, show scanBound = 4096 from rfl]; omega
  have hd : dedK (ws.map kS) = ws.map kS := by rw [dedK_map kS_inj, dup_id nd]
  rw [List.length_map] at hb
  simp only [r_bd, r_ok, r_er, r_stuck, r_rt, r_os, r_eV, r_eB, r_m2, r_m2B, r_m1, r_mB, r_mAnd, r_mOr, r_mNot, r_vAnd, r_vOr, r_vNot, r_mIf, r_sq, r_sqnx, r_sqret, r_sIf, r_sRet, r_sDrop, r_setE, r_setU, r_sSet, r_sSetF, r_aName, r_aNil, r_aCons, r_aTup, r_aLst, r_sAsg, r_mNil, r_mCons, r_mTup, r_mLst, r_mNs, r_mCall, r_lift, r_lifter, r_mMeth, r_mMeth0, r_mProp, r_okOf, r_vIsi, r_mCut, r_mDget, r_mDisp2, r_mBM, r_vCh, r_mCh, r_sPar, r_mFor, r_sFld, r_sRaise, r_m1l, r_mMake, r_liftF, r_both, r_mLc, r_mLc2, r_mSk, r_mSetL, r_toDfz, r_toDow, r_toDdc, r_asB, r_asI, r_iteA, r_itlst, r_ittup, r_it1, r_mLM, r_mCallI, r_isOwn, r_liftI, r_outS, List.getElem?_cons_zero, List.getElem?_cons_succ, List.nil_append, List.set_cons_zero, List.set_cons_succ, List.length_cons, List.length_nil, Nat.reduceAdd, Nat.reduceLT, Nat.reduceEqDiff, ↓reduceIte, if_true, Bool.not_true, Bool.not_false, and_self, Bool.false_eq_true, isi2_lst, len_lst, List.length_map, h1, h2, decide_true, hs, r_short (l := []) (show 0 ≤ 1000 by decide), rne_nil, keysD_S, hb, hd, eqI]
  rfl
end G
end
section
set_option Elab.async false
set_option linter.all false
set_option maxRecDepth 100000
set_option maxHeartbeats 4000000
namespace G
open PySem PySem.Spec PyProof.Rows L2 DL
/-! ### leaves -/
def lv : Tr → List Tr
  | .c a b c d => lv a ++ (lv b ++ (lv c ++ lv d))
  | t => [t]
theorem lv_leaf : ∀ (t x : Tr), x ∈ lv t → (∃ i, x = .n i) ∨ ∃ l, x = .w l
  | .n i, x, h => by simp [lv] at h; exact .inl ⟨i, h⟩
  | .w l, x, h => by simp [lv] at h; exact .inr ⟨l, h⟩
  | .c a b c d, x, h => by
    simp only [lv, List.mem_append] at h
    rcases h with h | h | h | h
    · exact lv_leaf a x h
    · exact lv_leaf b x h
    · exact lv_leaf c x h
    · exact lv_leaf d x h
theorem lv_len : ∀ (k : Nat) (t : Tr), dp t ≤ k → (lv t).length ≤ 4 ^ (k - 1)
  | 0, t, h => absurd (dp_pos t) (by omega)
  | k + 1, t, h => by
    have hp : 1 ≤ 4 ^ k := Nat.one_le_pow _ _ (by omega)
    cases t with
    | n i => simpa [lv] using hp
    | w l => simpa [lv] using hp
    | c a b c d =>
      simp only [dp] at h
      cases k with
      | zero => have := dp_pos a; omega
      | succ k =>
        have ha := lv_len (k + 1) a (by omega)
        have hb := lv_len (k + 1) b (by omega)
        have hc := lv_len (k + 1) c (by omega)
        have hd := lv_len (k + 1) d (by omega)
        simp only [Nat.add_sub_cancel, lv, List.length_append, Nat.pow_succ] at ha hb hc hd ⊢
        omega
theorem lv_le {t : Tr} (h : dp t ≤ 3) : (lv t).length ≤ 16 := lv_len 3 t h
theorem add_lst {x y : List D} (h : x.length + y.length ≤ 10000) : DL.rAdd (.lst x) (.lst y) = some (.lst (x ++ y)) := by
  show (if x.length + y.length ≤ sizeLine then some (D.lst (x ++ y)) else none) = _
  rw [if_pos (by rw [szl]; omega)]
theorem leaves_ok : ∀ (k : Nat) (t : Tr), dp t ≤ k → k ≤ 3 → m_leaves_of (k + 1) [tD t] = .ok (.lst ((lv t).map tD))
  | 0, t, h, _ => absurd (dp_pos t) (by omega)
  | k + 1, t, h, hk => by
    show toOut (g_leaves_of (m_leaves_of (k + 1)) [.fz (tD t), .no, .no]) = _
    unfold g_leaves_of
    have sh1 : ∀ a : D, short [a] = some [a] := fun _ => rfl
    cases t with
    | n i =>
      have i0 : isiB "tuple" (tD (.n i)) = some false := rfl
      simp only [r_bd, r_ok, r_er, r_stuck, r_rt, r_os, r_eV, r_eB, r_m2, r_m2B, r_m1, r_mB, r_mAnd, r_mOr, r_mNot, r_vAnd, r_vOr, r_vNot, r_mIf, r_sq, r_sqnx, r_sqret, r_sIf, r_sRet, r_sDrop, r_setE, r_setU, r_sSet, r_sSetF, r_aName, r_aNil, r_aCons, r_aTup, r_aLst, r_sAsg, r_mNil, r_mCons, r_mTup, r_mLst, r_mNs, r_mCall, r_lift, r_lifter, r_mMeth, r_mMeth0, r_mProp, r_okOf, r_vIsi, r_mCut, r_mDget, r_mDisp2, r_mBM, r_vCh, r_mCh, r_sPar, r_mFor, r_sFld, r_sRaise, r_m1l, r_mMake, r_liftF, r_both, r_mLc, r_mLc2, r_mSk, r_mSetL, r_toDfz, r_toDow, r_toDdc, r_asB, r_asI, r_iteA, r_itlst, r_ittup, r_it1, r_mLM, r_mCallI, r_isOwn, r_liftI, r_outS, List.getElem?_cons_zero, List.getElem?_cons_succ, List.nil_append, List.set_cons_zero, List.set_cons_succ, List.length_cons, List.length_nil, Nat.reduceAdd, Nat.reduceLT, Nat.reduceEqDiff, ↓reduceIte, if_true, Bool.not_true, Bool.not_false, and_self, Bool.false_eq_true, i0, sh1]
      rfl
    | w l =>
      have i0 : isiB "tuple" (tD (.w l)) = some false := rfl
      simp only [r_bd, r_ok, r_er, r_stuck, r_rt, r_os, r_eV, r_eB, r_m2, r_m2B, r_m1, r_mB, r_mAnd, r_mOr, r_mNot, r_vAnd, r_vOr, r_vNot, r_mIf, r_sq, r_sqnx, r_sqret, r_sIf, r_sRet, r_sDrop, r_setE, r_setU, r_sSet, r_sSetF, r_aName, r_aNil, r_aCons, r_aTup, r_aLst, r_sAsg, r_mNil, r_mCons, r_mTup, r_mLst, r_mNs, r_mCall, r_lift, r_lifter, r_mMeth, r_mMeth0, r_mProp, r_okOf, r_vIsi, r_mCut, r_mDget, r_mDisp2, r_mBM, r_vCh, r_mCh, r_sPar, r_mFor, r_sFld, r_sRaise, r_m1l, r_mMake, r_liftF, r_both, r_mLc, r_mLc2, r_mSk, r_mSetL, r_toDfz, r_toDow, r_toDdc, r_asB, r_asI, r_iteA, r_itlst, r_ittup, r_it1, r_mLM, r_mCallI, r_isOwn, r_liftI, r_outS, List.getElem?_cons_zero, List.getElem?_cons_succ, List.nil_append, List.set_cons_zero, List.set_cons_succ, List.length_cons, List.length_nil, Nat.reduceAdd, Nat.reduceLT, Nat.reduceEqDiff, ↓reduceIte, if_true, Bool.not_true, Bool.not_false, and_self, Bool.false_eq_true, i0, sh1]
      rfl
    | c a b c d =>
      have i0 : isiB "tuple" (tD (.c a b c d)) = some true := rfl
      have ia : itemsA (tD (.c a b c d)) = some ([a, b, c, d].map tD) := rfl
      have hd : ∀ x ∈ [a, b, c, d], dp x ≤ k := by
        simp only [dp] at h
        intro x hx
        simp only [List.mem_cons, List.not_mem_nil, or_false] at hx
        rcases hx with rfl | rfl | rfl | rfl <;> omega
      have hll : ∀ pre x post, [a, b, c, d] = pre ++ x :: post → ((pre.flatMap lv).map tD).length + ((lv x).map tD).length ≤ 10000 := by
        intro pre x post e
        have h1 : (([a, b, c, d].flatMap lv).map tD).length ≤ 64 := by
          have ha := lv_le (t := a) (by have := hd a (by simp); omega)
          have hb := lv_le (t := b) (by have := hd b (by simp); omega)
          have hc := lv_le (t := c) (by have := hd c (by simp); omega)
          have hd := lv_le (t := d) (by have := hd d (by simp); omega)
          simp; omega
        rw [e] at h1
        simp only [List.flatMap_append, List.flatMap_cons, List.map_append, List.length_append] at h1
        omega
      have hf := for_pre (f := tD) (ga := aName 2) (gb := (sSetF 1 (m2B DL.rAdd 1 (mCall (m_leaves_of (k + 1)) (bd (mCons (eV 2) mNil) fun ds => if ds.length = 1 then rt ds else stuck)))))
        (R := fun pre ρ => ∃ e1 e2, ρ = [.fz (tD (.c a b c d)), e1, e2] ∧ (e1 = .ow ((pre.flatMap lv).map tD) ∨ e1 = .fz (.lst ((pre.flatMap lv).map tD)))) [a, b, c, d] (by
          rintro pre x post ρ hx ⟨e1, e2, rfl, he⟩
          have hl := leaves_ok k x (hd x (by rw [hx]; simp)) (by omega)
          have ha := add_lst (hll pre x post hx)
          have ef : ((pre.flatMap lv).map tD ++ (lv x).map tD) = ((pre ++ [x]).flatMap lv).map tD := by simp
          refine ⟨_, ?_, .fz (.lst (((pre ++ [x]).flatMap lv).map tD)), .fz (tD x), rfl, .inr rfl⟩
          rcases he with rfl | rfl
          · simp only [r_bd, r_ok, r_er, r_stuck, r_rt, r_os, r_eV, r_eB, r_m2, r_m2B, r_m1, r_mB, r_mAnd, r_mOr, r_mNot, r_vAnd, r_vOr, r_vNot, r_mIf, r_sq, r_sqnx, r_sqret, r_sIf, r_sRet, r_sDrop, r_setE, r_setU, r_sSet, r_sSetF, r_aName, r_aNil, r_aCons, r_aTup, r_aLst, r_sAsg, r_mNil, r_mCons, r_mTup, r_mLst, r_mNs, r_mCall, r_lift, r_lifter, r_mMeth, r_mMeth0, r_mProp, r_okOf, r_vIsi, r_mCut, r_mDget, r_mDisp2, r_mBM, r_vCh, r_mCh, r_sPar, r_mFor, r_sFld, r_sRaise, r_m1l, r_mMake, r_liftF, r_both, r_mLc, r_mLc2, r_mSk, r_mSetL, r_toDfz, r_toDow, r_toDdc, r_asB, r_asI, r_iteA, r_itlst, r_ittup, r_it1, r_mLM, r_mCallI, r_isOwn, r_liftI, r_outS, List.getElem?_cons_zero, List.getElem?_cons_succ, List.nil_append, List.set_cons_zero, List.set_cons_succ, List.length_cons, List.length_nil, Nat.reduceAdd, Nat.reduceLT, Nat.reduceEqDiff, ↓reduceIte, if_true, Bool.not_true, Bool.not_false, and_self, Bool.false_eq_true, hl, ha, ef]
          · simp only [r_bd, r_ok, r_er, r_stuck, r_rt, r_os, r_eV, r_eB, r_m2, r_m2B, r_m1, r_mB, r_mAnd, r_mOr, r_mNot, r_vAnd, r_vOr, r_vNot, r_mIf, r_sq, r_sqnx, r_sqret, r_sIf, r_sRet, r_sDrop, r_setE, r_setU, r_sSet, r_sSetF, r_aName, r_aNil, r_aCons, r_aTup, r_aLst, r_sAsg, r_mNil, r_mCons, r_mTup, r_mLst, r_mNs, r_mCall, r_lift, r_lifter, r_mMeth, r_mMeth0, r_mProp, r_okOf, r_vIsi, r_mCut, r_mDget, r_mDisp2, r_mBM, r_vCh, r_mCh, r_sPar, r_mFor, r_sFld, r_sRaise, r_m1l, r_mMake, r_liftF, r_both, r_mLc, r_mLc2, r_mSk, r_mSetL, r_toDfz, r_toDow, r_toDdc, r_asB, r_asI, r_iteA, r_itlst, r_ittup, r_it1, r_mLM, r_mCallI, r_isOwn, r_liftI, r_outS, List.getElem?_cons_zero, List.getElem?_cons_succ, List.nil_append, List.set_cons_zero, List.set_cons_succ, List.length_cons, List.length_nil, Nat.reduceAdd, Nat.reduceLT, Nat.reduceEqDiff, ↓reduceIte, if_true, Bool.not_true, Bool.not_false, and_self, Bool.false_eq_true, hl, ha, ef]) [a, b, c, d] [] rfl
      obtain ⟨ρ', e, e1, e2, rfl, he⟩ := hf [.fz (tD (.c a b c d)), .ow [], .no] ⟨_, _, rfl, .inl rfl⟩
      have el : ([a, b, c, d].flatMap lv) = lv (.c a b c d) := by simp [lv]
      rw [el] at he
      simp only [r_bd, r_ok, r_er, r_stuck, r_rt, r_os, r_eV, r_eB, r_m2, r_m2B, r_m1, r_mB, r_mAnd, r_mOr, r_mNot, r_vAnd, r_vOr, r_vNot, r_mIf, r_sq, r_sqnx, r_sqret, r_sIf, r_sRet, r_sDrop, r_setE, r_setU, r_sSet, r_sSetF, r_aName, r_aNil, r_aCons, r_aTup, r_aLst, r_sAsg, r_mNil, r_mCons, r_mTup, r_mLst, r_mNs, r_mCall, r_lift, r_lifter, r_mMeth, r_mMeth0, r_mProp, r_okOf, r_vIsi, r_mCut, r_mDget, r_mDisp2, r_mBM, r_vCh, r_mCh, r_sPar, r_mFor, r_sFld, r_sRaise, r_m1l, r_mMake, r_liftF, r_both, r_mLc, r_mLc2, r_mSk, r_mSetL, r_toDfz, r_toDow, r_toDdc, r_asB, r_asI, r_iteA, r_itlst, r_ittup, r_it1, r_mLM, r_mCallI, r_isOwn, r_liftI, r_outS, List.getElem?_cons_zero, List.getElem?_cons_succ, List.nil_append, List.set_cons_zero, List.set_cons_succ, List.length_cons, List.length_nil, Nat.reduceAdd, Nat.reduceLT, Nat.reduceEqDiff, ↓reduceIte, if_true, Bool.not_true, Bool.not_false, and_self, Bool.false_eq_true, i0, ia, r_short (l := []) (show 0 ≤ 1000 by decide), e]
      rcases he with rfl | rfl <;> rfl
def wOf : Tr → Option (List Nat)
  | .w l => some l
  | _ => none
def nOf : Tr → Option Int
  | .n i => some (i : Nat)
  | _ => none
def wds (t : Tr) : List (List Nat) := (lv t).filterMap wOf
def dgs (t : Tr) : List Int := (lv t).filterMap nOf
theorem wds_len {t : Tr} (h : dp t ≤ 3) : (wds t).length ≤ 16 := Nat.le_trans (List.length_filterMap_le _ _) (lv_le h)
theorem dgs_len {t : Tr} (h : dp t ≤ 3) : (dgs t).length ≤ 16 := Nat.le_trans (List.length_filterMap_le _ _) (lv_le h)
theorem dup_len' {X : Type} [DecidableEq X] (xs : List X) : (dup xs).length ≤ xs.length := dup_len fun _ h => h
theorem fld_tree (d : D) : fldOf 0 ("tree" : Str) (.obj 0 [(("tree" : Str), d)]) = some d := rfl
theorem term_vars {t : Tr} (h : dp t ≤ 3) : m_Term_variables [termO t] = .ok (.lst ((ascW (wds t)).map sD)) := by
  show toOut (g_Term_variables [.fz (.obj 0 [("tree", tD t)]), .no]) = _
  unfold g_Term_variables
  have hl := leaves_ok 3 t h (by omega)
  have hloop := loop_fm (vs := [1]) (ga := aName 1) (tt := (mB (vIsi (isiB "str") (eB 1)))) (ge := eV 1) (ρ := [.fz (.obj 0 [("tree", tD t)]), .no]) (f := tD) (g := fun x => (wOf x).map sD) (lv t) [] (fun x hx => by
    rcases lv_leaf t x hx with ⟨i, rfl⟩ | ⟨l, rfl⟩
    · exact turn_none rfl (ρ1 := [.fz (.obj 0 [("tree", tD t)]), .fz (.int i)]) rfl (ρ2 := [.fz (.obj 0 [("tree", tD t)]), .fz (.int i)]) rfl ⟨rfl, rfl⟩ rfl
    · exact turn_some rfl (ρ1 := [.fz (.obj 0 [("tree", tD t)]), .fz (sD l)]) rfl (ρ2 := [.fz (.obj 0 [("tree", tD t)]), .fz (sD l)]) rfl (ρ3 := [.fz (.obj 0 [("tree", tD t)]), .fz (sD l)]) rfl ⟨rfl, rfl⟩ rfl) (by have := lv_le h; rw [szl]; simp; omega)
  have ew : ((lv t).filterMap fun x => (wOf x).map sD) = (wds t).map sD := by unfold wds; rw [List.map_filterMap]
  rw [ew] at hloop
  have hs := r_sole hloop
  have h16 := wds_len h
  have hd := dup_len' (wds t)
  simp only [r_bd, r_ok, r_er, r_stuck, r_rt, r_os, r_eV, r_eB, r_m2, r_m2B, r_m1, r_mB, r_mAnd, r_mOr, r_mNot, r_vAnd, r_vOr, r_vNot, r_mIf, r_sq, r_sqnx, r_sqret, r_sIf, r_sRet, r_sDrop, r_setE, r_setU, r_sSet, r_sSetF, r_aName, r_aNil, r_aCons, r_aTup, r_aLst, r_sAsg, r_mNil, r_mCons, r_mTup, r_mLst, r_mNs, r_mCall, r_lift, r_lifter, r_mMeth, r_mMeth0, r_mProp, r_okOf, r_vIsi, r_mCut, r_mDget, r_mDisp2, r_mBM, r_vCh, r_mCh, r_sPar, r_mFor, r_sFld, r_sRaise, r_m1l, r_mMake, r_liftF, r_both, r_mLc, r_mLc2, r_mSk, r_mSetL, r_toDfz, r_toDow, r_toDdc, r_asB, r_asI, r_iteA, r_itlst, r_ittup, r_it1, r_mLM, r_mCallI, r_isOwn, r_liftI, r_outS, List.getElem?_cons_zero, List.getElem?_cons_succ, List.nil_append, List.set_cons_zero, List.set_cons_succ, List.length_cons, List.length_nil, Nat.reduceAdd, Nat.reduceLT, Nat.reduceEqDiff, ↓reduceIte, if_true, Bool.not_true, Bool.not_false, and_self, Bool.false_eq_true, fld_tree, hl, hs, asc_words (show (dup (wds t)).length < 60 by omega) (by omega)]
  rfl
theorem term_consts {t : Tr} (h : dp t ≤ 3) : m_Term_constants [termO t] = .ok (.lst ((ascN (dgs t)).map D.int)) := by
  show toOut (g_Term_constants [.fz (.obj 0 [("tree", tD t)]), .no]) = _
  unfold g_Term_constants
  have hl := leaves_ok 3 t h (by omega)
  have hloop := loop_fm (vs := [1]) (ga := aName 1) (tt := (mB (mCall m_is_whole (bd (mCons (eV 1) mNil) fun ds => if ds.length = 1 then rt ds else stuck)))) (ge := eV 1) (ρ := [.fz (.obj 0 [("tree", tD t)]), .no]) (f := tD) (g := fun x => (nOf x).map D.int) (lv t) [] (fun x hx => by
    rcases lv_leaf t x hx with ⟨i, rfl⟩ | ⟨l, rfl⟩
    · exact turn_some rfl (ρ1 := [.fz (.obj 0 [("tree", tD t)]), .fz (.int i)]) rfl (ρ2 := [.fz (.obj 0 [("tree", tD t)]), .fz (.int i)]) rfl (ρ3 := [.fz (.obj 0 [("tree", tD t)]), .fz (.int i)]) rfl ⟨rfl, rfl⟩ rfl
    · exact turn_none rfl (ρ1 := [.fz (.obj 0 [("tree", tD t)]), .fz (sD l)]) rfl (ρ2 := [.fz (.obj 0 [("tree", tD t)]), .fz (sD l)]) rfl ⟨rfl, rfl⟩ rfl) (by have := lv_le h; rw [szl]; simp; omega)
  have ew : ((lv t).filterMap fun x => (nOf x).map D.int) = (dgs t).map D.int := by unfold dgs; rw [List.map_filterMap]
  rw [ew] at hloop
  have hs := r_sole hloop
  have h16 := dgs_len h
  have hd := dup_len' (dgs t)
  simp only [r_bd, r_ok, r_er, r_stuck, r_rt, r_os, r_eV, r_eB, r_m2, r_m2B, r_m1, r_mB, r_mAnd, r_mOr, r_mNot, r_vAnd, r_vOr, r_vNot, r_mIf, r_sq, r_sqnx, r_sqret, r_sIf, r_sRet, r_sDrop, r_setE, r_setU, r_sSet, r_sSetF, r_aName, r_aNil, r_aCons, r_aTup, r_aLst, r_sAsg, r_mNil, r_mCons, r_mTup, r_mLst, r_mNs, r_mCall, r_lift, r_lifter, r_mMeth, r_mMeth0, r_mProp, r_okOf, r_vIsi, r_mCut, r_mDget, r_mDisp2, r_mBM, r_vCh, r_mCh, r_sPar, r_mFor, r_sFld, r_sRaise, r_m1l, r_mMake, r_liftF, r_both, r_mLc, r_mLc2, r_mSk, r_mSetL, r_toDfz, r_toDow, r_toDdc, r_asB, r_asI, r_iteA, r_itlst, r_ittup, r_it1, r_mLM, r_mCallI, r_isOwn, r_liftI, r_outS, List.getElem?_cons_zero, List.getElem?_cons_succ, List.nil_append, List.set_cons_zero, List.set_cons_succ, List.length_cons, List.length_nil, Nat.reduceAdd, Nat.reduceLT, Nat.reduceEqDiff, ↓reduceIte, if_true, Bool.not_true, Bool.not_false, and_self, Bool.false_eq_true, fld_tree, hl, hs, asc_numbers (show (dup (dgs t)).length < 60 by omega) (by omega)]
  rfl
end G
end
section
set_option Elab.async false
set_option linter.all false
set_option maxRecDepth 100000
set_option maxHeartbeats 4000000
namespace G
open PySem PySem.Spec PyProof.Rows L2 DL
/-! ### processes -/
structure Pr where
  n : List Nat
  w : List (List Nat)
  ds : List Dd
def procO (p : Pr) : D := .obj 2 [("title", sD p.n), ("waited", .lst (p.w.map sD)), ("done", .lst (p.ds.map deedO))]
def procD (p : Pr) : D := .tup [sD p.n, .lst (p.w.map sD), .lst (p.ds.map deedD)]
structure Pr.Ok (p : Pr) : Prop where
  n : Wd p.n
  nt : p.n ≠ [116, 117, 114, 110]
  w : ∀ x ∈ p.w, Wd x
  wn : p.w.Nodup
  w1 : 1 ≤ p.w.length
  w4 : p.w.length ≤ 4
  d : ∀ d ∈ p.ds, d.Ok
  d1 : 1 ≤ p.ds.length
  d4 : p.ds.length ≤ 4
theorem lit_turn : ("turn" : Str) = S [116, 117, 114, 110] := by decide +kernel
theorem list_lst (l : List D) : rToList (.lst l) = some l := rfl
theorem isn_lst (l : List D) : rIsN (.lst l) .non = some (.bl false) := rfl
theorem put_waited (a x : D) : putD ("waited" : Str) x [(("title" : Str), a)] = [(("title" : Str), a), (("waited" : Str), x)] := rfl
theorem put_done (a b x : D) : putD ("done" : Str) x [(("title" : Str), a), (("waited" : Str), b)] = [(("title" : Str), a), (("waited" : Str), b), (("done" : Str), x)] := rfl
theorem proc_init {p : Pr} (h : p.Ok) : m_Process_init [sD p.n, .lst (p.w.map sD), .lst (p.ds.map fun d => sD (dtx d))] = .ok [("title", sD p.n), ("waited", .lst (p.w.map sD)), ("done", .lst (p.ds.map deedO))] := by
  show toOutF 2 (g_Process_init [.ob 2 [], .fz (sD p.n), .fz (.lst (p.w.map sD)), .fz (.lst (p.ds.map fun d => sD (dtx d))), .no]) = _
  unfold g_Process_init
  have hu := unlike (ws := p.w) (lo := 1) (hi := 4) h.w h.wn (by have := h.w1; omega) (by have := h.w4; omega) (by have := h.w4; omega)
  simp only [r_bd, r_ok, r_er, r_stuck, r_rt, r_os, r_eV, r_eB, r_m2, r_m2B, r_m1, r_mB, r_mAnd, r_mOr, r_mNot, r_vAnd, r_vOr, r_vNot, r_mIf, r_sq, r_sqnx, r_sqret, r_sIf, r_sRet, r_sDrop, r_setE, r_setU, r_sSet, r_sSetF, r_aName, r_aNil, r_aCons, r_aTup, r_aLst, r_sAsg, r_mNil, r_mCons, r_mTup, r_mLst, r_mNs, r_mCall, r_lift, r_lifter, r_mMeth, r_mMeth0, r_mProp, r_okOf, r_vIsi, r_mCut, r_mDget, r_mDisp2, r_mBM, r_vCh, r_mCh, r_sPar, r_mFor, r_sFld, r_sRaise, r_m1l, r_mMake, r_liftF, r_both, r_mLc, r_mLc2, r_mSk, r_mSetL, r_toDfz, r_toDow, r_toDdc, r_asB, r_asI, r_iteA, r_itlst, r_ittup, r_it1, r_mLM, r_mCallI, r_isOwn, r_liftI, r_outS, List.getElem?_cons_zero, List.getElem?_cons_succ, List.nil_append, List.set_cons_zero, List.set_cons_succ, List.length_cons, List.length_nil, Nat.reduceAdd, Nat.reduceLT, Nat.reduceEqDiff, ↓reduceIte, if_true, Bool.not_true, Bool.not_false, and_self, Bool.false_eq_true, isw_Wd h.n, lit_turn, req_S, h.nt, decide_false, hu, deeds_of h.d h.d1 h.d4, isn_lst, r_putFld, put_nil, put_waited, put_done, list_lst]
  rfl
theorem made_process {p : Pr} (h : p.Ok) : m_law_made_process [procD p] = .ok (procO p) := by
  show toOut (g_law_made_process [.fz (.tup [sD p.n, .lst (p.w.map sD), .lst (p.ds.map deedD)]), .no]) = _
  unfold g_law_made_process
  have hloop := loop_mp (vs := [1]) (ga := aName 1) (tt := rt true) (ge := (mCall m_law_deed_text (bd (mCons (eV 1) mNil) fun ds => if ds.length = 1 then rt ds else stuck))) (ρ := [.fz (.tup [sD p.n, .lst (p.w.map sD), .lst (p.ds.map deedD)]), .no]) (f := deedD) (g := fun d => sD (dtx d)) p.ds [] (fun d hd => by
    refine turn_some rfl (ρ1 := [.fz (.tup [sD p.n, .lst (p.w.map sD), .lst (p.ds.map deedD)]), .fz (deedD d)]) rfl rfl (ρ3 := [.fz (.tup [sD p.n, .lst (p.w.map sD), .lst (p.ds.map deedD)]), .fz (deedD d)]) ?_ ⟨rfl, rfl⟩ rfl
    simp only [r_bd, r_ok, r_er, r_stuck, r_rt, r_os, r_eV, r_eB, r_m2, r_m2B, r_m1, r_mB, r_mAnd, r_mOr, r_mNot, r_vAnd, r_vOr, r_vNot, r_mIf, r_sq, r_sqnx, r_sqret, r_sIf, r_sRet, r_sDrop, r_setE, r_setU, r_sSet, r_sSetF, r_aName, r_aNil, r_aCons, r_aTup, r_aLst, r_sAsg, r_mNil, r_mCons, r_mTup, r_mLst, r_mNs, r_mCall, r_lift, r_lifter, r_mMeth, r_mMeth0, r_mProp, r_okOf, r_vIsi, r_mCut, r_mDget, r_mDisp2, r_mBM, r_vCh, r_mCh, r_sPar, r_mFor, r_sFld, r_sRaise, r_m1l, r_mMake, r_liftF, r_both, r_mLc, r_mLc2, r_mSk, r_mSetL, r_toDfz, r_toDow, r_toDdc, r_asB, r_asI, r_iteA, r_itlst, r_ittup, r_it1, r_mLM, r_mCallI, r_isOwn, r_liftI, r_outS, List.getElem?_cons_zero, List.getElem?_cons_succ, List.nil_append, List.set_cons_zero, List.set_cons_succ, List.length_cons, List.length_nil, Nat.reduceAdd, Nat.reduceLT, Nat.reduceEqDiff, ↓reduceIte, if_true, Bool.not_true, Bool.not_false, and_self, Bool.false_eq_true, deed_text (h.d d hd)]) (by have := h.d4; rw [szl]; simp; omega)
  have hs := r_sole hloop
  simp only [r_bd, r_ok, r_er, r_stuck, r_rt, r_os, r_eV, r_eB, r_m2, r_m2B, r_m1, r_mB, r_mAnd, r_mOr, r_mNot, r_vAnd, r_vOr, r_vNot, r_mIf, r_sq, r_sqnx, r_sqret, r_sIf, r_sRet, r_sDrop, r_setE, r_setU, r_sSet, r_sSetF, r_aName, r_aNil, r_aCons, r_aTup, r_aLst, r_sAsg, r_mNil, r_mCons, r_mTup, r_mLst, r_mNs, r_mCall, r_lift, r_lifter, r_mMeth, r_mMeth0, r_mProp, r_okOf, r_vIsi, r_mCut, r_mDget, r_mDisp2, r_mBM, r_vCh, r_mCh, r_sPar, r_mFor, r_sFld, r_sRaise, r_m1l, r_mMake, r_liftF, r_both, r_mLc, r_mLc2, r_mSk, r_mSetL, r_toDfz, r_toDow, r_toDdc, r_asB, r_asI, r_iteA, r_itlst, r_ittup, r_it1, r_mLM, r_mCallI, r_isOwn, r_liftI, r_outS, List.getElem?_cons_zero, List.getElem?_cons_succ, List.nil_append, List.set_cons_zero, List.set_cons_succ, List.length_cons, List.length_nil, Nat.reduceAdd, Nat.reduceLT, Nat.reduceEqDiff, ↓reduceIte, if_true, Bool.not_true, Bool.not_false, and_self, Bool.false_eq_true, t3_0, t3_1, t3_2, hs, proc_init h]
  rfl
theorem fld_title (a b c : D) : fldOf 2 ("title" : Str) (.obj 2 [(("title" : Str), a), (("waited" : Str), b), (("done" : Str), c)]) = some a := rfl
theorem fld_waited (a b c : D) : fldOf 2 ("waited" : Str) (.obj 2 [(("title" : Str), a), (("waited" : Str), b), (("done" : Str), c)]) = some b := rfl
theorem fld_done (a b c : D) : fldOf 2 ("done" : Str) (.obj 2 [(("title" : Str), a), (("waited" : Str), b), (("done" : Str), c)]) = some c := rfl
theorem fld_target (a b c : D) : fldOf 1 ("target" : Str) (.obj 1 [(("target" : Str), a), (("source" : Str), b), (("is_late" : Str), c)]) = some a := rfl
theorem fld_source (a b c : D) : fldOf 1 ("source" : Str) (.obj 1 [(("target" : Str), a), (("source" : Str), b), (("is_late" : Str), c)]) = some b := rfl
theorem fld_late (a b c : D) : fldOf 1 ("is_late" : Str) (.obj 1 [(("target" : Str), a), (("source" : Str), b), (("is_late" : Str), c)]) = some c := rfl
theorem pname (p : Pr) : m_Process_name [procO p] = .ok (sD p.n) := by
  show toOut (g_Process_name [.fz (procO p)]) = _
  unfold g_Process_name procO
  simp only [r_bd, r_ok, r_er, r_stuck, r_rt, r_os, r_eV, r_eB, r_m2, r_m2B, r_m1, r_mB, r_mAnd, r_mOr, r_mNot, r_vAnd, r_vOr, r_vNot, r_mIf, r_sq, r_sqnx, r_sqret, r_sIf, r_sRet, r_sDrop, r_setE, r_setU, r_sSet, r_sSetF, r_aName, r_aNil, r_aCons, r_aTup, r_aLst, r_sAsg, r_mNil, r_mCons, r_mTup, r_mLst, r_mNs, r_mCall, r_lift, r_lifter, r_mMeth, r_mMeth0, r_mProp, r_okOf, r_vIsi, r_mCut, r_mDget, r_mDisp2, r_mBM, r_vCh, r_mCh, r_sPar, r_mFor, r_sFld, r_sRaise, r_m1l, r_mMake, r_liftF, r_both, r_mLc, r_mLc2, r_mSk, r_mSetL, r_toDfz, r_toDow, r_toDdc, r_asB, r_asI, r_iteA, r_itlst, r_ittup, r_it1, r_mLM, r_mCallI, r_isOwn, r_liftI, r_outS, List.getElem?_cons_zero, List.getElem?_cons_succ, List.nil_append, List.set_cons_zero, List.set_cons_succ, List.length_cons, List.length_nil, Nat.reduceAdd, Nat.reduceLT, Nat.reduceEqDiff, ↓reduceIte, if_true, Bool.not_true, Bool.not_false, and_self, Bool.false_eq_true, fld_title]
  rfl
theorem dvar (d : Dd) : m_Deed_variable [deedO d] = .ok (sD d.v) := by
  show toOut (g_Deed_variable [.fz (deedO d)]) = _
  unfold g_Deed_variable deedO
  simp only [r_bd, r_ok, r_er, r_stuck, r_rt, r_os, r_eV, r_eB, r_m2, r_m2B, r_m1, r_mB, r_mAnd, r_mOr, r_mNot, r_vAnd, r_vOr, r_vNot, r_mIf, r_sq, r_sqnx, r_sqret, r_sIf, r_sRet, r_sDrop, r_setE, r_setU, r_sSet, r_sSetF, r_aName, r_aNil, r_aCons, r_aTup, r_aLst, r_sAsg, r_mNil, r_mCons, r_mTup, r_mLst, r_mNs, r_mCall, r_lift, r_lifter, r_mMeth, r_mMeth0, r_mProp, r_okOf, r_vIsi, r_mCut, r_mDget, r_mDisp2, r_mBM, r_vCh, r_mCh, r_sPar, r_mFor, r_sFld, r_sRaise, r_m1l, r_mMake, r_liftF, r_both, r_mLc, r_mLc2, r_mSk, r_mSetL, r_toDfz, r_toDow, r_toDdc, r_asB, r_asI, r_iteA, r_itlst, r_ittup, r_it1, r_mLM, r_mCallI, r_isOwn, r_liftI, r_outS, List.getElem?_cons_zero, List.getElem?_cons_succ, List.nil_append, List.set_cons_zero, List.set_cons_succ, List.length_cons, List.length_nil, Nat.reduceAdd, Nat.reduceLT, Nat.reduceEqDiff, ↓reduceIte, if_true, Bool.not_true, Bool.not_false, and_self, Bool.false_eq_true, fld_target]
  rfl
theorem dterm (d : Dd) : m_Deed_term [deedO d] = .ok (termO d.t) := by
  show toOut (g_Deed_term [.fz (deedO d)]) = _
  unfold g_Deed_term deedO
  simp only [r_bd, r_ok, r_er, r_stuck, r_rt, r_os, r_eV, r_eB, r_m2, r_m2B, r_m1, r_mB, r_mAnd, r_mOr, r_mNot, r_vAnd, r_vOr, r_vNot, r_mIf, r_sq, r_sqnx, r_sqret, r_sIf, r_sRet, r_sDrop, r_setE, r_setU, r_sSet, r_sSetF, r_aName, r_aNil, r_aCons, r_aTup, r_aLst, r_sAsg, r_mNil, r_mCons, r_mTup, r_mLst, r_mNs, r_mCall, r_lift, r_lifter, r_mMeth, r_mMeth0, r_mProp, r_okOf, r_vIsi, r_mCut, r_mDget, r_mDisp2, r_mBM, r_vCh, r_mCh, r_sPar, r_mFor, r_sFld, r_sRaise, r_m1l, r_mMake, r_liftF, r_both, r_mLc, r_mLc2, r_mSk, r_mSetL, r_toDfz, r_toDow, r_toDdc, r_asB, r_asI, r_iteA, r_itlst, r_ittup, r_it1, r_mLM, r_mCallI, r_isOwn, r_liftI, r_outS, List.getElem?_cons_zero, List.getElem?_cons_succ, List.nil_append, List.set_cons_zero, List.set_cons_succ, List.length_cons, List.length_nil, Nat.reduceAdd, Nat.reduceLT, Nat.reduceEqDiff, ↓reduceIte, if_true, Bool.not_true, Bool.not_false, and_self, Bool.false_eq_true, fld_source]
  rfl
theorem dlate (d : Dd) : m_Deed_late [deedO d] = .ok (.bl d.late) := by
  show toOut (g_Deed_late [.fz (deedO d)]) = _
  unfold g_Deed_late deedO
  simp only [r_bd, r_ok, r_er, r_stuck, r_rt, r_os, r_eV, r_eB, r_m2, r_m2B, r_m1, r_mB, r_mAnd, r_mOr, r_mNot, r_vAnd, r_vOr, r_vNot, r_mIf, r_sq, r_sqnx, r_sqret, r_sIf, r_sRet, r_sDrop, r_setE, r_setU, r_sSet, r_sSetF, r_aName, r_aNil, r_aCons, r_aTup, r_aLst, r_sAsg, r_mNil, r_mCons, r_mTup, r_mLst, r_mNs, r_mCall, r_lift, r_lifter, r_mMeth, r_mMeth0, r_mProp, r_okOf, r_vIsi, r_mCut, r_mDget, r_mDisp2, r_mBM, r_vCh, r_mCh, r_sPar, r_mFor, r_sFld, r_sRaise, r_m1l, r_mMake, r_liftF, r_both, r_mLc, r_mLc2, r_mSk, r_mSetL, r_toDfz, r_toDow, r_toDdc, r_asB, r_asI, r_iteA, r_itlst, r_ittup, r_it1, r_mLM, r_mCallI, r_isOwn, r_liftI, r_outS, List.getElem?_cons_zero, List.getElem?_cons_succ, List.nil_append, List.set_cons_zero, List.set_cons_succ, List.length_cons, List.length_nil, Nat.reduceAdd, Nat.reduceLT, Nat.reduceEqDiff, ↓reduceIte, if_true, Bool.not_true, Bool.not_false, and_self, Bool.false_eq_true, fld_late]
  rfl
theorem oo1 (d : Dd) : objOf 1 (deedO d) = some (deedO d) := rfl
theorem oo2 (d : Pr) : objOf 2 (procO d) = some (procO d) := rfl
theorem rc_vars (t : Tr) : recv 0 ("variables" : Str) (termO t) = some (termO t) := rfl
theorem rc_cons (t : Tr) : recv 0 ("constants" : Str) (termO t) = some (termO t) := rfl
theorem rc2 (p : Pr) : recv 2 ("reads" : Str) (procO p) = some (procO p) ∧ recv 2 ("writes" : Str) (procO p) = some (procO p) ∧ recv 2 ("variables" : Str) (procO p) = some (procO p) ∧ recv 2 ("constants" : Str) (procO p) = some (procO p) ∧ recv 2 ("at_once" : Str) (procO p) = some (procO p) := ⟨rfl, rfl, rfl, rfl, rfl⟩
theorem fld_done' (p : Pr) : fldOf 2 ("done" : Str) (procO p) = some (.lst (p.ds.map deedO)) := rfl
theorem fld_waited' (p : Pr) : fldOf 2 ("waited" : Str) (procO p) = some (.lst (p.w.map sD)) := rfl
theorem fld_title' (p : Pr) : fldOf 2 ("title" : Str) (procO p) = some (sD p.n) := rfl
def rdW (p : Pr) : List (List Nat) := ascW (p.ds.flatMap fun d => ascW (wds d.t))
def wrW (p : Pr) : List (List Nat) := ascW (p.ds.map (·.v))
def cnN (p : Pr) : List Int := ascN (p.ds.flatMap fun d => ascN (dgs d.t))
def vrW (p : Pr) : List (List Nat) := ascW (p.w ++ rdW p ++ wrW p)
def onc (p : Pr) : List Nat := p.ds.zipIdx.filterMap fun q => if q.1.late then none else some q.2
/-- whose words are of W, whose numbers of C -/
structure Pr.In (p : Pr) (W : List (List Nat)) (C : List Int) : Prop where
  ok : p.Ok
  w : ∀ x ∈ p.w, x ∈ W
  v : ∀ d ∈ p.ds, d.v ∈ W
  t : ∀ d ∈ p.ds, ∀ x ∈ wds d.t, x ∈ W
  c : ∀ d ∈ p.ds, ∀ x ∈ dgs d.t, x ∈ C
theorem flat_len {X Y : Type} {f : X → List Y} {k : Nat} : ∀ (l : List X), (∀ x ∈ l, (f x).length ≤ k) → (l.flatMap f).length ≤ l.length * k
  | [], _ => by simp
  | x :: r, h => by
    have h1 := h x List.mem_cons_self
    have h2 := flat_len r fun y hy => h y (List.mem_cons_of_mem _ hy)
    rw [List.flatMap_cons, List.length_append, List.length_cons, Nat.succ_mul]
    omega
section
variable {p : Pr} {W : List (List Nat)} {C : List Int}
theorem reads_ok (h : p.In W C) (hW : W.length ≤ 20) : m_Process_reads [procO p] = .ok (.lst ((rdW p).map sD)) := by
  show toOut (g_Process_reads [.fz (procO p), .no, .no]) = _
  unfold g_Process_reads
  have hfl : (p.ds.flatMap fun d => ascW (wds d.t)).length ≤ 4 * 20 := by
    have := flat_len (f := fun d => ascW (wds d.t)) (k := 20) p.ds fun d hd => Nat.le_trans (ascW_len (h.t d hd)) hW
    have := h.ok.d4
    omega
  have e : (p.ds.flatMap fun d => (ascW (wds d.t)).map sD) = (p.ds.flatMap fun d => ascW (wds d.t)).map sD := by rw [List.map_flatMap]
  have hloop := loop2 (vs := [1, 2]) (ga := aName 1) (tt := rt true) (gi1 := (bd (mMeth0 0 ("variables" : Str) m_Term_variables (mProp 1 m_Deed_term (eV 1))) fun d => opt (itemsA d))) (vs1 := [2]) (ga1 := aName 2) (tt1 := rt true) (ge := eV 2) (ρ := [.fz (procO p), .no, .no]) (f := deedO) (g := fun d => (ascW (wds d.t)).map sD) p.ds [] (fun d hd acc hacc => by
    have hin := loop_mp (vs := [2]) (ga := aName 2) (tt := rt true) (ge := eV 2) (ρ := [.fz (procO p), .fz (deedO d), .no]) (f := sD) (g := sD) (ascW (wds d.t)) acc (fun x hx => turn_some rfl (ρ1 := [.fz (procO p), .fz (deedO d), .fz (sD x)]) rfl rfl (ρ3 := [.fz (procO p), .fz (deedO d), .fz (sD x)]) rfl ⟨rfl, rfl⟩ rfl) (by simpa using hacc)
    refine turn2 rfl (ρ1 := [.fz (procO p), .fz (deedO d), .no]) rfl rfl (ρ3 := [.fz (procO p), .fz (deedO d), .no]) ?_ hin ⟨rfl, rfl⟩ rfl
    simp only [r_bd, r_ok, r_er, r_stuck, r_rt, r_os, r_eV, r_eB, r_m2, r_m2B, r_m1, r_mB, r_mAnd, r_mOr, r_mNot, r_vAnd, r_vOr, r_vNot, r_mIf, r_sq, r_sqnx, r_sqret, r_sIf, r_sRet, r_sDrop, r_setE, r_setU, r_sSet, r_sSetF, r_aName, r_aNil, r_aCons, r_aTup, r_aLst, r_sAsg, r_mNil, r_mCons, r_mTup, r_mLst, r_mNs, r_mCall, r_lift, r_lifter, r_mMeth, r_mMeth0, r_mProp, r_okOf, r_vIsi, r_mCut, r_mDget, r_mDisp2, r_mBM, r_vCh, r_mCh, r_sPar, r_mFor, r_sFld, r_sRaise, r_m1l, r_mMake, r_liftF, r_both, r_mLc, r_mLc2, r_mSk, r_mSetL, r_toDfz, r_toDow, r_toDdc, r_asB, r_asI, r_iteA, r_itlst, r_ittup, r_it1, r_mLM, r_mCallI, r_isOwn, r_liftI, r_outS, List.getElem?_cons_zero, List.getElem?_cons_succ, List.nil_append, List.set_cons_zero, List.set_cons_succ, List.length_cons, List.length_nil, Nat.reduceAdd, Nat.reduceLT, Nat.reduceEqDiff, ↓reduceIte, if_true, Bool.not_true, Bool.not_false, and_self, Bool.false_eq_true, oo1, dterm, rc_vars, term_vars (h.ok.d d hd).dp]) (by rw [e, List.length_map, szl]; simp only [List.length_nil]; omega)
  rw [e] at hloop
  have hs := r_sole hloop
  have hd : (dup (p.ds.flatMap fun d => ascW (wds d.t))).length ≤ W.length := dup_len fun x hx => by
    obtain ⟨d, hd, hx⟩ := List.mem_flatMap.mp hx
    exact h.t d hd x (ascW_mem.mp hx)
  simp only [r_bd, r_ok, r_er, r_stuck, r_rt, r_os, r_eV, r_eB, r_m2, r_m2B, r_m1, r_mB, r_mAnd, r_mOr, r_mNot, r_vAnd, r_vOr, r_vNot, r_mIf, r_sq, r_sqnx, r_sqret, r_sIf, r_sRet, r_sDrop, r_setE, r_setU, r_sSet, r_sSetF, r_aName, r_aNil, r_aCons, r_aTup, r_aLst, r_sAsg, r_mNil, r_mCons, r_mTup, r_mLst, r_mNs, r_mCall, r_lift, r_lifter, r_mMeth, r_mMeth0, r_mProp, r_okOf, r_vIsi, r_mCut, r_mDget, r_mDisp2, r_mBM, r_vCh, r_mCh, r_sPar, r_mFor, r_sFld, r_sRaise, r_m1l, r_mMake, r_liftF, r_both, r_mLc, r_mLc2, r_mSk, r_mSetL, r_toDfz, r_toDow, r_toDdc, r_asB, r_asI, r_iteA, r_itlst, r_ittup, r_it1, r_mLM, r_mCallI, r_isOwn, r_liftI, r_outS, List.getElem?_cons_zero, List.getElem?_cons_succ, List.nil_append, List.set_cons_zero, List.set_cons_succ, List.length_cons, List.length_nil, Nat.reduceAdd, Nat.reduceLT, Nat.reduceEqDiff, ↓reduceIte, if_true, Bool.not_true, Bool.not_false, and_self, Bool.false_eq_true, fld_done', hs, asc_words (show (dup (p.ds.flatMap fun d => ascW (wds d.t))).length < 60 by omega) (by omega)]
  rfl
theorem consts_ok (h : p.In W C) (hC : C.length ≤ 20) : m_Process_constants [procO p] = .ok (.lst ((cnN p).map D.int)) := by
  show toOut (g_Process_constants [.fz (procO p), .no, .no]) = _
  unfold g_Process_constants
  have hfl : (p.ds.flatMap fun d => ascN (dgs d.t)).length ≤ 4 * 20 := by
    have := flat_len (f := fun d => ascN (dgs d.t)) (k := 20) p.ds fun d hd => Nat.le_trans (ascN_len (h.c d hd)) hC
    have := h.ok.d4
    omega
  have e : (p.ds.flatMap fun d => (ascN (dgs d.t)).map D.int) = (p.ds.flatMap fun d => ascN (dgs d.t)).map D.int := by rw [List.map_flatMap]
  have hloop := loop2 (vs := [1, 2]) (ga := aName 1) (tt := rt true) (gi1 := (bd (mMeth0 0 ("constants" : Str) m_Term_constants (mProp 1 m_Deed_term (eV 1))) fun d => opt (itemsA d))) (vs1 := [2]) (ga1 := aName 2) (tt1 := rt true) (ge := eV 2) (ρ := [.fz (procO p), .no, .no]) (f := deedO) (g := fun d => (ascN (dgs d.t)).map D.int) p.ds [] (fun d hd acc hacc => by
    have hin := loop_mp (vs := [2]) (ga := aName 2) (tt := rt true) (ge := eV 2) (ρ := [.fz (procO p), .fz (deedO d), .no]) (f := D.int) (g := D.int) (ascN (dgs d.t)) acc (fun x hx => turn_some rfl (ρ1 := [.fz (procO p), .fz (deedO d), .fz (.int x)]) rfl rfl (ρ3 := [.fz (procO p), .fz (deedO d), .fz (.int x)]) rfl ⟨rfl, rfl⟩ rfl) (by simpa using hacc)
    refine turn2 rfl (ρ1 := [.fz (procO p), .fz (deedO d), .no]) rfl rfl (ρ3 := [.fz (procO p), .fz (deedO d), .no]) ?_ hin ⟨rfl, rfl⟩ rfl
    simp only [r_bd, r_ok, r_er, r_stuck, r_rt, r_os, r_eV, r_eB, r_m2, r_m2B, r_m1, r_mB, r_mAnd, r_mOr, r_mNot, r_vAnd, r_vOr, r_vNot, r_mIf, r_sq, r_sqnx, r_sqret, r_sIf, r_sRet, r_sDrop, r_setE, r_setU, r_sSet, r_sSetF, r_aName, r_aNil, r_aCons, r_aTup, r_aLst, r_sAsg, r_mNil, r_mCons, r_mTup, r_mLst, r_mNs, r_mCall, r_lift, r_lifter, r_mMeth, r_mMeth0, r_mProp, r_okOf, r_vIsi, r_mCut, r_mDget, r_mDisp2, r_mBM, r_vCh, r_mCh, r_sPar, r_mFor, r_sFld, r_sRaise, r_m1l, r_mMake, r_liftF, r_both, r_mLc, r_mLc2, r_mSk, r_mSetL, r_toDfz, r_toDow, r_toDdc, r_asB, r_asI, r_iteA, r_itlst, r_ittup, r_it1, r_mLM, r_mCallI, r_isOwn, r_liftI, r_outS, List.getElem?_cons_zero, List.getElem?_cons_succ, List.nil_append, List.set_cons_zero, List.set_cons_succ, List.length_cons, List.length_nil, Nat.reduceAdd, Nat.reduceLT, Nat.reduceEqDiff, ↓reduceIte, if_true, Bool.not_true, Bool.not_false, and_self, Bool.false_eq_true, oo1, dterm, rc_cons, term_consts (h.ok.d d hd).dp]) (by rw [e, List.length_map, szl]; simp only [List.length_nil]; omega)
  rw [e] at hloop
  have hs := r_sole hloop
  have hd : (dup (p.ds.flatMap fun d => ascN (dgs d.t))).length ≤ C.length := dup_len fun x hx => by
    obtain ⟨d, hd, hx⟩ := List.mem_flatMap.mp hx
    exact h.c d hd x (ascN_mem.mp hx)
  simp only [r_bd, r_ok, r_er, r_stuck, r_rt, r_os, r_eV, r_eB, r_m2, r_m2B, r_m1, r_mB, r_mAnd, r_mOr, r_mNot, r_vAnd, r_vOr, r_vNot, r_mIf, r_sq, r_sqnx, r_sqret, r_sIf, r_sRet, r_sDrop, r_setE, r_setU, r_sSet, r_sSetF, r_aName, r_aNil, r_aCons, r_aTup, r_aLst, r_sAsg, r_mNil, r_mCons, r_mTup, r_mLst, r_mNs, r_mCall, r_lift, r_lifter, r_mMeth, r_mMeth0, r_mProp, r_okOf, r_vIsi, r_mCut, r_mDget, r_mDisp2, r_mBM, r_vCh, r_mCh, r_sPar, r_mFor, r_sFld, r_sRaise, r_m1l, r_mMake, r_liftF, r_both, r_mLc, r_mLc2, r_mSk, r_mSetL, r_toDfz, r_toDow, r_toDdc, r_asB, r_asI, r_iteA, r_itlst, r_ittup, r_it1, r_mLM, r_mCallI, r_isOwn, r_liftI, r_outS, List.getElem?_cons_zero, List.getElem?_cons_succ, List.nil_append, List.set_cons_zero, List.set_cons_succ, List.length_cons, List.length_nil, Nat.reduceAdd, Nat.reduceLT, Nat.reduceEqDiff, ↓reduceIte, if_true, Bool.not_true, Bool.not_false, and_self, Bool.false_eq_true, fld_done', hs, asc_numbers (show (dup (p.ds.flatMap fun d => ascN (dgs d.t))).length < 60 by omega) (by omega)]
  rfl
theorem writes_ok (h : p.Ok) : m_Process_writes [procO p] = .ok (.lst ((wrW p).map sD)) := by
  show toOut (g_Process_writes [.fz (procO p), .no]) = _
  unfold g_Process_writes
  have h4 := h.d4
  have hloop := loop_mp (vs := [1]) (ga := aName 1) (tt := rt true) (ge := mProp 1 m_Deed_variable (eV 1)) (ρ := [.fz (procO p), .no]) (f := deedO) (g := fun d => sD d.v) p.ds [] (fun d hd => by
    refine turn_some rfl (ρ1 := [.fz (procO p), .fz (deedO d)]) rfl rfl (ρ3 := [.fz (procO p), .fz (deedO d)]) ?_ ⟨rfl, rfl⟩ rfl
    simp only [r_bd, r_ok, r_er, r_stuck, r_rt, r_os, r_eV, r_eB, r_m2, r_m2B, r_m1, r_mB, r_mAnd, r_mOr, r_mNot, r_vAnd, r_vOr, r_vNot, r_mIf, r_sq, r_sqnx, r_sqret, r_sIf, r_sRet, r_sDrop, r_setE, r_setU, r_sSet, r_sSetF, r_aName, r_aNil, r_aCons, r_aTup, r_aLst, r_sAsg, r_mNil, r_mCons, r_mTup, r_mLst, r_mNs, r_mCall, r_lift, r_lifter, r_mMeth, r_mMeth0, r_mProp, r_okOf, r_vIsi, r_mCut, r_mDget, r_mDisp2, r_mBM, r_vCh, r_mCh, r_sPar, r_mFor, r_sFld, r_sRaise, r_m1l, r_mMake, r_liftF, r_both, r_mLc, r_mLc2, r_mSk, r_mSetL, r_toDfz, r_toDow, r_toDdc, r_asB, r_asI, r_iteA, r_itlst, r_ittup, r_it1, r_mLM, r_mCallI, r_isOwn, r_liftI, r_outS, List.getElem?_cons_zero, List.getElem?_cons_succ, List.nil_append, List.set_cons_zero, List.set_cons_succ, List.length_cons, List.length_nil, Nat.reduceAdd, Nat.reduceLT, Nat.reduceEqDiff, ↓reduceIte, if_true, Bool.not_true, Bool.not_false, and_self, Bool.false_eq_true, oo1, dvar]) (by rw [szl]; simp; omega)
  have e : (p.ds.map fun d => sD d.v) = (p.ds.map (·.v)).map sD := by rw [List.map_map]; rfl
  rw [e] at hloop
  have hs := r_sole hloop
  have hd := dup_len' (p.ds.map (·.v))
  rw [List.length_map] at hd
  simp only [r_bd, r_ok, r_er, r_stuck, r_rt, r_os, r_eV, r_eB, r_m2, r_m2B, r_m1, r_mB, r_mAnd, r_mOr, r_mNot, r_vAnd, r_vOr, r_vNot, r_mIf, r_sq, r_sqnx, r_sqret, r_sIf, r_sRet, r_sDrop, r_setE, r_setU, r_sSet, r_sSetF, r_aName, r_aNil, r_aCons, r_aTup, r_aLst, r_sAsg, r_mNil, r_mCons, r_mTup, r_mLst, r_mNs, r_mCall, r_lift, r_lifter, r_mMeth, r_mMeth0, r_mProp, r_okOf, r_vIsi, r_mCut, r_mDget, r_mDisp2, r_mBM, r_vCh, r_mCh, r_sPar, r_mFor, r_sFld, r_sRaise, r_m1l, r_mMake, r_liftF, r_both, r_mLc, r_mLc2, r_mSk, r_mSetL, r_toDfz, r_toDow, r_toDdc, r_asB, r_asI, r_iteA, r_itlst, r_ittup, r_it1, r_mLM, r_mCallI, r_isOwn, r_liftI, r_outS, List.getElem?_cons_zero, List.getElem?_cons_succ, List.nil_append, List.set_cons_zero, List.set_cons_succ, List.length_cons, List.length_nil, Nat.reduceAdd, Nat.reduceLT, Nat.reduceEqDiff, ↓reduceIte, if_true, Bool.not_true, Bool.not_false, and_self, Bool.false_eq_true, fld_done', hs, asc_words (show (dup (p.ds.map (·.v))).length < 60 by omega) (by rw [List.length_map]; omega)]
  rfl
theorem rd_len (h : p.In W C) : (rdW p).length ≤ W.length := ascW_len fun x hx => by
  obtain ⟨d, hd, hx⟩ := List.mem_flatMap.mp hx
  exact h.t d hd x (ascW_mem.mp hx)
theorem wr_len (h : p.In W C) : (wrW p).length ≤ W.length := ascW_len fun x hx => by
  obtain ⟨d, hd, rfl⟩ := List.mem_map.mp hx
  exact h.v d hd
theorem vr_in (h : p.In W C) : ∀ x ∈ p.w ++ rdW p ++ wrW p, x ∈ W := fun x hx => by
  rw [List.mem_append, List.mem_append] at hx
  rcases hx with (hx | hx) | hx
  · exact h.w x hx
  · obtain ⟨d, hd, hx⟩ := List.mem_flatMap.mp (ascW_mem.mp hx)
    exact h.t d hd x (ascW_mem.mp hx)
  · obtain ⟨d, hd, rfl⟩ := List.mem_map.mp (ascW_mem.mp hx)
    exact h.v d hd
theorem vr_len (h : p.In W C) : (vrW p).length ≤ W.length := ascW_len (vr_in h)
theorem cn_len (h : p.In W C) : (cnN p).length ≤ C.length := ascN_len fun x hx => by
  obtain ⟨d, hd, hx⟩ := List.mem_flatMap.mp hx
  exact h.c d hd x (ascN_mem.mp hx)
theorem vars_ok (h : p.In W C) (hW : W.length ≤ 20) : m_Process_variables [procO p] = .ok (.lst ((vrW p).map sD)) := by
  show toOut (g_Process_variables [.fz (procO p)]) = _
  unfold g_Process_variables
  obtain ⟨r1, r2, _⟩ := rc2 p
  have h4 := h.ok.w4
  have l1 := rd_len h
  have l2 := wr_len h
  have hd := dup_len (vr_in h)
  simp only [r_bd, r_ok, r_er, r_stuck, r_rt, r_os, r_eV, r_eB, r_m2, r_m2B, r_m1, r_mB, r_mAnd, r_mOr, r_mNot, r_vAnd, r_vOr, r_vNot, r_mIf, r_sq, r_sqnx, r_sqret, r_sIf, r_sRet, r_sDrop, r_setE, r_setU, r_sSet, r_sSetF, r_aName, r_aNil, r_aCons, r_aTup, r_aLst, r_sAsg, r_mNil, r_mCons, r_mTup, r_mLst, r_mNs, r_mCall, r_lift, r_lifter, r_mMeth, r_mMeth0, r_mProp, r_okOf, r_vIsi, r_mCut, r_mDget, r_mDisp2, r_mBM, r_vCh, r_mCh, r_sPar, r_mFor, r_sFld, r_sRaise, r_m1l, r_mMake, r_liftF, r_both, r_mLc, r_mLc2, r_mSk, r_mSetL, r_toDfz, r_toDow, r_toDdc, r_asB, r_asI, r_iteA, r_itlst, r_ittup, r_it1, r_mLM, r_mCallI, r_isOwn, r_liftI, r_outS, List.getElem?_cons_zero, List.getElem?_cons_succ, List.nil_append, List.set_cons_zero, List.set_cons_succ, List.length_cons, List.length_nil, Nat.reduceAdd, Nat.reduceLT, Nat.reduceEqDiff, ↓reduceIte, if_true, Bool.not_true, Bool.not_false, and_self, Bool.false_eq_true, fld_waited', r1, r2, reads_ok h hW, writes_ok h.ok, add_lst (show (p.w.map sD).length + ((rdW p).map sD).length ≤ 10000 by rw [List.length_map, List.length_map]; omega),
    add_lst (show (p.w.map sD ++ (rdW p).map sD).length + ((wrW p).map sD).length ≤ 10000 by rw [List.length_append, List.length_map, List.length_map, List.length_map]; omega)]
  rw [← List.map_append, ← List.map_append]
  simp only [r_bd, r_ok, r_er, r_stuck, r_rt, r_os, r_eV, r_eB, r_m2, r_m2B, r_m1, r_mB, r_mAnd, r_mOr, r_mNot, r_vAnd, r_vOr, r_vNot, r_mIf, r_sq, r_sqnx, r_sqret, r_sIf, r_sRet, r_sDrop, r_setE, r_setU, r_sSet, r_sSetF, r_aName, r_aNil, r_aCons, r_aTup, r_aLst, r_sAsg, r_mNil, r_mCons, r_mTup, r_mLst, r_mNs, r_mCall, r_lift, r_lifter, r_mMeth, r_mMeth0, r_mProp, r_okOf, r_vIsi, r_mCut, r_mDget, r_mDisp2, r_mBM, r_vCh, r_mCh, r_sPar, r_mFor, r_sFld, r_sRaise, r_m1l, r_mMake, r_liftF, r_both, r_mLc, r_mLc2, r_mSk, r_mSetL, r_toDfz, r_toDow, r_toDdc, r_asB, r_asI, r_iteA, r_itlst, r_ittup, r_it1, r_mLM, r_mCallI, r_isOwn, r_liftI, r_outS, List.getElem?_cons_zero, List.getElem?_cons_succ, List.nil_append, List.set_cons_zero, List.set_cons_succ, List.length_cons, List.length_nil, Nat.reduceAdd, Nat.reduceLT, Nat.reduceEqDiff, ↓reduceIte, if_true, Bool.not_true, Bool.not_false, and_self, Bool.false_eq_true, asc_words (show (dup (p.w ++ rdW p ++ wrW p)).length < 60 by omega) (by rw [List.length_append, List.length_append]; omega)]
  rfl
theorem at_once_ok (h : p.Ok) : m_Process_at_once [procO p] = .ok (.lst ((onc p).map fun i => D.int (i : Nat))) := by
  show toOut (g_Process_at_once [.fz (procO p), .no, .no]) = _
  unfold g_Process_at_once
  have h4 := h.d4
  have ee : enumD (p.ds.map deedO) = p.ds.zipIdx.map fun q => D.tup [.int (q.2 : Nat), deedO q.1] := by
    unfold enumD
    rw [List.zipIdx_map, List.map_map]; rfl
  have hloop := loop_fm (vs := [1, 2]) (ga := (aTup 2 (aCons (aName 1) (aCons (aName 2) aNil)))) (tt := (mNot (mB (mProp 1 m_Deed_late (eV 2))))) (ge := eV 1) (ρ := [.fz (procO p), .no, .no]) (f := fun q => D.tup [.int (q.2 : Nat), deedO q.1]) (g := fun q => (if q.1.late then none else some q.2).map fun i => D.int (i : Nat)) p.ds.zipIdx [] (fun q hq => by
    cases hl : q.1.late with
    | true =>
      refine turn_none rfl (ρ1 := [.fz (procO p), .fz (.int (q.2 : Nat)), .fz (deedO q.1)]) rfl (ρ2 := [.fz (procO p), .fz (.int (q.2 : Nat)), .fz (deedO q.1)]) ?_ ⟨rfl, rfl⟩ rfl
      simp only [r_bd, r_ok, r_er, r_stuck, r_rt, r_os, r_eV, r_eB, r_m2, r_m2B, r_m1, r_mB, r_mAnd, r_mOr, r_mNot, r_vAnd, r_vOr, r_vNot, r_mIf, r_sq, r_sqnx, r_sqret, r_sIf, r_sRet, r_sDrop, r_setE, r_setU, r_sSet, r_sSetF, r_aName, r_aNil, r_aCons, r_aTup, r_aLst, r_sAsg, r_mNil, r_mCons, r_mTup, r_mLst, r_mNs, r_mCall, r_lift, r_lifter, r_mMeth, r_mMeth0, r_mProp, r_okOf, r_vIsi, r_mCut, r_mDget, r_mDisp2, r_mBM, r_vCh, r_mCh, r_sPar, r_mFor, r_sFld, r_sRaise, r_m1l, r_mMake, r_liftF, r_both, r_mLc, r_mLc2, r_mSk, r_mSetL, r_toDfz, r_toDow, r_toDdc, r_asB, r_asI, r_iteA, r_itlst, r_ittup, r_it1, r_mLM, r_mCallI, r_isOwn, r_liftI, r_outS, List.getElem?_cons_zero, List.getElem?_cons_succ, List.nil_append, List.set_cons_zero, List.set_cons_succ, List.length_cons, List.length_nil, Nat.reduceAdd, Nat.reduceLT, Nat.reduceEqDiff, ↓reduceIte, if_true, Bool.not_true, Bool.not_false, and_self, Bool.false_eq_true, oo1, dlate, hl]
    | false =>
      refine turn_some rfl (ρ1 := [.fz (procO p), .fz (.int (q.2 : Nat)), .fz (deedO q.1)]) rfl (ρ2 := [.fz (procO p), .fz (.int (q.2 : Nat)), .fz (deedO q.1)]) ?_ (ρ3 := [.fz (procO p), .fz (.int (q.2 : Nat)), .fz (deedO q.1)]) rfl ⟨rfl, rfl⟩ rfl
      simp only [r_bd, r_ok, r_er, r_stuck, r_rt, r_os, r_eV, r_eB, r_m2, r_m2B, r_m1, r_mB, r_mAnd, r_mOr, r_mNot, r_vAnd, r_vOr, r_vNot, r_mIf, r_sq, r_sqnx, r_sqret, r_sIf, r_sRet, r_sDrop, r_setE, r_setU, r_sSet, r_sSetF, r_aName, r_aNil, r_aCons, r_aTup, r_aLst, r_sAsg, r_mNil, r_mCons, r_mTup, r_mLst, r_mNs, r_mCall, r_lift, r_lifter, r_mMeth, r_mMeth0, r_mProp, r_okOf, r_vIsi, r_mCut, r_mDget, r_mDisp2, r_mBM, r_vCh, r_mCh, r_sPar, r_mFor, r_sFld, r_sRaise, r_m1l, r_mMake, r_liftF, r_both, r_mLc, r_mLc2, r_mSk, r_mSetL, r_toDfz, r_toDow, r_toDdc, r_asB, r_asI, r_iteA, r_itlst, r_ittup, r_it1, r_mLM, r_mCallI, r_isOwn, r_liftI, r_outS, List.getElem?_cons_zero, List.getElem?_cons_succ, List.nil_append, List.set_cons_zero, List.set_cons_succ, List.length_cons, List.length_nil, Nat.reduceAdd, Nat.reduceLT, Nat.reduceEqDiff, ↓reduceIte, if_true, Bool.not_true, Bool.not_false, and_self, Bool.false_eq_true, oo1, dlate, hl]) (by rw [szl]; simp; omega)
  have e : (p.ds.zipIdx.filterMap fun q => (if q.1.late then none else some q.2).map fun i => D.int (i : Nat)) = (onc p).map fun i => D.int (i : Nat) := by unfold onc; rw [List.map_filterMap]
  rw [e] at hloop
  have hs := r_sole hloop
  simp only [r_bd, r_ok, r_er, r_stuck, r_rt, r_os, r_eV, r_eB, r_m2, r_m2B, r_m1, r_mB, r_mAnd, r_mOr, r_mNot, r_vAnd, r_vOr, r_vNot, r_mIf, r_sq, r_sqnx, r_sqret, r_sIf, r_sRet, r_sDrop, r_setE, r_setU, r_sSet, r_sSetF, r_aName, r_aNil, r_aCons, r_aTup, r_aLst, r_sAsg, r_mNil, r_mCons, r_mTup, r_mLst, r_mNs, r_mCall, r_lift, r_lifter, r_mMeth, r_mMeth0, r_mProp, r_okOf, r_vIsi, r_mCut, r_mDget, r_mDisp2, r_mBM, r_vCh, r_mCh, r_sPar, r_mFor, r_sFld, r_sRaise, r_m1l, r_mMake, r_liftF, r_both, r_mLc, r_mLc2, r_mSk, r_mSetL, r_toDfz, r_toDow, r_toDdc, r_asB, r_asI, r_iteA, r_itlst, r_ittup, r_it1, r_mLM, r_mCallI, r_isOwn, r_liftI, r_outS, List.getElem?_cons_zero, List.getElem?_cons_succ, List.nil_append, List.set_cons_zero, List.set_cons_succ, List.length_cons, List.length_nil, Nat.reduceAdd, Nat.reduceLT, Nat.reduceEqDiff, ↓reduceIte, if_true, Bool.not_true, Bool.not_false, and_self, Bool.false_eq_true, fld_done', ee, hs]
  rfl
end
end G
end
section
set_option Elab.async false
set_option linter.all false
set_option maxRecDepth 100000
set_option maxHeartbeats 4000000
namespace G
open PySem PySem.Spec PyProof.Rows L2 DL
/-! ### programs -/
structure Pg where
  ps : List Pr
  inp : List (List Nat)
structure Pg.Ok (P : Pg) (W : List (List Nat)) (C : List Int) : Prop where
  p : ∀ p ∈ P.ps, p.In W C
  p1 : 1 ≤ P.ps.length
  p5 : P.ps.length ≤ 5
  nn : (P.ps.map (·.n)).Nodup
  i : ∀ x ∈ P.inp, Wd x
  ind : P.inp.Nodup
  i1 : 1 ≤ P.inp.length
  i3 : P.inp.length ≤ 3
  iw : ∀ x ∈ P.inp, x ∈ W
  nw : ∀ p ∈ P.ps, ∀ d ∈ p.ds, d.v ∉ P.inp
  W5 : W.length ≤ 5
  C2 : C.length ≤ 2
  once : (P.ps.map fun p => (onc p).length).sum ≤ 8
def avW (P : Pg) : List (List Nat) := ascW (P.inp ++ P.ps.flatMap vrW)
def acN (P : Pg) : List Int := ascN (P.ps.flatMap cnN)
def progO (P : Pg) : D := .obj 3 [("line", .lst (P.ps.map procO)), ("titles", .lst (P.ps.map fun p => sD p.n)), ("given", .lst (P.inp.map sD)), ("words", .lst ((avW P).map sD)), ("numbers", .lst ((acN P).map D.int))]
def plainD (P : Pg) : D := .dic [(.inr "processes", .lst (P.ps.map procD)), (.inr "inputs", .lst (P.inp.map sD))]
theorem isi2_proc (p : Pr) : isiO 2 (procO p) = some true := rfl
theorem plainL_S : ∀ ws : List (List Nat), D.plainL (ws.map sD) = true
  | [] => rfl
  | x :: r => by show (true && D.plainL (r.map sD)) = true; rw [plainL_S r]; rfl
theorem pyL_map {X : Type} (f : X → D) : ∀ l : List X, D.pyL (l.map f) = l.map fun x => (f x).py
  | [] => rfl
  | x :: r => by show (f x).py :: D.pyL (r.map f) = _; rw [pyL_map f r]; rfl
theorem any_S (w : List Nat) : ∀ ws : List (List Nat), anyEq (sD w) (ws.map sD) = decide (w ∈ ws)
  | [] => rfl
  | x :: r => by
    have h := any_S w r
    unfold anyEq at h ⊢
    rw [pyL_map] at h ⊢
    rw [List.map_cons, List.any_cons, h]
    have e : PyData.eqv (sD x).py (sD w).py = decide (w = x) := by
      show PyData.eqv (.str (S x)) (.str (S w)) = _
      rw [eqv_str]
      by_cases q : w = x
      · subst q; simp
      · rw [decide_eq_false q, decide_eq_false fun e => q (S_inj e).symm]
    rw [e]
    by_cases q : w = x
    · subst q; simp
    · simp [q]
theorem rinB_L (w : List Nat) (ws : List (List Nat)) : rInB (sD w) (.lst (ws.map sD)) = some (decide (w ∈ ws)) := by
  show (if okIn (sD w) (ws.map sD) = true then some (anyEq (sD w) (ws.map sD)) else none) = _
  have : okIn (sD w) (ws.map sD) = true := by
    unfold okIn
    rw [plainL_S]
    have e : (sD w).py.depth = 0 := by show PyData.depth (.str _) = 0; simp only [PyData.depth]
    rw [e]
    simp [D.plain]
  rw [if_pos this, any_S]
theorem rin_L (w : List Nat) (ws : List (List Nat)) : DL.rIn (sD w) (.lst (ws.map sD)) = some (.bl (decide (w ∈ ws))) := by unfold DL.rIn; rw [rinB_L]; rfl
theorem wrW_mem {p : Pr} {w : List Nat} : w ∈ wrW p ↔ ∃ d ∈ p.ds, d.v = w := by unfold wrW; rw [ascW_mem, List.mem_map]
section
variable {P : Pg} {W : List (List Nat)} {C : List Int}
theorem are_procs (h : P.Ok W C) : m_are_processes [.lst (P.ps.map procO)] = .ok (.bl true) := by
  show toOut (g_are_processes [.fz (.lst (P.ps.map procO)), .no]) = _
  unfold g_are_processes
  have e1 : (1 : Int) ≤ ((P.ps.length : Nat) : Int) := by have := h.p1; omega
  have e5 : ((P.ps.length : Nat) : Int) ≤ 5 := by have := h.p5; omega
  have hloop := loop_fm (vs := [1]) (ga := aName 1) (tt := (mNot (mB (vIsi (isiO 2) (eB 1))))) (ge := eV 1) (ρ := [.fz (.lst (P.ps.map procO)), .no]) (f := procO) (g := fun _ => none) P.ps [] (fun p hp => turn_none rfl (ρ1 := [.fz (.lst (P.ps.map procO)), .fz (procO p)]) rfl (ρ2 := [.fz (.lst (P.ps.map procO)), .fz (procO p)]) rfl ⟨rfl, rfl⟩ rfl) (by have := h.p5; rw [szl]; simp; omega)
  rw [fm_none] at hloop
  have hs := r_sole hloop
  simp only [r_bd, r_ok, r_er, r_stuck, r_rt, r_os, r_eV, r_eB, r_m2, r_m2B, r_m1, r_mB, r_mAnd, r_mOr, r_mNot, r_vAnd, r_vOr, r_vNot, r_mIf, r_sq, r_sqnx, r_sqret, r_sIf, r_sRet, r_sDrop, r_setE, r_setU, r_sSet, r_sSetF, r_aName, r_aNil, r_aCons, r_aTup, r_aLst, r_sAsg, r_mNil, r_mCons, r_mTup, r_mLst, r_mNs, r_mCall, r_lift, r_lifter, r_mMeth, r_mMeth0, r_mProp, r_okOf, r_vIsi, r_mCut, r_mDget, r_mDisp2, r_mBM, r_vCh, r_mCh, r_sPar, r_mFor, r_sFld, r_sRaise, r_m1l, r_mMake, r_liftF, r_both, r_mLc, r_mLc2, r_mSk, r_mSetL, r_toDfz, r_toDow, r_toDdc, r_asB, r_asI, r_iteA, r_itlst, r_ittup, r_it1, r_mLM, r_mCallI, r_isOwn, r_liftI, r_outS, List.getElem?_cons_zero, List.getElem?_cons_succ, List.nil_append, List.set_cons_zero, List.set_cons_succ, List.length_cons, List.length_nil, Nat.reduceAdd, Nat.reduceLT, Nat.reduceEqDiff, ↓reduceIte, if_true, Bool.not_true, Bool.not_false, and_self, Bool.false_eq_true, isi2_lst, len_lst, List.length_map, e1, e5, decide_true, hs, r_short (l := []) (show 0 ≤ 1000 by decide), req_nil]
  rfl
theorem are_inps (h : P.Ok W C) : m_are_inputs [.lst (P.inp.map sD), .lst (P.ps.map procO)] = .ok (.bl true) := by
  show toOut (g_are_inputs [.fz (.lst (P.inp.map sD)), .fz (.lst (P.ps.map procO)), .no, .no]) = _
  unfold g_are_inputs
  have hu := unlike (ws := P.inp) (lo := 1) (hi := 3) h.i h.ind (by have := h.i1; omega) (by have := h.i3; omega) (by have := h.i3; omega)
  have hloop := loop_fm (vs := [2]) (ga := aName 2) (tt := (mB (m2 DL.rNe (bd (mLc (bd (eV 0) fun d => opt (itemsA d)) [3] (aName 3) (mB (m2B DL.rIn 3 (mMeth0 2 ("writes" : Str) m_Process_writes (eV 2)))) (eV 3)) fun x => opt (Ent.toD x)) (bd (mLst mNil) fun x => opt (Ent.toD x))))) (ge := eV 2) (ρ := [.fz (.lst (P.inp.map sD)), .fz (.lst (P.ps.map procO)), .no, .no]) (f := procO) (g := fun _ => none) P.ps [] (fun p hp => by
    have hin := loop_fm (vs := [3]) (ga := aName 3) (tt := (mB (m2B DL.rIn 3 (mMeth0 2 ("writes" : Str) m_Process_writes (eV 2))))) (ge := eV 3) (ρ := [.fz (.lst (P.inp.map sD)), .fz (.lst (P.ps.map procO)), .fz (procO p), .no]) (f := sD) (g := fun _ => none) P.inp [] (fun x hx => by
      refine turn_none rfl (ρ1 := [.fz (.lst (P.inp.map sD)), .fz (.lst (P.ps.map procO)), .fz (procO p), .fz (sD x)]) rfl (ρ2 := [.fz (.lst (P.inp.map sD)), .fz (.lst (P.ps.map procO)), .fz (procO p), .fz (sD x)]) ?_ ⟨rfl, rfl⟩ rfl
      have hx' : x ∉ wrW p := fun e => by
        obtain ⟨d, hd, rfl⟩ := wrW_mem.mp e
        exact h.nw p hp d hd hx
      simp only [r_bd, r_ok, r_er, r_stuck, r_rt, r_os, r_eV, r_eB, r_m2, r_m2B, r_m1, r_mB, r_mAnd, r_mOr, r_mNot, r_vAnd, r_vOr, r_vNot, r_mIf, r_sq, r_sqnx, r_sqret, r_sIf, r_sRet, r_sDrop, r_setE, r_setU, r_sSet, r_sSetF, r_aName, r_aNil, r_aCons, r_aTup, r_aLst, r_sAsg, r_mNil, r_mCons, r_mTup, r_mLst, r_mNs, r_mCall, r_lift, r_lifter, r_mMeth, r_mMeth0, r_mProp, r_okOf, r_vIsi, r_mCut, r_mDget, r_mDisp2, r_mBM, r_vCh, r_mCh, r_sPar, r_mFor, r_sFld, r_sRaise, r_m1l, r_mMake, r_liftF, r_both, r_mLc, r_mLc2, r_mSk, r_mSetL, r_toDfz, r_toDow, r_toDdc, r_asB, r_asI, r_iteA, r_itlst, r_ittup, r_it1, r_mLM, r_mCallI, r_isOwn, r_liftI, r_outS, List.getElem?_cons_zero, List.getElem?_cons_succ, List.nil_append, List.set_cons_zero, List.set_cons_succ, List.length_cons, List.length_nil, Nat.reduceAdd, Nat.reduceLT, Nat.reduceEqDiff, ↓reduceIte, if_true, Bool.not_true, Bool.not_false, and_self, Bool.false_eq_true, (rc2 p).2.1, writes_ok (h.p p hp).ok, rin_L, hx', decide_false]) (by have := h.i3; rw [szl]; simp; omega)
    rw [fm_none] at hin
    have hs := r_sole hin
    refine turn_none rfl (ρ1 := [.fz (.lst (P.inp.map sD)), .fz (.lst (P.ps.map procO)), .fz (procO p), .no]) rfl (ρ2 := [.fz (.lst (P.inp.map sD)), .fz (.lst (P.ps.map procO)), .fz (procO p), .no]) ?_ ⟨rfl, rfl⟩ rfl
    simp only [r_bd, r_ok, r_er, r_stuck, r_rt, r_os, r_eV, r_eB, r_m2, r_m2B, r_m1, r_mB, r_mAnd, r_mOr, r_mNot, r_vAnd, r_vOr, r_vNot, r_mIf, r_sq, r_sqnx, r_sqret, r_sIf, r_sRet, r_sDrop, r_setE, r_setU, r_sSet, r_sSetF, r_aName, r_aNil, r_aCons, r_aTup, r_aLst, r_sAsg, r_mNil, r_mCons, r_mTup, r_mLst, r_mNs, r_mCall, r_lift, r_lifter, r_mMeth, r_mMeth0, r_mProp, r_okOf, r_vIsi, r_mCut, r_mDget, r_mDisp2, r_mBM, r_vCh, r_mCh, r_sPar, r_mFor, r_sFld, r_sRaise, r_m1l, r_mMake, r_liftF, r_both, r_mLc, r_mLc2, r_mSk, r_mSetL, r_toDfz, r_toDow, r_toDdc, r_asB, r_asI, r_iteA, r_itlst, r_ittup, r_it1, r_mLM, r_mCallI, r_isOwn, r_liftI, r_outS, List.getElem?_cons_zero, List.getElem?_cons_succ, List.nil_append, List.set_cons_zero, List.set_cons_succ, List.length_cons, List.length_nil, Nat.reduceAdd, Nat.reduceLT, Nat.reduceEqDiff, ↓reduceIte, if_true, Bool.not_true, Bool.not_false, and_self, Bool.false_eq_true, hs, r_short (l := []) (show 0 ≤ 1000 by decide), rne_nil]) (by have := h.p5; rw [szl]; simp; omega)
  rw [fm_none] at hloop
  have hs := r_sole hloop
  simp only [r_bd, r_ok, r_er, r_stuck, r_rt, r_os, r_eV, r_eB, r_m2, r_m2B, r_m1, r_mB, r_mAnd, r_mOr, r_mNot, r_vAnd, r_vOr, r_vNot, r_mIf, r_sq, r_sqnx, r_sqret, r_sIf, r_sRet, r_sDrop, r_setE, r_setU, r_sSet, r_sSetF, r_aName, r_aNil, r_aCons, r_aTup, r_aLst, r_sAsg, r_mNil, r_mCons, r_mTup, r_mLst, r_mNs, r_mCall, r_lift, r_lifter, r_mMeth, r_mMeth0, r_mProp, r_okOf, r_vIsi, r_mCut, r_mDget, r_mDisp2, r_mBM, r_vCh, r_mCh, r_sPar, r_mFor, r_sFld, r_sRaise, r_m1l, r_mMake, r_liftF, r_both, r_mLc, r_mLc2, r_mSk, r_mSetL, r_toDfz, r_toDow, r_toDdc, r_asB, r_asI, r_iteA, r_itlst, r_ittup, r_it1, r_mLM, r_mCallI, r_isOwn, r_liftI, r_outS, List.getElem?_cons_zero, List.getElem?_cons_succ, List.nil_append, List.set_cons_zero, List.set_cons_succ, List.length_cons, List.length_nil, Nat.reduceAdd, Nat.reduceLT, Nat.reduceEqDiff, ↓reduceIte, if_true, Bool.not_true, Bool.not_false, and_self, Bool.false_eq_true, hu, hs, r_short (l := []) (show 0 ≤ 1000 by decide), req_nil]
  rfl
theorem av_in (h : P.Ok W C) : ∀ x ∈ P.inp ++ P.ps.flatMap vrW, x ∈ W := fun x hx => by
  rw [List.mem_append] at hx
  rcases hx with hx | hx
  · exact h.iw x hx
  · obtain ⟨p, hp, hx⟩ := List.mem_flatMap.mp hx
    exact vr_in (h.p p hp) x (ascW_mem.mp hx)
theorem ac_in (h : P.Ok W C) : ∀ x ∈ P.ps.flatMap cnN, x ∈ C := fun x hx => by
  obtain ⟨p, hp, hx⟩ := List.mem_flatMap.mp hx
  obtain ⟨d, hd, hx⟩ := List.mem_flatMap.mp (ascN_mem.mp hx)
  exact (h.p p hp).c d hd x (ascN_mem.mp hx)
theorem all_vars (h : P.Ok W C) : m_all_variables [.lst (P.ps.map procO), .lst (P.inp.map sD)] = .ok (.lst ((avW P).map sD)) := by
  show toOut (g_all_variables [.fz (.lst (P.ps.map procO)), .fz (.lst (P.inp.map sD)), .no, .no]) = _
  unfold g_all_variables
  have h5 := h.W5
  have hp5 := h.p5
  have hi3 := h.i3
  have hfl : (P.ps.flatMap vrW).length ≤ 5 * 5 := by
    have := flat_len (f := vrW) (k := 5) P.ps fun p hp => Nat.le_trans (vr_len (h.p p hp)) h.W5
    omega
  have e : (P.ps.flatMap fun p => (vrW p).map sD) = (P.ps.flatMap vrW).map sD := by rw [List.map_flatMap]
  have hloop := loop2 (vs := [2, 3]) (ga := aName 2) (tt := rt true) (gi1 := (bd (mMeth0 2 ("variables" : Str) m_Process_variables (eV 2)) fun d => opt (itemsA d))) (vs1 := [3]) (ga1 := aName 3) (tt1 := rt true) (ge := eV 3) (ρ := [.fz (.lst (P.ps.map procO)), .fz (.lst (P.inp.map sD)), .no, .no]) (f := procO) (g := fun p => (vrW p).map sD) P.ps [] (fun p hp acc hacc => by
    have hin := loop_mp (vs := [3]) (ga := aName 3) (tt := rt true) (ge := eV 3) (ρ := [.fz (.lst (P.ps.map procO)), .fz (.lst (P.inp.map sD)), .fz (procO p), .no]) (f := sD) (g := sD) (vrW p) acc (fun x hx => turn_some rfl (ρ1 := [.fz (.lst (P.ps.map procO)), .fz (.lst (P.inp.map sD)), .fz (procO p), .fz (sD x)]) rfl rfl (ρ3 := [.fz (.lst (P.ps.map procO)), .fz (.lst (P.inp.map sD)), .fz (procO p), .fz (sD x)]) rfl ⟨rfl, rfl⟩ rfl) (by simpa using hacc)
    refine turn2 rfl (ρ1 := [.fz (.lst (P.ps.map procO)), .fz (.lst (P.inp.map sD)), .fz (procO p), .no]) rfl rfl (ρ3 := [.fz (.lst (P.ps.map procO)), .fz (.lst (P.inp.map sD)), .fz (procO p), .no]) ?_ hin ⟨rfl, rfl⟩ rfl
    simp only [r_bd, r_ok, r_er, r_stuck, r_rt, r_os, r_eV, r_eB, r_m2, r_m2B, r_m1, r_mB, r_mAnd, r_mOr, r_mNot, r_vAnd, r_vOr, r_vNot, r_mIf, r_sq, r_sqnx, r_sqret, r_sIf, r_sRet, r_sDrop, r_setE, r_setU, r_sSet, r_sSetF, r_aName, r_aNil, r_aCons, r_aTup, r_aLst, r_sAsg, r_mNil, r_mCons, r_mTup, r_mLst, r_mNs, r_mCall, r_lift, r_lifter, r_mMeth, r_mMeth0, r_mProp, r_okOf, r_vIsi, r_mCut, r_mDget, r_mDisp2, r_mBM, r_vCh, r_mCh, r_sPar, r_mFor, r_sFld, r_sRaise, r_m1l, r_mMake, r_liftF, r_both, r_mLc, r_mLc2, r_mSk, r_mSetL, r_toDfz, r_toDow, r_toDdc, r_asB, r_asI, r_iteA, r_itlst, r_ittup, r_it1, r_mLM, r_mCallI, r_isOwn, r_liftI, r_outS, List.getElem?_cons_zero, List.getElem?_cons_succ, List.nil_append, List.set_cons_zero, List.set_cons_succ, List.length_cons, List.length_nil, Nat.reduceAdd, Nat.reduceLT, Nat.reduceEqDiff, ↓reduceIte, if_true, Bool.not_true, Bool.not_false, and_self, Bool.false_eq_true, (rc2 p).2.2.1, vars_ok (h.p p hp) (by omega)]) (by rw [e, List.length_map, szl]; simp only [List.length_nil]; omega)
  rw [e] at hloop
  have hs := r_sole hloop
  have hd := dup_len (av_in h)
  simp only [r_bd, r_ok, r_er, r_stuck, r_rt, r_os, r_eV, r_eB, r_m2, r_m2B, r_m1, r_mB, r_mAnd, r_mOr, r_mNot, r_vAnd, r_vOr, r_vNot, r_mIf, r_sq, r_sqnx, r_sqret, r_sIf, r_sRet, r_sDrop, r_setE, r_setU, r_sSet, r_sSetF, r_aName, r_aNil, r_aCons, r_aTup, r_aLst, r_sAsg, r_mNil, r_mCons, r_mTup, r_mLst, r_mNs, r_mCall, r_lift, r_lifter, r_mMeth, r_mMeth0, r_mProp, r_okOf, r_vIsi, r_mCut, r_mDget, r_mDisp2, r_mBM, r_vCh, r_mCh, r_sPar, r_mFor, r_sFld, r_sRaise, r_m1l, r_mMake, r_liftF, r_both, r_mLc, r_mLc2, r_mSk, r_mSetL, r_toDfz, r_toDow, r_toDdc, r_asB, r_asI, r_iteA, r_itlst, r_ittup, r_it1, r_mLM, r_mCallI, r_isOwn, r_liftI, r_outS, List.getElem?_cons_zero, List.getElem?_cons_succ, List.nil_append, List.set_cons_zero, List.set_cons_succ, List.length_cons, List.length_nil, Nat.reduceAdd, Nat.reduceLT, Nat.reduceEqDiff, ↓reduceIte, if_true, Bool.not_true, Bool.not_false, and_self, Bool.false_eq_true, list_lst, hs, add_lst (show (P.inp.map sD).length + ((P.ps.flatMap vrW).map sD).length ≤ 10000 by rw [List.length_map, List.length_map]; omega)]
  rw [← List.map_append]
  simp only [r_bd, r_ok, r_er, r_stuck, r_rt, r_os, r_eV, r_eB, r_m2, r_m2B, r_m1, r_mB, r_mAnd, r_mOr, r_mNot, r_vAnd, r_vOr, r_vNot, r_mIf, r_sq, r_sqnx, r_sqret, r_sIf, r_sRet, r_sDrop, r_setE, r_setU, r_sSet, r_sSetF, r_aName, r_aNil, r_aCons, r_aTup, r_aLst, r_sAsg, r_mNil, r_mCons, r_mTup, r_mLst, r_mNs, r_mCall, r_lift, r_lifter, r_mMeth, r_mMeth0, r_mProp, r_okOf, r_vIsi, r_mCut, r_mDget, r_mDisp2, r_mBM, r_vCh, r_mCh, r_sPar, r_mFor, r_sFld, r_sRaise, r_m1l, r_mMake, r_liftF, r_both, r_mLc, r_mLc2, r_mSk, r_mSetL, r_toDfz, r_toDow, r_toDdc, r_asB, r_asI, r_iteA, r_itlst, r_ittup, r_it1, r_mLM, r_mCallI, r_isOwn, r_liftI, r_outS, List.getElem?_cons_zero, List.getElem?_cons_succ, List.nil_append, List.set_cons_zero, List.set_cons_succ, List.length_cons, List.length_nil, Nat.reduceAdd, Nat.reduceLT, Nat.reduceEqDiff, ↓reduceIte, if_true, Bool.not_true, Bool.not_false, and_self, Bool.false_eq_true, asc_words (show (dup (P.inp ++ P.ps.flatMap vrW)).length < 60 by omega) (by rw [List.length_append]; omega)]
  rfl
theorem all_consts (h : P.Ok W C) : m_all_constants [.lst (P.ps.map procO)] = .ok (.lst ((acN P).map D.int)) := by
  show toOut (g_all_constants [.fz (.lst (P.ps.map procO)), .no, .no]) = _
  unfold g_all_constants
  have h2 := h.C2
  have hp5 := h.p5
  have hfl : (P.ps.flatMap cnN).length ≤ 5 * 2 := by
    have := flat_len (f := cnN) (k := 2) P.ps fun p hp => Nat.le_trans (cn_len (h.p p hp)) h.C2
    omega
  have e : (P.ps.flatMap fun p => (cnN p).map D.int) = (P.ps.flatMap cnN).map D.int := by rw [List.map_flatMap]
  have hloop := loop2 (vs := [1, 2]) (ga := aName 1) (tt := rt true) (gi1 := (bd (mMeth0 2 ("constants" : Str) m_Process_constants (eV 1)) fun d => opt (itemsA d))) (vs1 := [2]) (ga1 := aName 2) (tt1 := rt true) (ge := eV 2) (ρ := [.fz (.lst (P.ps.map procO)), .no, .no]) (f := procO) (g := fun p => (cnN p).map D.int) P.ps [] (fun p hp acc hacc => by
    have hin := loop_mp (vs := [2]) (ga := aName 2) (tt := rt true) (ge := eV 2) (ρ := [.fz (.lst (P.ps.map procO)), .fz (procO p), .no]) (f := D.int) (g := D.int) (cnN p) acc (fun x hx => turn_some rfl (ρ1 := [.fz (.lst (P.ps.map procO)), .fz (procO p), .fz (.int x)]) rfl rfl (ρ3 := [.fz (.lst (P.ps.map procO)), .fz (procO p), .fz (.int x)]) rfl ⟨rfl, rfl⟩ rfl) (by simpa using hacc)
    refine turn2 rfl (ρ1 := [.fz (.lst (P.ps.map procO)), .fz (procO p), .no]) rfl rfl (ρ3 := [.fz (.lst (P.ps.map procO)), .fz (procO p), .no]) ?_ hin ⟨rfl, rfl⟩ rfl
    simp only [r_bd, r_ok, r_er, r_stuck, r_rt, r_os, r_eV, r_eB, r_m2, r_m2B, r_m1, r_mB, r_mAnd, r_mOr, r_mNot, r_vAnd, r_vOr, r_vNot, r_mIf, r_sq, r_sqnx, r_sqret, r_sIf, r_sRet, r_sDrop, r_setE, r_setU, r_sSet, r_sSetF, r_aName, r_aNil, r_aCons, r_aTup, r_aLst, r_sAsg, r_mNil, r_mCons, r_mTup, r_mLst, r_mNs, r_mCall, r_lift, r_lifter, r_mMeth, r_mMeth0, r_mProp, r_okOf, r_vIsi, r_mCut, r_mDget, r_mDisp2, r_mBM, r_vCh, r_mCh, r_sPar, r_mFor, r_sFld, r_sRaise, r_m1l, r_mMake, r_liftF, r_both, r_mLc, r_mLc2, r_mSk, r_mSetL, r_toDfz, r_toDow, r_toDdc, r_asB, r_asI, r_iteA, r_itlst, r_ittup, r_it1, r_mLM, r_mCallI, r_isOwn, r_liftI, r_outS, List.getElem?_cons_zero, List.getElem?_cons_succ, List.nil_append, List.set_cons_zero, List.set_cons_succ, List.length_cons, List.length_nil, Nat.reduceAdd, Nat.reduceLT, Nat.reduceEqDiff, ↓reduceIte, if_true, Bool.not_true, Bool.not_false, and_self, Bool.false_eq_true, (rc2 p).2.2.2.1, consts_ok (h.p p hp) (by omega)]) (by rw [e, List.length_map, szl]; simp only [List.length_nil]; omega)
  rw [e] at hloop
  have hs := r_sole hloop
  have hd := dup_len (ac_in h)
  simp only [r_bd, r_ok, r_er, r_stuck, r_rt, r_os, r_eV, r_eB, r_m2, r_m2B, r_m1, r_mB, r_mAnd, r_mOr, r_mNot, r_vAnd, r_vOr, r_vNot, r_mIf, r_sq, r_sqnx, r_sqret, r_sIf, r_sRet, r_sDrop, r_setE, r_setU, r_sSet, r_sSetF, r_aName, r_aNil, r_aCons, r_aTup, r_aLst, r_sAsg, r_mNil, r_mCons, r_mTup, r_mLst, r_mNs, r_mCall, r_lift, r_lifter, r_mMeth, r_mMeth0, r_mProp, r_okOf, r_vIsi, r_mCut, r_mDget, r_mDisp2, r_mBM, r_vCh, r_mCh, r_sPar, r_mFor, r_sFld, r_sRaise, r_m1l, r_mMake, r_liftF, r_both, r_mLc, r_mLc2, r_mSk, r_mSetL, r_toDfz, r_toDow, r_toDdc, r_asB, r_asI, r_iteA, r_itlst, r_ittup, r_it1, r_mLM, r_mCallI, r_isOwn, r_liftI, r_outS, List.getElem?_cons_zero, List.getElem?_cons_succ, List.nil_append, List.set_cons_zero, List.set_cons_succ, List.length_cons, List.length_nil, Nat.reduceAdd, Nat.reduceLT, Nat.reduceEqDiff, ↓reduceIte, if_true, Bool.not_true, Bool.not_false, and_self, Bool.false_eq_true, hs, asc_numbers (show (dup (P.ps.flatMap cnN)).length < 60 by omega) (by omega)]
  rfl
theorem ints_map : ∀ l : List Int, ints? (l.map D.int) = some l
  | [] => rfl
  | x :: r => by show (ints? (r.map D.int)).map _ = _; rw [ints_map r]; rfl
theorem sum_lst (l : List Int) : rSumL (.lst (l.map D.int)) = some (.int l.sum) := by
  show (ints? (l.map D.int)).map _ = _
  rw [ints_map]; rfl
theorem sum_cast : ∀ l : List Nat, (l.map fun (n : Nat) => (n : Int)).sum = (l.sum : Nat)
  | [] => rfl
  | x :: r => by rw [List.map_cons, List.sum_cons, List.sum_cons, sum_cast r]; omega
theorem nmProp (p : Pr) : okOf (m_Process_name [procO p]) = some (sD p.n) := by rw [pname]; rfl
theorem wrong_ok (h : P.Ok W C) : m_first_wrong [.lst (P.ps.map procO), .lst (P.inp.map sD)] = .ok .non := by
  show toOut (g_first_wrong [.fz (.lst (P.ps.map procO)), .fz (.lst (P.inp.map sD)), .no]) = _
  unfold g_first_wrong
  have hp5 := h.p5
  have hk := loop_k (vs := [2]) (ga := aName 2) (tt := rt true) (ge := mProp 2 m_Process_name (eV 2)) (ρ := [.fz (.lst (P.ps.map procO)), .fz (.lst (P.inp.map sD)), .no]) (f := procO) (g := fun p => kS p.n) P.ps [] (fun p hp => ⟨sD p.n, by
    refine turn_some rfl (ρ1 := [.fz (.lst (P.ps.map procO)), .fz (.lst (P.inp.map sD)), .fz (procO p)]) rfl rfl (ρ3 := [.fz (.lst (P.ps.map procO)), .fz (.lst (P.inp.map sD)), .fz (procO p)]) ?_ ⟨rfl, rfl⟩ rfl
    simp only [r_bd, r_ok, r_er, r_stuck, r_rt, r_os, r_eV, r_eB, r_m2, r_m2B, r_m1, r_mB, r_mAnd, r_mOr, r_mNot, r_vAnd, r_vOr, r_vNot, r_mIf, r_sq, r_sqnx, r_sqret, r_sIf, r_sRet, r_sDrop, r_setE, r_setU, r_sSet, r_sSetF, r_aName, r_aNil, r_aCons, r_aTup, r_aLst, r_sAsg, r_mNil, r_mCons, r_mTup, r_mLst, r_mNs, r_mCall, r_lift, r_lifter, r_mMeth, r_mMeth0, r_mProp, r_okOf, r_vIsi, r_mCut, r_mDget, r_mDisp2, r_mBM, r_vCh, r_mCh, r_sPar, r_mFor, r_sFld, r_sRaise, r_m1l, r_mMake, r_liftF, r_both, r_mLc, r_mLc2, r_mSk, r_mSetL, r_toDfz, r_toDow, r_toDdc, r_asB, r_asI, r_iteA, r_itlst, r_ittup, r_it1, r_mLM, r_mCallI, r_isOwn, r_liftI, r_outS, List.getElem?_cons_zero, List.getElem?_cons_succ, List.nil_append, List.set_cons_zero, List.set_cons_succ, List.length_cons, List.length_nil, Nat.reduceAdd, Nat.reduceLT, Nat.reduceEqDiff, ↓reduceIte, if_true, Bool.not_true, Bool.not_false, and_self, Bool.false_eq_true, oo2, nmProp], rfl⟩) (by simp; omega)
  have hf : (P.ps.map fun p => kS p.n).foldl (fun acc k => addK k acc) [] = (P.ps.map (·.n)).map kS := by
    have := foldK_map kS_inj (P.ps.map (·.n)) []
    rw [List.map_map] at this
    exact this.trans (by rw [show (P.ps.map (·.n)).foldl ad [] = dup (P.ps.map (·.n)) from rfl, dup_id h.nn])
  rw [hf] at hk
  have hs := r_sole hk
  have hv : ¬ ((5 : Int) < ((avW P).length : Nat)) := by have := ascW_len (av_in h); have := h.W5; unfold avW; omega
  have hc : ¬ ((2 : Int) < ((acN P).length : Nat)) := by have := ascN_len (ac_in h); have := h.C2; unfold acN; omega
  have hloop := loop_mp (vs := [2]) (ga := aName 2) (tt := rt true) (ge := (m1 DL.rLen (mMeth0 2 ("at_once" : Str) m_Process_at_once (eV 2)))) (ρ := [.fz (.lst (P.ps.map procO)), .fz (.lst (P.inp.map sD)), .no]) (f := procO) (g := fun p => D.int ((onc p).length : Nat)) P.ps [] (fun p hp => by
    refine turn_some rfl (ρ1 := [.fz (.lst (P.ps.map procO)), .fz (.lst (P.inp.map sD)), .fz (procO p)]) rfl rfl (ρ3 := [.fz (.lst (P.ps.map procO)), .fz (.lst (P.inp.map sD)), .fz (procO p)]) ?_ ⟨rfl, rfl⟩ rfl
    simp only [r_bd, r_ok, r_er, r_stuck, r_rt, r_os, r_eV, r_eB, r_m2, r_m2B, r_m1, r_mB, r_mAnd, r_mOr, r_mNot, r_vAnd, r_vOr, r_vNot, r_mIf, r_sq, r_sqnx, r_sqret, r_sIf, r_sRet, r_sDrop, r_setE, r_setU, r_sSet, r_sSetF, r_aName, r_aNil, r_aCons, r_aTup, r_aLst, r_sAsg, r_mNil, r_mCons, r_mTup, r_mLst, r_mNs, r_mCall, r_lift, r_lifter, r_mMeth, r_mMeth0, r_mProp, r_okOf, r_vIsi, r_mCut, r_mDget, r_mDisp2, r_mBM, r_vCh, r_mCh, r_sPar, r_mFor, r_sFld, r_sRaise, r_m1l, r_mMake, r_liftF, r_both, r_mLc, r_mLc2, r_mSk, r_mSetL, r_toDfz, r_toDow, r_toDdc, r_asB, r_asI, r_iteA, r_itlst, r_ittup, r_it1, r_mLM, r_mCallI, r_isOwn, r_liftI, r_outS, List.getElem?_cons_zero, List.getElem?_cons_succ, List.nil_append, List.set_cons_zero, List.set_cons_succ, List.length_cons, List.length_nil, Nat.reduceAdd, Nat.reduceLT, Nat.reduceEqDiff, ↓reduceIte, if_true, Bool.not_true, Bool.not_false, and_self, Bool.false_eq_true, (rc2 p).2.2.2.2, at_once_ok (h.p p hp).ok, len_lst, List.length_map]) (by rw [szl]; simp; omega)
  have es : (P.ps.map fun p => D.int ((onc p).length : Nat)) = ((P.ps.map fun p => (onc p).length).map fun (n : Nat) => (n : Int)).map D.int := by rw [List.map_map, List.map_map]; rfl
  rw [es] at hloop
  have hs2 := r_sole hloop
  have hsum := sum_cast (P.ps.map fun p => (onc p).length)
  have h8 : ¬ ((8 : Int) < ((P.ps.map fun p => (onc p).length).sum : Nat)) := by have := h.once; omega
  have hlt : ¬ (((P.ps.length : Nat) : Int) < ((P.ps.length : Nat) : Int)) := by omega
  simp only [r_bd, r_ok, r_er, r_stuck, r_rt, r_os, r_eV, r_eB, r_m2, r_m2B, r_m1, r_mB, r_mAnd, r_mOr, r_mNot, r_vAnd, r_vOr, r_vNot, r_mIf, r_sq, r_sqnx, r_sqret, r_sIf, r_sRet, r_sDrop, r_setE, r_setU, r_sSet, r_sSetF, r_aName, r_aNil, r_aCons, r_aTup, r_aLst, r_sAsg, r_mNil, r_mCons, r_mTup, r_mLst, r_mNs, r_mCall, r_lift, r_lifter, r_mMeth, r_mMeth0, r_mProp, r_okOf, r_vIsi, r_mCut, r_mDget, r_mDisp2, r_mBM, r_vCh, r_mCh, r_sPar, r_mFor, r_sFld, r_sRaise, r_m1l, r_mMake, r_liftF, r_both, r_mLc, r_mLc2, r_mSk, r_mSetL, r_toDfz, r_toDow, r_toDdc, r_asB, r_asI, r_iteA, r_itlst, r_ittup, r_it1, r_mLM, r_mCallI, r_isOwn, r_liftI, r_outS, List.getElem?_cons_zero, List.getElem?_cons_succ, List.nil_append, List.set_cons_zero, List.set_cons_succ, List.length_cons, List.length_nil, Nat.reduceAdd, Nat.reduceLT, Nat.reduceEqDiff, ↓reduceIte, if_true, Bool.not_true, Bool.not_false, and_self, Bool.false_eq_true, are_procs h, hs, len_lst, List.length_map, ltI, hlt, decide_false, are_inps h, all_vars h, all_consts h, gtI, hv, hc, hs2, sum_lst, hsum, h8]
  rfl
theorem put_titles (a x : D) : putD ("titles" : Str) x [(("line" : Str), a)] = [(("line" : Str), a), (("titles" : Str), x)] := rfl
theorem put_given (a b x : D) : putD ("given" : Str) x [(("line" : Str), a), (("titles" : Str), b)] = [(("line" : Str), a), (("titles" : Str), b), (("given" : Str), x)] := rfl
theorem put_words (a b c x : D) : putD ("words" : Str) x [(("line" : Str), a), (("titles" : Str), b), (("given" : Str), c)] = [(("line" : Str), a), (("titles" : Str), b), (("given" : Str), c), (("words" : Str), x)] := rfl
theorem put_numbers (a b c d x : D) : putD ("numbers" : Str) x [(("line" : Str), a), (("titles" : Str), b), (("given" : Str), c), (("words" : Str), d)] = [(("line" : Str), a), (("titles" : Str), b), (("given" : Str), c), (("words" : Str), d), (("numbers" : Str), x)] := rfl
theorem notn_non : rIsNotN .non .non = some (.bl false) := rfl
theorem prog_init (h : P.Ok W C) : m_Program_init [.lst (P.ps.map procO), .lst (P.inp.map sD)] = .ok [("line", .lst (P.ps.map procO)), ("titles", .lst (P.ps.map fun p => sD p.n)), ("given", .lst (P.inp.map sD)), ("words", .lst ((avW P).map sD)), ("numbers", .lst ((acN P).map D.int))] := by
  show toOutF 3 (g_Program_init [.ob 3 [], .fz (.lst (P.ps.map procO)), .fz (.lst (P.inp.map sD)), .no, .no]) = _
  unfold g_Program_init
  have hp5 := h.p5
  have hloop := fun e0 => loop_mp (vs := [4]) (ga := aName 4) (tt := rt true) (ge := mProp 2 m_Process_name (eV 4)) (ρ := [e0, .fz (.lst (P.ps.map procO)), .fz (.lst (P.inp.map sD)), .fz .non, .no]) (f := procO) (g := fun p => sD p.n) P.ps [] (fun p hp => by
    refine turn_some rfl (ρ1 := [e0, .fz (.lst (P.ps.map procO)), .fz (.lst (P.inp.map sD)), .fz .non, .fz (procO p)]) rfl rfl (ρ3 := [e0, .fz (.lst (P.ps.map procO)), .fz (.lst (P.inp.map sD)), .fz .non, .fz (procO p)]) ?_ ⟨rfl, rfl⟩ rfl
    simp only [r_bd, r_ok, r_er, r_stuck, r_rt, r_os, r_eV, r_eB, r_m2, r_m2B, r_m1, r_mB, r_mAnd, r_mOr, r_mNot, r_vAnd, r_vOr, r_vNot, r_mIf, r_sq, r_sqnx, r_sqret, r_sIf, r_sRet, r_sDrop, r_setE, r_setU, r_sSet, r_sSetF, r_aName, r_aNil, r_aCons, r_aTup, r_aLst, r_sAsg, r_mNil, r_mCons, r_mTup, r_mLst, r_mNs, r_mCall, r_lift, r_lifter, r_mMeth, r_mMeth0, r_mProp, r_okOf, r_vIsi, r_mCut, r_mDget, r_mDisp2, r_mBM, r_vCh, r_mCh, r_sPar, r_mFor, r_sFld, r_sRaise, r_m1l, r_mMake, r_liftF, r_both, r_mLc, r_mLc2, r_mSk, r_mSetL, r_toDfz, r_toDow, r_toDdc, r_asB, r_asI, r_iteA, r_itlst, r_ittup, r_it1, r_mLM, r_mCallI, r_isOwn, r_liftI, r_outS, List.getElem?_cons_zero, List.getElem?_cons_succ, List.nil_append, List.set_cons_zero, List.set_cons_succ, List.length_cons, List.length_nil, Nat.reduceAdd, Nat.reduceLT, Nat.reduceEqDiff, ↓reduceIte, if_true, Bool.not_true, Bool.not_false, and_self, Bool.false_eq_true, oo2, nmProp]) (by rw [szl]; simp; omega)
  have hs := fun e0 => r_sole (hloop e0)
  simp only [r_bd, r_ok, r_er, r_stuck, r_rt, r_os, r_eV, r_eB, r_m2, r_m2B, r_m1, r_mB, r_mAnd, r_mOr, r_mNot, r_vAnd, r_vOr, r_vNot, r_mIf, r_sq, r_sqnx, r_sqret, r_sIf, r_sRet, r_sDrop, r_setE, r_setU, r_sSet, r_sSetF, r_aName, r_aNil, r_aCons, r_aTup, r_aLst, r_sAsg, r_mNil, r_mCons, r_mTup, r_mLst, r_mNs, r_mCall, r_lift, r_lifter, r_mMeth, r_mMeth0, r_mProp, r_okOf, r_vIsi, r_mCut, r_mDget, r_mDisp2, r_mBM, r_vCh, r_mCh, r_sPar, r_mFor, r_sFld, r_sRaise, r_m1l, r_mMake, r_liftF, r_both, r_mLc, r_mLc2, r_mSk, r_mSetL, r_toDfz, r_toDow, r_toDdc, r_asB, r_asI, r_iteA, r_itlst, r_ittup, r_it1, r_mLM, r_mCallI, r_isOwn, r_liftI, r_outS, List.getElem?_cons_zero, List.getElem?_cons_succ, List.nil_append, List.set_cons_zero, List.set_cons_succ, List.length_cons, List.length_nil, Nat.reduceAdd, Nat.reduceLT, Nat.reduceEqDiff, ↓reduceIte, if_true, Bool.not_true, Bool.not_false, and_self, Bool.false_eq_true, wrong_ok h, notn_non, r_putFld, put_nil, list_lst, hs, put_titles, put_given, put_words, put_numbers, all_vars h, all_consts h]
  rfl
theorem get_processes (a b : D) : rDget (.dic [(.inr ("processes" : Str), a), (.inr ("inputs" : Str), b)]) (.str ("processes" : Str)) = some a := rfl
theorem get_inputs (a b : D) : rDget (.dic [(.inr ("processes" : Str), a), (.inr ("inputs" : Str), b)]) (.str ("inputs" : Str)) = some b := rfl
theorem made_ok (h : P.Ok W C) : m_law_made [plainD P] = .ok (progO P) := by
  show toOut (g_law_made [.fz (.dic [(.inr "processes", .lst (P.ps.map procD)), (.inr "inputs", .lst (P.inp.map sD))]), .no]) = _
  unfold g_law_made
  have hp5 := h.p5
  have hloop := fun e0 => loop_mp (vs := [1]) (ga := aName 1) (tt := rt true) (ge := (mCall m_law_made_process (bd (mCons (eV 1) mNil) fun ds => if ds.length = 1 then rt ds else stuck))) (ρ := [e0, .no]) (f := procD) (g := procO) P.ps [] (fun p hp => by
    refine turn_some rfl (ρ1 := [e0, .fz (procD p)]) rfl rfl (ρ3 := [e0, .fz (procD p)]) ?_ ⟨rfl, rfl⟩ rfl
    simp only [r_bd, r_ok, r_er, r_stuck, r_rt, r_os, r_eV, r_eB, r_m2, r_m2B, r_m1, r_mB, r_mAnd, r_mOr, r_mNot, r_vAnd, r_vOr, r_vNot, r_mIf, r_sq, r_sqnx, r_sqret, r_sIf, r_sRet, r_sDrop, r_setE, r_setU, r_sSet, r_sSetF, r_aName, r_aNil, r_aCons, r_aTup, r_aLst, r_sAsg, r_mNil, r_mCons, r_mTup, r_mLst, r_mNs, r_mCall, r_lift, r_lifter, r_mMeth, r_mMeth0, r_mProp, r_okOf, r_vIsi, r_mCut, r_mDget, r_mDisp2, r_mBM, r_vCh, r_mCh, r_sPar, r_mFor, r_sFld, r_sRaise, r_m1l, r_mMake, r_liftF, r_both, r_mLc, r_mLc2, r_mSk, r_mSetL, r_toDfz, r_toDow, r_toDdc, r_asB, r_asI, r_iteA, r_itlst, r_ittup, r_it1, r_mLM, r_mCallI, r_isOwn, r_liftI, r_outS, List.getElem?_cons_zero, List.getElem?_cons_succ, List.nil_append, List.set_cons_zero, List.set_cons_succ, List.length_cons, List.length_nil, Nat.reduceAdd, Nat.reduceLT, Nat.reduceEqDiff, ↓reduceIte, if_true, Bool.not_true, Bool.not_false, and_self, Bool.false_eq_true, made_process (h.p p hp).ok]) (by rw [szl]; simp; omega)
  have hs := fun e0 => r_sole (hloop e0)
  simp only [r_bd, r_ok, r_er, r_stuck, r_rt, r_os, r_eV, r_eB, r_m2, r_m2B, r_m1, r_mB, r_mAnd, r_mOr, r_mNot, r_vAnd, r_vOr, r_vNot, r_mIf, r_sq, r_sqnx, r_sqret, r_sIf, r_sRet, r_sDrop, r_setE, r_setU, r_sSet, r_sSetF, r_aName, r_aNil, r_aCons, r_aTup, r_aLst, r_sAsg, r_mNil, r_mCons, r_mTup, r_mLst, r_mNs, r_mCall, r_lift, r_lifter, r_mMeth, r_mMeth0, r_mProp, r_okOf, r_vIsi, r_mCut, r_mDget, r_mDisp2, r_mBM, r_vCh, r_mCh, r_sPar, r_mFor, r_sFld, r_sRaise, r_m1l, r_mMake, r_liftF, r_both, r_mLc, r_mLc2, r_mSk, r_mSetL, r_toDfz, r_toDow, r_toDdc, r_asB, r_asI, r_iteA, r_itlst, r_ittup, r_it1, r_mLM, r_mCallI, r_isOwn, r_liftI, r_outS, List.getElem?_cons_zero, List.getElem?_cons_succ, List.nil_append, List.set_cons_zero, List.set_cons_succ, List.length_cons, List.length_nil, Nat.reduceAdd, Nat.reduceLT, Nat.reduceEqDiff, ↓reduceIte, if_true, Bool.not_true, Bool.not_false, and_self, Bool.false_eq_true, get_processes, get_inputs, hs, prog_init h]
  rfl
end
end G
end
section
set_option Elab.async false
set_option linter.all false
set_option maxRecDepth 100000
set_option maxHeartbeats 4000000
namespace G
open PySem PySem.Spec PyProof.Rows L2 DL
/-! ### equal programs -/
theorem req_refl {d : D} (h : d.plain = true) (h2 : d.py.depth ≤ 60) : DL.rEq d d = some (.bl true) := by
  have e := PySem.SeqAt.eqv_refl_plain d.py (py_plain d h)
  unfold DL.rEq
  have ok : okEq d d = true := by unfold okEq; rw [h]; simp [h2]
  rw [if_pos ok, e]
theorem rne_refl {d : D} (h : d.plain = true) (h2 : d.py.depth ≤ 60) : DL.rNe d d = some (.bl false) := by
  have e := PySem.SeqAt.eqv_refl_plain d.py (py_plain d h)
  unfold DL.rNe
  have ok : okEq d d = true := by unfold okEq; rw [h]; simp [h2]
  rw [if_pos ok, e]; rfl
theorem tD_plain : ∀ t : Tr, (tD t).plain = true
  | .n i => rfl
  | .w l => rfl
  | .c a b c d => by simp [tD, D.plain, D.plainL, tD_plain a, tD_plain b, tD_plain c, tD_plain d]
theorem tD_depth : ∀ t : Tr, (tD t).py.depth ≤ dp t
  | .n i => by simp [tD, D.py, PyData.depth]
  | .w l => by simp [tD, D.py, PyData.depth]
  | .c a b c d => by
    have := tD_depth a
    have := tD_depth b
    have := tD_depth c
    have := tD_depth d
    simp only [tD, D.py, D.pyL, PyData.depth, PyData.depthAll, dp]
    omega
theorem strs_plain (ws : List (List Nat)) : (D.lst (ws.map sD)).plain = true := by simp only [D.plain]; exact plainL_S ws
theorem strs_depth0 : ∀ ws : List (List Nat), PyData.depthAll (D.pyL (ws.map sD)) = 0
  | [] => by simp [D.pyL, PyData.depthAll]
  | x :: r => by
    have := strs_depth0 r
    simp only [List.map_cons, D.pyL, D.py, PyData.depthAll, PyData.depth, this]
    rfl
theorem strs_depth (ws : List (List Nat)) : (D.lst (ws.map sD)).py.depth ≤ 60 := by
  simp only [D.py, PyData.depth, strs_depth0]
  omega
theorem isi0_term (t : Tr) : isiO 0 (termO t) = some true := rfl
theorem isi1_deed (t : Dd) : isiO 1 (deedO t) = some true := rfl
theorem fld_tree' (t : Tr) : fldOf 0 ("tree" : Str) (termO t) = some (tD t) := rfl
theorem term_eq {t : Tr} (h : dp t ≤ 3) : m_Term_eq [termO t, termO t] = .ok (.bl true) := by
  show toOut (g_Term_eq [.fz (termO t), .fz (termO t)]) = _
  unfold g_Term_eq
  have := tD_depth t
  simp only [r_bd, r_ok, r_er, r_stuck, r_rt, r_os, r_eV, r_eB, r_m2, r_m2B, r_m1, r_mB, r_mAnd, r_mOr, r_mNot, r_vAnd, r_vOr, r_vNot, r_mIf, r_sq, r_sqnx, r_sqret, r_sIf, r_sRet, r_sDrop, r_setE, r_setU, r_sSet, r_sSetF, r_aName, r_aNil, r_aCons, r_aTup, r_aLst, r_sAsg, r_mNil, r_mCons, r_mTup, r_mLst, r_mNs, r_mCall, r_lift, r_lifter, r_mMeth, r_mMeth0, r_mProp, r_okOf, r_vIsi, r_mCut, r_mDget, r_mDisp2, r_mBM, r_vCh, r_mCh, r_sPar, r_mFor, r_sFld, r_sRaise, r_m1l, r_mMake, r_liftF, r_both, r_mLc, r_mLc2, r_mSk, r_mSetL, r_toDfz, r_toDow, r_toDdc, r_asB, r_asI, r_iteA, r_itlst, r_ittup, r_it1, r_mLM, r_mCallI, r_isOwn, r_liftI, r_outS, List.getElem?_cons_zero, List.getElem?_cons_succ, List.nil_append, List.set_cons_zero, List.set_cons_succ, List.length_cons, List.length_nil, Nat.reduceAdd, Nat.reduceLT, Nat.reduceEqDiff, ↓reduceIte, if_true, Bool.not_true, Bool.not_false, and_self, Bool.false_eq_true, isi0_term, fld_tree', req_refl (tD_plain t) (show (tD t).py.depth ≤ 60 by omega)]
  rfl
theorem eqO_self {k : Nat} {m : List D → Out} {l : List (Str × D)} (h : m [.obj k l, .obj k l] = .ok (.bl true)) : eqOb k m (.obj k l) (.obj k l) = true := by
  unfold eqOb
  dsimp only
  rw [if_pos ⟨rfl, rfl⟩, h]
theorem reqO {k : Nat} {m : List D → Out} {l : List (Str × D)} (h : m [.obj k l, .obj k l] = .ok (.bl true)) : rEqO k m (.obj k l) (.obj k l) = some (.bl true) := by
  unfold rEqO
  rw [if_pos (eqO_self h)]
theorem reqOs {X : Type} {k : Nat} {m : List D → Out} {f : X → D} (xs : List X) (h : ∀ x ∈ xs, eqOb k m (f x) (f x) = true) : rEqOs k m (.lst (xs.map f)) (.lst (xs.map f)) = some (.bl true) := by
  have key : ∀ ys : List X, (∀ x ∈ ys, eqOb k m (f x) (f x) = true) → eqObs k m (ys.map f) (ys.map f) = true := by
    intro ys hy
    induction ys with
    | nil => rfl
    | cons y r ih =>
      rw [List.map_cons]
      unfold eqObs
      rw [hy y List.mem_cons_self, ih fun x hx => hy x (List.mem_cons_of_mem _ hx)]; rfl
  unfold rEqOs
  dsimp only
  rw [if_pos (key xs h)]
theorem fld_target' (d : Dd) : fldOf 1 ("target" : Str) (deedO d) = some (sD d.v) := rfl
theorem fld_source' (d : Dd) : fldOf 1 ("source" : Str) (deedO d) = some (termO d.t) := rfl
theorem fld_late' (d : Dd) : fldOf 1 ("is_late" : Str) (deedO d) = some (.bl d.late) := rfl
theorem req_bl (b : Bool) : DL.rEq (.bl b) (.bl b) = some (.bl true) := by cases b <;> rfl
theorem deed_eq {d : Dd} (h : d.Ok) : m_Deed_eq [deedO d, deedO d] = .ok (.bl true) := by
  show toOut (g_Deed_eq [.fz (deedO d), .fz (deedO d)]) = _
  unfold g_Deed_eq
  have ht : rEqO 0 m_Term_eq (termO d.t) (termO d.t) = some (.bl true) := reqO (term_eq h.dp)
  simp only [r_bd, r_ok, r_er, r_stuck, r_rt, r_os, r_eV, r_eB, r_m2, r_m2B, r_m1, r_mB, r_mAnd, r_mOr, r_mNot, r_vAnd, r_vOr, r_vNot, r_mIf, r_sq, r_sqnx, r_sqret, r_sIf, r_sRet, r_sDrop, r_setE, r_setU, r_sSet, r_sSetF, r_aName, r_aNil, r_aCons, r_aTup, r_aLst, r_sAsg, r_mNil, r_mCons, r_mTup, r_mLst, r_mNs, r_mCall, r_lift, r_lifter, r_mMeth, r_mMeth0, r_mProp, r_okOf, r_vIsi, r_mCut, r_mDget, r_mDisp2, r_mBM, r_vCh, r_mCh, r_sPar, r_mFor, r_sFld, r_sRaise, r_m1l, r_mMake, r_liftF, r_both, r_mLc, r_mLc2, r_mSk, r_mSetL, r_toDfz, r_toDow, r_toDdc, r_asB, r_asI, r_iteA, r_itlst, r_ittup, r_it1, r_mLM, r_mCallI, r_isOwn, r_liftI, r_outS, List.getElem?_cons_zero, List.getElem?_cons_succ, List.nil_append, List.set_cons_zero, List.set_cons_succ, List.length_cons, List.length_nil, Nat.reduceAdd, Nat.reduceLT, Nat.reduceEqDiff, ↓reduceIte, if_true, Bool.not_true, Bool.not_false, and_self, Bool.false_eq_true, isi1_deed, fld_target', fld_source', fld_late', req_S, decide_true, req_bl, ht]
  rfl
theorem proc_eq {p : Pr} (h : p.Ok) : m_Process_eq [procO p, procO p] = .ok (.bl true) := by
  show toOut (g_Process_eq [.fz (procO p), .fz (procO p)]) = _
  unfold g_Process_eq
  have ht : rEqOs 1 m_Deed_eq (.lst (p.ds.map deedO)) (.lst (p.ds.map deedO)) = some (.bl true) := reqOs p.ds fun d hd => eqO_self (deed_eq (h.d d hd))
  simp only [r_bd, r_ok, r_er, r_stuck, r_rt, r_os, r_eV, r_eB, r_m2, r_m2B, r_m1, r_mB, r_mAnd, r_mOr, r_mNot, r_vAnd, r_vOr, r_vNot, r_mIf, r_sq, r_sqnx, r_sqret, r_sIf, r_sRet, r_sDrop, r_setE, r_setU, r_sSet, r_sSetF, r_aName, r_aNil, r_aCons, r_aTup, r_aLst, r_sAsg, r_mNil, r_mCons, r_mTup, r_mLst, r_mNs, r_mCall, r_lift, r_lifter, r_mMeth, r_mMeth0, r_mProp, r_okOf, r_vIsi, r_mCut, r_mDget, r_mDisp2, r_mBM, r_vCh, r_mCh, r_sPar, r_mFor, r_sFld, r_sRaise, r_m1l, r_mMake, r_liftF, r_both, r_mLc, r_mLc2, r_mSk, r_mSetL, r_toDfz, r_toDow, r_toDdc, r_asB, r_asI, r_iteA, r_itlst, r_ittup, r_it1, r_mLM, r_mCallI, r_isOwn, r_liftI, r_outS, List.getElem?_cons_zero, List.getElem?_cons_succ, List.nil_append, List.set_cons_zero, List.set_cons_succ, List.length_cons, List.length_nil, Nat.reduceAdd, Nat.reduceLT, Nat.reduceEqDiff, ↓reduceIte, if_true, Bool.not_true, Bool.not_false, and_self, Bool.false_eq_true, isi2_proc, fld_title', fld_waited', fld_done', req_S, decide_true, req_refl (strs_plain p.w) (strs_depth p.w), ht]
  rfl
section
variable {P : Pg} {W : List (List Nat)} {C : List Int}
theorem isi3_prog (P : Pg) : isiO 3 (progO P) = some true := rfl
theorem fld_line' (P : Pg) : fldOf 3 ("line" : Str) (progO P) = some (.lst (P.ps.map procO)) := rfl
theorem fld_given' (P : Pg) : fldOf 3 ("given" : Str) (progO P) = some (.lst (P.inp.map sD)) := rfl
theorem prog_eq (h : P.Ok W C) : m_Program_eq [progO P, progO P] = .ok (.bl true) := by
  show toOut (g_Program_eq [.fz (progO P), .fz (progO P)]) = _
  unfold g_Program_eq
  have ht : rEqOs 2 m_Process_eq (.lst (P.ps.map procO)) (.lst (P.ps.map procO)) = some (.bl true) := reqOs P.ps fun p hp => eqO_self (proc_eq (h.p p hp).ok)
  simp only [r_bd, r_ok, r_er, r_stuck, r_rt, r_os, r_eV, r_eB, r_m2, r_m2B, r_m1, r_mB, r_mAnd, r_mOr, r_mNot, r_vAnd, r_vOr, r_vNot, r_mIf, r_sq, r_sqnx, r_sqret, r_sIf, r_sRet, r_sDrop, r_setE, r_setU, r_sSet, r_sSetF, r_aName, r_aNil, r_aCons, r_aTup, r_aLst, r_sAsg, r_mNil, r_mCons, r_mTup, r_mLst, r_mNs, r_mCall, r_lift, r_lifter, r_mMeth, r_mMeth0, r_mProp, r_okOf, r_vIsi, r_mCut, r_mDget, r_mDisp2, r_mBM, r_vCh, r_mCh, r_sPar, r_mFor, r_sFld, r_sRaise, r_m1l, r_mMake, r_liftF, r_both, r_mLc, r_mLc2, r_mSk, r_mSetL, r_toDfz, r_toDow, r_toDdc, r_asB, r_asI, r_iteA, r_itlst, r_ittup, r_it1, r_mLM, r_mCallI, r_isOwn, r_liftI, r_outS, List.getElem?_cons_zero, List.getElem?_cons_succ, List.nil_append, List.set_cons_zero, List.set_cons_succ, List.length_cons, List.length_nil, Nat.reduceAdd, Nat.reduceLT, Nat.reduceEqDiff, ↓reduceIte, if_true, Bool.not_true, Bool.not_false, and_self, Bool.false_eq_true, isi3_prog, fld_line', fld_given', req_refl (strs_plain P.inp) (strs_depth P.inp), ht]
  rfl
theorem req_prog (h : P.Ok W C) : rEqO 3 m_Program_eq (progO P) (progO P) = some (.bl true) := reqO (prog_eq h)
/-! ### places -/
abbrev Pc := List Nat × Int
def plD (q : Pc) : D := .tup [sD q.1, .int q.2]
def plcs (P : Pg) : List Pc := P.ps.flatMap fun p => (onc p).map fun (i : Nat) => (p.n, (i : Int))
theorem onc_len (p : Pr) : (onc p).length ≤ p.ds.length := by
  have := List.length_filterMap_le (fun q : Dd × Nat => if q.1.late then none else some q.2) p.ds.zipIdx
  rw [List.length_zipIdx] at this
  exact this
theorem plcs_len (h : P.Ok W C) : (plcs P).length ≤ 5 * 4 := by
  have := flat_len (f := fun p : Pr => (onc p).map fun (i : Nat) => (p.n, (i : Int))) (k := 4) P.ps fun p hp => by
    have := onc_len p
    have := (h.p p hp).ok.d4
    rw [List.length_map]; omega
  have := h.p5
  unfold plcs; omega
theorem prog_places (h : P.Ok W C) : m_Program_places [progO P] = .ok (.lst ((plcs P).map plD)) := by
  show toOut (g_Program_places [.fz (progO P), .no, .no]) = _
  unfold g_Program_places
  have hl := plcs_len h
  have e : (P.ps.flatMap fun p => (onc p).map fun (i : Nat) => plD (p.n, (i : Int))) = (plcs P).map plD := by unfold plcs; rw [List.map_flatMap]; simp only [List.map_map]; rfl
  have hloop := loop2 (vs := [1, 2]) (ga := aName 1) (tt := rt true) (gi1 := (bd (mMeth0 2 ("at_once" : Str) m_Process_at_once (eV 1)) fun d => opt (itemsA d))) (vs1 := [2]) (ga1 := aName 2) (tt1 := rt true) (ge := (mTup (mCons (mProp 2 m_Process_name (eV 1)) (mCons (eV 2) mNil)))) (ρ := [.fz (progO P), .no, .no]) (f := procO) (g := fun p => (onc p).map fun (i : Nat) => plD (p.n, (i : Int))) P.ps [] (fun p hp acc hacc => by
    have hin := loop_mp (vs := [2]) (ga := aName 2) (tt := rt true) (ge := (mTup (mCons (mProp 2 m_Process_name (eV 1)) (mCons (eV 2) mNil)))) (ρ := [.fz (progO P), .fz (procO p), .no]) (f := fun i => D.int ((i : Nat) : Int)) (g := fun (i : Nat) => plD (p.n, (i : Int))) (onc p) acc (fun x hx => by
      refine turn_some rfl (ρ1 := [.fz (progO P), .fz (procO p), .fz (.int (x : Nat))]) rfl rfl (ρ3 := [.fz (progO P), .fz (procO p), .fz (.int (x : Nat))]) ?_ ⟨rfl, rfl⟩ rfl
      simp only [r_bd, r_ok, r_er, r_stuck, r_rt, r_os, r_eV, r_eB, r_m2, r_m2B, r_m1, r_mB, r_mAnd, r_mOr, r_mNot, r_vAnd, r_vOr, r_vNot, r_mIf, r_sq, r_sqnx, r_sqret, r_sIf, r_sRet, r_sDrop, r_setE, r_setU, r_sSet, r_sSetF, r_aName, r_aNil, r_aCons, r_aTup, r_aLst, r_sAsg, r_mNil, r_mCons, r_mTup, r_mLst, r_mNs, r_mCall, r_lift, r_lifter, r_mMeth, r_mMeth0, r_mProp, r_okOf, r_vIsi, r_mCut, r_mDget, r_mDisp2, r_mBM, r_vCh, r_mCh, r_sPar, r_mFor, r_sFld, r_sRaise, r_m1l, r_mMake, r_liftF, r_both, r_mLc, r_mLc2, r_mSk, r_mSetL, r_toDfz, r_toDow, r_toDdc, r_asB, r_asI, r_iteA, r_itlst, r_ittup, r_it1, r_mLM, r_mCallI, r_isOwn, r_liftI, r_outS, List.getElem?_cons_zero, List.getElem?_cons_succ, List.nil_append, List.set_cons_zero, List.set_cons_succ, List.length_cons, List.length_nil, Nat.reduceAdd, Nat.reduceLT, Nat.reduceEqDiff, ↓reduceIte, if_true, Bool.not_true, Bool.not_false, and_self, Bool.false_eq_true, oo2, nmProp, r_short (l := [_, _]) (show 2 ≤ 1000 by decide)]
      rfl) (by simpa using hacc)
    refine turn2 rfl (ρ1 := [.fz (progO P), .fz (procO p), .no]) rfl rfl (ρ3 := [.fz (progO P), .fz (procO p), .no]) ?_ hin ⟨rfl, rfl⟩ rfl
    simp only [r_bd, r_ok, r_er, r_stuck, r_rt, r_os, r_eV, r_eB, r_m2, r_m2B, r_m1, r_mB, r_mAnd, r_mOr, r_mNot, r_vAnd, r_vOr, r_vNot, r_mIf, r_sq, r_sqnx, r_sqret, r_sIf, r_sRet, r_sDrop, r_setE, r_setU, r_sSet, r_sSetF, r_aName, r_aNil, r_aCons, r_aTup, r_aLst, r_sAsg, r_mNil, r_mCons, r_mTup, r_mLst, r_mNs, r_mCall, r_lift, r_lifter, r_mMeth, r_mMeth0, r_mProp, r_okOf, r_vIsi, r_mCut, r_mDget, r_mDisp2, r_mBM, r_vCh, r_mCh, r_sPar, r_mFor, r_sFld, r_sRaise, r_m1l, r_mMake, r_liftF, r_both, r_mLc, r_mLc2, r_mSk, r_mSetL, r_toDfz, r_toDow, r_toDdc, r_asB, r_asI, r_iteA, r_itlst, r_ittup, r_it1, r_mLM, r_mCallI, r_isOwn, r_liftI, r_outS, List.getElem?_cons_zero, List.getElem?_cons_succ, List.nil_append, List.set_cons_zero, List.set_cons_succ, List.length_cons, List.length_nil, Nat.reduceAdd, Nat.reduceLT, Nat.reduceEqDiff, ↓reduceIte, if_true, Bool.not_true, Bool.not_false, and_self, Bool.false_eq_true, (rc2 p).2.2.2.2, at_once_ok (h.p p hp).ok]) (by rw [e, List.length_map, szl]; simp only [List.length_nil]; omega)
  rw [e] at hloop
  have hs := r_sole hloop
  simp only [r_bd, r_ok, r_er, r_stuck, r_rt, r_os, r_eV, r_eB, r_m2, r_m2B, r_m1, r_mB, r_mAnd, r_mOr, r_mNot, r_vAnd, r_vOr, r_vNot, r_mIf, r_sq, r_sqnx, r_sqret, r_sIf, r_sRet, r_sDrop, r_setE, r_setU, r_sSet, r_sSetF, r_aName, r_aNil, r_aCons, r_aTup, r_aLst, r_sAsg, r_mNil, r_mCons, r_mTup, r_mLst, r_mNs, r_mCall, r_lift, r_lifter, r_mMeth, r_mMeth0, r_mProp, r_okOf, r_vIsi, r_mCut, r_mDget, r_mDisp2, r_mBM, r_vCh, r_mCh, r_sPar, r_mFor, r_sFld, r_sRaise, r_m1l, r_mMake, r_liftF, r_both, r_mLc, r_mLc2, r_mSk, r_mSetL, r_toDfz, r_toDow, r_toDdc, r_asB, r_asI, r_iteA, r_itlst, r_ittup, r_it1, r_mLM, r_mCallI, r_isOwn, r_liftI, r_outS, List.getElem?_cons_zero, List.getElem?_cons_succ, List.nil_append, List.set_cons_zero, List.set_cons_succ, List.length_cons, List.length_nil, Nat.reduceAdd, Nat.reduceLT, Nat.reduceEqDiff, ↓reduceIte, if_true, Bool.not_true, Bool.not_false, and_self, Bool.false_eq_true, fld_line', hs]
  rfl
theorem enum_deeds (ds : List Dd) : enumD (ds.map deedD) = ds.zipIdx.map fun q => D.tup [.int (q.2 : Nat), deedD q.1] := by
  unfold enumD
  rw [List.zipIdx_map, List.map_map]; rfl
theorem plcs_p (p : Pr) : (p.ds.zipIdx.filterMap fun q => (if q.1.late then none else some q.2).map fun (i : Nat) => plD (p.n, ((i : Nat) : Int))) = ((onc p).map fun (i : Nat) => (p.n, (i : Int))).map plD := by
  unfold onc; rw [List.map_filterMap, List.map_filterMap]; congr 1; funext q; split <;> rfl
theorem law_places (h : P.Ok W C) : m_law_places [plainD P] = .ok (.lst ((plcs P).map plD)) := by
  show toOut (g_law_places [.fz (.dic [(.inr "processes", .lst (P.ps.map procD)), (.inr "inputs", .lst (P.inp.map sD))]), .no, .no, .no, .no, .no, .no]) = _
  unfold g_law_places
  generalize hE : Ent.fz (.dic [(.inr "processes", .lst (P.ps.map procD)), (.inr "inputs", .lst (P.inp.map sD))]) = E0
  have hlen := plcs_len h
  have hf := for_pre (f := procD) (ga := (aTup 3 (aCons (aName 2) (aCons (aName 3) (aCons (aName 4) aNil))))) (gb := (sSetF 1 (m2B DL.rAdd 1 (bd (mLc (bd (eV 4) fun d => bd (opt (items d)) fun l => rt (enumD l)) [5, 6] (aTup 2 (aCons (aName 5) (aCons (aName 6) aNil))) (mNot (mB (m2B DL.rIx 6 (rt (.int 1))))) (mTup (mCons (eV 2) (mCons (eV 5) mNil)))) fun x => opt (Ent.toD x)))))
    (R := fun pre ρ => ∃ e1 e2 e3 e4, ρ = [E0, e1, e2, e3, e4, .no, .no] ∧ (e1 = .ow ((pre.flatMap fun p => (onc p).map fun (i : Nat) => (p.n, (i : Int))).map plD) ∨ e1 = .fz (.lst ((pre.flatMap fun p => (onc p).map fun (i : Nat) => (p.n, (i : Int))).map plD)))) P.ps (by
      rintro pre p post ρ hp ⟨e1, e2, e3, e4, rfl, he⟩
      have hpk := h.p p (by rw [hp]; simp)
      have h4 := hpk.ok.d4
      have hloop := fun e1 => loop_fm (vs := [5, 6]) (ga := (aTup 2 (aCons (aName 5) (aCons (aName 6) aNil)))) (tt := (mNot (mB (m2B DL.rIx 6 (rt (.int 1)))))) (ge := (mTup (mCons (eV 2) (mCons (eV 5) mNil)))) (ρ := [E0, e1, .fz (sD p.n), .fz (.lst (p.w.map sD)), .fz (.lst (p.ds.map deedD)), .no, .no]) (f := fun q => D.tup [.int (q.2 : Nat), deedD q.1]) (g := fun q => (if q.1.late then none else some q.2).map fun (i : Nat) => plD (p.n, (i : Int))) p.ds.zipIdx [] (fun q hq => by
        have e1q : DL.rIx (deedD q.1) (.int 1) = some (.bl q.1.late) := rfl
        cases hl : q.1.late with
        | true =>
          refine turn_none rfl (ρ1 := [E0, e1, .fz (sD p.n), .fz (.lst (p.w.map sD)), .fz (.lst (p.ds.map deedD)), .fz (.int (q.2 : Nat)), .fz (deedD q.1)]) rfl (ρ2 := [E0, e1, .fz (sD p.n), .fz (.lst (p.w.map sD)), .fz (.lst (p.ds.map deedD)), .fz (.int (q.2 : Nat)), .fz (deedD q.1)]) ?_ ⟨rfl, rfl⟩ rfl
          simp only [r_bd, r_ok, r_er, r_stuck, r_rt, r_os, r_eV, r_eB, r_m2, r_m2B, r_m1, r_mB, r_mAnd, r_mOr, r_mNot, r_vAnd, r_vOr, r_vNot, r_mIf, r_sq, r_sqnx, r_sqret, r_sIf, r_sRet, r_sDrop, r_setE, r_setU, r_sSet, r_sSetF, r_aName, r_aNil, r_aCons, r_aTup, r_aLst, r_sAsg, r_mNil, r_mCons, r_mTup, r_mLst, r_mNs, r_mCall, r_lift, r_lifter, r_mMeth, r_mMeth0, r_mProp, r_okOf, r_vIsi, r_mCut, r_mDget, r_mDisp2, r_mBM, r_vCh, r_mCh, r_sPar, r_mFor, r_sFld, r_sRaise, r_m1l, r_mMake, r_liftF, r_both, r_mLc, r_mLc2, r_mSk, r_mSetL, r_toDfz, r_toDow, r_toDdc, r_asB, r_asI, r_iteA, r_itlst, r_ittup, r_it1, r_mLM, r_mCallI, r_isOwn, r_liftI, r_outS, List.getElem?_cons_zero, List.getElem?_cons_succ, List.nil_append, List.set_cons_zero, List.set_cons_succ, List.length_cons, List.length_nil, Nat.reduceAdd, Nat.reduceLT, Nat.reduceEqDiff, ↓reduceIte, if_true, Bool.not_true, Bool.not_false, and_self, Bool.false_eq_true, e1q, hl]
        | false =>
          refine turn_some rfl (ρ1 := [E0, e1, .fz (sD p.n), .fz (.lst (p.w.map sD)), .fz (.lst (p.ds.map deedD)), .fz (.int (q.2 : Nat)), .fz (deedD q.1)]) rfl (ρ2 := [E0, e1, .fz (sD p.n), .fz (.lst (p.w.map sD)), .fz (.lst (p.ds.map deedD)), .fz (.int (q.2 : Nat)), .fz (deedD q.1)]) ?_ (ρ3 := [E0, e1, .fz (sD p.n), .fz (.lst (p.w.map sD)), .fz (.lst (p.ds.map deedD)), .fz (.int (q.2 : Nat)), .fz (deedD q.1)]) ?_ ⟨rfl, rfl⟩ rfl
          · simp only [r_bd, r_ok, r_er, r_stuck, r_rt, r_os, r_eV, r_eB, r_m2, r_m2B, r_m1, r_mB, r_mAnd, r_mOr, r_mNot, r_vAnd, r_vOr, r_vNot, r_mIf, r_sq, r_sqnx, r_sqret, r_sIf, r_sRet, r_sDrop, r_setE, r_setU, r_sSet, r_sSetF, r_aName, r_aNil, r_aCons, r_aTup, r_aLst, r_sAsg, r_mNil, r_mCons, r_mTup, r_mLst, r_mNs, r_mCall, r_lift, r_lifter, r_mMeth, r_mMeth0, r_mProp, r_okOf, r_vIsi, r_mCut, r_mDget, r_mDisp2, r_mBM, r_vCh, r_mCh, r_sPar, r_mFor, r_sFld, r_sRaise, r_m1l, r_mMake, r_liftF, r_both, r_mLc, r_mLc2, r_mSk, r_mSetL, r_toDfz, r_toDow, r_toDdc, r_asB, r_asI, r_iteA, r_itlst, r_ittup, r_it1, r_mLM, r_mCallI, r_isOwn, r_liftI, r_outS, List.getElem?_cons_zero, List.getElem?_cons_succ, List.nil_append, List.set_cons_zero, List.set_cons_succ, List.length_cons, List.length_nil, Nat.reduceAdd, Nat.reduceLT, Nat.reduceEqDiff, ↓reduceIte, if_true, Bool.not_true, Bool.not_false, and_self, Bool.false_eq_true, e1q, hl]
          · simp only [r_bd, r_ok, r_er, r_stuck, r_rt, r_os, r_eV, r_eB, r_m2, r_m2B, r_m1, r_mB, r_mAnd, r_mOr, r_mNot, r_vAnd, r_vOr, r_vNot, r_mIf, r_sq, r_sqnx, r_sqret, r_sIf, r_sRet, r_sDrop, r_setE, r_setU, r_sSet, r_sSetF, r_aName, r_aNil, r_aCons, r_aTup, r_aLst, r_sAsg, r_mNil, r_mCons, r_mTup, r_mLst, r_mNs, r_mCall, r_lift, r_lifter, r_mMeth, r_mMeth0, r_mProp, r_okOf, r_vIsi, r_mCut, r_mDget, r_mDisp2, r_mBM, r_vCh, r_mCh, r_sPar, r_mFor, r_sFld, r_sRaise, r_m1l, r_mMake, r_liftF, r_both, r_mLc, r_mLc2, r_mSk, r_mSetL, r_toDfz, r_toDow, r_toDdc, r_asB, r_asI, r_iteA, r_itlst, r_ittup, r_it1, r_mLM, r_mCallI, r_isOwn, r_liftI, r_outS, List.getElem?_cons_zero, List.getElem?_cons_succ, List.nil_append, List.set_cons_zero, List.set_cons_succ, List.length_cons, List.length_nil, Nat.reduceAdd, Nat.reduceLT, Nat.reduceEqDiff, ↓reduceIte, if_true, Bool.not_true, Bool.not_false, and_self, Bool.false_eq_true, r_short (l := [_, _]) (show 2 ≤ 1000 by decide)]
            rfl) (by rw [szl]; simp; omega)
      have hs := fun e1 => r_sole (hloop e1)
      rw [plcs_p] at hs
      have el : ((pre.flatMap fun p => (onc p).map fun (i : Nat) => (p.n, (i : Int))).map plD).length + (((onc p).map fun (i : Nat) => (p.n, (i : Int))).map plD).length ≤ 10000 := by
        have : (plcs P).length = _ := congrArg (fun l => (l.flatMap fun p : Pr => (onc p).map fun (i : Nat) => (p.n, (i : Int))).length) hp
        rw [this] at hlen
        simp only [List.flatMap_append, List.flatMap_cons, List.length_append] at hlen
        rw [List.length_map, List.length_map]
        omega
      have ef : ((pre.flatMap fun p => (onc p).map fun (i : Nat) => (p.n, (i : Int))).map plD) ++ (((onc p).map fun (i : Nat) => (p.n, (i : Int))).map plD) = ((pre ++ [p]).flatMap fun p => (onc p).map fun (i : Nat) => (p.n, (i : Int))).map plD := by simp
      refine ⟨_, ?_, .fz (.lst (((pre ++ [p]).flatMap fun p => (onc p).map fun (i : Nat) => (p.n, (i : Int))).map plD)), .fz (sD p.n), .fz (.lst (p.w.map sD)), .fz (.lst (p.ds.map deedD)), rfl, .inr rfl⟩
      have hpd : procD p = .tup [sD p.n, .lst (p.w.map sD), .lst (p.ds.map deedD)] := rfl
      rcases he with rfl | rfl
      · simp only [r_bd, r_ok, r_er, r_stuck, r_rt, r_os, r_eV, r_eB, r_m2, r_m2B, r_m1, r_mB, r_mAnd, r_mOr, r_mNot, r_vAnd, r_vOr, r_vNot, r_mIf, r_sq, r_sqnx, r_sqret, r_sIf, r_sRet, r_sDrop, r_setE, r_setU, r_sSet, r_sSetF, r_aName, r_aNil, r_aCons, r_aTup, r_aLst, r_sAsg, r_mNil, r_mCons, r_mTup, r_mLst, r_mNs, r_mCall, r_lift, r_lifter, r_mMeth, r_mMeth0, r_mProp, r_okOf, r_vIsi, r_mCut, r_mDget, r_mDisp2, r_mBM, r_vCh, r_mCh, r_sPar, r_mFor, r_sFld, r_sRaise, r_m1l, r_mMake, r_liftF, r_both, r_mLc, r_mLc2, r_mSk, r_mSetL, r_toDfz, r_toDow, r_toDdc, r_asB, r_asI, r_iteA, r_itlst, r_ittup, r_it1, r_mLM, r_mCallI, r_isOwn, r_liftI, r_outS, List.getElem?_cons_zero, List.getElem?_cons_succ, List.nil_append, List.set_cons_zero, List.set_cons_succ, List.length_cons, List.length_nil, Nat.reduceAdd, Nat.reduceLT, Nat.reduceEqDiff, ↓reduceIte, if_true, Bool.not_true, Bool.not_false, and_self, Bool.false_eq_true, hpd, enum_deeds, hs, add_lst el, ef]
      · simp only [r_bd, r_ok, r_er, r_stuck, r_rt, r_os, r_eV, r_eB, r_m2, r_m2B, r_m1, r_mB, r_mAnd, r_mOr, r_mNot, r_vAnd, r_vOr, r_vNot, r_mIf, r_sq, r_sqnx, r_sqret, r_sIf, r_sRet, r_sDrop, r_setE, r_setU, r_sSet, r_sSetF, r_aName, r_aNil, r_aCons, r_aTup, r_aLst, r_sAsg, r_mNil, r_mCons, r_mTup, r_mLst, r_mNs, r_mCall, r_lift, r_lifter, r_mMeth, r_mMeth0, r_mProp, r_okOf, r_vIsi, r_mCut, r_mDget, r_mDisp2, r_mBM, r_vCh, r_mCh, r_sPar, r_mFor, r_sFld, r_sRaise, r_m1l, r_mMake, r_liftF, r_both, r_mLc, r_mLc2, r_mSk, r_mSetL, r_toDfz, r_toDow, r_toDdc, r_asB, r_asI, r_iteA, r_itlst, r_ittup, r_it1, r_mLM, r_mCallI, r_isOwn, r_liftI, r_outS, List.getElem?_cons_zero, List.getElem?_cons_succ, List.nil_append, List.set_cons_zero, List.set_cons_succ, List.length_cons, List.length_nil, Nat.reduceAdd, Nat.reduceLT, Nat.reduceEqDiff, ↓reduceIte, if_true, Bool.not_true, Bool.not_false, and_self, Bool.false_eq_true, hpd, enum_deeds, hs, add_lst el, ef]) P.ps [] rfl
  obtain ⟨ρ', e, e1, e2, e3, e4, rfl, he⟩ := hf [E0, .ow [], .no, .no, .no, .no, .no] ⟨_, _, _, _, rfl, .inl rfl⟩
  subst hE
  simp only [r_bd, r_ok, r_er, r_stuck, r_rt, r_os, r_eV, r_eB, r_m2, r_m2B, r_m1, r_mB, r_mAnd, r_mOr, r_mNot, r_vAnd, r_vOr, r_vNot, r_mIf, r_sq, r_sqnx, r_sqret, r_sIf, r_sRet, r_sDrop, r_setE, r_setU, r_sSet, r_sSetF, r_aName, r_aNil, r_aCons, r_aTup, r_aLst, r_sAsg, r_mNil, r_mCons, r_mTup, r_mLst, r_mNs, r_mCall, r_lift, r_lifter, r_mMeth, r_mMeth0, r_mProp, r_okOf, r_vIsi, r_mCut, r_mDget, r_mDisp2, r_mBM, r_vCh, r_mCh, r_sPar, r_mFor, r_sFld, r_sRaise, r_m1l, r_mMake, r_liftF, r_both, r_mLc, r_mLc2, r_mSk, r_mSetL, r_toDfz, r_toDow, r_toDdc, r_asB, r_asI, r_iteA, r_itlst, r_ittup, r_it1, r_mLM, r_mCallI, r_isOwn, r_liftI, r_outS, List.getElem?_cons_zero, List.getElem?_cons_succ, List.nil_append, List.set_cons_zero, List.set_cons_succ, List.length_cons, List.length_nil, Nat.reduceAdd, Nat.reduceLT, Nat.reduceEqDiff, ↓reduceIte, if_true, Bool.not_true, Bool.not_false, and_self, Bool.false_eq_true, r_short (l := []) (show 0 ≤ 1000 by decide), get_processes, e]
  rcases he with rfl | rfl <;> rfl
end
end G
end
section
set_option Elab.async false
set_option linter.all false
set_option maxRecDepth 100000
set_option maxHeartbeats 4000000
namespace G
open PySem PySem.Spec PyProof.Rows L2 DL
/-! ### what is refused -/
theorem eqv_pl (q r : Pc) : PyData.eqv (plD q).py (plD r).py = decide (q = r) := by
  obtain ⟨a, i⟩ := q
  obtain ⟨b, j⟩ := r
  show PyData.eqv (.tuple [.str (S a), .int i]) (.tuple [.str (S b), .int j]) = _
  simp only [PyData.eqv, PyData.eqvAll, Bool.and_true]
  by_cases h : a = b
  · subst h
    by_cases h2 : i = j
    · subst h2; simp
    · simp [h2]
  · have : ¬ S a = S b := fun e => h (S_inj e)
    simp [h, this]
theorem any_pl (q : Pc) : ∀ l : List Pc, anyEq (plD q) (l.map plD) = decide (q ∈ l)
  | [] => rfl
  | x :: r => by
    have h := any_pl q r
    unfold anyEq at h ⊢
    rw [pyL_map] at h ⊢
    rw [List.map_cons, List.any_cons, h, eqv_pl]
    by_cases e : q = x
    · subst e; simp
    · have : ¬ x = q := fun z => e z.symm
      simp [e, this]
theorem plainL_pl : ∀ l : List Pc, D.plainL (l.map plD) = true
  | [] => rfl
  | x :: r => by show (true && D.plainL (r.map plD)) = true; rw [plainL_pl r]; rfl
theorem okIn_pl (q : Pc) (l : List Pc) : okIn (plD q) (l.map plD) = true := by
  unfold okIn
  rw [plainL_pl]
  have e : (plD q).py.depth = 1 := by
    show PyData.depth (.tuple [.str _, .int _]) = 1
    simp only [PyData.depth, PyData.depthAll]; rfl
  rw [e]
  have : min (PyData.depthAll (D.pyL (l.map plD))) 1 ≤ 60 := by omega
  simp [this]
  rfl
theorem rnin_pl (q : Pc) (l : List Pc) : DL.rNotIn (plD q) (.lst (l.map plD)) = some (.bl (!decide (q ∈ l))) := by
  show ((if okIn (plD q) (l.map plD) = true then some (anyEq (plD q) (l.map plD)) else none).map fun b => D.bl (!b)) = _
  rw [if_pos (okIn_pl q l), any_pl]; rfl
theorem isplace_pl (q : Pc) : m_is_place [plD q] = .ok (.bl true) := m_is_place_2 _ _
section
variable {P : Pg} {W : List (List Nat)} {C : List Int}
/-- what is no place of the program -/
def Bad (P : Pg) (v : D) : Prop := m_is_place [v] = .ok (.bl false) ∨ ∃ q : Pc, v = plD q ∧ q ∉ plcs P
theorem rc3_places (P : Pg) : recv 3 ("places" : Str) (progO P) = some (progO P) := rfl
theorem rc3_look (P : Pg) : recv 3 ("look_at_places" : Str) (progO P) = some (progO P) := rfl
theorem rc3_delayed (P : Pg) : recv 3 ("delayed" : Str) (progO P) = some (progO P) := rfl
abbrev lkb : M Fl := (sIf (mOr (mNot (mB (mCall m_is_place (bd (mCons (eV 2) mNil) fun ds => if ds.length = 1 then rt ds else stuck)))) (mB (m2B DL.rNotIn 2 (mMeth0 3 ("places" : Str) m_Program_places (eV 0))))) (sRaise 4 ("value" : Str) (eV 2)) (rt .nx))
theorem look_loop (h : P.Ok W C) {pre : List Pc} {v : D} {post : List D} (hp : ∀ q ∈ pre, q ∈ plcs P) (hv : Bad P v) (e1 : Ent) : ∃ ρ', sFor (aName 2) lkb (pre.map plD ++ v :: post) [.fz (progO P), e1, .no] = .er 4 [("value", v)] ρ' ∧ True := by
  refine for_er (R := fun ρ => ∃ e2, ρ = [.fz (progO P), e1, e2]) (Q := fun _ => True) pre ?_ ?_ _ ⟨_, rfl⟩
  · rintro q ρ hq ⟨e2, rfl⟩
    refine ⟨_, ?_, ⟨.fz (plD q), rfl⟩⟩
    unfold lkb
    simp only [r_bd, r_ok, r_er, r_stuck, r_rt, r_os, r_eV, r_eB, r_m2, r_m2B, r_m1, r_mB, r_mAnd, r_mOr, r_mNot, r_vAnd, r_vOr, r_vNot, r_mIf, r_sq, r_sqnx, r_sqret, r_sIf, r_sRet, r_sDrop, r_setE, r_setU, r_sSet, r_sSetF, r_aName, r_aNil, r_aCons, r_aTup, r_aLst, r_sAsg, r_mNil, r_mCons, r_mTup, r_mLst, r_mNs, r_mCall, r_lift, r_lifter, r_mMeth, r_mMeth0, r_mProp, r_okOf, r_vIsi, r_mCut, r_mDget, r_mDisp2, r_mBM, r_vCh, r_mCh, r_sPar, r_mFor, r_sFld, r_sRaise, r_m1l, r_mMake, r_liftF, r_both, r_mLc, r_mLc2, r_mSk, r_mSetL, r_toDfz, r_toDow, r_toDdc, r_asB, r_asI, r_iteA, r_itlst, r_ittup, r_it1, r_mLM, r_mCallI, r_isOwn, r_liftI, r_outS, List.getElem?_cons_zero, List.getElem?_cons_succ, List.nil_append, List.set_cons_zero, List.set_cons_succ, List.length_cons, List.length_nil, Nat.reduceAdd, Nat.reduceLT, Nat.reduceEqDiff, ↓reduceIte, if_true, Bool.not_true, Bool.not_false, and_self, Bool.false_eq_true, isplace_pl, rc3_places, prog_places h, rnin_pl, hp q hq, decide_true]
  · rintro ρ ⟨e2, rfl⟩
    refine ⟨[.fz (progO P), e1, .fz v], ?_, trivial⟩
    unfold lkb
    rcases hv with hv | ⟨q, rfl, hq⟩
    · simp only [r_bd, r_ok, r_er, r_stuck, r_rt, r_os, r_eV, r_eB, r_m2, r_m2B, r_m1, r_mB, r_mAnd, r_mOr, r_mNot, r_vAnd, r_vOr, r_vNot, r_mIf, r_sq, r_sqnx, r_sqret, r_sIf, r_sRet, r_sDrop, r_setE, r_setU, r_sSet, r_sSetF, r_aName, r_aNil, r_aCons, r_aTup, r_aLst, r_sAsg, r_mNil, r_mCons, r_mTup, r_mLst, r_mNs, r_mCall, r_lift, r_lifter, r_mMeth, r_mMeth0, r_mProp, r_okOf, r_vIsi, r_mCut, r_mDget, r_mDisp2, r_mBM, r_vCh, r_mCh, r_sPar, r_mFor, r_sFld, r_sRaise, r_m1l, r_mMake, r_liftF, r_both, r_mLc, r_mLc2, r_mSk, r_mSetL, r_toDfz, r_toDow, r_toDdc, r_asB, r_asI, r_iteA, r_itlst, r_ittup, r_it1, r_mLM, r_mCallI, r_isOwn, r_liftI, r_outS, List.getElem?_cons_zero, List.getElem?_cons_succ, List.nil_append, List.set_cons_zero, List.set_cons_succ, List.length_cons, List.length_nil, Nat.reduceAdd, Nat.reduceLT, Nat.reduceEqDiff, ↓reduceIte, if_true, Bool.not_true, Bool.not_false, and_self, Bool.false_eq_true, hv]
    · simp only [r_bd, r_ok, r_er, r_stuck, r_rt, r_os, r_eV, r_eB, r_m2, r_m2B, r_m1, r_mB, r_mAnd, r_mOr, r_mNot, r_vAnd, r_vOr, r_vNot, r_mIf, r_sq, r_sqnx, r_sqret, r_sIf, r_sRet, r_sDrop, r_setE, r_setU, r_sSet, r_sSetF, r_aName, r_aNil, r_aCons, r_aTup, r_aLst, r_sAsg, r_mNil, r_mCons, r_mTup, r_mLst, r_mNs, r_mCall, r_lift, r_lifter, r_mMeth, r_mMeth0, r_mProp, r_okOf, r_vIsi, r_mCut, r_mDget, r_mDisp2, r_mBM, r_vCh, r_mCh, r_sPar, r_mFor, r_sFld, r_sRaise, r_m1l, r_mMake, r_liftF, r_both, r_mLc, r_mLc2, r_mSk, r_mSetL, r_toDfz, r_toDow, r_toDdc, r_asB, r_asI, r_iteA, r_itlst, r_ittup, r_it1, r_mLM, r_mCallI, r_isOwn, r_liftI, r_outS, List.getElem?_cons_zero, List.getElem?_cons_succ, List.nil_append, List.set_cons_zero, List.set_cons_succ, List.length_cons, List.length_nil, Nat.reduceAdd, Nat.reduceLT, Nat.reduceEqDiff, ↓reduceIte, if_true, Bool.not_true, Bool.not_false, and_self, Bool.false_eq_true, isplace_pl, rc3_places, prog_places h, rnin_pl, hq, decide_false]
theorem toOut_er (k : Nat) (fs : List (Str × D)) (ρ : DL.Env) : toOut (.er k fs ρ) = .er k fs := rfl
theorem look_lst (h : P.Ok W C) {pre : List Pc} {v : D} {post : List D} (hp : ∀ q ∈ pre, q ∈ plcs P) (hv : Bad P v) : m_Program_look_at_places [progO P, .lst (pre.map plD ++ v :: post)] = .er 4 [("value", v)] := by
  show toOut (g_Program_look_at_places [.fz (progO P), .fz (.lst (pre.map plD ++ v :: post)), .no]) = _
  unfold g_Program_look_at_places
  obtain ⟨ρ', e, _⟩ := look_loop h hp hv (.fz (.lst (pre.map plD ++ v :: post))) (post := post)
  unfold lkb at e
  simp only [r_bd, r_ok, r_er, r_stuck, r_rt, r_os, r_eV, r_eB, r_m2, r_m2B, r_m1, r_mB, r_mAnd, r_mOr, r_mNot, r_vAnd, r_vOr, r_vNot, r_mIf, r_sq, r_sqnx, r_sqret, r_sIf, r_sRet, r_sDrop, r_setE, r_setU, r_sSet, r_sSetF, r_aName, r_aNil, r_aCons, r_aTup, r_aLst, r_sAsg, r_mNil, r_mCons, r_mTup, r_mLst, r_mNs, r_mCall, r_lift, r_lifter, r_mMeth, r_mMeth0, r_mProp, r_okOf, r_vIsi, r_mCut, r_mDget, r_mDisp2, r_mBM, r_vCh, r_mCh, r_sPar, r_mFor, r_sFld, r_sRaise, r_m1l, r_mMake, r_liftF, r_both, r_mLc, r_mLc2, r_mSk, r_mSetL, r_toDfz, r_toDow, r_toDdc, r_asB, r_asI, r_iteA, r_itlst, r_ittup, r_it1, r_mLM, r_mCallI, r_isOwn, r_liftI, r_outS, List.getElem?_cons_zero, List.getElem?_cons_succ, List.nil_append, List.set_cons_zero, List.set_cons_succ, List.length_cons, List.length_nil, Nat.reduceAdd, Nat.reduceLT, Nat.reduceEqDiff, ↓reduceIte, if_true, Bool.not_true, Bool.not_false, and_self, Bool.false_eq_true, isi2_lst, e, toOut_er]
theorem look_tup (h : P.Ok W C) {pre : List Pc} {v : D} {post : List D} (hp : ∀ q ∈ pre, q ∈ plcs P) (hv : Bad P v) : m_Program_look_at_places [progO P, .tup (pre.map plD ++ v :: post)] = .er 4 [("value", v)] := by
  show toOut (g_Program_look_at_places [.fz (progO P), .fz (.tup (pre.map plD ++ v :: post)), .no]) = _
  unfold g_Program_look_at_places
  obtain ⟨ρ', e, _⟩ := look_loop h hp hv (.fz (.tup (pre.map plD ++ v :: post))) (post := post)
  unfold lkb at e
  simp only [r_bd, r_ok, r_er, r_stuck, r_rt, r_os, r_eV, r_eB, r_m2, r_m2B, r_m1, r_mB, r_mAnd, r_mOr, r_mNot, r_vAnd, r_vOr, r_vNot, r_mIf, r_sq, r_sqnx, r_sqret, r_sIf, r_sRet, r_sDrop, r_setE, r_setU, r_sSet, r_sSetF, r_aName, r_aNil, r_aCons, r_aTup, r_aLst, r_sAsg, r_mNil, r_mCons, r_mTup, r_mLst, r_mNs, r_mCall, r_lift, r_lifter, r_mMeth, r_mMeth0, r_mProp, r_okOf, r_vIsi, r_mCut, r_mDget, r_mDisp2, r_mBM, r_vCh, r_mCh, r_sPar, r_mFor, r_sFld, r_sRaise, r_m1l, r_mMake, r_liftF, r_both, r_mLc, r_mLc2, r_mSk, r_mSetL, r_toDfz, r_toDow, r_toDdc, r_asB, r_asI, r_iteA, r_itlst, r_ittup, r_it1, r_mLM, r_mCallI, r_isOwn, r_liftI, r_outS, List.getElem?_cons_zero, List.getElem?_cons_succ, List.nil_append, List.set_cons_zero, List.set_cons_succ, List.length_cons, List.length_nil, Nat.reduceAdd, Nat.reduceLT, Nat.reduceEqDiff, ↓reduceIte, if_true, Bool.not_true, Bool.not_false, and_self, Bool.false_eq_true, isi2_tup, e, toOut_er]
theorem look_none {v : D} (hv : isi2 "list" "tuple" v = some false) (hb : eB 1 [.fz (progO P), .fz v, .no] = .ok v [.fz (progO P), .fz v, .no]) : m_Program_look_at_places [progO P, v] = .er 4 [("value", .non)] := by
  show toOut (g_Program_look_at_places [.fz (progO P), .fz v, .no]) = _
  unfold g_Program_look_at_places
  simp only [r_bd, r_ok, r_er, r_stuck, r_rt, r_os, r_eV, r_eB, r_m2, r_m2B, r_m1, r_mB, r_mAnd, r_mOr, r_mNot, r_vAnd, r_vOr, r_vNot, r_mIf, r_sq, r_sqnx, r_sqret, r_sIf, r_sRet, r_sDrop, r_setE, r_setU, r_sSet, r_sSetF, r_aName, r_aNil, r_aCons, r_aTup, r_aLst, r_sAsg, r_mNil, r_mCons, r_mTup, r_mLst, r_mNs, r_mCall, r_lift, r_lifter, r_mMeth, r_mMeth0, r_mProp, r_okOf, r_vIsi, r_mCut, r_mDget, r_mDisp2, r_mBM, r_vCh, r_mCh, r_sPar, r_mFor, r_sFld, r_sRaise, r_m1l, r_mMake, r_liftF, r_both, r_mLc, r_mLc2, r_mSk, r_mSetL, r_toDfz, r_toDow, r_toDdc, r_asB, r_asI, r_iteA, r_itlst, r_ittup, r_it1, r_mLM, r_mCallI, r_isOwn, r_liftI, r_outS, List.getElem?_cons_zero, List.getElem?_cons_succ, List.nil_append, List.set_cons_zero, List.set_cons_succ, List.length_cons, List.length_nil, Nat.reduceAdd, Nat.reduceLT, Nat.reduceEqDiff, ↓reduceIte, if_true, Bool.not_true, Bool.not_false, and_self, Bool.false_eq_true, hv, toOut_er]
/-- what the argument a is told as -/
def Told (P : Pg) (a v : D) : Prop := m_Program_look_at_places [progO P, a] = .er 4 [("value", v)]
theorem delayed_er {a v : D} (h : Told P a v) : m_Program_delayed [progO P, a] = .er 4 [("value", v)] := by
  show toOut (g_Program_delayed [.fz (progO P), .fz a, .no, .no, .no, .no, .no]) = _
  unfold g_Program_delayed
  have h' : m_Program_look_at_places [progO P, a] = .er 4 [("value", v)] := h
  simp only [r_bd, r_ok, r_er, r_stuck, r_rt, r_os, r_eV, r_eB, r_m2, r_m2B, r_m1, r_mB, r_mAnd, r_mOr, r_mNot, r_vAnd, r_vOr, r_vNot, r_mIf, r_sq, r_sqnx, r_sqret, r_sIf, r_sRet, r_sDrop, r_setE, r_setU, r_sSet, r_sSetF, r_aName, r_aNil, r_aCons, r_aTup, r_aLst, r_sAsg, r_mNil, r_mCons, r_mTup, r_mLst, r_mNs, r_mCall, r_lift, r_lifter, r_mMeth, r_mMeth0, r_mProp, r_okOf, r_vIsi, r_mCut, r_mDget, r_mDisp2, r_mBM, r_vCh, r_mCh, r_sPar, r_mFor, r_sFld, r_sRaise, r_m1l, r_mMake, r_liftF, r_both, r_mLc, r_mLc2, r_mSk, r_mSetL, r_toDfz, r_toDow, r_toDdc, r_asB, r_asI, r_iteA, r_itlst, r_ittup, r_it1, r_mLM, r_mCallI, r_isOwn, r_liftI, r_outS, List.getElem?_cons_zero, List.getElem?_cons_succ, List.nil_append, List.set_cons_zero, List.set_cons_succ, List.length_cons, List.length_nil, Nat.reduceAdd, Nat.reduceLT, Nat.reduceEqDiff, ↓reduceIte, if_true, Bool.not_true, Bool.not_false, and_self, Bool.false_eq_true, rc3_look, h', toOut_er]
theorem most1 : m_look_at_most [.int 1] = .ok .non := rfl
theorem helps_er {a v : D} (h : Told P a v) : m_helps [progO P, a, .int 1] = .er 4 [("value", v)] := by
  show toOut (g_helps [.fz (progO P), .fz a, .fz (.int 1)]) = _
  unfold g_helps
  simp only [r_bd, r_ok, r_er, r_stuck, r_rt, r_os, r_eV, r_eB, r_m2, r_m2B, r_m1, r_mB, r_mAnd, r_mOr, r_mNot, r_vAnd, r_vOr, r_vNot, r_mIf, r_sq, r_sqnx, r_sqret, r_sIf, r_sRet, r_sDrop, r_setE, r_setU, r_sSet, r_sSetF, r_aName, r_aNil, r_aCons, r_aTup, r_aLst, r_sAsg, r_mNil, r_mCons, r_mTup, r_mLst, r_mNs, r_mCall, r_lift, r_lifter, r_mMeth, r_mMeth0, r_mProp, r_okOf, r_vIsi, r_mCut, r_mDget, r_mDisp2, r_mBM, r_vCh, r_mCh, r_sPar, r_mFor, r_sFld, r_sRaise, r_m1l, r_mMake, r_liftF, r_both, r_mLc, r_mLc2, r_mSk, r_mSetL, r_toDfz, r_toDow, r_toDdc, r_asB, r_asI, r_iteA, r_itlst, r_ittup, r_it1, r_mLM, r_mCallI, r_isOwn, r_liftI, r_outS, List.getElem?_cons_zero, List.getElem?_cons_succ, List.nil_append, List.set_cons_zero, List.set_cons_succ, List.length_cons, List.length_nil, Nat.reduceAdd, Nat.reduceLT, Nat.reduceEqDiff, ↓reduceIte, if_true, Bool.not_true, Bool.not_false, and_self, Bool.false_eq_true, most1, rc3_delayed, delayed_er h, toOut_er]
theorem r_sTry (i : Nat) (ks : List Nat) (hd : Nat → List (Str × D) → M Fl) (g : M Fl) (ρ : DL.Env) : sTry i ks hd g ρ = match g ρ with
  | .er k fs ρ' => if memN k ks = true ∧ stillAt ρ' [i] = true then (match hd k fs (ρ'.set i .no) with
    | .ok fl ρ'' => if stillAt ρ'' [i] = true then .ok fl (ρ''.set i .no) else .stuck
    | _ => .stuck) else .stuck
  | r => r := rfl
theorem refused_ok {a v : D} {way : Int} {r : Str} (h : Told P a v) (hr : rRepr v = some (.str r)) : m_law_refused [progO P, a, .int way] = .ok (.lst [.str r, .bl true]) := by
  show toOut (g_law_refused [.fz (progO P), .fz a, .fz (.int way), .no]) = _
  unfold g_law_refused
  have hm : memN 4 [4] = true := rfl
  have hs : stillAt [.fz (progO P), .fz a, .fz (.int way), .no] [3] = true := rfl
  have hl : ((("value" : Str), v) :: []).lookup ("value" : Str) = some v := rfl
  have hb : (some v).bind rRepr = some (.str r) := hr
  by_cases hw : way = 0
  · simp only [r_bd, r_ok, r_er, r_stuck, r_rt, r_os, r_eV, r_eB, r_m2, r_m2B, r_m1, r_mB, r_mAnd, r_mOr, r_mNot, r_vAnd, r_vOr, r_vNot, r_mIf, r_sq, r_sqnx, r_sqret, r_sIf, r_sRet, r_sDrop, r_setE, r_setU, r_sSet, r_sSetF, r_aName, r_aNil, r_aCons, r_aTup, r_aLst, r_sAsg, r_mNil, r_mCons, r_mTup, r_mLst, r_mNs, r_mCall, r_lift, r_lifter, r_mMeth, r_mMeth0, r_mProp, r_okOf, r_vIsi, r_mCut, r_mDget, r_mDisp2, r_mBM, r_vCh, r_mCh, r_sPar, r_mFor, r_sFld, r_sRaise, r_m1l, r_mMake, r_liftF, r_both, r_mLc, r_mLc2, r_mSk, r_mSetL, r_toDfz, r_toDow, r_toDdc, r_asB, r_asI, r_iteA, r_itlst, r_ittup, r_it1, r_mLM, r_mCallI, r_isOwn, r_liftI, r_outS, List.getElem?_cons_zero, List.getElem?_cons_succ, List.nil_append, List.set_cons_zero, List.set_cons_succ, List.length_cons, List.length_nil, Nat.reduceAdd, Nat.reduceLT, Nat.reduceEqDiff, ↓reduceIte, if_true, Bool.not_true, Bool.not_false, and_self, Bool.false_eq_true, r_sTry, eqI, hw, decide_true, rc3_delayed, delayed_er h, hm]
    rw [if_pos ⟨trivial, rfl⟩]
    unfold hdRepr
    simp only [r_bd, r_ok, r_er, r_stuck, r_rt, r_os, r_eV, r_eB, r_m2, r_m2B, r_m1, r_mB, r_mAnd, r_mOr, r_mNot, r_vAnd, r_vOr, r_vNot, r_mIf, r_sq, r_sqnx, r_sqret, r_sIf, r_sRet, r_sDrop, r_setE, r_setU, r_sSet, r_sSetF, r_aName, r_aNil, r_aCons, r_aTup, r_aLst, r_sAsg, r_mNil, r_mCons, r_mTup, r_mLst, r_mNs, r_mCall, r_lift, r_lifter, r_mMeth, r_mMeth0, r_mProp, r_okOf, r_vIsi, r_mCut, r_mDget, r_mDisp2, r_mBM, r_vCh, r_mCh, r_sPar, r_mFor, r_sFld, r_sRaise, r_m1l, r_mMake, r_liftF, r_both, r_mLc, r_mLc2, r_mSk, r_mSetL, r_toDfz, r_toDow, r_toDdc, r_asB, r_asI, r_iteA, r_itlst, r_ittup, r_it1, r_mLM, r_mCallI, r_isOwn, r_liftI, r_outS, List.getElem?_cons_zero, List.getElem?_cons_succ, List.nil_append, List.set_cons_zero, List.set_cons_succ, List.length_cons, List.length_nil, Nat.reduceAdd, Nat.reduceLT, Nat.reduceEqDiff, ↓reduceIte, if_true, Bool.not_true, Bool.not_false, and_self, Bool.false_eq_true, hl, hb]
    rfl
  · simp only [r_bd, r_ok, r_er, r_stuck, r_rt, r_os, r_eV, r_eB, r_m2, r_m2B, r_m1, r_mB, r_mAnd, r_mOr, r_mNot, r_vAnd, r_vOr, r_vNot, r_mIf, r_sq, r_sqnx, r_sqret, r_sIf, r_sRet, r_sDrop, r_setE, r_setU, r_sSet, r_sSetF, r_aName, r_aNil, r_aCons, r_aTup, r_aLst, r_sAsg, r_mNil, r_mCons, r_mTup, r_mLst, r_mNs, r_mCall, r_lift, r_lifter, r_mMeth, r_mMeth0, r_mProp, r_okOf, r_vIsi, r_mCut, r_mDget, r_mDisp2, r_mBM, r_vCh, r_mCh, r_sPar, r_mFor, r_sFld, r_sRaise, r_m1l, r_mMake, r_liftF, r_both, r_mLc, r_mLc2, r_mSk, r_mSetL, r_toDfz, r_toDow, r_toDdc, r_asB, r_asI, r_iteA, r_itlst, r_ittup, r_it1, r_mLM, r_mCallI, r_isOwn, r_liftI, r_outS, List.getElem?_cons_zero, List.getElem?_cons_succ, List.nil_append, List.set_cons_zero, List.set_cons_succ, List.length_cons, List.length_nil, Nat.reduceAdd, Nat.reduceLT, Nat.reduceEqDiff, ↓reduceIte, if_true, Bool.not_true, Bool.not_false, and_self, Bool.false_eq_true, r_sTry, eqI, hw, decide_false, List.cons_append, List.nil_append, helps_er h, hm]
    rw [if_pos ⟨trivial, rfl⟩]
    unfold hdRepr
    simp only [r_bd, r_ok, r_er, r_stuck, r_rt, r_os, r_eV, r_eB, r_m2, r_m2B, r_m1, r_mB, r_mAnd, r_mOr, r_mNot, r_vAnd, r_vOr, r_vNot, r_mIf, r_sq, r_sqnx, r_sqret, r_sIf, r_sRet, r_sDrop, r_setE, r_setU, r_sSet, r_sSetF, r_aName, r_aNil, r_aCons, r_aTup, r_aLst, r_sAsg, r_mNil, r_mCons, r_mTup, r_mLst, r_mNs, r_mCall, r_lift, r_lifter, r_mMeth, r_mMeth0, r_mProp, r_okOf, r_vIsi, r_mCut, r_mDget, r_mDisp2, r_mBM, r_vCh, r_mCh, r_sPar, r_mFor, r_sFld, r_sRaise, r_m1l, r_mMake, r_liftF, r_both, r_mLc, r_mLc2, r_mSk, r_mSetL, r_toDfz, r_toDow, r_toDdc, r_asB, r_asI, r_iteA, r_itlst, r_ittup, r_it1, r_mLM, r_mCallI, r_isOwn, r_liftI, r_outS, List.getElem?_cons_zero, List.getElem?_cons_succ, List.nil_append, List.set_cons_zero, List.set_cons_succ, List.length_cons, List.length_nil, Nat.reduceAdd, Nat.reduceLT, Nat.reduceEqDiff, ↓reduceIte, if_true, Bool.not_true, Bool.not_false, and_self, Bool.false_eq_true, hl, hb]
    rfl
end
end G
end
section
set_option Elab.async false
set_option linter.all false
set_option maxRecDepth 100000
set_option maxHeartbeats 4000000
namespace G
open PySem PySem.Spec PyProof.Rows L2 DL
/-! ### drawn things -/
theorem len_nn (l : List D) : DL.rLen (.lst l) = some (.int (l.length : Nat)) := rfl
/-- one of a list, at a place -/
theorem rne_cons {d : D} {r : List D} (h : D.plainL (d :: r) = true) : DL.rNe (.lst (d :: r)) (.lst []) = some (.bl true) := by
  have ok : okEq (.lst (d :: r)) (.lst []) = true := by
    unfold okEq
    have : (D.lst []).py.depth = 1 := by simp [D.py, D.pyL, PyData.depth, PyData.depthAll]
    rw [this]
    have e2 : (D.lst (d :: r)).plain = true := by simp only [D.plain]; exact h
    have e3 : (D.lst []).plain = true := by simp only [D.plain, D.plainL]
    rw [e2, e3]
    rw [Bool.true_and, Bool.true_and]
    exact decide_eq_true (by omega)
  show (if okEq (.lst (d :: r)) (.lst []) = true then some (D.bl (!PyData.eqv (D.lst (d :: r)).py (D.lst []).py)) else none) = _
  rw [if_pos ok]
  simp only [D.py, D.pyL, PyData.eqv, PyData.eqvAll]
  rfl
theorem plainL_map {X : Type} {f : X → D} (hf : ∀ x, (f x).plain = true) : ∀ l : List X, D.plainL (l.map f) = true
  | [] => rfl
  | x :: r => by rw [List.map_cons]; unfold D.plainL; rw [hf x, plainL_map hf r]; rfl
theorem pop_ok {l : List D} {i : Nat} {d : D} (h : l[i]? = some d) (hl : l.length ≤ 1000) : fPopAt l [.int (i : Nat)] = some (d, l.eraseIdx i) := by
  have hi : i < l.length := (List.getElem?_eq_some_iff.mp h).1
  have hs : small62 ((i : Nat) : Int) = true := by
    unfold small62
    rw [Bool.and_eq_true]
    exact ⟨decide_eq_true (by omega), decide_eq_true (by omega)⟩
  have hq : seqIndex? ((i : Nat) : Int) l.length = some i := by
    unfold seqIndex?
    simp
    omega
  show (if small62 ((i : Nat) : Int) = true then (match seqIndex? ((i : Nat) : Int) l.length with
    | some k => (l[k]?).map fun d => (d, l.eraseIdx k)
    | none => none) else none) = _
  rw [if_pos hs, hq]
  dsimp only
  rw [h]; rfl
section
variable {X : Type} {f : X → D}
abbrev trb : M Fl := (sDrop (mLM 3 fAppend (mCons (mLM 2 fPopAt (mCons (mCallI 0 m_law_take 1 (mCons (m1 DL.rLen (eB 2)) mNil)) mNil)) mNil)))
abbrev trt : M Bool := (mB (m2B DL.rNe 2 (bd (mLst mNil) fun x => opt (Ent.toD x))))
theorem trb_run {l l1 : List D} {e1 : Ent} {a a' r : List D} {j : Int} {y : D} (hm : m_law_take l [.int (a.length : Nat)] = .ok (.int j) l1) (hpop : fPopAt a [.int j] = some (y, a')) (hr : r.length < 1000) : trb [.pin l, e1, .ow a, .ow r] = .ok .nx [.pin l1, e1, .ow a', .ow (r ++ [y])] := by
  unfold trb
  simp only [r_bd, r_ok, r_er, r_stuck, r_rt, r_os, r_eV, r_eB, r_m2, r_m2B, r_m1, r_mB, r_mAnd, r_mOr, r_mNot, r_vAnd, r_vOr, r_vNot, r_mIf, r_sq, r_sqnx, r_sqret, r_sIf, r_sRet, r_sDrop, r_setE, r_setU, r_sSet, r_sSetF, r_aName, r_aNil, r_aCons, r_aTup, r_aLst, r_sAsg, r_mNil, r_mCons, r_mTup, r_mLst, r_mNs, r_mCall, r_lift, r_lifter, r_mMeth, r_mMeth0, r_mProp, r_okOf, r_vIsi, r_mCut, r_mDget, r_mDisp2, r_mBM, r_vCh, r_mCh, r_sPar, r_mFor, r_sFld, r_sRaise, r_m1l, r_mMake, r_liftF, r_both, r_mLc, r_mLc2, r_mSk, r_mSetL, r_toDfz, r_toDow, r_toDdc, r_asB, r_asI, r_iteA, r_itlst, r_ittup, r_it1, r_mLM, r_mCallI, r_isOwn, r_liftI, r_outS, List.getElem?_cons_zero, List.getElem?_cons_succ, List.nil_append, List.set_cons_zero, List.set_cons_succ, List.length_cons, List.length_nil, Nat.reduceAdd, Nat.reduceLT, Nat.reduceEqDiff, ↓reduceIte, if_true, Bool.not_true, Bool.not_false, and_self, Bool.false_eq_true, len_nn, liftI_ok hm, hpop, fap_small hr]
theorem erase_map (f : X → D) : ∀ (l : List X) (j : Nat), (l.map f).eraseIdx j = (l.eraseIdx j).map f
  | [], _ => rfl
  | _ :: _, 0 => rfl
  | x :: r, j + 1 => by show f x :: (r.map f).eraseIdx j = f x :: (r.eraseIdx j).map f; rw [erase_map f r j]
theorem er_perm : ∀ (l : List X) (i : Nat) (y : X), l[i]? = some y → (y :: l.eraseIdx i).Perm l
  | [], i, y, h => by simp at h
  | x :: r, 0, y, h => by simp at h; subst h; exact .refl _
  | x :: r, i + 1, y, h => (List.Perm.swap x y _).trans ((er_perm r i y (by simpa using h)).cons x)
theorem turn_while (hf : ∀ x, (f x).plain = true) (e1 : Ent) (n : Nat) : ∀ (left found : List X) (l : List D), Pool l → left.length < n → found.length + left.length ≤ 100 →
    ∃ (vs : List X) (l' : List D), sWhile trt trb n [.pin l, e1, .ow (left.map f), .ow (found.map f)] = .ok .nx [.pin l', e1, .ow [], .ow (vs.map f)] ∧ Pool l' ∧ vs.Perm (found ++ left) := by
  induction n with
  | zero => intro left _ _ _ h; exact absurd h (by omega)
  | succ n ih =>
    intro left found l hp hn hl
    unfold sWhile
    cases left with
    | nil =>
      refine ⟨found, l, ?_, hp, by simp⟩
      have ht : trt [.pin l, e1, .ow [], .ow (found.map f)] = .ok false [.pin l, e1, .ow [], .ow (found.map f)] := by
        unfold trt
        simp only [r_bd, r_ok, r_er, r_stuck, r_rt, r_os, r_eV, r_eB, r_m2, r_m2B, r_m1, r_mB, r_mAnd, r_mOr, r_mNot, r_vAnd, r_vOr, r_vNot, r_mIf, r_sq, r_sqnx, r_sqret, r_sIf, r_sRet, r_sDrop, r_setE, r_setU, r_sSet, r_sSetF, r_aName, r_aNil, r_aCons, r_aTup, r_aLst, r_sAsg, r_mNil, r_mCons, r_mTup, r_mLst, r_mNs, r_mCall, r_lift, r_lifter, r_mMeth, r_mMeth0, r_mProp, r_okOf, r_vIsi, r_mCut, r_mDget, r_mDisp2, r_mBM, r_vCh, r_mCh, r_sPar, r_mFor, r_sFld, r_sRaise, r_m1l, r_mMake, r_liftF, r_both, r_mLc, r_mLc2, r_mSk, r_mSetL, r_toDfz, r_toDow, r_toDdc, r_asB, r_asI, r_iteA, r_itlst, r_ittup, r_it1, r_mLM, r_mCallI, r_isOwn, r_liftI, r_outS, List.getElem?_cons_zero, List.getElem?_cons_succ, List.nil_append, List.set_cons_zero, List.set_cons_succ, List.length_cons, List.length_nil, Nat.reduceAdd, Nat.reduceLT, Nat.reduceEqDiff, ↓reduceIte, if_true, Bool.not_true, Bool.not_false, and_self, Bool.false_eq_true, r_short (l := []) (show 0 ≤ 1000 by decide), rne_nil]
      rw [List.map_nil, run_bd ht]
      rfl
    | cons x r =>
      have hpl : D.plainL (f x :: r.map f) = true := plainL_map hf (x :: r)
      have ht : trt [.pin l, e1, .ow (f x :: r.map f), .ow (found.map f)] = .ok true [.pin l, e1, .ow (f x :: r.map f), .ow (found.map f)] := by
        unfold trt
        simp only [r_bd, r_ok, r_er, r_stuck, r_rt, r_os, r_eV, r_eB, r_m2, r_m2B, r_m1, r_mB, r_mAnd, r_mOr, r_mNot, r_vAnd, r_vOr, r_vNot, r_mIf, r_sq, r_sqnx, r_sqret, r_sIf, r_sRet, r_sDrop, r_setE, r_setU, r_sSet, r_sSetF, r_aName, r_aNil, r_aCons, r_aTup, r_aLst, r_sAsg, r_mNil, r_mCons, r_mTup, r_mLst, r_mNs, r_mCall, r_lift, r_lifter, r_mMeth, r_mMeth0, r_mProp, r_okOf, r_vIsi, r_mCut, r_mDget, r_mDisp2, r_mBM, r_vCh, r_mCh, r_sPar, r_mFor, r_sFld, r_sRaise, r_m1l, r_mMake, r_liftF, r_both, r_mLc, r_mLc2, r_mSk, r_mSetL, r_toDfz, r_toDow, r_toDdc, r_asB, r_asI, r_iteA, r_itlst, r_ittup, r_it1, r_mLM, r_mCallI, r_isOwn, r_liftI, r_outS, List.getElem?_cons_zero, List.getElem?_cons_succ, List.nil_append, List.set_cons_zero, List.set_cons_succ, List.length_cons, List.length_nil, Nat.reduceAdd, Nat.reduceLT, Nat.reduceEqDiff, ↓reduceIte, if_true, Bool.not_true, Bool.not_false, and_self, Bool.false_eq_true, r_short (l := []) (show 0 ≤ 1000 by decide), rne_cons hpl]
      have hlen : ((x :: r).map f).length = r.length + 1 := by simp
      simp only [List.length_cons] at hn hl
      obtain ⟨i, l1, hm, hp1, h0, h1⟩ := take_ok (n := ((r.length + 1 : Nat) : Int)) hp (by omega) (by omega)
      obtain ⟨j, rfl⟩ : ∃ j : Nat, i = (j : Nat) := ⟨i.toNat, by omega⟩
      have hj : j < (x :: r).length := by rw [List.length_cons]; omega
      have hgx : (x :: r)[j]? = some (x :: r)[j] := List.getElem?_eq_getElem hj
      generalize (x :: r)[j] = y at hgx
      have hg : ((x :: r).map f)[j]? = some (f y) := by rw [List.getElem?_map, hgx]; rfl
      have hpop := pop_ok hg (by rw [hlen]; omega)
      rw [erase_map f (x :: r) j, List.map_cons] at hpop
      have hle : ((x :: r).eraseIdx j).length = r.length := by rw [List.length_eraseIdx_of_lt hj]; simp
      have pm0 := er_perm (x :: r) j y hgx
      generalize (x :: r).eraseIdx j = r' at hpop hle pm0
      have hm' : m_law_take l [.int ((f x :: r.map f).length : Nat)] = .ok (.int (j : Nat)) l1 := by rw [← List.map_cons, hlen]; exact hm
      have hb := trb_run (e1 := e1) hm' hpop (r := found.map f) (by rw [List.length_map]; omega)
      have ef : found.map f ++ [f y] = (found ++ [y]).map f := by rw [List.map_append]; rfl
      rw [ef] at hb
      obtain ⟨vs, l2, e2, hp2, pm⟩ := ih r' (found ++ [y]) l1 hp1 (by omega) (by rw [List.length_append, List.length_singleton]; omega)
      refine ⟨vs, l2, ?_, hp2, pm.trans ?_⟩
      · rw [List.map_cons, run_bd ht, if_pos rfl, run_bd hb]
        exact e2
      · rw [List.append_assoc]
        exact List.Perm.append_left found pm0
theorem turned_ok (hf : ∀ x, (f x).plain = true) {l : List D} (hp : Pool l) (xs : List X) (hx : xs.length ≤ 9) : ∃ (vs : List X) (l' : List D), m_law_turned l [.lst (xs.map f)] = .ok (.lst (vs.map f)) l' ∧ Pool l' ∧ vs.Perm xs := by
  obtain ⟨vs, l', e, hp', pm⟩ := turn_while hf (.fz (.lst (xs.map f))) 10 xs [] l hp (by omega) (by simp; omega)
  refine ⟨vs, l', ?_, hp', by simpa using pm⟩
  show toOutI (g_law_turned [.pin l, .fz (.lst (xs.map f)), .no, .no]) = _
  unfold g_law_turned
  unfold trt trb at e
  rw [List.map_nil] at e
  simp only [r_bd, r_ok, r_er, r_stuck, r_rt, r_os, r_eV, r_eB, r_m2, r_m2B, r_m1, r_mB, r_mAnd, r_mOr, r_mNot, r_vAnd, r_vOr, r_vNot, r_mIf, r_sq, r_sqnx, r_sqret, r_sIf, r_sRet, r_sDrop, r_setE, r_setU, r_sSet, r_sSetF, r_aName, r_aNil, r_aCons, r_aTup, r_aLst, r_sAsg, r_mNil, r_mCons, r_mTup, r_mLst, r_mNs, r_mCall, r_lift, r_lifter, r_mMeth, r_mMeth0, r_mProp, r_okOf, r_vIsi, r_mCut, r_mDget, r_mDisp2, r_mBM, r_vCh, r_mCh, r_sPar, r_mFor, r_sFld, r_sRaise, r_m1l, r_mMake, r_liftF, r_both, r_mLc, r_mLc2, r_mSk, r_mSetL, r_toDfz, r_toDow, r_toDdc, r_asB, r_asI, r_iteA, r_itlst, r_ittup, r_it1, r_mLM, r_mCallI, r_isOwn, r_liftI, r_outS, List.getElem?_cons_zero, List.getElem?_cons_succ, List.nil_append, List.set_cons_zero, List.set_cons_succ, List.length_cons, List.length_nil, Nat.reduceAdd, Nat.reduceLT, Nat.reduceEqDiff, ↓reduceIte, if_true, Bool.not_true, Bool.not_false, and_self, Bool.false_eq_true, list_lst, r_short (l := []) (show 0 ≤ 1000 by decide), e]
  rfl
end
/-! ### words -/
theorem mod_ok (i : Int) : DL.rMod (.int i) (.int 26) = some (.int (i % 26)) := rMod_pos (by decide)
theorem mul_small {i j : Int} (h0 : 0 ≤ j) (h : j < 1000) : DL.rMul (.int i) (.int j) = some (.int (i * j)) := rMul_r (inW_of h0 (by omega))
theorem toInt_I (i : Int) : rToInt (.int i) = some (.int i) := rfl
theorem ix_abc {m : Int} (h0 : 0 ≤ m) (h1 : m < 26) : DL.rIx (.str ("abcdefghijklmnopqrstuvwxyz" : Str)) (.int m) = some (sD [97 + m.toNat]) := by
  rw [abc_S]
  have : abcS[m.toNat]? = some (97 + m.toNat) := by
    have : ∀ k : Fin 26, abcS[k.val]? = some (97 + k.val) := by decide
    exact this ⟨m.toNat, by omega⟩
  have h := ix_S (a := abcS) (i := m.toNat) (by decide) this
  rw [show ((m.toNat : Nat) : Int) = m by omega] at h
  exact h
theorem one_abc' {l : List D} (h : Pool l) : ∃ z l', m_law_one l [.str ("abcdefghijklmnopqrstuvwxyz" : Str)] = .ok (sD [z]) l' ∧ Pool l' ∧ Let z := by
  obtain ⟨z, l', e, hp, hz⟩ := one_abc h
  refine ⟨z, l', e, hp, ?_⟩
  have : z ∈ abcS := by
    have e2 : abc.cps.toList = abcS := by
      have := abc_S
      show ("abcdefghijklmnopqrstuvwxyz" : Str).cps.toList = _
      rw [this, S_list]
    rw [e2] at hz; exact hz
  exact let_mem.mp this
theorem glue_S : ∀ zs : List Nat, Txt.join (S []) (zs.map fun z => S [z]) = S zs := by
  intro zs
  have h : ∀ zs : List Nat, Str.join (S []) (zs.map fun z => S [z]) = S zs := by
    intro zs
    induction zs with
    | nil => rfl
    | cons z r ih =>
      cases r with
      | nil => rfl
      | cons y r =>
        show S [z] ++ S [] ++ Str.join (S []) ((y :: r).map fun z => S [z]) = _
        rw [ih, S_app, S_app]; rfl
  show Builtin.Str.glued _ _ = _
  rw [StrLaws.glued_eq_join]
  exact h zs
theorem lit_nil : ("" : Str) = S [] := by decide +kernel
theorem join_S (zs : List Nat) (h : zs.length ≤ 1000) : fJoin (.str (S [])) [.lst (zs.map fun z => sD [z])] = some (sD zs) := by
  have hs : strs? (zs.map fun z => sD [z]) = some (zs.map fun z => S [z]) := by
    clear h
    induction zs with
    | nil => rfl
    | cons z r ih => show (strs? (r.map fun z => sD [z])).map _ = _; rw [ih]; rfl
  show (strs? (zs.map fun z => sD [z])).bind _ = _
  rw [hs]
  show (if ((zs.map fun z => S [z]).map (·.length)).sum + (zs.map fun z => S [z]).length * (S []).length ≤ 16777216 then some (D.str (Txt.join (S []) (zs.map fun z => S [z]))) else none) = _
  have hsum : ((zs.map fun z => S [z]).map (·.length)).sum = zs.length := by
    clear h hs
    induction zs with
    | nil => rfl
    | cons z r ih => rw [List.map_cons, List.map_cons, List.sum_cons, ih, S_len, List.length_cons, List.length_cons, List.length_nil]; omega
  rw [hsum, if_pos (by rw [S_len, List.length_nil, Nat.mul_zero]; omega), glue_S]
end G
end
section
set_option Elab.async false
set_option linter.all false
set_option maxRecDepth 100000
set_option maxHeartbeats 4000000
namespace G
open PySem PySem.Spec PyProof.Rows L2 DL
theorem upI_len (lo : Int) (n : Nat) : (upI lo n).length = n := by unfold upI; simp
theorem range1 {j : Int} (h0 : 0 ≤ j) (h : j < 1000) : rRange [.int j] = some (upI 0 j.toNat) := by
  have : small62 j = true := by
    unfold small62
    rw [Bool.and_eq_true]
    exact ⟨decide_eq_true (by omega), decide_eq_true (by omega)⟩
  show (if small62 j = true then some (upI 0 j.toNat) else none) = _
  rw [if_pos this]
theorem signs_of : ∀ es : List D, (∀ e ∈ es, ∃ z, e = sD [z] ∧ Let z) → ∃ zs : List Nat, es = zs.map (fun z => sD [z]) ∧ ∀ z ∈ zs, Let z
  | [], _ => ⟨[], rfl, fun _ h => by cases h⟩
  | e :: r, h => by
    obtain ⟨z, rfl, hz⟩ := h e List.mem_cons_self
    obtain ⟨zs, rfl, hs⟩ := signs_of r fun e he => h e (List.mem_cons_of_mem _ he)
    exact ⟨z :: zs, rfl, fun y hy => by
      rcases List.mem_cons.mp hy with rfl | hy
      · exact hz
      · exact hs y hy⟩
def gJ6 : M D := (mBM D.isStr fJoin (rt (.str ("" : Str))) (mCons (bd (mLc (bd (mCons (mCallI 0 m_law_take 1 (mCons (rt (.int 3)) mNil)) mNil) fun ds => opt (if ds.length = 1 then rRange ds else none)) [6] (aName 6) (rt true) (mCallI 0 m_law_one 1 (mCons (eV 2) mNil))) fun x => opt (Ent.toD x)) mNil))
theorem gJ6_eq : gJ6 = (mBM D.isStr fJoin (rt (.str ("" : Str))) (mCons (bd (mLc (bd (mCons (mCallI 0 m_law_take 1 (mCons (rt (.int 3)) mNil)) mNil) fun ds => opt (if ds.length = 1 then rRange ds else none)) [6] (aName 6) (rt true) (mCallI 0 m_law_one 1 (mCons (eV 2) mNil))) fun x => opt (Ent.toD x)) mNil)) := rfl
/-- some letters drawn -/
theorem join_ok {l : List D} (h : Pool l) (e1 e3 e4 e5 e7 e8 : Ent) : ∃ (zs : List Nat) (l' : List D), gJ6 [.pin l, e1, .fz (.str ("abcdefghijklmnopqrstuvwxyz" : Str)), e3, e4, e5, .no, e7, e8] = .ok (sD zs) [.pin l', e1, .fz (.str ("abcdefghijklmnopqrstuvwxyz" : Str)), e3, e4, e5, .no, e7, e8] ∧ Pool l' ∧ zs.length ≤ 2 ∧ ∀ z ∈ zs, Let z := by
  obtain ⟨r, l1, hm, hp1, h0, h3⟩ := take_ok (n := 3) h (by omega) (by omega)
  obtain ⟨es, l2, e2, hp2, hlen, hq⟩ := loopL_pool (vs := [6]) (ga := aName 6) (tt := rt true) (ge := (mCallI 0 m_law_one 1 (mCons (eV 2) mNil))) (ρ := [e1, .fz (.str ("abcdefghijklmnopqrstuvwxyz" : Str)), e3, e4, e5, .no, e7, e8]) (Q := fun e => ∃ z, e = sD [z] ∧ Let z) (upI 0 r.toNat) [] l1 hp1 (by
    intro l hl d hd
    obtain ⟨z, l', ho, hp', hz⟩ := one_abc' hl
    refine ⟨sD [z], l', ?_, hp', z, rfl, hz⟩
    refine turn_some rfl (ρ1 := [.pin l, e1, .fz (.str ("abcdefghijklmnopqrstuvwxyz" : Str)), e3, e4, e5, .fz d, e7, e8]) rfl rfl (ρ3 := [.pin l', e1, .fz (.str ("abcdefghijklmnopqrstuvwxyz" : Str)), e3, e4, e5, .fz d, e7, e8]) ?_ ⟨rfl, rfl⟩ rfl
    simp only [r_bd, r_ok, r_er, r_stuck, r_rt, r_os, r_eV, r_eB, r_m2, r_m2B, r_m1, r_mB, r_mAnd, r_mOr, r_mNot, r_vAnd, r_vOr, r_vNot, r_mIf, r_sq, r_sqnx, r_sqret, r_sIf, r_sRet, r_sDrop, r_setE, r_setU, r_sSet, r_sSetF, r_aName, r_aNil, r_aCons, r_aTup, r_aLst, r_sAsg, r_mNil, r_mCons, r_mTup, r_mLst, r_mNs, r_mCall, r_lift, r_lifter, r_mMeth, r_mMeth0, r_mProp, r_okOf, r_vIsi, r_mCut, r_mDget, r_mDisp2, r_mBM, r_vCh, r_mCh, r_sPar, r_mFor, r_sFld, r_sRaise, r_m1l, r_mMake, r_liftF, r_both, r_mLc, r_mLc2, r_mSk, r_mSetL, r_toDfz, r_toDow, r_toDdc, r_asB, r_asI, r_iteA, r_itlst, r_ittup, r_it1, r_mLM, r_mCallI, r_isOwn, r_liftI, r_outS, List.getElem?_cons_zero, List.getElem?_cons_succ, List.nil_append, List.set_cons_zero, List.set_cons_succ, List.length_cons, List.length_nil, Nat.reduceAdd, Nat.reduceLT, Nat.reduceEqDiff, ↓reduceIte, if_true, Bool.not_true, Bool.not_false, and_self, Bool.false_eq_true, liftI_ok ho]) (by rw [upI_len, szl]; simp; omega)
  obtain ⟨zs, rfl, hz⟩ := signs_of es hq
  rw [upI_len, List.length_map] at hlen
  refine ⟨zs, l2, ?_, hp2, by omega, hz⟩
  have hs := r_sole e2
  unfold gJ6
  simp only [r_bd, r_ok, r_er, r_stuck, r_rt, r_os, r_eV, r_eB, r_m2, r_m2B, r_m1, r_mB, r_mAnd, r_mOr, r_mNot, r_vAnd, r_vOr, r_vNot, r_mIf, r_sq, r_sqnx, r_sqret, r_sIf, r_sRet, r_sDrop, r_setE, r_setU, r_sSet, r_sSetF, r_aName, r_aNil, r_aCons, r_aTup, r_aLst, r_sAsg, r_mNil, r_mCons, r_mTup, r_mLst, r_mNs, r_mCall, r_lift, r_lifter, r_mMeth, r_mMeth0, r_mProp, r_okOf, r_vIsi, r_mCut, r_mDget, r_mDisp2, r_mBM, r_vCh, r_mCh, r_sPar, r_mFor, r_sFld, r_sRaise, r_m1l, r_mMake, r_liftF, r_both, r_mLc, r_mLc2, r_mSk, r_mSetL, r_toDfz, r_toDow, r_toDdc, r_asB, r_asI, r_iteA, r_itlst, r_ittup, r_it1, r_mLM, r_mCallI, r_isOwn, r_liftI, r_outS, List.getElem?_cons_zero, List.getElem?_cons_succ, List.nil_append, List.set_cons_zero, List.set_cons_succ, List.length_cons, List.length_nil, Nat.reduceAdd, Nat.reduceLT, Nat.reduceEqDiff, ↓reduceIte, if_true, Bool.not_true, Bool.not_false, and_self, Bool.false_eq_true, liftI_ok hm, range1 h0 (show r < 1000 by omega), hs, lit_nil, isStr_S, join_S zs (show zs.length ≤ 1000 by omega)]
theorem nodup_on {X Y : Type} {f : X → Y} : ∀ (l : List X), l.Nodup → (∀ a ∈ l, ∀ b ∈ l, f a = f b → a = b) → (l.map f).Nodup
  | [], _, _ => List.nodup_nil
  | x :: r, h, hf => by
    rw [List.nodup_cons] at h
    rw [List.map_cons, List.nodup_cons]
    refine ⟨fun e => ?_, nodup_on r h.2 fun a ha b hb => hf a (List.mem_cons_of_mem _ ha) b (List.mem_cons_of_mem _ hb)⟩
    obtain ⟨y, hy, e⟩ := List.mem_map.mp e
    exact h.1 (hf x List.mem_cons_self y (List.mem_cons_of_mem _ hy) e.symm ▸ hy)
abbrev strides : List D := [.int 1, .int 3, .int 5, .int 7, .int 9, .int 11, .int 15, .int 17, .int 19, .int 21, .int 23, .int 25]
theorem words_ret {l4 : List D} {k : Int} {e2 e3 e4 e5 e6 e7 : Ent} {L R : List D} {ge : M D} (hr : rRange [.int k] = some L) (hso : sole (loopL [8] (aName 8) (rt true) ge L []) [.pin l4, .fz (.int k), e2, e3, e4, e5, e6, e7, .no] = .ok R [.pin l4, .fz (.int k), e2, e3, e4, e5, e6, e7, .no]) : (sRet (bd (mLc (bd (mCons (eV 1) mNil) fun ds => opt (if ds.length = 1 then rRange ds else none)) [8] (aName 8) (rt true) ge) fun x => opt (Ent.toD x))) [.pin l4, .fz (.int k), e2, e3, e4, e5, e6, e7, .no] = .ok (.ret (.lst R)) [.pin l4, .fz (.int k), e2, e3, e4, e5, e6, e7, .no] := by
  simp only [r_bd, r_ok, r_er, r_stuck, r_rt, r_os, r_eV, r_eB, r_m2, r_m2B, r_m1, r_mB, r_mAnd, r_mOr, r_mNot, r_vAnd, r_vOr, r_vNot, r_mIf, r_sq, r_sqnx, r_sqret, r_sIf, r_sRet, r_sDrop, r_setE, r_setU, r_sSet, r_sSetF, r_aName, r_aNil, r_aCons, r_aTup, r_aLst, r_sAsg, r_mNil, r_mCons, r_mTup, r_mLst, r_mNs, r_mCall, r_lift, r_lifter, r_mMeth, r_mMeth0, r_mProp, r_okOf, r_vIsi, r_mCut, r_mDget, r_mDisp2, r_mBM, r_vCh, r_mCh, r_sPar, r_mFor, r_sFld, r_sRaise, r_m1l, r_mMake, r_liftF, r_both, r_mLc, r_mLc2, r_mSk, r_mSetL, r_toDfz, r_toDow, r_toDdc, r_asB, r_asI, r_iteA, r_itlst, r_ittup, r_it1, r_mLM, r_mCallI, r_isOwn, r_liftI, r_outS, List.getElem?_cons_zero, List.getElem?_cons_succ, List.nil_append, List.set_cons_zero, List.set_cons_succ, List.length_cons, List.length_nil, Nat.reduceAdd, Nat.reduceLT, Nat.reduceEqDiff, ↓reduceIte, if_true, Bool.not_true, Bool.not_false, and_self, Bool.false_eq_true, hr, hso]
theorem words_ok {l : List D} (h : Pool l) {k : Nat} (hk : k ≤ 5) : ∃ (ws : List (List Nat)) (l' : List D), m_law_words l [.int (k : Nat)] = .ok (.lst (ws.map sD)) l' ∧ Pool l' ∧ ws.length = k ∧ ws.Nodup ∧ (∀ w ∈ ws, Wd w) ∧ ∀ w ∈ ws, w.length ≤ 5 := by
  obtain ⟨a, l1, hm, hp1, a0, a1⟩ := take_ok (n := 26) h (by omega) (by omega)
  obtain ⟨sd, l2, ho, hp2, hsd⟩ := one_ok (ts := strides) hp1 (by simp) (by simp)
  obtain ⟨s, rfl, hs⟩ : ∃ s : Int, sd = .int s ∧ s ∈ ([1, 3, 5, 7, 9, 11, 15, 17, 19, 21, 23, 25] : List Int) := by
    simp only [strides, List.mem_cons, List.not_mem_nil, or_false] at hsd
    rcases hsd with rfl | rfl | rfl | rfl | rfl | rfl | rfl | rfl | rfl | rfl | rfl | rfl <;> exact ⟨_, rfl, by simp⟩
  have hs0 : 0 ≤ s ∧ s < 26 := by
    simp only [List.mem_cons, List.not_mem_nil, or_false] at hs
    omega
  obtain ⟨hd, l3, j1, hp3, lh, hh⟩ := join_ok hp2 (.fz (.int (k : Nat))) (.fz (.int a)) (.fz (.int s)) .no .no .no
  obtain ⟨tl, l4, j2, hp4, lt, ht⟩ := join_ok hp3 (.fz (.int (k : Nat))) (.fz (.int a)) (.fz (.int s)) (.fz (sD hd)) .no .no
  have bnd : ∀ i : Nat, 0 ≤ (a + s * (i : Int)) % 26 ∧ (a + s * (i : Int)) % 26 < 26 := fun i => ⟨Int.emod_nonneg _ (by omega), Int.emod_lt_of_pos _ (by omega)⟩
  have hloop := loop_mp (vs := [8]) (ga := aName 8) (tt := rt true) (ge := (m2 DL.rAdd (m2B DL.rAdd 5 (m2B DL.rIx 2 (m2 DL.rMod (m1 rToInt (m2B DL.rAdd 3 (m2B DL.rMul 4 (eB 8)))) (rt (.int 26))))) (eB 7))) (ρ := [.pin l4, .fz (.int (k : Nat)), .fz (.str ("abcdefghijklmnopqrstuvwxyz" : Str)), .fz (.int a), .fz (.int s), .fz (sD hd), .no, .fz (sD tl), .no])
    (f := fun (i : Nat) => D.int (0 + (i : Int))) (g := fun i => sD (hd ++ [97 + ((a + s * (i : Int)) % 26).toNat] ++ tl)) (List.range k) [] (fun i hi => by
      have hik : i < k := List.mem_range.mp hi
      refine turn_some rfl (ρ1 := [.pin l4, .fz (.int (k : Nat)), .fz (.str ("abcdefghijklmnopqrstuvwxyz" : Str)), .fz (.int a), .fz (.int s), .fz (sD hd), .no, .fz (sD tl), .fz (.int (0 + (i : Int)))]) rfl rfl (ρ3 := [.pin l4, .fz (.int (k : Nat)), .fz (.str ("abcdefghijklmnopqrstuvwxyz" : Str)), .fz (.int a), .fz (.int s), .fz (sD hd), .no, .fz (sD tl), .fz (.int (0 + (i : Int)))]) ?_ ⟨rfl, rfl⟩ rfl
      have hmul := mul_small (i := s) (j := 0 + (i : Int)) (by omega) (by omega)
      have e0 : s * (0 + (i : Int)) = s * (i : Int) := by rw [Int.zero_add]
      have ha1 := add_S (a := hd) (b := [97 + ((a + s * (i : Int)) % 26).toNat]) (by simp; omega)
      have ha2 := add_S (a := hd ++ [97 + ((a + s * (i : Int)) % 26).toNat]) (b := tl) (by simp; omega)
      simp only [r_bd, r_ok, r_er, r_stuck, r_rt, r_os, r_eV, r_eB, r_m2, r_m2B, r_m1, r_mB, r_mAnd, r_mOr, r_mNot, r_vAnd, r_vOr, r_vNot, r_mIf, r_sq, r_sqnx, r_sqret, r_sIf, r_sRet, r_sDrop, r_setE, r_setU, r_sSet, r_sSetF, r_aName, r_aNil, r_aCons, r_aTup, r_aLst, r_sAsg, r_mNil, r_mCons, r_mTup, r_mLst, r_mNs, r_mCall, r_lift, r_lifter, r_mMeth, r_mMeth0, r_mProp, r_okOf, r_vIsi, r_mCut, r_mDget, r_mDisp2, r_mBM, r_vCh, r_mCh, r_sPar, r_mFor, r_sFld, r_sRaise, r_m1l, r_mMake, r_liftF, r_both, r_mLc, r_mLc2, r_mSk, r_mSetL, r_toDfz, r_toDow, r_toDdc, r_asB, r_asI, r_iteA, r_itlst, r_ittup, r_it1, r_mLM, r_mCallI, r_isOwn, r_liftI, r_outS, List.getElem?_cons_zero, List.getElem?_cons_succ, List.nil_append, List.set_cons_zero, List.set_cons_succ, List.length_cons, List.length_nil, Nat.reduceAdd, Nat.reduceLT, Nat.reduceEqDiff, ↓reduceIte, if_true, Bool.not_true, Bool.not_false, and_self, Bool.false_eq_true, hmul, e0, addI, toInt_I, mod_ok, ix_abc (bnd i).1 (bnd i).2, ha1, ha2]) (by rw [szl]; simp; omega)
  have eg : ((List.range k).map fun (i : Nat) => sD (hd ++ [97 + ((a + s * (i : Int)) % 26).toNat] ++ tl)) = ((List.range k).map fun (i : Nat) => hd ++ [97 + ((a + s * (i : Int)) % 26).toNat] ++ tl).map sD := by
    rw [List.map_map]; rfl
  rw [eg, List.nil_append] at hloop
  have hso := r_sole hloop
  have hr : rRange [.int ((k : Nat) : Int)] = some ((List.range k).map fun (i : Nat) => D.int (0 + (i : Int))) := by
    rw [range1 (by omega) (by omega)]
    unfold upI
    rw [Int.toNat_natCast]
  refine ⟨(List.range k).map fun (i : Nat) => hd ++ [97 + ((a + s * (i : Int)) % 26).toNat] ++ tl, l4, ?_, hp4, by simp, ?_, ?_, ?_⟩
  · have w1 : (sAsg (aTup 2 (aCons (aName 3) (aCons (aName 4) aNil))) (mTup (mCons (mCallI 0 m_law_take 1 (mCons (rt (.int 26)) mNil)) (mCons (mCallI 0 m_law_one 1 (mCons (bd (mLst (mCons (rt (.int 1)) (mCons (rt (.int 3)) (mCons (rt (.int 5)) (mCons (rt (.int 7)) (mCons (rt (.int 9)) (mCons (rt (.int 11)) (mCons (rt (.int 15)) (mCons (rt (.int 17)) (mCons (rt (.int 19)) (mCons (rt (.int 21)) (mCons (rt (.int 23)) (mCons (rt (.int 25)) mNil))))))))))))) fun x => opt (Ent.toD x)) mNil)) mNil)))) [.pin l, .fz (.int (k : Nat)), .fz (.str ("abcdefghijklmnopqrstuvwxyz" : Str)), .no, .no, .no, .no, .no, .no] = .ok .nx [.pin l2, .fz (.int (k : Nat)), .fz (.str ("abcdefghijklmnopqrstuvwxyz" : Str)), .fz (.int a), .fz (.int s), .no, .no, .no, .no] := by
      simp only [r_bd, r_ok, r_er, r_stuck, r_rt, r_os, r_eV, r_eB, r_m2, r_m2B, r_m1, r_mB, r_mAnd, r_mOr, r_mNot, r_vAnd, r_vOr, r_vNot, r_mIf, r_sq, r_sqnx, r_sqret, r_sIf, r_sRet, r_sDrop, r_setE, r_setU, r_sSet, r_sSetF, r_aName, r_aNil, r_aCons, r_aTup, r_aLst, r_sAsg, r_mNil, r_mCons, r_mTup, r_mLst, r_mNs, r_mCall, r_lift, r_lifter, r_mMeth, r_mMeth0, r_mProp, r_okOf, r_vIsi, r_mCut, r_mDget, r_mDisp2, r_mBM, r_vCh, r_mCh, r_sPar, r_mFor, r_sFld, r_sRaise, r_m1l, r_mMake, r_liftF, r_both, r_mLc, r_mLc2, r_mSk, r_mSetL, r_toDfz, r_toDow, r_toDdc, r_asB, r_asI, r_iteA, r_itlst, r_ittup, r_it1, r_mLM, r_mCallI, r_isOwn, r_liftI, r_outS, List.getElem?_cons_zero, List.getElem?_cons_succ, List.nil_append, List.set_cons_zero, List.set_cons_succ, List.length_cons, List.length_nil, Nat.reduceAdd, Nat.reduceLT, Nat.reduceEqDiff, ↓reduceIte, if_true, Bool.not_true, Bool.not_false, and_self, Bool.false_eq_true, liftI_ok hm, r_short (l := [_, _, _, _, _, _, _, _, _, _, _, _]) (show 12 ≤ 1000 by decide), liftI_ok ho, r_short (l := [_, _]) (show 2 ≤ 1000 by decide)]
    have w2 : (sSetF 5 gJ6) [.pin l2, .fz (.int (k : Nat)), .fz (.str ("abcdefghijklmnopqrstuvwxyz" : Str)), .fz (.int a), .fz (.int s), .no, .no, .no, .no] = .ok .nx [.pin l3, .fz (.int (k : Nat)), .fz (.str ("abcdefghijklmnopqrstuvwxyz" : Str)), .fz (.int a), .fz (.int s), .fz (sD hd), .no, .no, .no] := by
      simp only [r_bd, r_ok, r_er, r_stuck, r_rt, r_os, r_eV, r_eB, r_m2, r_m2B, r_m1, r_mB, r_mAnd, r_mOr, r_mNot, r_vAnd, r_vOr, r_vNot, r_mIf, r_sq, r_sqnx, r_sqret, r_sIf, r_sRet, r_sDrop, r_setE, r_setU, r_sSet, r_sSetF, r_aName, r_aNil, r_aCons, r_aTup, r_aLst, r_sAsg, r_mNil, r_mCons, r_mTup, r_mLst, r_mNs, r_mCall, r_lift, r_lifter, r_mMeth, r_mMeth0, r_mProp, r_okOf, r_vIsi, r_mCut, r_mDget, r_mDisp2, r_mBM, r_vCh, r_mCh, r_sPar, r_mFor, r_sFld, r_sRaise, r_m1l, r_mMake, r_liftF, r_both, r_mLc, r_mLc2, r_mSk, r_mSetL, r_toDfz, r_toDow, r_toDdc, r_asB, r_asI, r_iteA, r_itlst, r_ittup, r_it1, r_mLM, r_mCallI, r_isOwn, r_liftI, r_outS, List.getElem?_cons_zero, List.getElem?_cons_succ, List.nil_append, List.set_cons_zero, List.set_cons_succ, List.length_cons, List.length_nil, Nat.reduceAdd, Nat.reduceLT, Nat.reduceEqDiff, ↓reduceIte, if_true, Bool.not_true, Bool.not_false, and_self, Bool.false_eq_true, j1]
    have w3 : (sSetF 7 gJ6) [.pin l3, .fz (.int (k : Nat)), .fz (.str ("abcdefghijklmnopqrstuvwxyz" : Str)), .fz (.int a), .fz (.int s), .fz (sD hd), .no, .no, .no] = .ok .nx [.pin l4, .fz (.int (k : Nat)), .fz (.str ("abcdefghijklmnopqrstuvwxyz" : Str)), .fz (.int a), .fz (.int s), .fz (sD hd), .no, .fz (sD tl), .no] := by
      simp only [r_bd, r_ok, r_er, r_stuck, r_rt, r_os, r_eV, r_eB, r_m2, r_m2B, r_m1, r_mB, r_mAnd, r_mOr, r_mNot, r_vAnd, r_vOr, r_vNot, r_mIf, r_sq, r_sqnx, r_sqret, r_sIf, r_sRet, r_sDrop, r_setE, r_setU, r_sSet, r_sSetF, r_aName, r_aNil, r_aCons, r_aTup, r_aLst, r_sAsg, r_mNil, r_mCons, r_mTup, r_mLst, r_mNs, r_mCall, r_lift, r_lifter, r_mMeth, r_mMeth0, r_mProp, r_okOf, r_vIsi, r_mCut, r_mDget, r_mDisp2, r_mBM, r_vCh, r_mCh, r_sPar, r_mFor, r_sFld, r_sRaise, r_m1l, r_mMake, r_liftF, r_both, r_mLc, r_mLc2, r_mSk, r_mSetL, r_toDfz, r_toDow, r_toDdc, r_asB, r_asI, r_iteA, r_itlst, r_ittup, r_it1, r_mLM, r_mCallI, r_isOwn, r_liftI, r_outS, List.getElem?_cons_zero, List.getElem?_cons_succ, List.nil_append, List.set_cons_zero, List.set_cons_succ, List.length_cons, List.length_nil, Nat.reduceAdd, Nat.reduceLT, Nat.reduceEqDiff, ↓reduceIte, if_true, Bool.not_true, Bool.not_false, and_self, Bool.false_eq_true, j2]
    have w4 : (sRet (bd (mLc (bd (mCons (eV 1) mNil) fun ds => opt (if ds.length = 1 then rRange ds else none)) [8] (aName 8) (rt true) (m2 DL.rAdd (m2B DL.rAdd 5 (m2B DL.rIx 2 (m2 DL.rMod (m1 rToInt (m2B DL.rAdd 3 (m2B DL.rMul 4 (eB 8)))) (rt (.int 26))))) (eB 7))) fun x => opt (Ent.toD x))) [.pin l4, .fz (.int (k : Nat)), .fz (.str ("abcdefghijklmnopqrstuvwxyz" : Str)), .fz (.int a), .fz (.int s), .fz (sD hd), .no, .fz (sD tl), .no] = .ok (.ret (.lst (((List.range k).map fun (i : Nat) => hd ++ [97 + ((a + s * (i : Int)) % 26).toNat] ++ tl).map sD))) [.pin l4, .fz (.int (k : Nat)), .fz (.str ("abcdefghijklmnopqrstuvwxyz" : Str)), .fz (.int a), .fz (.int s), .fz (sD hd), .no, .fz (sD tl), .no] := by
      exact words_ret hr hso
    have w5 : g_law_words [.pin l, .fz (.int (k : Nat)), .no, .no, .no, .no, .no, .no, .no] = .ok (.ret (.lst (((List.range k).map fun (i : Nat) => hd ++ [97 + ((a + s * (i : Int)) % 26).toNat] ++ tl).map sD))) [.pin l4, .fz (.int (k : Nat)), .fz (.str ("abcdefghijklmnopqrstuvwxyz" : Str)), .fz (.int a), .fz (.int s), .fz (sD hd), .no, .fz (sD tl), .no] := by
      unfold g_law_words
      rw [← gJ6_eq]
      refine (run_sq (ρ' := [.pin l, .fz (.int (k : Nat)), .fz (.str ("abcdefghijklmnopqrstuvwxyz" : Str)), .no, .no, .no, .no, .no, .no]) rfl).trans ?_
      exact (run_sq w1).trans ((run_sq w2).trans ((run_sq w3).trans w4))
    show toOutI (g_law_words [.pin l, .fz (.int (k : Nat)), .no, .no, .no, .no, .no, .no, .no]) = _
    rw [w5]
    rfl
  · refine nodup_on _ List.nodup_range fun i hi j hj e => ?_
    have hi' := List.mem_range.mp hi
    have hj' := List.mem_range.mp hj
    have e1 := List.append_inj_left' e (by simp)
    have e2 := List.append_cancel_left e1
    have e3 : 97 + ((a + s * (i : Int)) % 26).toNat = 97 + ((a + s * (j : Int)) % 26).toNat := by simpa using e2
    have b1 := bnd i
    have b2 := bnd j
    have e4 : (a + s * (i : Int)) % 26 = (a + s * (j : Int)) % 26 := by omega
    simp only [List.mem_cons, List.not_mem_nil, or_false] at hs
    rcases hs with rfl | rfl | rfl | rfl | rfl | rfl | rfl | rfl | rfl | rfl | rfl | rfl <;> omega
  · intro w hw
    obtain ⟨i, _, rfl⟩ := List.mem_map.mp hw
    refine ⟨by simp only [List.length_append, List.length_cons, List.length_nil]; omega, by simp only [List.length_append, List.length_cons, List.length_nil]; omega, fun z hz => ?_⟩
    rw [List.mem_append, List.mem_append, List.mem_singleton] at hz
    rcases hz with (hz | rfl) | hz
    · exact hh z hz
    · have := bnd i; unfold Let; omega
    · exact ht z hz
  · intro w hw
    obtain ⟨i, _, rfl⟩ := List.mem_map.mp hw
    simp; omega
end G
end
section
set_option Elab.async false
set_option linter.all false
set_option maxRecDepth 100000
set_option maxHeartbeats 4000000
namespace G
open PySem PySem.Spec PyProof.Rows L2 DL
/-! ### trees and deeds drawn -/
structure TrIn (t : Tr) (ws : List (List Nat)) (ds : List Int) : Prop where
  g : Tg t
  w : ∀ x ∈ wds t, x ∈ ws
  d : ∀ x ∈ dgs t, x ∈ ds
theorem plainL_I : ∀ l : List Int, D.plainL (l.map D.int) = true
  | [] => rfl
  | x :: r => by show (true && D.plainL (r.map D.int)) = true; rw [plainL_I r]; rfl
theorem wds_c (a b c d : Tr) : wds (.c a b c d) = wds a ++ (wds b ++ (wds c ++ wds d)) := by unfold wds; simp [lv, List.filterMap_append]
theorem dgs_c (a b c d : Tr) : dgs (.c a b c d) = dgs a ++ (dgs b ++ (dgs c ++ dgs d)) := by unfold dgs; simp [lv, List.filterMap_append]
section
variable {rec : List D → List D → OutI} {l l1 l2 L : List D} {dw dd d : D} {deep r : Int} {e4 : Ent} {t : D}
/-- the first test is true, the loop done -/
theorem tree_yes {es : List D} (h1 : 1 < deep) (hm : m_law_take l [.int 3] = .ok (.int 0) l1) (hL : rRange [.int 4] = some L)
    (hs : sole (loopL [4] (aName 4) (rt true) (mCallI 0 rec 3 (mCons (eV 1) (mCons (eV 2) (mCons (m2B DL.rSub 3 (rt (.int 1))) mNil)))) L []) [.pin l1, .fz dw, .fz dd, .fz (.int deep), .no] = .ok es [.pin l2, .fz dw, .fz dd, .fz (.int deep), .no]) :
    g_law_tree rec [.pin l, .fz dw, .fz dd, .fz (.int deep), .no] = .ok (.ret (.tup es)) [.pin l2, .fz dw, .fz dd, .fz (.int deep), .no] := by
  unfold g_law_tree
  have ht : rToTup (.lst es) = some (.tup es) := rfl
  simp only [r_bd, r_ok, r_er, r_stuck, r_rt, r_os, r_eV, r_eB, r_m2, r_m2B, r_m1, r_mB, r_mAnd, r_mOr, r_mNot, r_vAnd, r_vOr, r_vNot, r_mIf, r_sq, r_sqnx, r_sqret, r_sIf, r_sRet, r_sDrop, r_setE, r_setU, r_sSet, r_sSetF, r_aName, r_aNil, r_aCons, r_aTup, r_aLst, r_sAsg, r_mNil, r_mCons, r_mTup, r_mLst, r_mNs, r_mCall, r_lift, r_lifter, r_mMeth, r_mMeth0, r_mProp, r_okOf, r_vIsi, r_mCut, r_mDget, r_mDisp2, r_mBM, r_vCh, r_mCh, r_sPar, r_mFor, r_sFld, r_sRaise, r_m1l, r_mMake, r_liftF, r_both, r_mLc, r_mLc2, r_mSk, r_mSetL, r_toDfz, r_toDow, r_toDdc, r_asB, r_asI, r_iteA, r_itlst, r_ittup, r_it1, r_mLM, r_mCallI, r_isOwn, r_liftI, r_outS, List.getElem?_cons_zero, List.getElem?_cons_succ, List.nil_append, List.set_cons_zero, List.set_cons_succ, List.length_cons, List.length_nil, Nat.reduceAdd, Nat.reduceLT, Nat.reduceEqDiff, ↓reduceIte, if_true, Bool.not_true, Bool.not_false, and_self, Bool.false_eq_true, gtI, h1, decide_true, liftI_ok hm, eqI, hL, hs, ht]
abbrev gt1 : M Bool := (mAnd (mB (m2B DL.rGt 3 (rt (.int 1)))) (mB (m2 DL.rEq (mCallI 0 m_law_take 1 (mCons (rt (.int 3)) mNil)) (rt (.int 0)))))
abbrev gt2 : M Bool := (mAnd (mB (m2B DL.rNe 2 (bd (mLst mNil) fun x => opt (Ent.toD x)))) (mB (m2 DL.rEq (mCallI 0 m_law_take 1 (mCons (rt (.int 3)) mNil)) (rt (.int 0)))))
theorem gt1_no1 (h1 : ¬ 1 < deep) : gt1 [.pin l, .fz dw, .fz dd, .fz (.int deep), .no] = .ok false [.pin l, .fz dw, .fz dd, .fz (.int deep), .no] := by
  unfold gt1
  simp only [r_bd, r_ok, r_er, r_stuck, r_rt, r_os, r_eV, r_eB, r_m2, r_m2B, r_m1, r_mB, r_mAnd, r_mOr, r_mNot, r_vAnd, r_vOr, r_vNot, r_mIf, r_sq, r_sqnx, r_sqret, r_sIf, r_sRet, r_sDrop, r_setE, r_setU, r_sSet, r_sSetF, r_aName, r_aNil, r_aCons, r_aTup, r_aLst, r_sAsg, r_mNil, r_mCons, r_mTup, r_mLst, r_mNs, r_mCall, r_lift, r_lifter, r_mMeth, r_mMeth0, r_mProp, r_okOf, r_vIsi, r_mCut, r_mDget, r_mDisp2, r_mBM, r_vCh, r_mCh, r_sPar, r_mFor, r_sFld, r_sRaise, r_m1l, r_mMake, r_liftF, r_both, r_mLc, r_mLc2, r_mSk, r_mSetL, r_toDfz, r_toDow, r_toDdc, r_asB, r_asI, r_iteA, r_itlst, r_ittup, r_it1, r_mLM, r_mCallI, r_isOwn, r_liftI, r_outS, List.getElem?_cons_zero, List.getElem?_cons_succ, List.nil_append, List.set_cons_zero, List.set_cons_succ, List.length_cons, List.length_nil, Nat.reduceAdd, Nat.reduceLT, Nat.reduceEqDiff, ↓reduceIte, if_true, Bool.not_true, Bool.not_false, and_self, Bool.false_eq_true, gtI, h1, decide_false]
theorem gt1_no2 (h1 : 1 < deep) (hm : m_law_take l [.int 3] = .ok (.int r) l1) (hr : ¬ r = 0) : gt1 [.pin l, .fz dw, .fz dd, .fz (.int deep), .no] = .ok false [.pin l1, .fz dw, .fz dd, .fz (.int deep), .no] := by
  unfold gt1
  simp only [r_bd, r_ok, r_er, r_stuck, r_rt, r_os, r_eV, r_eB, r_m2, r_m2B, r_m1, r_mB, r_mAnd, r_mOr, r_mNot, r_vAnd, r_vOr, r_vNot, r_mIf, r_sq, r_sqnx, r_sqret, r_sIf, r_sRet, r_sDrop, r_setE, r_setU, r_sSet, r_sSetF, r_aName, r_aNil, r_aCons, r_aTup, r_aLst, r_sAsg, r_mNil, r_mCons, r_mTup, r_mLst, r_mNs, r_mCall, r_lift, r_lifter, r_mMeth, r_mMeth0, r_mProp, r_okOf, r_vIsi, r_mCut, r_mDget, r_mDisp2, r_mBM, r_vCh, r_mCh, r_sPar, r_mFor, r_sFld, r_sRaise, r_m1l, r_mMake, r_liftF, r_both, r_mLc, r_mLc2, r_mSk, r_mSetL, r_toDfz, r_toDow, r_toDdc, r_asB, r_asI, r_iteA, r_itlst, r_ittup, r_it1, r_mLM, r_mCallI, r_isOwn, r_liftI, r_outS, List.getElem?_cons_zero, List.getElem?_cons_succ, List.nil_append, List.set_cons_zero, List.set_cons_succ, List.length_cons, List.length_nil, Nat.reduceAdd, Nat.reduceLT, Nat.reduceEqDiff, ↓reduceIte, if_true, Bool.not_true, Bool.not_false, and_self, Bool.false_eq_true, gtI, h1, decide_true, liftI_ok hm, eqI, hr, decide_false]
theorem gt2_no1 (h1 : DL.rNe dd (.lst []) = some (.bl false)) : gt2 [.pin l, .fz dw, .fz dd, .fz (.int deep), .no] = .ok false [.pin l, .fz dw, .fz dd, .fz (.int deep), .no] := by
  unfold gt2
  simp only [r_bd, r_ok, r_er, r_stuck, r_rt, r_os, r_eV, r_eB, r_m2, r_m2B, r_m1, r_mB, r_mAnd, r_mOr, r_mNot, r_vAnd, r_vOr, r_vNot, r_mIf, r_sq, r_sqnx, r_sqret, r_sIf, r_sRet, r_sDrop, r_setE, r_setU, r_sSet, r_sSetF, r_aName, r_aNil, r_aCons, r_aTup, r_aLst, r_sAsg, r_mNil, r_mCons, r_mTup, r_mLst, r_mNs, r_mCall, r_lift, r_lifter, r_mMeth, r_mMeth0, r_mProp, r_okOf, r_vIsi, r_mCut, r_mDget, r_mDisp2, r_mBM, r_vCh, r_mCh, r_sPar, r_mFor, r_sFld, r_sRaise, r_m1l, r_mMake, r_liftF, r_both, r_mLc, r_mLc2, r_mSk, r_mSetL, r_toDfz, r_toDow, r_toDdc, r_asB, r_asI, r_iteA, r_itlst, r_ittup, r_it1, r_mLM, r_mCallI, r_isOwn, r_liftI, r_outS, List.getElem?_cons_zero, List.getElem?_cons_succ, List.nil_append, List.set_cons_zero, List.set_cons_succ, List.length_cons, List.length_nil, Nat.reduceAdd, Nat.reduceLT, Nat.reduceEqDiff, ↓reduceIte, if_true, Bool.not_true, Bool.not_false, and_self, Bool.false_eq_true, h1, r_short (l := []) (show 0 ≤ 1000 by decide)]
theorem gt2_r (h1 : DL.rNe dd (.lst []) = some (.bl true)) (hm : m_law_take l [.int 3] = .ok (.int r) l1) : gt2 [.pin l, .fz dw, .fz dd, .fz (.int deep), .no] = .ok (decide (r = 0)) [.pin l1, .fz dw, .fz dd, .fz (.int deep), .no] := by
  unfold gt2
  simp only [r_bd, r_ok, r_er, r_stuck, r_rt, r_os, r_eV, r_eB, r_m2, r_m2B, r_m1, r_mB, r_mAnd, r_mOr, r_mNot, r_vAnd, r_vOr, r_vNot, r_mIf, r_sq, r_sqnx, r_sqret, r_sIf, r_sRet, r_sDrop, r_setE, r_setU, r_sSet, r_sSetF, r_aName, r_aNil, r_aCons, r_aTup, r_aLst, r_sAsg, r_mNil, r_mCons, r_mTup, r_mLst, r_mNs, r_mCall, r_lift, r_lifter, r_mMeth, r_mMeth0, r_mProp, r_okOf, r_vIsi, r_mCut, r_mDget, r_mDisp2, r_mBM, r_vCh, r_mCh, r_sPar, r_mFor, r_sFld, r_sRaise, r_m1l, r_mMake, r_liftF, r_both, r_mLc, r_mLc2, r_mSk, r_mSetL, r_toDfz, r_toDow, r_toDdc, r_asB, r_asI, r_iteA, r_itlst, r_ittup, r_it1, r_mLM, r_mCallI, r_isOwn, r_liftI, r_outS, List.getElem?_cons_zero, List.getElem?_cons_succ, List.nil_append, List.set_cons_zero, List.set_cons_succ, List.length_cons, List.length_nil, Nat.reduceAdd, Nat.reduceLT, Nat.reduceEqDiff, ↓reduceIte, if_true, Bool.not_true, Bool.not_false, and_self, Bool.false_eq_true, h1, r_short (l := []) (show 0 ≤ 1000 by decide), liftI_ok hm, eqI]
theorem one2 (ho : m_law_one l [dd] = .ok d l1) : (sRet (mCallI 0 m_law_one 1 (mCons (eV 2) mNil))) [.pin l, .fz dw, .fz dd, .fz (.int deep), .no] = .ok (.ret d) [.pin l1, .fz dw, .fz dd, .fz (.int deep), .no] := by
  simp only [r_bd, r_ok, r_er, r_stuck, r_rt, r_os, r_eV, r_eB, r_m2, r_m2B, r_m1, r_mB, r_mAnd, r_mOr, r_mNot, r_vAnd, r_vOr, r_vNot, r_mIf, r_sq, r_sqnx, r_sqret, r_sIf, r_sRet, r_sDrop, r_setE, r_setU, r_sSet, r_sSetF, r_aName, r_aNil, r_aCons, r_aTup, r_aLst, r_sAsg, r_mNil, r_mCons, r_mTup, r_mLst, r_mNs, r_mCall, r_lift, r_lifter, r_mMeth, r_mMeth0, r_mProp, r_okOf, r_vIsi, r_mCut, r_mDget, r_mDisp2, r_mBM, r_vCh, r_mCh, r_sPar, r_mFor, r_sFld, r_sRaise, r_m1l, r_mMake, r_liftF, r_both, r_mLc, r_mLc2, r_mSk, r_mSetL, r_toDfz, r_toDow, r_toDdc, r_asB, r_asI, r_iteA, r_itlst, r_ittup, r_it1, r_mLM, r_mCallI, r_isOwn, r_liftI, r_outS, List.getElem?_cons_zero, List.getElem?_cons_succ, List.nil_append, List.set_cons_zero, List.set_cons_succ, List.length_cons, List.length_nil, Nat.reduceAdd, Nat.reduceLT, Nat.reduceEqDiff, ↓reduceIte, if_true, Bool.not_true, Bool.not_false, and_self, Bool.false_eq_true, liftI_ok ho]
theorem one1 (ho : m_law_one l [dw] = .ok d l1) : (sRet (mCallI 0 m_law_one 1 (mCons (eV 1) mNil))) [.pin l, .fz dw, .fz dd, .fz (.int deep), .no] = .ok (.ret d) [.pin l1, .fz dw, .fz dd, .fz (.int deep), .no] := by
  simp only [r_bd, r_ok, r_er, r_stuck, r_rt, r_os, r_eV, r_eB, r_m2, r_m2B, r_m1, r_mB, r_mAnd, r_mOr, r_mNot, r_vAnd, r_vOr, r_vNot, r_mIf, r_sq, r_sqnx, r_sqret, r_sIf, r_sRet, r_sDrop, r_setE, r_setU, r_sSet, r_sSetF, r_aName, r_aNil, r_aCons, r_aTup, r_aLst, r_sAsg, r_mNil, r_mCons, r_mTup, r_mLst, r_mNs, r_mCall, r_lift, r_lifter, r_mMeth, r_mMeth0, r_mProp, r_okOf, r_vIsi, r_mCut, r_mDget, r_mDisp2, r_mBM, r_vCh, r_mCh, r_sPar, r_mFor, r_sFld, r_sRaise, r_m1l, r_mMake, r_liftF, r_both, r_mLc, r_mLc2, r_mSk, r_mSetL, r_toDfz, r_toDow, r_toDdc, r_asB, r_asI, r_iteA, r_itlst, r_ittup, r_it1, r_mLM, r_mCallI, r_isOwn, r_liftI, r_outS, List.getElem?_cons_zero, List.getElem?_cons_succ, List.nil_append, List.set_cons_zero, List.set_cons_succ, List.length_cons, List.length_nil, Nat.reduceAdd, Nat.reduceLT, Nat.reduceEqDiff, ↓reduceIte, if_true, Bool.not_true, Bool.not_false, and_self, Bool.false_eq_true, liftI_ok ho]
theorem tree_rest (h1 : gt1 [.pin l, .fz dw, .fz dd, .fz (.int deep), .no] = .ok false [.pin l1, .fz dw, .fz dd, .fz (.int deep), .no]) : g_law_tree rec [.pin l, .fz dw, .fz dd, .fz (.int deep), .no] = sq (sIf gt2 (sRet (mCallI 0 m_law_one 1 (mCons (eV 2) mNil))) (rt .nx)) (sRet (mCallI 0 m_law_one 1 (mCons (eV 1) mNil))) [.pin l1, .fz dw, .fz dd, .fz (.int deep), .no] := by
  unfold g_law_tree
  unfold gt1 at h1
  refine (run_sq (ρ' := [.pin l1, .fz dw, .fz dd, .fz (.int deep), .no]) ?_).trans rfl
  exact (run_f h1).trans rfl
end
section
variable {ws : List (List Nat)} {ds : List Int}
theorem leaf_ok {l : List D} (hp : Pool l) (hw : ∀ w ∈ ws, Wd w) (w0 : ws ≠ []) (w1 : ws.length < 1000) (hd : ∀ x ∈ ds, 0 ≤ x ∧ x ≤ 9) (d1 : ds.length < 1000) (deep : Int) :
    ∃ (t : Tr) (l' : List D), sq (sIf gt2 (sRet (mCallI 0 m_law_one 1 (mCons (eV 2) mNil))) (rt .nx)) (sRet (mCallI 0 m_law_one 1 (mCons (eV 1) mNil))) [.pin l, .fz (.lst (ws.map sD)), .fz (.lst (ds.map D.int)), .fz (.int deep), .no] = .ok (.ret (tD t)) [.pin l', .fz (.lst (ws.map sD)), .fz (.lst (ds.map D.int)), .fz (.int deep), .no] ∧ Pool l' ∧ dp t = 1 ∧ TrIn t ws ds := by
  have word : ∀ l, Pool l → ∃ (t : Tr) (l' : List D), (sRet (mCallI 0 m_law_one 1 (mCons (eV 1) mNil))) [.pin l, .fz (.lst (ws.map sD)), .fz (.lst (ds.map D.int)), .fz (.int deep), .no] = .ok (.ret (tD t)) [.pin l', .fz (.lst (ws.map sD)), .fz (.lst (ds.map D.int)), .fz (.int deep), .no] ∧ Pool l' ∧ dp t = 1 ∧ TrIn t ws ds := by
    intro l hp
    obtain ⟨d, l', ho, hp', hd⟩ := one_ok (ts := ws.map sD) hp (by simpa using w0) (by simpa using w1)
    obtain ⟨w, hw', rfl⟩ := List.mem_map.mp hd
    exact ⟨.w w, l', one1 ho, hp', rfl, ⟨hw w hw', by simp [wds, lv, wOf]; exact hw', by simp [dgs, lv, nOf]⟩⟩
  cases hds : ds with
  | nil =>
    obtain ⟨t, l', e, hp', h1, h2⟩ := word l hp
    rw [hds] at e h2
    refine ⟨t, l', ?_, hp', h1, h2⟩
    refine (run_sq (ρ' := [.pin l, .fz (.lst (ws.map sD)), .fz (.lst (([] : List Int).map D.int)), .fz (.int deep), .no]) ?_).trans e
    exact (run_f (gt2_no1 rne_nil)).trans rfl
  | cons x r =>
    rw [← hds]
    obtain ⟨q, l1, hm, hp1, _, _⟩ := take_ok (n := 3) hp (by omega) (by omega)
    have hne : DL.rNe (.lst (ds.map D.int)) (.lst []) = some (.bl true) := by
      rw [hds, List.map_cons]
      exact rne_cons (by rw [← List.map_cons]; exact plainL_I (x :: r))
    have hg := gt2_r (dw := .lst (ws.map sD)) (deep := deep) hne hm
    by_cases hq : q = 0
    · rw [decide_eq_true hq] at hg
      obtain ⟨d, l', ho, hp', hdm⟩ := one_ok (ts := ds.map D.int) hp1 (by rw [hds]; simp) (by simpa using d1)
      obtain ⟨z, hz, rfl⟩ := List.mem_map.mp hdm
      have hz9 := hd z hz
      refine ⟨.n z.toNat, l', ?_, hp', rfl, ⟨by show z.toNat ≤ 9; omega, by simp [wds, lv, wOf], ?_⟩⟩
      · have e := (run_t (h := rt .nx) hg).trans (one2 (dw := .lst (ws.map sD)) (deep := deep) ho)
        have ez : tD (.n z.toNat) = .int z := by show D.int ((z.toNat : Nat) : Int) = _; rw [Int.toNat_of_nonneg hz9.1]
        rw [ez]
        exact run_sqr e
      · intro y hy
        simp [dgs, lv, nOf] at hy
        rw [hy]
        rw [Int.max_eq_left hz9.1]
        exact hz
    · rw [decide_eq_false hq] at hg
      obtain ⟨t, l', e, hp', h1, h2⟩ := word l1 hp1
      refine ⟨t, l', ?_, hp', h1, h2⟩
      exact (run_sq ((run_f hg).trans rfl)).trans e
theorem tree_ok (hw : ∀ w ∈ ws, Wd w) (w0 : ws ≠ []) (w1 : ws.length < 1000) (hd : ∀ x ∈ ds, 0 ≤ x ∧ x ≤ 9) (d1 : ds.length < 1000) (n : Nat) : ∀ (deep : Int) (l : List D), Pool l → 1 ≤ deep → deep ≤ n →
    ∃ (t : Tr) (l' : List D), m_law_tree n l [.lst (ws.map sD), .lst (ds.map D.int), .int deep] = .ok (tD t) l' ∧ Pool l' ∧ (dp t : Int) ≤ deep ∧ TrIn t ws ds := by
  induction n with
  | zero => intro deep l hp h1 h2; exact absurd h2 (by omega)
  | succ n ih =>
    intro deep l hp h1 h2
    have fin : ∀ {t : Tr} {l' : List D}, g_law_tree (m_law_tree n) [.pin l, .fz (.lst (ws.map sD)), .fz (.lst (ds.map D.int)), .fz (.int deep), .no] = .ok (.ret (tD t)) [.pin l', .fz (.lst (ws.map sD)), .fz (.lst (ds.map D.int)), .fz (.int deep), .no] → m_law_tree (n + 1) l [.lst (ws.map sD), .lst (ds.map D.int), .int deep] = .ok (tD t) l' := by
      intro t l' e
      show toOutI (g_law_tree (m_law_tree n) [.pin l, .fz (.lst (ws.map sD)), .fz (.lst (ds.map D.int)), .fz (.int deep), .no]) = _
      rw [e]; rfl
    by_cases hdp : 1 < deep
    · obtain ⟨q, l1, hm, hp1, _, _⟩ := take_ok (n := 3) hp (by omega) (by omega)
      by_cases hq : q = 0
      · subst hq
        have hL : rRange [.int 4] = some (upI 0 4) := range1 (by decide) (by decide)
        obtain ⟨es, l2, e2, hp2, hlen, hQ⟩ := loopL_pool (vs := [4]) (ga := aName 4) (tt := rt true) (ge := (mCallI 0 (m_law_tree n) 3 (mCons (eV 1) (mCons (eV 2) (mCons (m2B DL.rSub 3 (rt (.int 1))) mNil))))) (ρ := [.fz (.lst (ws.map sD)), .fz (.lst (ds.map D.int)), .fz (.int deep), .no]) (Q := fun e => ∃ t : Tr, e = tD t ∧ (dp t : Int) ≤ deep - 1 ∧ TrIn t ws ds) (upI 0 4) [] l1 hp1 (by
          intro l hl d _
          obtain ⟨t, l', e, hp', ht1, ht2⟩ := ih (deep - 1) l hl (by omega) (by omega)
          refine ⟨tD t, l', ?_, hp', t, rfl, ht1, ht2⟩
          refine turn_some rfl (ρ1 := [.pin l, .fz (.lst (ws.map sD)), .fz (.lst (ds.map D.int)), .fz (.int deep), .fz d]) rfl rfl (ρ3 := [.pin l', .fz (.lst (ws.map sD)), .fz (.lst (ds.map D.int)), .fz (.int deep), .fz d]) ?_ ⟨rfl, rfl⟩ rfl
          simp only [r_bd, r_ok, r_er, r_stuck, r_rt, r_os, r_eV, r_eB, r_m2, r_m2B, r_m1, r_mB, r_mAnd, r_mOr, r_mNot, r_vAnd, r_vOr, r_vNot, r_mIf, r_sq, r_sqnx, r_sqret, r_sIf, r_sRet, r_sDrop, r_setE, r_setU, r_sSet, r_sSetF, r_aName, r_aNil, r_aCons, r_aTup, r_aLst, r_sAsg, r_mNil, r_mCons, r_mTup, r_mLst, r_mNs, r_mCall, r_lift, r_lifter, r_mMeth, r_mMeth0, r_mProp, r_okOf, r_vIsi, r_mCut, r_mDget, r_mDisp2, r_mBM, r_vCh, r_mCh, r_sPar, r_mFor, r_sFld, r_sRaise, r_m1l, r_mMake, r_liftF, r_both, r_mLc, r_mLc2, r_mSk, r_mSetL, r_toDfz, r_toDow, r_toDdc, r_asB, r_asI, r_iteA, r_itlst, r_ittup, r_it1, r_mLM, r_mCallI, r_isOwn, r_liftI, r_outS, List.getElem?_cons_zero, List.getElem?_cons_succ, List.nil_append, List.set_cons_zero, List.set_cons_succ, List.length_cons, List.length_nil, Nat.reduceAdd, Nat.reduceLT, Nat.reduceEqDiff, ↓reduceIte, if_true, Bool.not_true, Bool.not_false, and_self, Bool.false_eq_true, subI, liftI_ok e]) (by rw [upI_len, szl]; decide)
        rw [upI_len] at hlen
        obtain ⟨x1, x2, x3, x4, rfl⟩ : ∃ x1 x2 x3 x4, es = [x1, x2, x3, x4] := by
          match es, hlen with
          | [a, b, c, d], _ => exact ⟨a, b, c, d, rfl⟩
        obtain ⟨a, rfl, a1, a2⟩ := hQ x1 (by simp)
        obtain ⟨b, rfl, b1, b2⟩ := hQ x2 (by simp)
        obtain ⟨c, rfl, c1, c2⟩ := hQ x3 (by simp)
        obtain ⟨d, rfl, d1, d2⟩ := hQ x4 (by simp)
        rw [List.nil_append] at e2
        refine ⟨.c a b c d, l2, fin (tree_yes hdp hm hL (r_sole e2)), hp2, by simp only [dp]; omega, ⟨⟨a2.g, b2.g, c2.g, d2.g⟩, ?_, ?_⟩⟩
        · intro x hx
          rw [wds_c] at hx
          simp only [List.mem_append] at hx
          rcases hx with hx | hx | hx | hx
          · exact a2.w x hx
          · exact b2.w x hx
          · exact c2.w x hx
          · exact d2.w x hx
        · intro x hx
          rw [dgs_c] at hx
          simp only [List.mem_append] at hx
          rcases hx with hx | hx | hx | hx
          · exact a2.d x hx
          · exact b2.d x hx
          · exact c2.d x hx
          · exact d2.d x hx
      · obtain ⟨t, l', e, hp', ht1, ht2⟩ := leaf_ok hp1 hw w0 w1 hd d1 deep
        refine ⟨t, l', fin ((tree_rest (gt1_no2 hdp hm hq)).trans e), hp', by omega, ht2⟩
    · obtain ⟨t, l', e, hp', ht1, ht2⟩ := leaf_ok hp hw w0 w1 hd d1 deep
      refine ⟨t, l', fin ((tree_rest (gt1_no1 hdp)).trans e), hp', by omega, ht2⟩
end
end G
end
section
set_option Elab.async false
set_option linter.all false
set_option maxRecDepth 100000
set_option maxHeartbeats 4000000
namespace G
open PySem PySem.Spec PyProof.Rows L2 DL
section
variable {l l1 l2 l3 fo : List D} {dr dw dd v t x : D} {r bound deep : Int} {e7 e8 : Ent}
abbrev dbody : M Fl := (sq (sSetF 8 (mCallI 0 (m_law_tree 3) 3 (mCons (eV 2) (mCons (eV 3) (mCons (eV 5) mNil)))))
  (sDrop (mLM 6 fAppend (mCons (mTup (mCons (mCallI 0 m_law_one 1 (mCons (eV 1) mNil)) (mCons (m2 DL.rEq (mCallI 0 m_law_take 1 (mCons (rt (.int 3)) mNil)) (rt (.int 0))) (mCons (eV 8) mNil)))) mNil))))
theorem deed_turn (ht : m_law_tree 3 l [dw, dd, .int deep] = .ok t l1) (ho : m_law_one l1 [dr] = .ok v l2) (hm : m_law_take l2 [.int 3] = .ok (.int r) l3) (hf : fo.length < 1000) :
    (bd (aName 7 x) fun _ => dbody) [.pin l, .fz dr, .fz dw, .fz dd, .fz (.int bound), .fz (.int deep), .ow fo, e7, e8] = .ok .nx [.pin l3, .fz dr, .fz dw, .fz dd, .fz (.int bound), .fz (.int deep), .ow (fo ++ [.tup [v, .bl (decide (r = 0)), t]]), .fz x, .fz t] := by
  unfold dbody
  have h1 := liftI_ok (ρ := [.fz dr, .fz dw, .fz dd, .fz (.int bound), .fz (.int deep), .ow fo, .fz x, e8]) ht
  have s1 : (sSetF 8 (mCallI 0 (m_law_tree 3) 3 (mCons (eV 2) (mCons (eV 3) (mCons (eV 5) mNil))))) [.pin l, .fz dr, .fz dw, .fz dd, .fz (.int bound), .fz (.int deep), .ow fo, .fz x, e8] = .ok .nx [.pin l1, .fz dr, .fz dw, .fz dd, .fz (.int bound), .fz (.int deep), .ow fo, .fz x, .fz t] := by
    simp only [r_bd, r_ok, r_er, r_stuck, r_rt, r_os, r_eV, r_eB, r_m2, r_m2B, r_m1, r_mB, r_mAnd, r_mOr, r_mNot, r_vAnd, r_vOr, r_vNot, r_mIf, r_sq, r_sqnx, r_sqret, r_sIf, r_sRet, r_sDrop, r_setE, r_setU, r_sSet, r_sSetF, r_aName, r_aNil, r_aCons, r_aTup, r_aLst, r_sAsg, r_mNil, r_mCons, r_mTup, r_mLst, r_mNs, r_mCall, r_lift, r_lifter, r_mMeth, r_mMeth0, r_mProp, r_okOf, r_vIsi, r_mCut, r_mDget, r_mDisp2, r_mBM, r_vCh, r_mCh, r_sPar, r_mFor, r_sFld, r_sRaise, r_m1l, r_mMake, r_liftF, r_both, r_mLc, r_mLc2, r_mSk, r_mSetL, r_toDfz, r_toDow, r_toDdc, r_asB, r_asI, r_iteA, r_itlst, r_ittup, r_it1, r_mLM, r_mCallI, r_isOwn, r_liftI, r_outS, List.getElem?_cons_zero, List.getElem?_cons_succ, List.nil_append, List.set_cons_zero, List.set_cons_succ, List.length_cons, List.length_nil, Nat.reduceAdd, Nat.reduceLT, Nat.reduceEqDiff, ↓reduceIte, if_true, Bool.not_true, Bool.not_false, and_self, Bool.false_eq_true, h1]
  have s2 : (sDrop (mLM 6 fAppend (mCons (mTup (mCons (mCallI 0 m_law_one 1 (mCons (eV 1) mNil)) (mCons (m2 DL.rEq (mCallI 0 m_law_take 1 (mCons (rt (.int 3)) mNil)) (rt (.int 0))) (mCons (eV 8) mNil)))) mNil))) [.pin l1, .fz dr, .fz dw, .fz dd, .fz (.int bound), .fz (.int deep), .ow fo, .fz x, .fz t] = .ok .nx [.pin l3, .fz dr, .fz dw, .fz dd, .fz (.int bound), .fz (.int deep), .ow (fo ++ [.tup [v, .bl (decide (r = 0)), t]]), .fz x, .fz t] := by
    simp only [r_bd, r_ok, r_er, r_stuck, r_rt, r_os, r_eV, r_eB, r_m2, r_m2B, r_m1, r_mB, r_mAnd, r_mOr, r_mNot, r_vAnd, r_vOr, r_vNot, r_mIf, r_sq, r_sqnx, r_sqret, r_sIf, r_sRet, r_sDrop, r_setE, r_setU, r_sSet, r_sSetF, r_aName, r_aNil, r_aCons, r_aTup, r_aLst, r_sAsg, r_mNil, r_mCons, r_mTup, r_mLst, r_mNs, r_mCall, r_lift, r_lifter, r_mMeth, r_mMeth0, r_mProp, r_okOf, r_vIsi, r_mCut, r_mDget, r_mDisp2, r_mBM, r_vCh, r_mCh, r_sPar, r_mFor, r_sFld, r_sRaise, r_m1l, r_mMake, r_liftF, r_both, r_mLc, r_mLc2, r_mSk, r_mSetL, r_toDfz, r_toDow, r_toDdc, r_asB, r_asI, r_iteA, r_itlst, r_ittup, r_it1, r_mLM, r_mCallI, r_isOwn, r_liftI, r_outS, List.getElem?_cons_zero, List.getElem?_cons_succ, List.nil_append, List.set_cons_zero, List.set_cons_succ, List.length_cons, List.length_nil, Nat.reduceAdd, Nat.reduceLT, Nat.reduceEqDiff, ↓reduceIte, if_true, Bool.not_true, Bool.not_false, and_self, Bool.false_eq_true, liftI_ok ho, liftI_ok hm, eqI, r_short (l := [_, _, _]) (show 3 ≤ 1000 by decide), fap_small hf]
  refine (run_bd (m := aName 7 x) (a := ()) (ρ' := [.pin l, .fz dr, .fz dw, .fz dd, .fz (.int bound), .fz (.int deep), .ow fo, .fz x, e8]) rfl).trans ?_
  exact (run_sq s1).trans s2
theorem deeds_pre {L : List D} {ρ' : DL.Env} (hm : m_law_take l [.int bound] = .ok (.int r) l1) (hL : rRange [.int (1 + r)] = some L) (hf : sFor (aName 7) dbody L [.pin l1, .fz dr, .fz dw, .fz dd, .fz (.int bound), .fz (.int deep), .ow [], .no, .no] = .ok .nx [.pin l2, .fz dr, .fz dw, .fz dd, .fz (.int bound), .fz (.int deep), .ow fo, e7, e8]) :
    m_law_deeds_drawn l [dr, dw, dd, .int bound, .int deep] = .ok (.lst fo) l2 := by
  show toOutI (g_law_deeds_drawn [.pin l, .fz dr, .fz dw, .fz dd, .fz (.int bound), .fz (.int deep), .no, .no, .no]) = _
  unfold g_law_deeds_drawn
  unfold dbody at hf
  simp only [r_bd, r_ok, r_er, r_stuck, r_rt, r_os, r_eV, r_eB, r_m2, r_m2B, r_m1, r_mB, r_mAnd, r_mOr, r_mNot, r_vAnd, r_vOr, r_vNot, r_mIf, r_sq, r_sqnx, r_sqret, r_sIf, r_sRet, r_sDrop, r_setE, r_setU, r_sSet, r_sSetF, r_aName, r_aNil, r_aCons, r_aTup, r_aLst, r_sAsg, r_mNil, r_mCons, r_mTup, r_mLst, r_mNs, r_mCall, r_lift, r_lifter, r_mMeth, r_mMeth0, r_mProp, r_okOf, r_vIsi, r_mCut, r_mDget, r_mDisp2, r_mBM, r_vCh, r_mCh, r_sPar, r_mFor, r_sFld, r_sRaise, r_m1l, r_mMake, r_liftF, r_both, r_mLc, r_mLc2, r_mSk, r_mSetL, r_toDfz, r_toDow, r_toDdc, r_asB, r_asI, r_iteA, r_itlst, r_ittup, r_it1, r_mLM, r_mCallI, r_isOwn, r_liftI, r_outS, List.getElem?_cons_zero, List.getElem?_cons_succ, List.nil_append, List.set_cons_zero, List.set_cons_succ, List.length_cons, List.length_nil, Nat.reduceAdd, Nat.reduceLT, Nat.reduceEqDiff, ↓reduceIte, if_true, Bool.not_true, Bool.not_false, and_self, Bool.false_eq_true, r_short (l := []) (show 0 ≤ 1000 by decide), liftI_ok hm, addI, hL, hf]
  rfl
end
structure Dd.In (d : Dd) (wr ws : List (List Nat)) (ds : List Int) (deep : Int) : Prop where
  v : d.v ∈ wr
  dp : (dp d.t : Int) ≤ deep
  t : TrIn d.t ws ds
theorem deeds_drawn {wr ws : List (List Nat)} {ds : List Int} {l : List D} (hp : Pool l) (hw : ∀ w ∈ ws, Wd w) (w0 : ws ≠ []) (w1 : ws.length < 1000) (r0 : wr ≠ []) (r1 : wr.length < 1000) (hd : ∀ x ∈ ds, 0 ≤ x ∧ x ≤ 9) (d1 : ds.length < 1000)
    {bound deep : Int} (b1 : 1 ≤ bound) (b4 : bound ≤ 4) (p1 : 1 ≤ deep) (p3 : deep ≤ 3) :
    ∃ (de : List Dd) (l' : List D), m_law_deeds_drawn l [.lst (wr.map sD), .lst (ws.map sD), .lst (ds.map D.int), .int bound, .int deep] = .ok (.lst (de.map deedD)) l' ∧ Pool l' ∧ 1 ≤ de.length ∧ (de.length : Int) ≤ bound ∧ ∀ d ∈ de, d.In wr ws ds deep := by
  obtain ⟨r, l1, hm, hp1, h0, h1⟩ := take_ok (n := bound) hp (by omega) (by omega)
  have hL : rRange [.int (1 + r)] = some ((List.range (1 + r).toNat).map fun (i : Nat) => D.int (0 + (i : Int))) := range1 (by omega) (by omega)
  have hf := for_pre (f := fun (i : Nat) => D.int (0 + (i : Int))) (ga := aName 7) (gb := dbody)
    (R := fun pre ρ => ∃ (l : List D) (fo : List Dd) (e7 e8 : Ent), ρ = [.pin l, .fz (.lst (wr.map sD)), .fz (.lst (ws.map sD)), .fz (.lst (ds.map D.int)), .fz (.int bound), .fz (.int deep), .ow (fo.map deedD), e7, e8] ∧ Pool l ∧ fo.length = pre.length ∧ ∀ d ∈ fo, d.In wr ws ds deep) (List.range (1 + r).toNat) (by
      rintro pre i post ρ hi ⟨l, fo, e7, e8, rfl, hp, hlen, hall⟩
      obtain ⟨t, l2, ht, hp2, hdp, htr⟩ := tree_ok hw w0 w1 hd d1 3 deep l hp p1 p3
      obtain ⟨v, l3, ho, hp3, hv⟩ := one_ok (ts := wr.map sD) hp2 (by simpa using r0) (by simpa using r1)
      obtain ⟨q, l4, hm4, hp4, _, _⟩ := take_ok (n := 3) hp3 (by omega) (by omega)
      obtain ⟨w, hwr, rfl⟩ := List.mem_map.mp hv
      have hpre : pre.length < 5 := by
        have := congrArg List.length hi
        rw [List.length_range] at this
        simp at this
        omega
      refine ⟨_, deed_turn ht ho hm4 (by rw [List.length_map]; omega), l4, fo ++ [⟨w, decide (q = 0), t⟩], .fz (.int (0 + (i : Int))), .fz (tD t), ?_, hp4, by simp [hlen], ?_⟩
      · rw [List.map_append]; rfl
      · intro d hd
        rcases List.mem_append.mp hd with hd | hd
        · exact hall d hd
        · rw [List.mem_singleton] at hd
          subst hd
          exact ⟨hwr, hdp, htr⟩) (List.range (1 + r).toNat) [] rfl
  obtain ⟨ρ', e, l2, fo, e7, e8, rfl, hp2, hlen, hall⟩ := hf [.pin l1, .fz (.lst (wr.map sD)), .fz (.lst (ws.map sD)), .fz (.lst (ds.map D.int)), .fz (.int bound), .fz (.int deep), .ow (([] : List Dd).map deedD), .no, .no] ⟨l1, [], .no, .no, rfl, hp1, rfl, fun d hd => by cases hd⟩
  rw [List.length_range] at hlen
  exact ⟨fo, l2, deeds_pre (ρ' := []) hm hL e, hp2, by omega, by omega, hall⟩
/-! ### at most eight at once -/
def less1 : Int → List Dd → Int × List Dd
  | n, [] => (n, [])
  | n, d :: r => let n1 := n - (if !d.late then 1 else 0)
    ((less1 n1 r).1, ⟨d.v, d.late || decide (n1 < 0), d.t⟩ :: (less1 n1 r).2)
def lessP : Int → List Pr → List Pr
  | _, [] => []
  | n, p :: r => ⟨p.n, p.w, (less1 n p.ds).2⟩ :: lessP (less1 n p.ds).1 r
def lateN (ds : List Dd) : Nat := (ds.filter fun d => !d.late).length
theorem less1_len : ∀ (n : Int) (ds : List Dd), (less1 n ds).2.length = ds.length
  | _, [] => rfl
  | n, d :: r => by show ((less1 _ r).2).length + 1 = r.length + 1; rw [less1_len]
theorem less1_mem : ∀ (n : Int) (ds : List Dd) (x : Dd), x ∈ (less1 n ds).2 → ∃ d ∈ ds, x.v = d.v ∧ x.t = d.t
  | _, [], x, h => by cases h
  | n, d :: r, x, h => by
    rcases List.mem_cons.mp h with rfl | h
    · exact ⟨d, List.mem_cons_self, rfl, rfl⟩
    · obtain ⟨y, hy, h1, h2⟩ := less1_mem _ r x h
      exact ⟨y, List.mem_cons_of_mem _ hy, h1, h2⟩
theorem less1_count : ∀ (n : Int) (ds : List Dd), (lateN (less1 n ds).2 : Int) + max (less1 n ds).1 0 ≤ max n 0
  | n, [] => by show ((0 : Nat) : Int) + max n 0 ≤ _; omega
  | n, d :: r => by
    have ih := less1_count (n - (if !d.late then 1 else 0)) r
    show ((lateN (⟨d.v, d.late || decide (n - (if !d.late then 1 else 0) < 0), d.t⟩ :: (less1 _ r).2) : Nat) : Int) + max (less1 _ r).1 0 ≤ max n 0
    unfold lateN at ih ⊢
    rw [List.filter_cons]
    cases hl : d.late with
    | true =>
      rw [hl] at ih
      simp only [Bool.true_or, Bool.not_true, Bool.false_eq_true, if_false, Int.sub_zero] at ih ⊢
      exact ih
    | false =>
      rw [hl] at ih
      simp only [Bool.false_or, Bool.not_false, if_true] at ih ⊢
      by_cases hn : n - 1 < 0
      · rw [decide_eq_true hn]
        simp only [Bool.not_true, Bool.false_eq_true, if_false]
        omega
      · rw [decide_eq_false hn]
        simp only [Bool.not_false, if_true, List.length_cons]
        omega
theorem lessP_count : ∀ (n : Int) (ps : List Pr), (((lessP n ps).map fun p => lateN p.ds).sum : Int) ≤ max n 0
  | n, [] => by show ((0 : Nat) : Int) ≤ _; omega
  | n, p :: r => by
    have h1 := less1_count n p.ds
    have h2 := lessP_count (less1 n p.ds).1 r
    show (((lateN (less1 n p.ds).2 + ((lessP (less1 n p.ds).1 r).map fun p => lateN p.ds).sum : Nat)) : Int) ≤ _
    omega
theorem onc_late (p : Pr) : (onc p).length = lateN p.ds := by
  have key : ∀ (ds : List Dd) (k : Nat), ((ds.zipIdx k).filterMap fun q => if q.1.late then none else some q.2).length = (ds.filter fun d => !d.late).length := by
    intro ds
    induction ds with
    | nil => intro k; rfl
    | cons d r ih =>
      intro k
      rw [List.zipIdx_cons, List.filterMap_cons, List.filter_cons]
      cases d.late with
      | true => simpa using ih (k + 1)
      | false => simpa using ih (k + 1)
  exact key p.ds 0
end G
end
section
set_option Elab.async false
set_option linter.all false
set_option maxRecDepth 100000
set_option maxHeartbeats 4000000
namespace G
open PySem PySem.Spec PyProof.Rows L2 DL
theorem toInt_bl (b : Bool) : rToInt (.bl b) = some (.int (if b then 1 else 0)) := rfl
section
variable {E0 e1 e2 e3 e4 e5 e6 e7 e8 e9 : Ent} {made acc : List D}
abbrev lib : M Fl := (sq (sSetF 1 (m2B DL.rSub 1 (m1 rToInt (vNot (eV 8)))))
  (sDrop (mLM 6 fAppend (mCons (mTup (mCons (eV 7) (mCons (vOr (eV 8) (m2B DL.rLt 1 (rt (.int 0)))) (mCons (eV 9) mNil)))) mNil))))
abbrev lit3 : D → M Unit := (aTup 3 (aCons (aName 7) (aCons (aName 8) (aCons (aName 9) aNil))))
theorem less_turn (n : Int) (v t : D) (b : Bool) (hm : made.length < 1000) : (bd (lit3 (.tup [v, .bl b, t])) fun _ => lib) [E0, .fz (.int n), e2, e3, e4, e5, .ow made, e7, e8, e9] = .ok .nx [E0, .fz (.int (n - (if !b then 1 else 0))), e2, e3, e4, e5, .ow (made ++ [.tup [v, .bl (b || decide (n - (if !b then 1 else 0) < 0)), t]]), .fz v, .fz (.bl b), .fz t] := by
  unfold lib lit3
  cases b with
  | true =>
    have h2 := fap_small (l := made) (d := .tup [v, .bl true, t]) hm
    simp only [r_bd, r_ok, r_er, r_stuck, r_rt, r_os, r_eV, r_eB, r_m2, r_m2B, r_m1, r_mB, r_mAnd, r_mOr, r_mNot, r_vAnd, r_vOr, r_vNot, r_mIf, r_sq, r_sqnx, r_sqret, r_sIf, r_sRet, r_sDrop, r_setE, r_setU, r_sSet, r_sSetF, r_aName, r_aNil, r_aCons, r_aTup, r_aLst, r_sAsg, r_mNil, r_mCons, r_mTup, r_mLst, r_mNs, r_mCall, r_lift, r_lifter, r_mMeth, r_mMeth0, r_mProp, r_okOf, r_vIsi, r_mCut, r_mDget, r_mDisp2, r_mBM, r_vCh, r_mCh, r_sPar, r_mFor, r_sFld, r_sRaise, r_m1l, r_mMake, r_liftF, r_both, r_mLc, r_mLc2, r_mSk, r_mSetL, r_toDfz, r_toDow, r_toDdc, r_asB, r_asI, r_iteA, r_itlst, r_ittup, r_it1, r_mLM, r_mCallI, r_isOwn, r_liftI, r_outS, List.getElem?_cons_zero, List.getElem?_cons_succ, List.nil_append, List.set_cons_zero, List.set_cons_succ, List.length_cons, List.length_nil, Nat.reduceAdd, Nat.reduceLT, Nat.reduceEqDiff, ↓reduceIte, if_true, Bool.not_true, Bool.not_false, and_self, Bool.false_eq_true, toInt_bl, subI, r_short (l := [_, _, _]) (show 3 ≤ 1000 by decide), h2, Bool.true_or]
  | false =>
    have h2 := fap_small (l := made) (d := .tup [v, .bl (decide (n - 1 < 0)), t]) hm
    simp only [r_bd, r_ok, r_er, r_stuck, r_rt, r_os, r_eV, r_eB, r_m2, r_m2B, r_m1, r_mB, r_mAnd, r_mOr, r_mNot, r_vAnd, r_vOr, r_vNot, r_mIf, r_sq, r_sqnx, r_sqret, r_sIf, r_sRet, r_sDrop, r_setE, r_setU, r_sSet, r_sSetF, r_aName, r_aNil, r_aCons, r_aTup, r_aLst, r_sAsg, r_mNil, r_mCons, r_mTup, r_mLst, r_mNs, r_mCall, r_lift, r_lifter, r_mMeth, r_mMeth0, r_mProp, r_okOf, r_vIsi, r_mCut, r_mDget, r_mDisp2, r_mBM, r_vCh, r_mCh, r_sPar, r_mFor, r_sFld, r_sRaise, r_m1l, r_mMake, r_liftF, r_both, r_mLc, r_mLc2, r_mSk, r_mSetL, r_toDfz, r_toDow, r_toDdc, r_asB, r_asI, r_iteA, r_itlst, r_ittup, r_it1, r_mLM, r_mCallI, r_isOwn, r_liftI, r_outS, List.getElem?_cons_zero, List.getElem?_cons_succ, List.nil_append, List.set_cons_zero, List.set_cons_succ, List.length_cons, List.length_nil, Nat.reduceAdd, Nat.reduceLT, Nat.reduceEqDiff, ↓reduceIte, if_true, Bool.not_true, Bool.not_false, and_self, Bool.false_eq_true, toInt_bl, subI, ltI, r_short (l := [_, _, _]) (show 3 ≤ 1000 by decide), h2, Bool.false_or]
theorem less_inner : ∀ (ds : List Dd) (n : Int) (made : List D) (e7 e8 e9 : Ent), made.length + ds.length < 1000 → ∃ e7' e8' e9', sFor lit3 lib (ds.map deedD) [E0, .fz (.int n), e2, e3, e4, e5, .ow made, e7, e8, e9] = .ok .nx [E0, .fz (.int (less1 n ds).1), e2, e3, e4, e5, .ow (made ++ (less1 n ds).2.map deedD), e7', e8', e9']
  | [], n, made, e7, e8, e9, _ => ⟨e7, e8, e9, by rw [show (less1 n []).2 = [] from rfl, List.map_nil, List.append_nil]; rfl⟩
  | d :: r, n, made, e7, e8, e9, h => by
    rw [List.length_cons] at h
    have ht := less_turn (E0 := E0) (e2 := e2) (e3 := e3) (e4 := e4) (e5 := e5) (e7 := e7) (e8 := e8) (e9 := e9) (made := made) n (sD d.v) (tD d.t) d.late (by omega)
    obtain ⟨a, b, c, e⟩ := less_inner r (n - (if !d.late then 1 else 0)) (made ++ [.tup [sD d.v, .bl (d.late || decide (n - (if !d.late then 1 else 0) < 0)), tD d.t]]) (.fz (sD d.v)) (.fz (.bl d.late)) (.fz (tD d.t)) (by rw [List.length_append, List.length_singleton]; omega)
    refine ⟨a, b, c, ?_⟩
    rw [List.map_cons]
    refine (for_step ht).trans (e.trans ?_)
    rw [List.append_assoc]
    rfl
abbrev lob : M Fl := (sq (sSet 6 (mLst mNil))
  (sq (mFor (bd (eV 5) fun d => opt (itemsA d)) lit3 lib)
  (sDrop (mLM 2 fAppend (mCons (mTup (mCons (eV 3) (mCons (eV 4) (mCons (eV 6) mNil)))) mNil)))))
abbrev lot : D → M Unit := (aTup 3 (aCons (aName 3) (aCons (aName 4) (aCons (aName 5) aNil))))
theorem less_oturn {L R : List D} {x w : D} {n n' : Int} {e7' e8' e9' : Ent} (hi : sFor lit3 lib L [E0, .fz (.int n), .ow acc, .fz x, .fz w, .fz (.lst L), .ow [], e7, e8, e9] = .ok .nx [E0, .fz (.int n'), .ow acc, .fz x, .fz w, .fz (.lst L), .ow R, e7', e8', e9']) (ha : acc.length < 1000) :
    (bd (lot (.tup [x, w, .lst L])) fun _ => lob) [E0, .fz (.int n), .ow acc, e3, e4, e5, e6, e7, e8, e9] = .ok .nx [E0, .fz (.int n'), .ow (acc ++ [.tup [x, w, .lst R]]), .fz x, .fz w, .fz (.lst L), .fz (.lst R), e7', e8', e9'] := by
  unfold lob lot
  generalize lit3 = gt at *
  generalize lib = gb at *
  simp only [r_bd, r_ok, r_er, r_stuck, r_rt, r_os, r_eV, r_eB, r_m2, r_m2B, r_m1, r_mB, r_mAnd, r_mOr, r_mNot, r_vAnd, r_vOr, r_vNot, r_mIf, r_sq, r_sqnx, r_sqret, r_sIf, r_sRet, r_sDrop, r_setE, r_setU, r_sSet, r_sSetF, r_aName, r_aNil, r_aCons, r_aTup, r_aLst, r_sAsg, r_mNil, r_mCons, r_mTup, r_mLst, r_mNs, r_mCall, r_lift, r_lifter, r_mMeth, r_mMeth0, r_mProp, r_okOf, r_vIsi, r_mCut, r_mDget, r_mDisp2, r_mBM, r_vCh, r_mCh, r_sPar, r_mFor, r_sFld, r_sRaise, r_m1l, r_mMake, r_liftF, r_both, r_mLc, r_mLc2, r_mSk, r_mSetL, r_toDfz, r_toDow, r_toDdc, r_asB, r_asI, r_iteA, r_itlst, r_ittup, r_it1, r_mLM, r_mCallI, r_isOwn, r_liftI, r_outS, List.getElem?_cons_zero, List.getElem?_cons_succ, List.nil_append, List.set_cons_zero, List.set_cons_succ, List.length_cons, List.length_nil, Nat.reduceAdd, Nat.reduceLT, Nat.reduceEqDiff, ↓reduceIte, if_true, Bool.not_true, Bool.not_false, and_self, Bool.false_eq_true, r_short (l := []) (show 0 ≤ 1000 by decide), hi, r_short (l := [_, _, _]) (show 3 ≤ 1000 by decide), fap_small ha]
theorem less_outer : ∀ (ps : List Pr) (n : Int) (acc : List D) (e3 e4 e5 e6 e7 e8 e9 : Ent), acc.length + ps.length < 1000 → (∀ p ∈ ps, p.ds.length < 1000) →
    ∃ n' a3 a4 a5 a6 a7 a8 a9, sFor lot lob (ps.map procD) [E0, .fz (.int n), .ow acc, e3, e4, e5, e6, e7, e8, e9] = .ok .nx [E0, .fz (.int n'), .ow (acc ++ (lessP n ps).map procD), a3, a4, a5, a6, a7, a8, a9]
  | [], n, acc, e3, e4, e5, e6, e7, e8, e9, _, _ => ⟨n, e3, e4, e5, e6, e7, e8, e9, by rw [show lessP n [] = [] from rfl, List.map_nil, List.append_nil]; rfl⟩
  | p :: r, n, acc, e3, e4, e5, e6, e7, e8, e9, h, hd => by
    rw [List.length_cons] at h
    obtain ⟨b7, b8, b9, e⟩ := less_inner (E0 := E0) (e2 := .ow acc) (e3 := .fz (sD p.n)) (e4 := .fz (.lst (p.w.map sD))) (e5 := .fz (.lst (p.ds.map deedD))) p.ds n [] e7 e8 e9 (by have := hd p List.mem_cons_self; simpa using this)
    have ht := less_oturn (e3 := e3) (e4 := e4) (e5 := e5) (e6 := e6) e (by omega)
    obtain ⟨n', a3, a4, a5, a6, a7, a8, a9, e2⟩ := less_outer r (less1 n p.ds).1 (acc ++ [.tup [sD p.n, .lst (p.w.map sD), .lst ([] ++ (less1 n p.ds).2.map deedD)]]) _ _ _ _ b7 b8 b9 (by rw [List.length_append, List.length_singleton]; omega) fun q hq => hd q (List.mem_cons_of_mem _ hq)
    refine ⟨n', a3, a4, a5, a6, a7, a8, a9, ?_⟩
    rw [List.map_cons]
    refine (for_step ht).trans (e2.trans ?_)
    rw [List.append_assoc]
    rfl
theorem less_fin {L R : List D} {i : D} {a1 a3 a4 a5 a6 a7 a8 a9 : Ent} (h : sFor lot lob L [.fz (.dic [(.inr "processes", .lst L), (.inr "inputs", i)]), .fz (.int 8), .ow [], .no, .no, .no, .no, .no, .no, .no] = .ok .nx [.fz (.dic [(.inr "processes", .lst L), (.inr "inputs", i)]), a1, .ow R, a3, a4, a5, a6, a7, a8, a9]) :
    m_law_less_at_once [.dic [(.inr "processes", .lst L), (.inr "inputs", i)]] = .ok (.dic [(.inr "processes", .lst R), (.inr "inputs", i)]) := by
  show toOut (g_law_less_at_once [.fz (.dic [(.inr "processes", .lst L), (.inr "inputs", i)]), .no, .no, .no, .no, .no, .no, .no, .no, .no]) = _
  unfold g_law_less_at_once
  unfold lob lot lit3 lib at h
  simp only [r_bd, r_ok, r_er, r_stuck, r_rt, r_os, r_eV, r_eB, r_m2, r_m2B, r_m1, r_mB, r_mAnd, r_mOr, r_mNot, r_vAnd, r_vOr, r_vNot, r_mIf, r_sq, r_sqnx, r_sqret, r_sIf, r_sRet, r_sDrop, r_setE, r_setU, r_sSet, r_sSetF, r_aName, r_aNil, r_aCons, r_aTup, r_aLst, r_sAsg, r_mNil, r_mCons, r_mTup, r_mLst, r_mNs, r_mCall, r_lift, r_lifter, r_mMeth, r_mMeth0, r_mProp, r_okOf, r_vIsi, r_mCut, r_mDget, r_mDisp2, r_mBM, r_vCh, r_mCh, r_sPar, r_mFor, r_sFld, r_sRaise, r_m1l, r_mMake, r_liftF, r_both, r_mLc, r_mLc2, r_mSk, r_mSetL, r_toDfz, r_toDow, r_toDdc, r_asB, r_asI, r_iteA, r_itlst, r_ittup, r_it1, r_mLM, r_mCallI, r_isOwn, r_liftI, r_outS, List.getElem?_cons_zero, List.getElem?_cons_succ, List.nil_append, List.set_cons_zero, List.set_cons_succ, List.length_cons, List.length_nil, Nat.reduceAdd, Nat.reduceLT, Nat.reduceEqDiff, ↓reduceIte, if_true, Bool.not_true, Bool.not_false, and_self, Bool.false_eq_true, r_short (l := []) (show 0 ≤ 1000 by decide), get_processes, get_inputs, h]
  rfl
end
theorem less_ok (P : Pg) (h1 : P.ps.length < 1000) (h2 : ∀ p ∈ P.ps, p.ds.length < 1000) : m_law_less_at_once [plainD P] = .ok (plainD ⟨lessP 8 P.ps, P.inp⟩) := by
  obtain ⟨n', a3, a4, a5, a6, a7, a8, a9, e⟩ := less_outer (E0 := .fz (plainD P)) P.ps 8 [] .no .no .no .no .no .no .no (by simpa using h1) h2
  rw [List.nil_append] at e
  exact less_fin e
theorem take_L {α : Type} (l : List α) (k : Nat) : cutL l none (some (k : Int)) = l.take k := by
  unfold cutL
  rw [HT.sIx_nat]
  show ((l.drop 0).take (min k l.length - 0)) = _
  rw [List.drop_zero, Nat.sub_zero]
  rcases Nat.le_total k l.length with h | h
  · rw [Nat.min_eq_left h]
  · rw [Nat.min_eq_right h, List.take_of_length_le (Nat.le_refl _), List.take_of_length_le h]
theorem drop_L {α : Type} (l : List α) (k : Nat) : cutL l (some (k : Int)) none = l.drop k := by
  unfold cutL
  rw [HT.sIx_nat, HT.sIx_none]
  rcases Nat.le_total k l.length with h | h
  · rw [Nat.min_eq_left h, List.take_of_length_le (by rw [List.length_drop]; omega)]
  · rw [Nat.min_eq_right h, Nat.sub_self, List.take_zero, List.drop_of_length_le h]
theorem cut_take (l : List D) (k : Nat) : rCut (.lst l) none (some (k : Int)) = some (.lst (l.take k)) := by rw [← take_L]; rfl
theorem cut_drop (l : List D) (k : Nat) : rCut (.lst l) (some (k : Int)) none = some (.lst (l.drop k)) := by rw [← drop_L]; rfl
end G
end
section
set_option Elab.async false
set_option linter.all false
set_option maxRecDepth 100000
set_option maxHeartbeats 4000000
namespace G
open PySem PySem.Spec PyProof.Rows L2 DL
section
variable {l l1 l2 l3 fo L R : List D} {x1 x2 x3 dw dt dr dg ti de : D} {r n : Int} {e4 e5 e6 e7 e8 e9 e10 e11 e12 : Ent}
theorem pst1 {k : Int} (hm : m_law_take l [.int 2] = .ok (.int r) l1) (hw : m_law_words l1 [.int (3 + r)] = .ok dw l2) : (sSetF 4 (mCallI 0 m_law_words 1 (mCons (m2 DL.rAdd (rt (.int 3)) (mCallI 0 m_law_take 1 (mCons (rt (.int 2)) mNil))) mNil))) [.pin l, .fz x1, .fz x2, .fz x3, .no, .no, .no, .no, .no, .no, .no, .no, .no] = .ok .nx [.pin l2, .fz x1, .fz x2, .fz x3, .fz dw, .no, .no, .no, .no, .no, .no, .no, .no] := by
  simp only [r_bd, r_ok, r_er, r_stuck, r_rt, r_os, r_eV, r_eB, r_m2, r_m2B, r_m1, r_mB, r_mAnd, r_mOr, r_mNot, r_vAnd, r_vOr, r_vNot, r_mIf, r_sq, r_sqnx, r_sqret, r_sIf, r_sRet, r_sDrop, r_setE, r_setU, r_sSet, r_sSetF, r_aName, r_aNil, r_aCons, r_aTup, r_aLst, r_sAsg, r_mNil, r_mCons, r_mTup, r_mLst, r_mNs, r_mCall, r_lift, r_lifter, r_mMeth, r_mMeth0, r_mProp, r_okOf, r_vIsi, r_mCut, r_mDget, r_mDisp2, r_mBM, r_vCh, r_mCh, r_sPar, r_mFor, r_sFld, r_sRaise, r_m1l, r_mMake, r_liftF, r_both, r_mLc, r_mLc2, r_mSk, r_mSetL, r_toDfz, r_toDow, r_toDdc, r_asB, r_asI, r_iteA, r_itlst, r_ittup, r_it1, r_mLM, r_mCallI, r_isOwn, r_liftI, r_outS, List.getElem?_cons_zero, List.getElem?_cons_succ, List.nil_append, List.set_cons_zero, List.set_cons_succ, List.length_cons, List.length_nil, Nat.reduceAdd, Nat.reduceLT, Nat.reduceEqDiff, ↓reduceIte, if_true, Bool.not_true, Bool.not_false, and_self, Bool.false_eq_true, liftI_ok hm, addI, liftI_ok hw]
abbrev pc5 : M D := (m1 rToInt (vAnd (m2 DL.rGt (m1 DL.rLen (eB 4)) (rt (.int 3))) (m2 DL.rEq (mCallI 0 m_law_take 1 (mCons (rt (.int 3)) mNil)) (rt (.int 0)))))
theorem pc5_no (h : ¬ (3 : Int) < (L.length : Nat)) : pc5 [.pin l, .fz x1, .fz x2, .fz x3, .fz (.lst L), .no, .no, .no, .no, .no, .no, .no, .no] = .ok (.int 0) [.pin l, .fz x1, .fz x2, .fz x3, .fz (.lst L), .no, .no, .no, .no, .no, .no, .no, .no] := by
  unfold pc5
  simp only [r_bd, r_ok, r_er, r_stuck, r_rt, r_os, r_eV, r_eB, r_m2, r_m2B, r_m1, r_mB, r_mAnd, r_mOr, r_mNot, r_vAnd, r_vOr, r_vNot, r_mIf, r_sq, r_sqnx, r_sqret, r_sIf, r_sRet, r_sDrop, r_setE, r_setU, r_sSet, r_sSetF, r_aName, r_aNil, r_aCons, r_aTup, r_aLst, r_sAsg, r_mNil, r_mCons, r_mTup, r_mLst, r_mNs, r_mCall, r_lift, r_lifter, r_mMeth, r_mMeth0, r_mProp, r_okOf, r_vIsi, r_mCut, r_mDget, r_mDisp2, r_mBM, r_vCh, r_mCh, r_sPar, r_mFor, r_sFld, r_sRaise, r_m1l, r_mMake, r_liftF, r_both, r_mLc, r_mLc2, r_mSk, r_mSetL, r_toDfz, r_toDow, r_toDdc, r_asB, r_asI, r_iteA, r_itlst, r_ittup, r_it1, r_mLM, r_mCallI, r_isOwn, r_liftI, r_outS, List.getElem?_cons_zero, List.getElem?_cons_succ, List.nil_append, List.set_cons_zero, List.set_cons_succ, List.length_cons, List.length_nil, Nat.reduceAdd, Nat.reduceLT, Nat.reduceEqDiff, ↓reduceIte, if_true, Bool.not_true, Bool.not_false, and_self, Bool.false_eq_true, len_lst, gtI, h, decide_false, toInt_bl]
theorem pc5_yes (h : (3 : Int) < (L.length : Nat)) (hm : m_law_take l [.int 3] = .ok (.int r) l1) : pc5 [.pin l, .fz x1, .fz x2, .fz x3, .fz (.lst L), .no, .no, .no, .no, .no, .no, .no, .no] = .ok (.int (if decide (r = 0) = true then 1 else 0)) [.pin l1, .fz x1, .fz x2, .fz x3, .fz (.lst L), .no, .no, .no, .no, .no, .no, .no, .no] := by
  unfold pc5
  simp only [r_bd, r_ok, r_er, r_stuck, r_rt, r_os, r_eV, r_eB, r_m2, r_m2B, r_m1, r_mB, r_mAnd, r_mOr, r_mNot, r_vAnd, r_vOr, r_vNot, r_mIf, r_sq, r_sqnx, r_sqret, r_sIf, r_sRet, r_sDrop, r_setE, r_setU, r_sSet, r_sSetF, r_aName, r_aNil, r_aCons, r_aTup, r_aLst, r_sAsg, r_mNil, r_mCons, r_mTup, r_mLst, r_mNs, r_mCall, r_lift, r_lifter, r_mMeth, r_mMeth0, r_mProp, r_okOf, r_vIsi, r_mCut, r_mDget, r_mDisp2, r_mBM, r_vCh, r_mCh, r_sPar, r_mFor, r_sFld, r_sRaise, r_m1l, r_mMake, r_liftF, r_both, r_mLc, r_mLc2, r_mSk, r_mSetL, r_toDfz, r_toDow, r_toDdc, r_asB, r_asI, r_iteA, r_itlst, r_ittup, r_it1, r_mLM, r_mCallI, r_isOwn, r_liftI, r_outS, List.getElem?_cons_zero, List.getElem?_cons_succ, List.nil_append, List.set_cons_zero, List.set_cons_succ, List.length_cons, List.length_nil, Nat.reduceAdd, Nat.reduceLT, Nat.reduceEqDiff, ↓reduceIte, if_true, Bool.not_true, Bool.not_false, and_self, Bool.false_eq_true, len_lst, gtI, h, decide_true, liftI_ok hm, eqI, toInt_bl]
theorem pst2 {k : Nat} (hk : n = (k : Int)) (h : pc5 [.pin l, .fz x1, .fz x2, .fz x3, .fz (.lst L), .no, .no, .no, .no, .no, .no, .no, .no] = .ok (.int n) [.pin l1, .fz x1, .fz x2, .fz x3, .fz (.lst L), .no, .no, .no, .no, .no, .no, .no, .no]) :
    (sSetF 5 (mCut (eV 4) (rt none) (bd (m2 DL.rAdd (rt (.int 1)) pc5) fun d => bd (opt (asI d)) fun i => rt (some i)))) [.pin l, .fz x1, .fz x2, .fz x3, .fz (.lst L), .no, .no, .no, .no, .no, .no, .no, .no] = .ok .nx [.pin l1, .fz x1, .fz x2, .fz x3, .fz (.lst L), .fz (.lst (L.take (1 + k))), .no, .no, .no, .no, .no, .no, .no] := by
  have hc := cut_take L (1 + k)
  have e : (((1 + k : Nat) : Int)) = 1 + (k : Int) := by omega
  rw [e] at hc
  subst hk
  generalize pc5 = g at *
  simp only [r_bd, r_ok, r_er, r_stuck, r_rt, r_os, r_eV, r_eB, r_m2, r_m2B, r_m1, r_mB, r_mAnd, r_mOr, r_mNot, r_vAnd, r_vOr, r_vNot, r_mIf, r_sq, r_sqnx, r_sqret, r_sIf, r_sRet, r_sDrop, r_setE, r_setU, r_sSet, r_sSetF, r_aName, r_aNil, r_aCons, r_aTup, r_aLst, r_sAsg, r_mNil, r_mCons, r_mTup, r_mLst, r_mNs, r_mCall, r_lift, r_lifter, r_mMeth, r_mMeth0, r_mProp, r_okOf, r_vIsi, r_mCut, r_mDget, r_mDisp2, r_mBM, r_vCh, r_mCh, r_sPar, r_mFor, r_sFld, r_sRaise, r_m1l, r_mMake, r_liftF, r_both, r_mLc, r_mLc2, r_mSk, r_mSetL, r_toDfz, r_toDow, r_toDdc, r_asB, r_asI, r_iteA, r_itlst, r_ittup, r_it1, r_mLM, r_mCallI, r_isOwn, r_liftI, r_outS, List.getElem?_cons_zero, List.getElem?_cons_succ, List.nil_append, List.set_cons_zero, List.set_cons_succ, List.length_cons, List.length_nil, Nat.reduceAdd, Nat.reduceLT, Nat.reduceEqDiff, ↓reduceIte, if_true, Bool.not_true, Bool.not_false, and_self, Bool.false_eq_true, h, addI, hc]
theorem pst3 : (sSetF 6 (mCut (eV 4) (bd (m1 DL.rLen (eB 5)) fun d => bd (opt (asI d)) fun i => rt (some i)) (rt none))) [.pin l, .fz x1, .fz x2, .fz x3, .fz (.lst L), .fz (.lst R), .no, .no, .no, .no, .no, .no, .no] = .ok .nx [.pin l, .fz x1, .fz x2, .fz x3, .fz (.lst L), .fz (.lst R), .fz (.lst (L.drop R.length)), .no, .no, .no, .no, .no, .no] := by
  simp only [r_bd, r_ok, r_er, r_stuck, r_rt, r_os, r_eV, r_eB, r_m2, r_m2B, r_m1, r_mB, r_mAnd, r_mOr, r_mNot, r_vAnd, r_vOr, r_vNot, r_mIf, r_sq, r_sqnx, r_sqret, r_sIf, r_sRet, r_sDrop, r_setE, r_setU, r_sSet, r_sSetF, r_aName, r_aNil, r_aCons, r_aTup, r_aLst, r_sAsg, r_mNil, r_mCons, r_mTup, r_mLst, r_mNs, r_mCall, r_lift, r_lifter, r_mMeth, r_mMeth0, r_mProp, r_okOf, r_vIsi, r_mCut, r_mDget, r_mDisp2, r_mBM, r_vCh, r_mCh, r_sPar, r_mFor, r_sFld, r_sRaise, r_m1l, r_mMake, r_liftF, r_both, r_mLc, r_mLc2, r_mSk, r_mSetL, r_toDfz, r_toDow, r_toDdc, r_asB, r_asI, r_iteA, r_itlst, r_ittup, r_it1, r_mLM, r_mCallI, r_isOwn, r_liftI, r_outS, List.getElem?_cons_zero, List.getElem?_cons_succ, List.nil_append, List.set_cons_zero, List.set_cons_succ, List.length_cons, List.length_nil, Nat.reduceAdd, Nat.reduceLT, Nat.reduceEqDiff, ↓reduceIte, if_true, Bool.not_true, Bool.not_false, and_self, Bool.false_eq_true, len_lst, cut_drop]
abbrev digL : List D := [.lst [], .lst [.int 0], .lst [.int 1], .lst [.int 0, .int 1], .lst [.int 2, .int 7]]
theorem pst4 (ho : m_law_one l [.lst digL] = .ok dg l1) : (sSetF 7 (mCallI 0 m_law_one 1 (mCons (bd (mLst (mCons (bd (mLst mNil) fun x => opt (Ent.toD x)) (mCons (bd (mLst (mCons (rt (.int 0)) mNil)) fun x => opt (Ent.toD x)) (mCons (bd (mLst (mCons (rt (.int 1)) mNil)) fun x => opt (Ent.toD x)) (mCons (bd (mLst (mCons (rt (.int 0)) (mCons (rt (.int 1)) mNil))) fun x => opt (Ent.toD x)) (mCons (bd (mLst (mCons (rt (.int 2)) (mCons (rt (.int 7)) mNil))) fun x => opt (Ent.toD x)) mNil)))))) fun x => opt (Ent.toD x)) mNil))) [.pin l, .fz x1, .fz x2, .fz x3, .fz dw, .fz dt, .fz dr, .no, .no, .no, .no, .no, .no] = .ok .nx [.pin l1, .fz x1, .fz x2, .fz x3, .fz dw, .fz dt, .fz dr, .fz dg, .no, .no, .no, .no, .no] := by
  simp only [r_bd, r_ok, r_er, r_stuck, r_rt, r_os, r_eV, r_eB, r_m2, r_m2B, r_m1, r_mB, r_mAnd, r_mOr, r_mNot, r_vAnd, r_vOr, r_vNot, r_mIf, r_sq, r_sqnx, r_sqret, r_sIf, r_sRet, r_sDrop, r_setE, r_setU, r_sSet, r_sSetF, r_aName, r_aNil, r_aCons, r_aTup, r_aLst, r_sAsg, r_mNil, r_mCons, r_mTup, r_mLst, r_mNs, r_mCall, r_lift, r_lifter, r_mMeth, r_mMeth0, r_mProp, r_okOf, r_vIsi, r_mCut, r_mDget, r_mDisp2, r_mBM, r_vCh, r_mCh, r_sPar, r_mFor, r_sFld, r_sRaise, r_m1l, r_mMake, r_liftF, r_both, r_mLc, r_mLc2, r_mSk, r_mSetL, r_toDfz, r_toDow, r_toDdc, r_asB, r_asI, r_iteA, r_itlst, r_ittup, r_it1, r_mLM, r_mCallI, r_isOwn, r_liftI, r_outS, List.getElem?_cons_zero, List.getElem?_cons_succ, List.nil_append, List.set_cons_zero, List.set_cons_succ, List.length_cons, List.length_nil, Nat.reduceAdd, Nat.reduceLT, Nat.reduceEqDiff, ↓reduceIte, if_true, Bool.not_true, Bool.not_false, and_self, Bool.false_eq_true, r_short (l := []) (show 0 ≤ 1000 by decide), r_short (l := [_]) (show 1 ≤ 1000 by decide), r_short (l := [_, _]) (show 2 ≤ 1000 by decide), r_short (l := [_, _, _, _, _]) (show 5 ≤ 1000 by decide), liftI_ok ho]
abbrev titL : List D := [.lst [.str ("p" : Str), .str ("q" : Str), .str ("r" : Str), .str ("s" : Str), .str ("t" : Str)], .lst [.str ("t" : Str), .str ("s" : Str), .str ("r" : Str), .str ("q" : Str), .str ("p" : Str)]]
theorem pst6 (ho : m_law_one l [.lst titL] = .ok ti l1) : (sSetF 9 (mCallI 0 m_law_one 1 (mCons (bd (mLst (mCons (bd (mLst (mCons (rt (.str ("p" : Str))) (mCons (rt (.str ("q" : Str))) (mCons (rt (.str ("r" : Str))) (mCons (rt (.str ("s" : Str))) (mCons (rt (.str ("t" : Str))) mNil)))))) fun x => opt (Ent.toD x)) (mCons (bd (mLst (mCons (rt (.str ("t" : Str))) (mCons (rt (.str ("s" : Str))) (mCons (rt (.str ("r" : Str))) (mCons (rt (.str ("q" : Str))) (mCons (rt (.str ("p" : Str))) mNil)))))) fun x => opt (Ent.toD x)) mNil))) fun x => opt (Ent.toD x)) mNil))) [.pin l, .fz x1, .fz x2, .fz x3, .fz dw, .fz dt, .fz dr, .fz dg, .ow [], .no, .no, .no, .no] = .ok .nx [.pin l1, .fz x1, .fz x2, .fz x3, .fz dw, .fz dt, .fz dr, .fz dg, .ow [], .fz ti, .no, .no, .no] := by
  simp only [r_bd, r_ok, r_er, r_stuck, r_rt, r_os, r_eV, r_eB, r_m2, r_m2B, r_m1, r_mB, r_mAnd, r_mOr, r_mNot, r_vAnd, r_vOr, r_vNot, r_mIf, r_sq, r_sqnx, r_sqret, r_sIf, r_sRet, r_sDrop, r_setE, r_setU, r_sSet, r_sSetF, r_aName, r_aNil, r_aCons, r_aTup, r_aLst, r_sAsg, r_mNil, r_mCons, r_mTup, r_mLst, r_mNs, r_mCall, r_lift, r_lifter, r_mMeth, r_mMeth0, r_mProp, r_okOf, r_vIsi, r_mCut, r_mDget, r_mDisp2, r_mBM, r_vCh, r_mCh, r_sPar, r_mFor, r_sFld, r_sRaise, r_m1l, r_mMake, r_liftF, r_both, r_mLc, r_mLc2, r_mSk, r_mSetL, r_toDfz, r_toDow, r_toDdc, r_asB, r_asI, r_iteA, r_itlst, r_ittup, r_it1, r_mLM, r_mCallI, r_isOwn, r_liftI, r_outS, List.getElem?_cons_zero, List.getElem?_cons_succ, List.nil_append, List.set_cons_zero, List.set_cons_succ, List.length_cons, List.length_nil, Nat.reduceAdd, Nat.reduceLT, Nat.reduceEqDiff, ↓reduceIte, if_true, Bool.not_true, Bool.not_false, and_self, Bool.false_eq_true, r_short (l := [_, _]) (show 2 ≤ 1000 by decide), r_short (l := [_, _, _, _, _]) (show 5 ≤ 1000 by decide), liftI_ok ho]
abbrev pbod : M Fl := (sq (sSetF 11 (mCut (mCallI 0 m_law_turned 1 (mCons (eV 4) mNil)) (rt none) (bd (m2 DL.rAdd (rt (.int 1)) (mCallI 0 m_law_take 1 (mCons (rt (.int 2)) mNil))) fun d => bd (opt (asI d)) fun i => rt (some i))))
  (sq (sSetF 12 (mCallI 0 m_law_deeds_drawn 5 (mCons (eV 6) (mCons (eV 4) (mCons (eV 7) (mCons (eV 2) (mCons (eV 3) mNil)))))))
  (sDrop (mLM 8 fAppend (mCons (mTup (mCons (eV 10) (mCons (eV 11) (mCons (eV 12) mNil)))) mNil)))))
theorem pturn {x : D} {k : Nat} (ht : m_law_turned l [dw] = .ok (.lst L) l1) (hm : m_law_take l1 [.int 2] = .ok (.int (k : Nat)) l2) (hd : m_law_deeds_drawn l2 [dr, dw, dg, x2, x3] = .ok de l3) (hf : fo.length < 1000) :
    (bd (aName 10 x) fun _ => pbod) [.pin l, .fz x1, .fz x2, .fz x3, .fz dw, .fz dt, .fz dr, .fz dg, .ow fo, .fz ti, e10, e11, e12] = .ok .nx [.pin l3, .fz x1, .fz x2, .fz x3, .fz dw, .fz dt, .fz dr, .fz dg, .ow (fo ++ [.tup [x, .lst (L.take (1 + k)), de]]), .fz ti, .fz x, .fz (.lst (L.take (1 + k))), .fz de] := by
  have hc := cut_take L (1 + k)
  have e : (((1 + k : Nat) : Int)) = 1 + (k : Int) := by omega
  rw [e] at hc
  have s1 : (sSetF 11 (mCut (mCallI 0 m_law_turned 1 (mCons (eV 4) mNil)) (rt none) (bd (m2 DL.rAdd (rt (.int 1)) (mCallI 0 m_law_take 1 (mCons (rt (.int 2)) mNil))) fun d => bd (opt (asI d)) fun i => rt (some i)))) [.pin l, .fz x1, .fz x2, .fz x3, .fz dw, .fz dt, .fz dr, .fz dg, .ow fo, .fz ti, .fz x, e11, e12] = .ok .nx [.pin l2, .fz x1, .fz x2, .fz x3, .fz dw, .fz dt, .fz dr, .fz dg, .ow fo, .fz ti, .fz x, .fz (.lst (L.take (1 + k))), e12] := by
    simp only [r_bd, r_ok, r_er, r_stuck, r_rt, r_os, r_eV, r_eB, r_m2, r_m2B, r_m1, r_mB, r_mAnd, r_mOr, r_mNot, r_vAnd, r_vOr, r_vNot, r_mIf, r_sq, r_sqnx, r_sqret, r_sIf, r_sRet, r_sDrop, r_setE, r_setU, r_sSet, r_sSetF, r_aName, r_aNil, r_aCons, r_aTup, r_aLst, r_sAsg, r_mNil, r_mCons, r_mTup, r_mLst, r_mNs, r_mCall, r_lift, r_lifter, r_mMeth, r_mMeth0, r_mProp, r_okOf, r_vIsi, r_mCut, r_mDget, r_mDisp2, r_mBM, r_vCh, r_mCh, r_sPar, r_mFor, r_sFld, r_sRaise, r_m1l, r_mMake, r_liftF, r_both, r_mLc, r_mLc2, r_mSk, r_mSetL, r_toDfz, r_toDow, r_toDdc, r_asB, r_asI, r_iteA, r_itlst, r_ittup, r_it1, r_mLM, r_mCallI, r_isOwn, r_liftI, r_outS, List.getElem?_cons_zero, List.getElem?_cons_succ, List.nil_append, List.set_cons_zero, List.set_cons_succ, List.length_cons, List.length_nil, Nat.reduceAdd, Nat.reduceLT, Nat.reduceEqDiff, ↓reduceIte, if_true, Bool.not_true, Bool.not_false, and_self, Bool.false_eq_true, liftI_ok ht, liftI_ok hm, addI, hc]
  have s2 : (sSetF 12 (mCallI 0 m_law_deeds_drawn 5 (mCons (eV 6) (mCons (eV 4) (mCons (eV 7) (mCons (eV 2) (mCons (eV 3) mNil))))))) [.pin l2, .fz x1, .fz x2, .fz x3, .fz dw, .fz dt, .fz dr, .fz dg, .ow fo, .fz ti, .fz x, .fz (.lst (L.take (1 + k))), e12] = .ok .nx [.pin l3, .fz x1, .fz x2, .fz x3, .fz dw, .fz dt, .fz dr, .fz dg, .ow fo, .fz ti, .fz x, .fz (.lst (L.take (1 + k))), .fz de] := by
    simp only [r_bd, r_ok, r_er, r_stuck, r_rt, r_os, r_eV, r_eB, r_m2, r_m2B, r_m1, r_mB, r_mAnd, r_mOr, r_mNot, r_vAnd, r_vOr, r_vNot, r_mIf, r_sq, r_sqnx, r_sqret, r_sIf, r_sRet, r_sDrop, r_setE, r_setU, r_sSet, r_sSetF, r_aName, r_aNil, r_aCons, r_aTup, r_aLst, r_sAsg, r_mNil, r_mCons, r_mTup, r_mLst, r_mNs, r_mCall, r_lift, r_lifter, r_mMeth, r_mMeth0, r_mProp, r_okOf, r_vIsi, r_mCut, r_mDget, r_mDisp2, r_mBM, r_vCh, r_mCh, r_sPar, r_mFor, r_sFld, r_sRaise, r_m1l, r_mMake, r_liftF, r_both, r_mLc, r_mLc2, r_mSk, r_mSetL, r_toDfz, r_toDow, r_toDdc, r_asB, r_asI, r_iteA, r_itlst, r_ittup, r_it1, r_mLM, r_mCallI, r_isOwn, r_liftI, r_outS, List.getElem?_cons_zero, List.getElem?_cons_succ, List.nil_append, List.set_cons_zero, List.set_cons_succ, List.length_cons, List.length_nil, Nat.reduceAdd, Nat.reduceLT, Nat.reduceEqDiff, ↓reduceIte, if_true, Bool.not_true, Bool.not_false, and_self, Bool.false_eq_true, liftI_ok hd]
  have s3 : (sDrop (mLM 8 fAppend (mCons (mTup (mCons (eV 10) (mCons (eV 11) (mCons (eV 12) mNil)))) mNil))) [.pin l3, .fz x1, .fz x2, .fz x3, .fz dw, .fz dt, .fz dr, .fz dg, .ow fo, .fz ti, .fz x, .fz (.lst (L.take (1 + k))), .fz de] = .ok .nx [.pin l3, .fz x1, .fz x2, .fz x3, .fz dw, .fz dt, .fz dr, .fz dg, .ow (fo ++ [.tup [x, .lst (L.take (1 + k)), de]]), .fz ti, .fz x, .fz (.lst (L.take (1 + k))), .fz de] := by
    simp only [r_bd, r_ok, r_er, r_stuck, r_rt, r_os, r_eV, r_eB, r_m2, r_m2B, r_m1, r_mB, r_mAnd, r_mOr, r_mNot, r_vAnd, r_vOr, r_vNot, r_mIf, r_sq, r_sqnx, r_sqret, r_sIf, r_sRet, r_sDrop, r_setE, r_setU, r_sSet, r_sSetF, r_aName, r_aNil, r_aCons, r_aTup, r_aLst, r_sAsg, r_mNil, r_mCons, r_mTup, r_mLst, r_mNs, r_mCall, r_lift, r_lifter, r_mMeth, r_mMeth0, r_mProp, r_okOf, r_vIsi, r_mCut, r_mDget, r_mDisp2, r_mBM, r_vCh, r_mCh, r_sPar, r_mFor, r_sFld, r_sRaise, r_m1l, r_mMake, r_liftF, r_both, r_mLc, r_mLc2, r_mSk, r_mSetL, r_toDfz, r_toDow, r_toDdc, r_asB, r_asI, r_iteA, r_itlst, r_ittup, r_it1, r_mLM, r_mCallI, r_isOwn, r_liftI, r_outS, List.getElem?_cons_zero, List.getElem?_cons_succ, List.nil_append, List.set_cons_zero, List.set_cons_succ, List.length_cons, List.length_nil, Nat.reduceAdd, Nat.reduceLT, Nat.reduceEqDiff, ↓reduceIte, if_true, Bool.not_true, Bool.not_false, and_self, Bool.false_eq_true, r_short (l := [_, _, _]) (show 3 ≤ 1000 by decide), fap_small hf]
  refine (run_bd (m := aName 10 x) (a := ()) (ρ' := [.pin l, .fz x1, .fz x2, .fz x3, .fz dw, .fz dt, .fz dr, .fz dg, .ow fo, .fz ti, .fz x, e11, e12]) rfl).trans ?_
  exact (run_sq s1).trans ((run_sq s2).trans s3)
theorem pst7 {k : Nat} {T : List D} {ρ' : DL.Env} (hm : m_law_take l [x1] = .ok (.int (k : Nat)) l1) (hf : sFor (aName 10) pbod (T.take (1 + k)) [.pin l1, .fz x1, .fz x2, .fz x3, .fz dw, .fz dt, .fz dr, .fz dg, .ow [], .fz (.lst T), .no, .no, .no] = .ok .nx ρ') :
    (mFor (bd (mCut (eV 9) (rt none) (bd (m2 DL.rAdd (rt (.int 1)) (mCallI 0 m_law_take 1 (mCons (eV 1) mNil))) fun d => bd (opt (asI d)) fun i => rt (some i))) fun d => opt (itemsA d)) (aName 10) pbod) [.pin l, .fz x1, .fz x2, .fz x3, .fz dw, .fz dt, .fz dr, .fz dg, .ow [], .fz (.lst T), .no, .no, .no] = .ok .nx ρ' := by
  have hc := cut_take T (1 + k)
  have e : (((1 + k : Nat) : Int)) = 1 + (k : Int) := by omega
  rw [e] at hc
  generalize pbod = gb at *
  simp only [r_bd, r_ok, r_er, r_stuck, r_rt, r_os, r_eV, r_eB, r_m2, r_m2B, r_m1, r_mB, r_mAnd, r_mOr, r_mNot, r_vAnd, r_vOr, r_vNot, r_mIf, r_sq, r_sqnx, r_sqret, r_sIf, r_sRet, r_sDrop, r_setE, r_setU, r_sSet, r_sSetF, r_aName, r_aNil, r_aCons, r_aTup, r_aLst, r_sAsg, r_mNil, r_mCons, r_mTup, r_mLst, r_mNs, r_mCall, r_lift, r_lifter, r_mMeth, r_mMeth0, r_mProp, r_okOf, r_vIsi, r_mCut, r_mDget, r_mDisp2, r_mBM, r_vCh, r_mCh, r_sPar, r_mFor, r_sFld, r_sRaise, r_m1l, r_mMake, r_liftF, r_both, r_mLc, r_mLc2, r_mSk, r_mSetL, r_toDfz, r_toDow, r_toDdc, r_asB, r_asI, r_iteA, r_itlst, r_ittup, r_it1, r_mLM, r_mCallI, r_isOwn, r_liftI, r_outS, List.getElem?_cons_zero, List.getElem?_cons_succ, List.nil_append, List.set_cons_zero, List.set_cons_succ, List.length_cons, List.length_nil, Nat.reduceAdd, Nat.reduceLT, Nat.reduceEqDiff, ↓reduceIte, if_true, Bool.not_true, Bool.not_false, and_self, Bool.false_eq_true, liftI_ok hm, addI, hc, hf]
theorem pst8 {d : D} (hl : m_law_less_at_once [.dic [(.inr "processes", .lst fo), (.inr "inputs", dt)]] = .ok d) :
    (sRet (mCall m_law_less_at_once (bd (mCons (bd (mDisp2 ("processes" : Str) ("inputs" : Str) (eV 8) (eV 5)) fun x => opt (Ent.toD x)) mNil) fun ds => if ds.length = 1 then rt ds else stuck))) [.pin l, .fz x1, .fz x2, .fz x3, .fz dw, .fz dt, .fz dr, .fz dg, .ow fo, .fz ti, e10, e11, e12] = .ok (.ret d) [.pin l, .fz x1, .fz x2, .fz x3, .fz dw, .fz dt, .fz dr, .fz dg, .fz (.lst fo), .fz ti, e10, e11, e12] := by
  simp only [r_bd, r_ok, r_er, r_stuck, r_rt, r_os, r_eV, r_eB, r_m2, r_m2B, r_m1, r_mB, r_mAnd, r_mOr, r_mNot, r_vAnd, r_vOr, r_vNot, r_mIf, r_sq, r_sqnx, r_sqret, r_sIf, r_sRet, r_sDrop, r_setE, r_setU, r_sSet, r_sSetF, r_aName, r_aNil, r_aCons, r_aTup, r_aLst, r_sAsg, r_mNil, r_mCons, r_mTup, r_mLst, r_mNs, r_mCall, r_lift, r_lifter, r_mMeth, r_mMeth0, r_mProp, r_okOf, r_vIsi, r_mCut, r_mDget, r_mDisp2, r_mBM, r_vCh, r_mCh, r_sPar, r_mFor, r_sFld, r_sRaise, r_m1l, r_mMake, r_liftF, r_both, r_mLc, r_mLc2, r_mSk, r_mSetL, r_toDfz, r_toDow, r_toDdc, r_asB, r_asI, r_iteA, r_itlst, r_ittup, r_it1, r_mLM, r_mCallI, r_isOwn, r_liftI, r_outS, List.getElem?_cons_zero, List.getElem?_cons_succ, List.nil_append, List.set_cons_zero, List.set_cons_succ, List.length_cons, List.length_nil, Nat.reduceAdd, Nat.reduceLT, Nat.reduceEqDiff, ↓reduceIte, if_true, Bool.not_true, Bool.not_false, and_self, Bool.false_eq_true, hl]
theorem pst5 : (sSet 8 (mLst mNil)) [.pin l, .fz x1, .fz x2, .fz x3, .fz dw, .fz dt, .fz dr, .fz dg, .no, .no, .no, .no, .no] = .ok .nx [.pin l, .fz x1, .fz x2, .fz x3, .fz dw, .fz dt, .fz dr, .fz dg, .ow [], .no, .no, .no, .no] := rfl
end
end G
end
section
set_option Elab.async false
set_option linter.all false
set_option maxRecDepth 100000
set_option maxHeartbeats 4000000
namespace G
open PySem PySem.Spec PyProof.Rows L2 DL
theorem plain_run {l l1 l2 l3 l4 l5 l6 l7 fo L T : List D} {x2 x3 dg d : D} {x1 r : D} {n q : Int} {k5 k7 : Nat} {e10 e11 e12 : Ent}
    (h1 : m_law_take l [.int 2] = .ok (.int q) l1) (h2 : m_law_words l1 [.int (3 + q)] = .ok (.lst L) l2) (hk5 : n = (k5 : Int))
    (h3 : pc5 [.pin l2, .fz x1, .fz x2, .fz x3, .fz (.lst L), .no, .no, .no, .no, .no, .no, .no, .no] = .ok (.int n) [.pin l3, .fz x1, .fz x2, .fz x3, .fz (.lst L), .no, .no, .no, .no, .no, .no, .no, .no])
    (h4 : m_law_one l3 [.lst digL] = .ok dg l4) (h5 : m_law_one l4 [.lst titL] = .ok (.lst T) l5) (h6 : m_law_take l5 [x1] = .ok (.int (k7 : Nat)) l6)
    (hf : sFor (aName 10) pbod (T.take (1 + k7)) [.pin l6, .fz x1, .fz x2, .fz x3, .fz (.lst L), .fz (.lst (L.take (1 + k5))), .fz (.lst (L.drop (L.take (1 + k5)).length)), .fz dg, .ow [], .fz (.lst T), .no, .no, .no] = .ok .nx [.pin l7, .fz x1, .fz x2, .fz x3, .fz (.lst L), .fz (.lst (L.take (1 + k5))), .fz (.lst (L.drop (L.take (1 + k5)).length)), .fz dg, .ow fo, .fz (.lst T), e10, e11, e12])
    (hl : m_law_less_at_once [.dic [(.inr "processes", .lst fo), (.inr "inputs", .lst (L.take (1 + k5)))]] = .ok d) :
    m_law_plain l [x1, x2, x3] = .ok d l7 := by
  show toOutI (g_law_plain [.pin l, .fz x1, .fz x2, .fz x3, .no, .no, .no, .no, .no, .no, .no, .no, .no]) = _
  have e : g_law_plain [.pin l, .fz x1, .fz x2, .fz x3, .no, .no, .no, .no, .no, .no, .no, .no, .no] = .ok (.ret d) [.pin l7, .fz x1, .fz x2, .fz x3, .fz (.lst L), .fz (.lst (L.take (1 + k5))), .fz (.lst (L.drop (L.take (1 + k5)).length)), .fz dg, .fz (.lst fo), .fz (.lst T), e10, e11, e12] := by
    unfold g_law_plain
    exact (run_sq (pst1 (k := 0) h1 h2)).trans ((run_sq (pst2 hk5 h3)).trans ((run_sq pst3).trans ((run_sq (pst4 h4)).trans ((run_sq pst5).trans ((run_sq (pst6 h5)).trans ((run_sq (pst7 h6 hf)).trans (pst8 hl)))))))
  rw [e]; rfl
abbrev five : List (List Nat) := [[112], [113], [114], [115], [116]]
theorem lit_p : ("p" : Str) = S [112] := by decide +kernel
theorem lit_q : ("q" : Str) = S [113] := by decide +kernel
theorem lit_r : ("r" : Str) = S [114] := by decide +kernel
theorem lit_s : ("s" : Str) = S [115] := by decide +kernel
theorem lit_t : ("t" : Str) = S [116] := by decide +kernel
theorem five_ok {n : List Nat} (h : n ∈ five) : Wd n ∧ n ≠ [116, 117, 114, 110] := by
  simp only [five, List.mem_cons, List.not_mem_nil, or_false] at h
  rcases h with rfl | rfl | rfl | rfl | rfl <;> exact ⟨⟨by decide, by decide, fun z hz => by simp at hz; subst hz; unfold Let; omega⟩, by decide⟩
theorem lessP_names : ∀ (n : Int) (ps : List Pr), (lessP n ps).map (·.n) = ps.map (·.n)
  | _, [] => rfl
  | n, p :: r => by show p.n :: (lessP _ r).map (·.n) = _; rw [lessP_names]; rfl
theorem lessP_len : ∀ (n : Int) (ps : List Pr), (lessP n ps).length = ps.length
  | _, [] => rfl
  | n, p :: r => by show (lessP _ r).length + 1 = _; rw [lessP_len]; rfl
theorem lessP_mem : ∀ (n : Int) (ps : List Pr) (x : Pr), x ∈ lessP n ps → ∃ p ∈ ps, ∃ m, x = ⟨p.n, p.w, (less1 m p.ds).2⟩
  | _, [], x, h => by cases h
  | n, p :: r, x, h => by
    rcases List.mem_cons.mp h with rfl | h
    · exact ⟨p, List.mem_cons_self, n, rfl⟩
    · obtain ⟨q, hq, m, e⟩ := lessP_mem _ r x h
      exact ⟨q, List.mem_cons_of_mem _ hq, m, e⟩
/-- a process as it was drawn -/
structure Pr.Dr (p : Pr) (wr ws : List (List Nat)) (C : List Int) (bound deep : Int) : Prop where
  n : p.n ∈ five
  wn : p.w.Nodup
  wi : ∀ x ∈ p.w, x ∈ ws
  w1 : 1 ≤ p.w.length
  w4 : p.w.length ≤ 4
  d1 : 1 ≤ p.ds.length
  db : (p.ds.length : Int) ≤ bound
  d : ∀ d ∈ p.ds, d.In wr ws C deep
theorem Dr.lessd {p : Pr} {wr ws : List (List Nat)} {C : List Int} {bound deep : Int} (h : p.Dr wr ws C bound deep) (m : Int) : Pr.Dr ⟨p.n, p.w, (less1 m p.ds).2⟩ wr ws C bound deep := by
  refine ⟨h.n, h.wn, h.wi, h.w1, h.w4, by show 1 ≤ (less1 m p.ds).2.length; rw [less1_len]; exact h.d1, by show (((less1 m p.ds).2.length : Nat) : Int) ≤ bound; rw [less1_len]; exact h.db, fun d hd => ?_⟩
  obtain ⟨d', hd', e1, e2⟩ := less1_mem m p.ds d hd
  have := h.d d' hd'
  exact ⟨by rw [e1]; exact this.v, by rw [e2]; exact this.dp, by rw [e2]; exact this.t⟩
theorem Dr.inn {p : Pr} {wr ws : List (List Nat)} {C : List Int} {bound deep : Int} (h : p.Dr wr ws C bound deep) (hb : bound ≤ 4) (hd : deep ≤ 3) (hw : ∀ w ∈ ws, Wd w) (hs : ∀ w ∈ wr, w ∈ ws) : p.In ws C :=
  ⟨⟨(five_ok h.n).1, (five_ok h.n).2, fun x hx => hw x (h.wi x hx), h.wn, h.w1, h.w4, fun d hd' => ⟨hw _ (hs _ (h.d d hd').v), by have := (h.d d hd').dp; omega, (h.d d hd').t.g⟩, h.d1, by have := h.db; omega⟩,
    h.wi, fun d hd => hs _ (h.d d hd).v, fun d hd => (h.d d hd).t.w, fun d hd => (h.d d hd).t.d⟩
/-- the drawn program -/
theorem plain_ok {l : List D} (hp : Pool l) {many bound deep : Int} (m1 : 1 ≤ many) (m5 : many ≤ 5) (b1 : 1 ≤ bound) (b4 : bound ≤ 4) (p1 : 1 ≤ deep) (p3 : deep ≤ 3) :
    ∃ (P : Pg) (W : List (List Nat)) (C : List Int) (l' : List D), m_law_plain l [.int many, .int bound, .int deep] = .ok (plainD P) l' ∧ Pool l' ∧ P.Ok W C ∧ (∀ p ∈ P.ps, p.n ∈ five) ∧ (∀ p ∈ P.ps, (p.ds.length : Int) ≤ bound) ∧ ∀ w ∈ W, Wd w := by
  obtain ⟨q, l1, h1, hp1, q0, q2⟩ := take_ok (n := 2) hp (by omega) (by omega)
  obtain ⟨k, hk⟩ : ∃ k : Nat, 3 + q = (k : Int) := ⟨(3 + q).toNat, by omega⟩
  obtain ⟨ws, l2, h2, hp2, wlen, wnd, wwd, _⟩ := words_ok hp1 (k := k) (by omega)
  rw [← hk] at h2
  have hlenL : ((ws.map sD).length : Int) = k := by rw [List.length_map]; omega
  obtain ⟨k5, l3, h3, hp3, hk5⟩ : ∃ (k5 : Nat) (l3 : List D), pc5 [.pin l2, .fz (.int many), .fz (.int bound), .fz (.int deep), .fz (.lst (ws.map sD)), .no, .no, .no, .no, .no, .no, .no, .no] = .ok (.int (k5 : Nat)) [.pin l3, .fz (.int many), .fz (.int bound), .fz (.int deep), .fz (.lst (ws.map sD)), .no, .no, .no, .no, .no, .no, .no, .no] ∧ Pool l3 ∧ k5 ≤ 1 := by
    by_cases h : (3 : Int) < ((ws.map sD).length : Nat)
    · obtain ⟨r, l3, hm, hp3, _, _⟩ := take_ok (n := 3) hp2 (by omega) (by omega)
      refine ⟨if decide (r = 0) = true then 1 else 0, l3, (pc5_yes h hm).trans ?_, hp3, by split <;> omega⟩
      split <;> rfl
    · exact ⟨0, l2, pc5_no h, hp2, by omega⟩
  obtain ⟨dg, l4, h4, hp4, hdg⟩ := one_ok (ts := digL) hp3 (by simp) (by simp)
  obtain ⟨C, rfl, C2, C9⟩ : ∃ C : List Int, dg = .lst (C.map D.int) ∧ C.length ≤ 2 ∧ ∀ x ∈ C, 0 ≤ x ∧ x ≤ 9 := by
    simp only [digL, List.mem_cons, List.not_mem_nil, or_false] at hdg
    rcases hdg with rfl | rfl | rfl | rfl | rfl
    · exact ⟨[], rfl, by simp, by simp⟩
    · exact ⟨[0], rfl, by simp, by simp⟩
    · exact ⟨[1], rfl, by simp, by simp⟩
    · exact ⟨[0, 1], rfl, by simp, by simp⟩
    · exact ⟨[2, 7], rfl, by simp, by simp⟩
  obtain ⟨ti, l5, h5, hp5, hti⟩ := one_ok (ts := titL) hp4 (by simp) (by simp)
  obtain ⟨T, rfl, T5, Tn, Tf⟩ : ∃ T : List (List Nat), ti = .lst (T.map sD) ∧ T.length = 5 ∧ T.Nodup ∧ ∀ x ∈ T, x ∈ five := by
    simp only [titL, List.mem_cons, List.not_mem_nil, or_false] at hti
    rw [lit_p, lit_q, lit_r, lit_s, lit_t] at hti
    rcases hti with rfl | rfl
    · exact ⟨[[112], [113], [114], [115], [116]], rfl, rfl, by decide, by decide⟩
    · exact ⟨[[116], [115], [114], [113], [112]], rfl, rfl, by decide, by decide⟩
  obtain ⟨r, l6, h6, hp6, r0, r1⟩ := take_ok (n := many) hp5 (by omega) (by omega)
  obtain ⟨k7, rfl⟩ : ∃ k7 : Nat, r = (k7 : Int) := ⟨r.toNat, by omega⟩
  have ein : (ws.map sD).take (1 + k5) = (ws.take (1 + k5)).map sD := by rw [List.map_take]
  have eln : ((ws.map sD).take (1 + k5)).length = 1 + k5 := by rw [List.length_take, List.length_map]; omega
  have ewr : (ws.map sD).drop ((ws.map sD).take (1 + k5)).length = (ws.drop (1 + k5)).map sD := by rw [eln, List.map_drop]
  have eT : (T.map sD).take (1 + k7) = (T.take (1 + k7)).map sD := by rw [List.map_take]
  have wr0 : ws.drop (1 + k5) ≠ [] := fun e => by have := congrArg List.length e; rw [List.length_drop] at this; simp at this; omega
  have hsub : ∀ w ∈ ws.drop (1 + k5), w ∈ ws := fun w hw => List.mem_of_mem_drop hw
  have hf := for_pre (f := sD) (ga := aName 10) (gb := pbod)
    (R := fun pre ρ => ∃ (l : List D) (ps : List Pr) (e10 e11 e12 : Ent), ρ = [.pin l, .fz (.int many), .fz (.int bound), .fz (.int deep), .fz (.lst (ws.map sD)), .fz (.lst ((ws.map sD).take (1 + k5))), .fz (.lst ((ws.map sD).drop ((ws.map sD).take (1 + k5)).length)), .fz (.lst (C.map D.int)), .ow (ps.map procD), .fz (.lst (T.map sD)), e10, e11, e12] ∧ Pool l ∧ ps.map (·.n) = pre ∧ ∀ p ∈ ps, p.Dr (ws.drop (1 + k5)) ws C bound deep) (T.take (1 + k7)) (by
      rintro pre x post ρ hx ⟨l, ps, e10, e11, e12, rfl, hp, hn, hall⟩
      obtain ⟨vs, la, ht, hpa, pm⟩ := turned_ok (f := sD) (fun _ => rfl) hp ws (by omega)
      obtain ⟨z, lb, hm, hpb, z0, z2⟩ := take_ok (n := 2) hpa (by omega) (by omega)
      obtain ⟨k, rfl⟩ : ∃ k : Nat, z = (k : Int) := ⟨z.toNat, by omega⟩
      obtain ⟨de, lc, hd, hpc, dl1, dlb, din⟩ := deeds_drawn hpb wwd (fun e => by rw [e] at wlen; simp at wlen; omega) (by omega) wr0 (by rw [List.length_drop]; omega) C9 (by omega) b1 b4 p1 p3
      have hpl : pre.length < 6 := by
        have := congrArg List.length hx
        rw [List.length_take] at this
        simp at this
        omega
      have hfo : (ps.map procD).length < 1000 := by rw [List.length_map]; have := congrArg List.length hn; rw [List.length_map] at this; omega
      rw [ewr]
      have hvl : vs.length = ws.length := pm.length_eq
      refine ⟨_, pturn (x := sD x) ht hm hd hfo, lc, ps ++ [⟨x, vs.take (1 + k), de⟩], .fz (sD x), .fz (.lst ((vs.map sD).take (1 + k))), .fz (.lst (de.map deedD)), ?_, hpc, by rw [List.map_append, hn]; rfl, ?_⟩
      · have e1 : (ps ++ [⟨x, vs.take (1 + k), de⟩] : List Pr).map procD = ps.map procD ++ [.tup [sD x, .lst ((vs.map sD).take (1 + k)), .lst (de.map deedD)]] := by
          rw [List.map_append, ← List.map_take]; rfl
        rw [e1]
      · intro p hp'
        rcases List.mem_append.mp hp' with hp' | hp'
        · exact hall p hp'
        · rw [List.mem_singleton] at hp'
          subst hp'
          have hxT : x ∈ T := List.mem_of_mem_take (by rw [hx]; simp : x ∈ T.take (1 + k7))
          exact ⟨Tf x hxT, (pm.nodup_iff.mpr wnd).sublist (List.take_sublist _ _), fun y hy => pm.mem_iff.mp (List.mem_of_mem_take hy), by show 1 ≤ (vs.take (1 + k)).length; rw [List.length_take]; omega, by show (vs.take (1 + k)).length ≤ 4; rw [List.length_take]; omega, dl1, dlb, din⟩) (T.take (1 + k7)) [] rfl
  obtain ⟨ρ', e, l7, ps, e10, e11, e12, rfl, hp7, hn, hall⟩ := hf [.pin l6, .fz (.int many), .fz (.int bound), .fz (.int deep), .fz (.lst (ws.map sD)), .fz (.lst ((ws.map sD).take (1 + k5))), .fz (.lst ((ws.map sD).drop ((ws.map sD).take (1 + k5)).length)), .fz (.lst (C.map D.int)), .ow (([] : List Pr).map procD), .fz (.lst (T.map sD)), .no, .no, .no] ⟨l6, [], .no, .no, .no, rfl, hp6, rfl, fun p h => by cases h⟩
  rw [← eT] at e
  have hpsl : ps.length = min (1 + k7) 5 := by
    have := congrArg List.length hn
    rw [List.length_map, List.length_take, T5] at this
    exact this
  have hless := less_ok ⟨ps, ws.take (1 + k5)⟩ (by show ps.length < 1000; omega) (fun p hp => by have := (hall p hp).db; omega)
  have hpd : plainD ⟨ps, ws.take (1 + k5)⟩ = .dic [(.inr "processes", .lst (ps.map procD)), (.inr "inputs", .lst ((ws.map sD).take (1 + k5)))] := by rw [ein]; rfl
  rw [hpd] at hless
  have hall' : ∀ p ∈ lessP 8 ps, p.Dr (ws.drop (1 + k5)) ws C bound deep := fun p hp => by
    obtain ⟨p', hp', m, rfl⟩ := lessP_mem 8 ps p hp
    exact Dr.lessd (hall p' hp') m
  refine ⟨⟨lessP 8 ps, ws.take (1 + k5)⟩, ws, C, l7, plain_run (r := .non) h1 h2 rfl h3 h4 h5 h6 e hless, hp7, ⟨?_, ?_, ?_, ?_, ?_, ?_, ?_, ?_, ?_, ?_, ?_, ?_, ?_⟩, fun p hp => (hall' p hp).n, fun p hp => (hall' p hp).db, wwd⟩
  · exact fun p hp => Dr.inn (hall' p hp) b4 p3 wwd hsub
  · show 1 ≤ (lessP 8 ps).length
    rw [lessP_len]; omega
  · show (lessP 8 ps).length ≤ 5
    rw [lessP_len]; omega
  · show ((lessP 8 ps).map (·.n)).Nodup
    rw [lessP_names, hn]
    exact Tn.sublist (List.take_sublist _ _)
  · exact fun x hx => wwd x (List.mem_of_mem_take hx)
  · exact wnd.sublist (List.take_sublist _ _)
  · show 1 ≤ (ws.take (1 + k5)).length
    rw [List.length_take]; omega
  · show (ws.take (1 + k5)).length ≤ 3
    rw [List.length_take]; omega
  · exact fun x hx => List.mem_of_mem_take hx
  · intro p hp d hd hin
    have h1 := ((hall' p hp).d d hd).v
    have hnd := wnd
    rw [← List.take_append_drop (1 + k5) ws, List.nodup_append] at hnd
    exact hnd.2.2 d.v hin d.v h1 rfl
  · omega
  · exact C2
  · have := lessP_count 8 ps
    have e : ((lessP 8 ps).map fun p => (onc p).length) = (lessP 8 ps).map fun p => lateN p.ds := by congr 1; funext p; exact onc_late p
    show ((lessP 8 ps).map fun p => (onc p).length).sum ≤ 8
    rw [e]; omega
end G
end
section
set_option Elab.async false
set_option linter.all false
set_option maxRecDepth 100000
set_option maxHeartbeats 4000000
namespace G
open PySem PySem.Spec PyProof.Rows L2 DL
theorem r_mCallE {m : List D → OutL} {n : Nat} {gs : M (List D)} (ρ : DL.Env) : mCallE m n gs ρ = (gs ρ).bd fun ds => if ds.length = n then (match m ds with
  | .ok l => rt (.ow l)
  | .stuck => stuck) else stuck := rfl
theorem callIE_ok {g0 : M Ent} {m : List D → List D → OutI} {n : Nat} {gs : M (List D)} {ρ ρ1 ρ2 : DL.Env} {l l' es : List D} {d : D} (h0 : g0 ρ = .ok (.ow l) ρ1) (h1 : gs ρ1 = .ok es ρ2) (hn : es.length = n) (hm : m l es = .ok d l') : mCallIE g0 m n gs ρ = .ok d ρ2 := by
  unfold mCallIE
  rw [run_bd h0]
  dsimp only
  rw [run_bd h1, if_pos hn, hm]
  rfl
theorem names_ok (P : Pg) (h : P.ps.length < 1000) : m_law_names [plainD P] = .ok (.lst (P.ps.map fun p => sD p.n)) := by
  show toOut (g_law_names [.fz (.dic [(.inr "processes", .lst (P.ps.map procD)), (.inr "inputs", .lst (P.inp.map sD))]), .no, .no, .no]) = _
  unfold g_law_names
  have hloop := fun e0 => loop_mp (vs := [1, 2, 3]) (ga := (aTup 3 (aCons (aName 1) (aCons (aName 2) (aCons (aName 3) aNil))))) (tt := rt true) (ge := eV 1) (ρ := [e0, .no, .no, .no]) (f := procD) (g := fun p => sD p.n) P.ps [] (fun p hp => turn_some rfl (ρ1 := [e0, .fz (sD p.n), .fz (.lst (p.w.map sD)), .fz (.lst (p.ds.map deedD))]) rfl rfl (ρ3 := [e0, .fz (sD p.n), .fz (.lst (p.w.map sD)), .fz (.lst (p.ds.map deedD))]) rfl ⟨rfl, rfl⟩ rfl) (by rw [szl]; simp; omega)
  have hs := fun e0 => r_sole (hloop e0)
  simp only [r_bd, r_ok, r_er, r_stuck, r_rt, r_os, r_eV, r_eB, r_m2, r_m2B, r_m1, r_mB, r_mAnd, r_mOr, r_mNot, r_vAnd, r_vOr, r_vNot, r_mIf, r_sq, r_sqnx, r_sqret, r_sIf, r_sRet, r_sDrop, r_setE, r_setU, r_sSet, r_sSetF, r_aName, r_aNil, r_aCons, r_aTup, r_aLst, r_sAsg, r_mNil, r_mCons, r_mTup, r_mLst, r_mNs, r_mCall, r_lift, r_lifter, r_mMeth, r_mMeth0, r_mProp, r_okOf, r_vIsi, r_mCut, r_mDget, r_mDisp2, r_mBM, r_vCh, r_mCh, r_sPar, r_mFor, r_sFld, r_sRaise, r_m1l, r_mMake, r_liftF, r_both, r_mLc, r_mLc2, r_mSk, r_mSetL, r_toDfz, r_toDow, r_toDdc, r_asB, r_asI, r_iteA, r_itlst, r_ittup, r_it1, r_mLM, r_mCallI, r_isOwn, r_liftI, r_outS, List.getElem?_cons_zero, List.getElem?_cons_succ, List.nil_append, List.set_cons_zero, List.set_cons_succ, List.length_cons, List.length_nil, Nat.reduceAdd, Nat.reduceLT, Nat.reduceEqDiff, ↓reduceIte, if_true, Bool.not_true, Bool.not_false, and_self, Bool.false_eq_true, get_processes, hs]
  rfl
def wholeP (P : Pg) : List Pc := P.ps.flatMap fun p => (List.range p.ds.length).map fun (i : Nat) => (p.n, (i : Int))
section
variable {E0 E1 E2 E3 E4 e5 e6 e7 e8 e9 e10 e11 e12 e13 e14 : Ent} {P : Pg} {W : List (List Nat)} {C : List Int}
abbrev wbod : M Fl := (sSetF 5 (m2B DL.rAdd 5 (bd (mLc (bd (mCons (m1 DL.rLen (eB 8)) mNil) fun ds => opt (if ds.length = 1 then rRange ds else none)) [9] (aName 9) (rt true) (mTup (mCons (eV 6) (mCons (eV 9) mNil)))) fun x => opt (Ent.toD x))))
abbrev wtg : D → M Unit := (aTup 3 (aCons (aName 6) (aCons (aName 7) (aCons (aName 8) aNil))))
theorem whole_turn {x w dl : D} {R acc Z : List D} {n : Int} (hn : DL.rLen dl = some (.int n)) (hr : rRange [.int n] = some Z) (ha : DL.rAdd (.lst acc) (.lst R) = some (.lst (acc ++ R)))
    (hs : ∀ e5, sole (loopL [9] (aName 9) (rt true) (mTup (mCons (eV 6) (mCons (eV 9) mNil))) Z []) [E0, E1, E2, E3, E4, e5, .fz x, .fz w, .fz dl, .no, e10, e11, e12, e13, e14] = .ok R [E0, E1, E2, E3, E4, e5, .fz x, .fz w, .fz dl, .no, e10, e11, e12, e13, e14]) (h5 : e5 = .ow acc ∨ e5 = .fz (.lst acc)) :
    (bd (wtg (.tup [x, w, dl])) fun _ => wbod) [E0, E1, E2, E3, E4, e5, e6, e7, e8, .no, e10, e11, e12, e13, e14] = .ok .nx [E0, E1, E2, E3, E4, .fz (.lst (acc ++ R)), .fz x, .fz w, .fz dl, .no, e10, e11, e12, e13, e14] := by
  unfold wbod wtg
  rcases h5 with rfl | rfl
  · simp only [r_bd, r_ok, r_er, r_stuck, r_rt, r_os, r_eV, r_eB, r_m2, r_m2B, r_m1, r_mB, r_mAnd, r_mOr, r_mNot, r_vAnd, r_vOr, r_vNot, r_mIf, r_sq, r_sqnx, r_sqret, r_sIf, r_sRet, r_sDrop, r_setE, r_setU, r_sSet, r_sSetF, r_aName, r_aNil, r_aCons, r_aTup, r_aLst, r_sAsg, r_mNil, r_mCons, r_mTup, r_mLst, r_mNs, r_mCall, r_lift, r_lifter, r_mMeth, r_mMeth0, r_mProp, r_okOf, r_vIsi, r_mCut, r_mDget, r_mDisp2, r_mBM, r_vCh, r_mCh, r_sPar, r_mFor, r_sFld, r_sRaise, r_m1l, r_mMake, r_liftF, r_both, r_mLc, r_mLc2, r_mSk, r_mSetL, r_toDfz, r_toDow, r_toDdc, r_asB, r_asI, r_iteA, r_itlst, r_ittup, r_it1, r_mLM, r_mCallI, r_isOwn, r_liftI, r_outS, List.getElem?_cons_zero, List.getElem?_cons_succ, List.nil_append, List.set_cons_zero, List.set_cons_succ, List.length_cons, List.length_nil, Nat.reduceAdd, Nat.reduceLT, Nat.reduceEqDiff, ↓reduceIte, if_true, Bool.not_true, Bool.not_false, and_self, Bool.false_eq_true, hn, hr, hs, ha]
  · simp only [r_bd, r_ok, r_er, r_stuck, r_rt, r_os, r_eV, r_eB, r_m2, r_m2B, r_m1, r_mB, r_mAnd, r_mOr, r_mNot, r_vAnd, r_vOr, r_vNot, r_mIf, r_sq, r_sqnx, r_sqret, r_sIf, r_sRet, r_sDrop, r_setE, r_setU, r_sSet, r_sSetF, r_aName, r_aNil, r_aCons, r_aTup, r_aLst, r_sAsg, r_mNil, r_mCons, r_mTup, r_mLst, r_mNs, r_mCall, r_lift, r_lifter, r_mMeth, r_mMeth0, r_mProp, r_okOf, r_vIsi, r_mCut, r_mDget, r_mDisp2, r_mBM, r_vCh, r_mCh, r_sPar, r_mFor, r_sFld, r_sRaise, r_m1l, r_mMake, r_liftF, r_both, r_mLc, r_mLc2, r_mSk, r_mSetL, r_toDfz, r_toDow, r_toDdc, r_asB, r_asI, r_iteA, r_itlst, r_ittup, r_it1, r_mLM, r_mCallI, r_isOwn, r_liftI, r_outS, List.getElem?_cons_zero, List.getElem?_cons_succ, List.nil_append, List.set_cons_zero, List.set_cons_succ, List.length_cons, List.length_nil, Nat.reduceAdd, Nat.reduceLT, Nat.reduceEqDiff, ↓reduceIte, if_true, Bool.not_true, Bool.not_false, and_self, Bool.false_eq_true, hn, hr, hs, ha]
theorem whole_loop (h : P.Ok W C) : ∃ e5 e6 e7 e8, sFor wtg wbod (P.ps.map procD) [E0, E1, E2, E3, E4, .ow [], .no, .no, .no, .no, e10, e11, e12, e13, e14] = .ok .nx [E0, E1, E2, E3, E4, e5, e6, e7, e8, .no, e10, e11, e12, e13, e14] ∧ e5 = .fz (.lst ((wholeP P).map plD)) := by
  have hf := for_pre (f := procD) (ga := wtg) (gb := wbod)
    (R := fun pre ρ => ∃ e5 e6 e7 e8, ρ = [E0, E1, E2, E3, E4, e5, e6, e7, e8, .no, e10, e11, e12, e13, e14] ∧ (e5 = .ow ((wholeP ⟨pre, []⟩).map plD) ∧ pre = [] ∨ e5 = .fz (.lst ((wholeP ⟨pre, []⟩).map plD)))) P.ps (by
      rintro pre p post ρ hp ⟨e5, e6, e7, e8, rfl, h5⟩
      have h5' : e5 = .ow ((wholeP ⟨pre, []⟩).map plD) ∨ e5 = .fz (.lst ((wholeP ⟨pre, []⟩).map plD)) := by rcases h5 with ⟨h, _⟩ | h <;> simp [h]
      have hpk := h.p p (by rw [hp]; simp)
      have h4 := hpk.ok.d4
      have hlen : (wholeP ⟨pre, []⟩).length ≤ 5 * 4 := by
        have := flat_len (f := fun p : Pr => (List.range p.ds.length).map fun (i : Nat) => (p.n, (i : Int))) (k := 4) pre fun q hq => by
          rw [List.length_map, List.length_range]
          exact (h.p q (by rw [hp]; simp [hq])).ok.d4
        have h5 := h.p5
        rw [hp] at h5
        simp only [List.length_append, List.length_cons] at h5
        unfold wholeP
        simp only
        omega
      have hloop := fun e5 => loop_mp (vs := [9]) (ga := aName 9) (tt := rt true) (ge := (mTup (mCons (eV 6) (mCons (eV 9) mNil)))) (ρ := [E0, E1, E2, E3, E4, e5, .fz (sD p.n), .fz (.lst (p.w.map sD)), .fz (.lst (p.ds.map deedD)), .no, e10, e11, e12, e13, e14]) (f := fun (i : Nat) => D.int (0 + (i : Int))) (g := fun (i : Nat) => plD (p.n, (i : Int))) (List.range p.ds.length) [] (fun i hi => by
        refine turn_some rfl (ρ1 := [E0, E1, E2, E3, E4, e5, .fz (sD p.n), .fz (.lst (p.w.map sD)), .fz (.lst (p.ds.map deedD)), .fz (.int (0 + (i : Int))), e10, e11, e12, e13, e14]) rfl rfl (ρ3 := [E0, E1, E2, E3, E4, e5, .fz (sD p.n), .fz (.lst (p.w.map sD)), .fz (.lst (p.ds.map deedD)), .fz (.int (0 + (i : Int))), e10, e11, e12, e13, e14]) ?_ ⟨rfl, rfl⟩ rfl
        simp only [r_bd, r_ok, r_er, r_stuck, r_rt, r_os, r_eV, r_eB, r_m2, r_m2B, r_m1, r_mB, r_mAnd, r_mOr, r_mNot, r_vAnd, r_vOr, r_vNot, r_mIf, r_sq, r_sqnx, r_sqret, r_sIf, r_sRet, r_sDrop, r_setE, r_setU, r_sSet, r_sSetF, r_aName, r_aNil, r_aCons, r_aTup, r_aLst, r_sAsg, r_mNil, r_mCons, r_mTup, r_mLst, r_mNs, r_mCall, r_lift, r_lifter, r_mMeth, r_mMeth0, r_mProp, r_okOf, r_vIsi, r_mCut, r_mDget, r_mDisp2, r_mBM, r_vCh, r_mCh, r_sPar, r_mFor, r_sFld, r_sRaise, r_m1l, r_mMake, r_liftF, r_both, r_mLc, r_mLc2, r_mSk, r_mSetL, r_toDfz, r_toDow, r_toDdc, r_asB, r_asI, r_iteA, r_itlst, r_ittup, r_it1, r_mLM, r_mCallI, r_isOwn, r_liftI, r_outS, List.getElem?_cons_zero, List.getElem?_cons_succ, List.nil_append, List.set_cons_zero, List.set_cons_succ, List.length_cons, List.length_nil, Nat.reduceAdd, Nat.reduceLT, Nat.reduceEqDiff, ↓reduceIte, if_true, Bool.not_true, Bool.not_false, and_self, Bool.false_eq_true, r_short (l := [_, _]) (show 2 ≤ 1000 by decide), Int.zero_add]
        rfl) (by rw [szl]; simp; omega)
      have hs := fun e5 => r_sole (hloop e5)
      have eg : ((List.range p.ds.length).map fun (i : Nat) => plD (p.n, (i : Int))) = ((List.range p.ds.length).map fun (i : Nat) => (p.n, (i : Int))).map plD := by rw [List.map_map]; rfl
      rw [eg] at hs
      have hr : rRange [.int (((p.ds.map deedD).length : Nat) : Int)] = some ((List.range p.ds.length).map fun (i : Nat) => D.int (0 + (i : Int))) := by
        rw [List.length_map, range1 (by omega) (by omega), Int.toNat_natCast]; rfl
      have ef : (wholeP ⟨pre, []⟩).map plD ++ ((List.range p.ds.length).map fun (i : Nat) => (p.n, (i : Int))).map plD = (wholeP ⟨pre ++ [p], []⟩).map plD := by unfold wholeP; simp
      have ha := add_lst (x := (wholeP ⟨pre, []⟩).map plD) (y := ((List.range p.ds.length).map fun (i : Nat) => (p.n, (i : Int))).map plD) (by rw [List.length_map, List.length_map, List.length_map, List.length_range]; omega)
      refine ⟨_, whole_turn (x := sD p.n) (w := .lst (p.w.map sD)) (len_lst (p.ds.map deedD)) hr ha hs h5', _, _, _, _, rfl, .inr ?_⟩
      rw [ef]) P.ps [] rfl
  obtain ⟨ρ', e, e5, e6, e7, e8, rfl, h5⟩ := hf [E0, E1, E2, E3, E4, .ow [], .no, .no, .no, .no, e10, e11, e12, e13, e14] ⟨_, _, _, _, rfl, .inl ⟨rfl, rfl⟩⟩
  refine ⟨e5, e6, e7, e8, e, ?_⟩
  rcases h5 with ⟨_, h5⟩ | h5
  · have := h.p1; rw [h5] at this; simp at this
  · exact h5
end
def oddA (n : D) : List D := [.non, .int 5, n, .tup [n], .lst [n, .int 0], .tup [n, .int 0, .int 0], .tup [n, .int (-1)], .tup [n, .int 9], .tup [n, .non], .tup [n, .bl true]]
def oddB (n : D) : List D := [.tup [.str ("nobody" : Str), .int 0], .tup [.non, .int 0], .tup [.int 0, n], .tup [.tup [n], .int 0]]
def lost (P : Pg) : List Pc := (wholeP P).filter fun q => !decide (q ∈ plcs P)
theorem rr_some {v : D} (h : (rRepr v).isSome = true) : ∃ r, rRepr v = some (.str r) := by
  unfold rRepr at h ⊢
  split at h
  · rename_i hc; rw [if_pos hc]; exact ⟨_, rfl⟩
  · cases h
theorem rr_odd : ∀ n ∈ five, ∀ v ∈ oddA (sD n) ++ oddB (sD n), (rRepr v).isSome = true := by decide +kernel
theorem rr_pl : ∀ n ∈ five, ∀ i ∈ ([0, 1, 2, 3] : List Int), (rRepr (plD (n, i))).isSome = true := by decide +kernel
theorem plcs_mem {P : Pg} {W : List (List Nat)} {C : List Int} (h : P.Ok W C) {q : Pc} (hq : q ∈ plcs P) : (∃ p ∈ P.ps, q.1 = p.n) ∧ 0 ≤ q.2 ∧ q.2 < 4 := by
  obtain ⟨p, hp, hq⟩ := List.mem_flatMap.mp hq
  obtain ⟨i, hi, rfl⟩ := List.mem_map.mp hq
  refine ⟨⟨p, hp, rfl⟩, by show (0 : Int) ≤ (i : Int); omega, ?_⟩
  have h4 := (h.p p hp).ok.d4
  obtain ⟨d, hd, e⟩ := List.mem_filterMap.mp hi
  have hlt : d.2 < p.ds.length := by
    obtain ⟨x, k⟩ := d
    have := List.mem_zipIdx_iff_getElem?.mp hd
    exact (List.getElem?_eq_some_iff.mp this).1
  show (i : Int) < 4
  split at e
  · cases e
  · cases e; omega
theorem whole_mem {P : Pg} {W : List (List Nat)} {C : List Int} (h : P.Ok W C) {q : Pc} (hq : q ∈ wholeP P) : (∃ p ∈ P.ps, q.1 = p.n) ∧ q.2 ∈ ([0, 1, 2, 3] : List Int) := by
  obtain ⟨p, hp, hq⟩ := List.mem_flatMap.mp hq
  obtain ⟨i, hi, rfl⟩ := List.mem_map.mp hq
  have h4 := (h.p p hp).ok.d4
  have hi' := List.mem_range.mp hi
  refine ⟨⟨p, hp, rfl⟩, ?_⟩
  have : i = 0 ∨ i = 1 ∨ i = 2 ∨ i = 3 := by omega
  rcases this with rfl | rfl | rfl | rfl <;> simp
theorem lit_nobody : ("nobody" : Str) = S [110, 111, 98, 111, 100, 121] := by decide +kernel
theorem odd_bad {P : Pg} {W : List (List Nat)} {C : List Int} (h : P.Ok W C) (h5 : ∀ p ∈ P.ps, p.n ∈ five) {n : List Nat} (hn : n ∈ five) {v : D} (hv : v ∈ oddA (sD n) ++ oddB (sD n) ++ (lost P).map plD) : Bad P v ∧ ∃ r, rRepr v = some (.str r) := by
  rw [List.mem_append] at hv
  rcases hv with hv | hv
  · refine ⟨?_, rr_some (rr_odd n hn v hv)⟩
    simp only [oddA, oddB, List.mem_append, List.mem_cons, List.not_mem_nil, or_false] at hv
    rcases hv with (rfl | rfl | rfl | rfl | rfl | rfl | rfl | rfl | rfl | rfl) | (rfl | rfl | rfl | rfl)
    · exact .inl rfl
    · exact .inl rfl
    · exact .inl rfl
    · exact .inl rfl
    · exact .inl rfl
    · exact .inl rfl
    · exact .inr ⟨(n, -1), rfl, fun e => by have := (plcs_mem h e).2.1; simp at this⟩
    · exact .inr ⟨(n, 9), rfl, fun e => by have := (plcs_mem h e).2.2; simp at this⟩
    · exact .inl rfl
    · exact .inl rfl
    · refine .inr ⟨([110, 111, 98, 111, 100, 121], 0), by rw [lit_nobody]; rfl, fun e => ?_⟩
      obtain ⟨p, hp, e⟩ := (plcs_mem h e).1
      have := h5 p hp
      rw [← e] at this
      revert this
      decide
    · exact .inl rfl
    · exact .inl rfl
    · exact .inl rfl
  · obtain ⟨q, hq, rfl⟩ := List.mem_map.mp hv
    obtain ⟨hw, hnp⟩ := List.mem_filter.mp hq
    obtain ⟨⟨p, hp, e⟩, hi⟩ := whole_mem h hw
    refine ⟨.inr ⟨q, rfl, by simpa using hnp⟩, rr_some ?_⟩
    obtain ⟨a, i⟩ := q
    exact rr_pl a (by have := h5 p hp; rw [← e] at this; exact this) i hi
end G
end
section
set_option Elab.async false
set_option linter.all false
set_option maxRecDepth 100000
set_option maxHeartbeats 4000000
namespace G
open PySem PySem.Spec PyProof.Rows L2 DL
section
variable {E0 E1 E4 E5 E6 E7 E8 E9 E10 E11 e12 e13 e14 : Ent} {pg pl v a : D}
abbrev b14 : M Fl := (sIf (mB (m2 DL.rNe (mCall m_law_refused (bd (mCons (eV 2) (mCons (eV 14) (mCons (eV 13) mNil))) fun ds => if ds.length = 3 then rt ds else stuck)) (bd (mLst (mCons (m1 rRepr (eB 12)) (mCons (rt (.bl true)) mNil))) fun x => opt (Ent.toD x)))) (sRet (rt (.bl false))) (rt .nx))
abbrev b13 : M Fl := (mFor (bd (bd (mLst (mCons (bd (mLst (mCons (eV 12) mNil)) fun x => opt (Ent.toD x)) (mCons (m2B DL.rAdd 3 (bd (mLst (mCons (eV 12) mNil)) fun x => opt (Ent.toD x))) (mCons (m2 DL.rAdd (m1 rToTup (eB 3)) (mTup (mCons (eV 12) (mCons (rt .non) mNil)))) mNil)))) fun x => opt (Ent.toD x)) fun d => opt (itemsA d)) (aName 14) b14)
abbrev b12 : M Fl := (mFor (bd (mCons (rt (.int 2)) mNil) fun ds => opt (if ds.length = 1 then rRange ds else none)) (aName 13) b13)
theorem step14 {w rv : D} (h : m_law_refused [pg, a, w] = .ok rv) {z : D} (hr : rRepr v = some z) (hn : DL.rNe rv (.lst [z, .bl true]) = some (.bl false)) :
    (bd (aName 14 a) fun _ => b14) [E0, E1, .fz pg, .fz pl, E4, E5, E6, E7, E8, E9, E10, E11, .fz v, .fz w, e14] = .ok .nx [E0, E1, .fz pg, .fz pl, E4, E5, E6, E7, E8, E9, E10, E11, .fz v, .fz w, .fz a] := by
  unfold b14
  simp only [r_bd, r_ok, r_er, r_stuck, r_rt, r_os, r_eV, r_eB, r_m2, r_m2B, r_m1, r_mB, r_mAnd, r_mOr, r_mNot, r_vAnd, r_vOr, r_vNot, r_mIf, r_sq, r_sqnx, r_sqret, r_sIf, r_sRet, r_sDrop, r_setE, r_setU, r_sSet, r_sSetF, r_aName, r_aNil, r_aCons, r_aTup, r_aLst, r_sAsg, r_mNil, r_mCons, r_mTup, r_mLst, r_mNs, r_mCall, r_lift, r_lifter, r_mMeth, r_mMeth0, r_mProp, r_okOf, r_vIsi, r_mCut, r_mDget, r_mDisp2, r_mBM, r_vCh, r_mCh, r_sPar, r_mFor, r_sFld, r_sRaise, r_m1l, r_mMake, r_liftF, r_both, r_mLc, r_mLc2, r_mSk, r_mSetL, r_toDfz, r_toDow, r_toDdc, r_asB, r_asI, r_iteA, r_itlst, r_ittup, r_it1, r_mLM, r_mCallI, r_isOwn, r_liftI, r_outS, List.getElem?_cons_zero, List.getElem?_cons_succ, List.nil_append, List.set_cons_zero, List.set_cons_succ, List.length_cons, List.length_nil, Nat.reduceAdd, Nat.reduceLT, Nat.reduceEqDiff, ↓reduceIte, if_true, Bool.not_true, Bool.not_false, and_self, Bool.false_eq_true, h, hr, r_short (l := [_, _]) (show 2 ≤ 1000 by decide), hn]
theorem step13 {w a1 a2 a3 t0 : D} {r1 r2 r3 z : D} (hr : rRepr v = some z) (h1 : m_law_refused [pg, a1, w] = .ok r1) (n1 : DL.rNe r1 (.lst [z, .bl true]) = some (.bl false)) (h2 : m_law_refused [pg, a2, w] = .ok r2) (n2 : DL.rNe r2 (.lst [z, .bl true]) = some (.bl false))
    (h3 : m_law_refused [pg, a3, w] = .ok r3) (n3 : DL.rNe r3 (.lst [z, .bl true]) = some (.bl false)) (e1 : a1 = .lst [v]) (e2 : DL.rAdd pl (.lst [v]) = some a2) (et : rToTup pl = some t0) (e3 : DL.rAdd t0 (.tup [v, .non]) = some a3) :
    (bd (aName 13 w) fun _ => b13) [E0, E1, .fz pg, .fz pl, E4, E5, E6, E7, E8, E9, E10, E11, .fz v, e13, e14] = .ok .nx [E0, E1, .fz pg, .fz pl, E4, E5, E6, E7, E8, E9, E10, E11, .fz v, .fz w, .fz a3] := by
  have hl : sFor (aName 14) b14 [.lst [v], a2, a3] [E0, E1, .fz pg, .fz pl, E4, E5, E6, E7, E8, E9, E10, E11, .fz v, .fz w, e14] = .ok .nx [E0, E1, .fz pg, .fz pl, E4, E5, E6, E7, E8, E9, E10, E11, .fz v, .fz w, .fz a3] := by
    subst e1
    exact (for_step (step14 h1 hr n1)).trans ((for_step (step14 h2 hr n2)).trans ((for_step (step14 h3 hr n3)).trans rfl))
  unfold b13
  generalize b14 = gb at *
  simp only [r_bd, r_ok, r_er, r_stuck, r_rt, r_os, r_eV, r_eB, r_m2, r_m2B, r_m1, r_mB, r_mAnd, r_mOr, r_mNot, r_vAnd, r_vOr, r_vNot, r_mIf, r_sq, r_sqnx, r_sqret, r_sIf, r_sRet, r_sDrop, r_setE, r_setU, r_sSet, r_sSetF, r_aName, r_aNil, r_aCons, r_aTup, r_aLst, r_sAsg, r_mNil, r_mCons, r_mTup, r_mLst, r_mNs, r_mCall, r_lift, r_lifter, r_mMeth, r_mMeth0, r_mProp, r_okOf, r_vIsi, r_mCut, r_mDget, r_mDisp2, r_mBM, r_vCh, r_mCh, r_sPar, r_mFor, r_sFld, r_sRaise, r_m1l, r_mMake, r_liftF, r_both, r_mLc, r_mLc2, r_mSk, r_mSetL, r_toDfz, r_toDow, r_toDdc, r_asB, r_asI, r_iteA, r_itlst, r_ittup, r_it1, r_mLM, r_mCallI, r_isOwn, r_liftI, r_outS, List.getElem?_cons_zero, List.getElem?_cons_succ, List.nil_append, List.set_cons_zero, List.set_cons_succ, List.length_cons, List.length_nil, Nat.reduceAdd, Nat.reduceLT, Nat.reduceEqDiff, ↓reduceIte, if_true, Bool.not_true, Bool.not_false, and_self, Bool.false_eq_true, r_short (l := [_]) (show 1 ≤ 1000 by decide), r_short (l := [_, _]) (show 2 ≤ 1000 by decide), r_short (l := [_, _, _]) (show 3 ≤ 1000 by decide), e2, et, e3, hl]
theorem step12 {a3 : D} (h0 : ∀ e13 e14, (bd (aName 13 (.int 0)) fun _ => b13) [E0, E1, .fz pg, .fz pl, E4, E5, E6, E7, E8, E9, E10, E11, .fz v, e13, e14] = .ok .nx [E0, E1, .fz pg, .fz pl, E4, E5, E6, E7, E8, E9, E10, E11, .fz v, .fz (.int 0), .fz a3])
    (h1 : ∀ e13 e14, (bd (aName 13 (.int 1)) fun _ => b13) [E0, E1, .fz pg, .fz pl, E4, E5, E6, E7, E8, E9, E10, E11, .fz v, e13, e14] = .ok .nx [E0, E1, .fz pg, .fz pl, E4, E5, E6, E7, E8, E9, E10, E11, .fz v, .fz (.int 1), .fz a3]) :
    (bd (aName 12 v) fun _ => b12) [E0, E1, .fz pg, .fz pl, E4, E5, E6, E7, E8, E9, E10, E11, e12, e13, e14] = .ok .nx [E0, E1, .fz pg, .fz pl, E4, E5, E6, E7, E8, E9, E10, E11, .fz v, .fz (.int 1), .fz a3] := by
  have hl : sFor (aName 13) b13 [.int 0, .int 1] [E0, E1, .fz pg, .fz pl, E4, E5, E6, E7, E8, E9, E10, E11, .fz v, e13, e14] = .ok .nx [E0, E1, .fz pg, .fz pl, E4, E5, E6, E7, E8, E9, E10, E11, .fz v, .fz (.int 1), .fz a3] :=
    (for_step (h0 _ _)).trans ((for_step (h1 _ _)).trans rfl)
  have hr : rRange [.int 2] = some [.int 0, .int 1] := rfl
  unfold b12
  generalize b13 = gb at *
  simp only [r_bd, r_ok, r_er, r_stuck, r_rt, r_os, r_eV, r_eB, r_m2, r_m2B, r_m1, r_mB, r_mAnd, r_mOr, r_mNot, r_vAnd, r_vOr, r_vNot, r_mIf, r_sq, r_sqnx, r_sqret, r_sIf, r_sRet, r_sDrop, r_setE, r_setU, r_sSet, r_sSetF, r_aName, r_aNil, r_aCons, r_aTup, r_aLst, r_sAsg, r_mNil, r_mCons, r_mTup, r_mLst, r_mNs, r_mCall, r_lift, r_lifter, r_mMeth, r_mMeth0, r_mProp, r_okOf, r_vIsi, r_mCut, r_mDget, r_mDisp2, r_mBM, r_vCh, r_mCh, r_sPar, r_mFor, r_sFld, r_sRaise, r_m1l, r_mMake, r_liftF, r_both, r_mLc, r_mLc2, r_mSk, r_mSetL, r_toDfz, r_toDow, r_toDdc, r_asB, r_asI, r_iteA, r_itlst, r_ittup, r_it1, r_mLM, r_mCallI, r_isOwn, r_liftI, r_outS, List.getElem?_cons_zero, List.getElem?_cons_succ, List.nil_append, List.set_cons_zero, List.set_cons_succ, List.length_cons, List.length_nil, Nat.reduceAdd, Nat.reduceLT, Nat.reduceEqDiff, ↓reduceIte, if_true, Bool.not_true, Bool.not_false, and_self, Bool.false_eq_true, hr, hl]
abbrev b8 : M Fl := (sIf (mOr (mB (m2 DL.rNe (mCall m_law_refused (bd (mCons (eV 2) (mCons (eV 12) (mCons (rt (.int 0)) mNil))) fun ds => if ds.length = 3 then rt ds else stuck)) (bd (mLst (mCons (rt (.str ("None" : Str))) (mCons (rt (.bl true)) mNil))) fun x => opt (Ent.toD x)))) (mB (m2 DL.rNe (mCall m_law_refused (bd (mCons (eV 2) (mCons (eV 12) (mCons (rt (.int 1)) mNil))) fun ds => if ds.length = 3 then rt ds else stuck)) (bd (mLst (mCons (rt (.str ("None" : Str))) (mCons (rt (.bl true)) mNil))) fun x => opt (Ent.toD x))))) (sRet (rt (.bl false))) (rt .nx))
theorem step8 {r0 r1 : D} (h0 : m_law_refused [pg, v, .int 0] = .ok r0) (n0 : DL.rNe r0 (.lst [.str ("None" : Str), .bl true]) = some (.bl false)) (h1 : m_law_refused [pg, v, .int 1] = .ok r1) (n1 : DL.rNe r1 (.lst [.str ("None" : Str), .bl true]) = some (.bl false)) :
    (bd (aName 12 v) fun _ => b8) [E0, E1, .fz pg, .fz pl, E4, E5, E6, E7, E8, E9, E10, E11, e12, e13, e14] = .ok .nx [E0, E1, .fz pg, .fz pl, E4, E5, E6, E7, E8, E9, E10, E11, .fz v, e13, e14] := by
  unfold b8
  simp only [r_bd, r_ok, r_er, r_stuck, r_rt, r_os, r_eV, r_eB, r_m2, r_m2B, r_m1, r_mB, r_mAnd, r_mOr, r_mNot, r_vAnd, r_vOr, r_vNot, r_mIf, r_sq, r_sqnx, r_sqret, r_sIf, r_sRet, r_sDrop, r_setE, r_setU, r_sSet, r_sSetF, r_aName, r_aNil, r_aCons, r_aTup, r_aLst, r_sAsg, r_mNil, r_mCons, r_mTup, r_mLst, r_mNs, r_mCall, r_lift, r_lifter, r_mMeth, r_mMeth0, r_mProp, r_okOf, r_vIsi, r_mCut, r_mDget, r_mDisp2, r_mBM, r_vCh, r_mCh, r_sPar, r_mFor, r_sFld, r_sRaise, r_m1l, r_mMake, r_liftF, r_both, r_mLc, r_mLc2, r_mSk, r_mSetL, r_toDfz, r_toDow, r_toDdc, r_asB, r_asI, r_iteA, r_itlst, r_ittup, r_it1, r_mLM, r_mCallI, r_isOwn, r_liftI, r_outS, List.getElem?_cons_zero, List.getElem?_cons_succ, List.nil_append, List.set_cons_zero, List.set_cons_succ, List.length_cons, List.length_nil, Nat.reduceAdd, Nat.reduceLT, Nat.reduceEqDiff, ↓reduceIte, if_true, Bool.not_true, Bool.not_false, and_self, Bool.false_eq_true, h0, h1, r_short (l := [_, _]) (show 2 ≤ 1000 by decide), n0, n1]
end
theorem ne_same (r : Str) : DL.rNe (.lst [.str r, .bl true]) (.lst [.str r, .bl true]) = some (.bl false) := by
  refine rne_refl rfl ?_
  simp only [D.py, D.pyL, PyData.depth, PyData.depthAll]
  decide
section
variable {P : Pg} {W : List (List Nat)} {C : List Int} {E0 E1 E4 E5 E6 E7 E8 E9 E10 E11 e12 e13 e14 : Ent}
theorem odd_turn (h : P.Ok W C) {v : D} (hb : Bad P v) (hv : ∃ r, rRepr v = some (.str r)) : ∃ a3, ∀ e12 e13 e14,
    (bd (aName 12 v) fun _ => b12) [E0, E1, .fz (progO P), .fz (.lst ((plcs P).map plD)), E4, E5, E6, E7, E8, E9, E10, E11, e12, e13, e14] = .ok .nx [E0, E1, .fz (progO P), .fz (.lst ((plcs P).map plD)), E4, E5, E6, E7, E8, E9, E10, E11, .fz v, .fz (.int 1), .fz a3] := by
  obtain ⟨r, hr⟩ := hv
  have hl := plcs_len h
  have t1 : Told P (.lst [v]) v := look_lst (pre := []) (post := []) h (fun q hq => by cases hq) hb
  have t2 : Told P (.lst ((plcs P).map plD ++ [v])) v := look_lst (post := []) h (fun q hq => hq) hb
  have t3 : Told P (.tup ((plcs P).map plD ++ [v, .non])) v := look_tup (post := [.non]) h (fun q hq => hq) hb
  have e2 : DL.rAdd (.lst ((plcs P).map plD)) (.lst [v]) = some (.lst ((plcs P).map plD ++ [v])) := add_lst (by rw [List.length_map, List.length_singleton]; omega)
  have et : rToTup (.lst ((plcs P).map plD)) = some (.tup ((plcs P).map plD)) := rfl
  have e3 : DL.rAdd (.tup ((plcs P).map plD)) (.tup [v, .non]) = some (.tup ((plcs P).map plD ++ [v, .non])) := by
    show (if ((plcs P).map plD).length + [v, D.non].length ≤ sizeLine then some (D.tup ((plcs P).map plD ++ [v, .non])) else none) = _
    rw [if_pos (by rw [szl, List.length_map]; simp; omega)]
  refine ⟨_, fun e12 e13 e14 => step12 (a3 := .tup ((plcs P).map plD ++ [v, .non])) (fun e13 e14 => ?_) (fun e13 e14 => ?_)⟩
  · exact step13 hr (refused_ok t1 hr) (ne_same r) (refused_ok t2 hr) (ne_same r) (refused_ok t3 hr) (ne_same r) rfl e2 et e3
  · exact step13 hr (refused_ok t1 hr) (ne_same r) (refused_ok t2 hr) (ne_same r) (refused_ok t3 hr) (ne_same r) rfl e2 et e3
theorem odd_loop (h : P.Ok W C) : ∀ (V : List D), (∀ v ∈ V, Bad P v ∧ ∃ r, rRepr v = some (.str r)) → ∀ e12 e13 e14, ∃ a12 a13 a14,
    sFor (aName 12) b12 V [E0, E1, .fz (progO P), .fz (.lst ((plcs P).map plD)), E4, E5, E6, E7, E8, E9, E10, E11, e12, e13, e14] = .ok .nx [E0, E1, .fz (progO P), .fz (.lst ((plcs P).map plD)), E4, E5, E6, E7, E8, E9, E10, E11, a12, a13, a14]
  | [], _, e12, e13, e14 => ⟨e12, e13, e14, rfl⟩
  | v :: V, hV, e12, e13, e14 => by
    obtain ⟨hb, hr⟩ := hV v List.mem_cons_self
    obtain ⟨a3, ht⟩ := odd_turn (E0 := E0) (E1 := E1) (E4 := E4) (E5 := E5) (E6 := E6) (E7 := E7) (E8 := E8) (E9 := E9) (E10 := E10) (E11 := E11) h hb hr
    obtain ⟨a12, a13, a14, e⟩ := odd_loop h V (fun x hx => hV x (List.mem_cons_of_mem _ hx)) (.fz v) (.fz (.int 1)) (.fz a3)
    exact ⟨a12, a13, a14, (for_step (ht e12 e13 e14)).trans e⟩
theorem rr_non : rRepr .non = some (.str ("None" : Str)) := by
  unfold rRepr
  rw [if_pos (by decide +kernel)]
  have : D.non.py.shown = ("None" : Str) := by decide +kernel
  rw [this]
theorem none_turn {v : D} (hv : isi2 "list" "tuple" v = some false) (hb : eB 1 [.fz (progO P), .fz v, .no] = .ok v [.fz (progO P), .fz v, .no]) : ∀ e12 e13 e14,
    (bd (aName 12 v) fun _ => b8) [E0, E1, .fz (progO P), .fz (.lst ((plcs P).map plD)), E4, E5, E6, E7, E8, E9, E10, E11, e12, e13, e14] = .ok .nx [E0, E1, .fz (progO P), .fz (.lst ((plcs P).map plD)), E4, E5, E6, E7, E8, E9, E10, E11, .fz v, e13, e14] := by
  have t : Told P v .non := look_none hv hb
  intro e12 e13 e14
  exact step8 (refused_ok t rr_non) (ne_same _) (refused_ok t rr_non) (ne_same _)
end
end G
end
section
set_option Elab.async false
set_option linter.all false
set_option maxRecDepth 100000
set_option maxHeartbeats 4000000
namespace G
open PySem PySem.Spec PyProof.Rows L2 DL
section
variable {P : Pg} {W : List (List Nat)} {C : List Int} {E0 E1 E2 E3 E4 E5 e5 e6 e7 e8 e9 e10 e11 e12 e13 e14 : Ent} {d dm dl dn n nl wl pl ol : D} {l l' : List D}
theorem ls1 {sc : D} (h0 : m_law_pool [sc, .int 0] = .ok l) (h1 : m_law_plain l [.int 4, .int 2, .int 2] = .ok d l') :
    (sSetF 1 (mCallIE (mCallE m_law_pool 2 (mCons (eV 0) (mCons (rt (.int 0)) mNil))) m_law_plain 3 (mCons (rt (.int 4)) (mCons (rt (.int 2)) (mCons (rt (.int 2)) mNil))))) [.fz sc, .no, .no, .no, .no, .no, .no, .no, .no, .no, .no, .no, .no, .no, .no] = .ok .nx [.fz sc, .fz d, .no, .no, .no, .no, .no, .no, .no, .no, .no, .no, .no, .no, .no] := by
  have e0 : (mCallE m_law_pool 2 (mCons (eV 0) (mCons (rt (.int 0)) mNil))) [.fz sc, .no, .no, .no, .no, .no, .no, .no, .no, .no, .no, .no, .no, .no, .no] = .ok (.ow l) [.fz sc, .no, .no, .no, .no, .no, .no, .no, .no, .no, .no, .no, .no, .no, .no] := by
    simp only [r_bd, r_ok, r_er, r_stuck, r_rt, r_os, r_eV, r_eB, r_m2, r_m2B, r_m1, r_mB, r_mAnd, r_mOr, r_mNot, r_vAnd, r_vOr, r_vNot, r_mIf, r_sq, r_sqnx, r_sqret, r_sIf, r_sRet, r_sDrop, r_setE, r_setU, r_sSet, r_sSetF, r_aName, r_aNil, r_aCons, r_aTup, r_aLst, r_sAsg, r_mNil, r_mCons, r_mTup, r_mLst, r_mNs, r_mCall, r_lift, r_lifter, r_mMeth, r_mMeth0, r_mProp, r_okOf, r_vIsi, r_mCut, r_mDget, r_mDisp2, r_mBM, r_vCh, r_mCh, r_sPar, r_mFor, r_sFld, r_sRaise, r_m1l, r_mMake, r_liftF, r_both, r_mLc, r_mLc2, r_mSk, r_mSetL, r_toDfz, r_toDow, r_toDdc, r_asB, r_asI, r_iteA, r_itlst, r_ittup, r_it1, r_mLM, r_mCallI, r_isOwn, r_liftI, r_outS, List.getElem?_cons_zero, List.getElem?_cons_succ, List.nil_append, List.set_cons_zero, List.set_cons_succ, List.length_cons, List.length_nil, Nat.reduceAdd, Nat.reduceLT, Nat.reduceEqDiff, ↓reduceIte, if_true, Bool.not_true, Bool.not_false, and_self, Bool.false_eq_true, r_mCallE, h0]
  have e1 := callIE_ok (m := m_law_plain) (n := 3) (gs := (mCons (rt (.int 4)) (mCons (rt (.int 2)) (mCons (rt (.int 2)) mNil)))) (es := [.int 4, .int 2, .int 2]) e0 (ρ2 := [.fz sc, .no, .no, .no, .no, .no, .no, .no, .no, .no, .no, .no, .no, .no, .no]) rfl rfl h1
  exact (run_bd e1).trans rfl
theorem ls2 {sc : D} (h0 : m_law_made [d] = .ok dm) (h1 : m_law_places [d] = .ok pl) :
    (sAsg (aTup 2 (aCons (aName 2) (aCons (aName 3) aNil))) (mTup (mCons (mCall m_law_made (bd (mCons (eV 1) mNil) fun ds => if ds.length = 1 then rt ds else stuck)) (mCons (mCall m_law_places (bd (mCons (eV 1) mNil) fun ds => if ds.length = 1 then rt ds else stuck)) mNil)))) [.fz sc, .fz d, .no, .no, .no, .no, .no, .no, .no, .no, .no, .no, .no, .no, .no] = .ok .nx [.fz sc, .fz d, .fz dm, .fz pl, .no, .no, .no, .no, .no, .no, .no, .no, .no, .no, .no] := by
  simp only [r_bd, r_ok, r_er, r_stuck, r_rt, r_os, r_eV, r_eB, r_m2, r_m2B, r_m1, r_mB, r_mAnd, r_mOr, r_mNot, r_vAnd, r_vOr, r_vNot, r_mIf, r_sq, r_sqnx, r_sqret, r_sIf, r_sRet, r_sDrop, r_setE, r_setU, r_sSet, r_sSetF, r_aName, r_aNil, r_aCons, r_aTup, r_aLst, r_sAsg, r_mNil, r_mCons, r_mTup, r_mLst, r_mNs, r_mCall, r_lift, r_lifter, r_mMeth, r_mMeth0, r_mProp, r_okOf, r_vIsi, r_mCut, r_mDget, r_mDisp2, r_mBM, r_vCh, r_mCh, r_sPar, r_mFor, r_sFld, r_sRaise, r_m1l, r_mMake, r_liftF, r_both, r_mLc, r_mLc2, r_mSk, r_mSetL, r_toDfz, r_toDow, r_toDdc, r_asB, r_asI, r_iteA, r_itlst, r_ittup, r_it1, r_mLM, r_mCallI, r_isOwn, r_liftI, r_outS, List.getElem?_cons_zero, List.getElem?_cons_succ, List.nil_append, List.set_cons_zero, List.set_cons_succ, List.length_cons, List.length_nil, Nat.reduceAdd, Nat.reduceLT, Nat.reduceEqDiff, ↓reduceIte, if_true, Bool.not_true, Bool.not_false, and_self, Bool.false_eq_true, h0, h1, r_short (l := [_, _]) (show 2 ≤ 1000 by decide)]
theorem ls3 {sc : D} (h0 : m_law_names [d] = .ok nl) (h1 : DL.rIx nl (.int 0) = some n) :
    (sPar 4 5 (bd (m2 DL.rIx (mCall m_law_names (bd (mCons (eV 1) mNil) fun ds => if ds.length = 1 then rt ds else stuck)) (rt (.int 0))) fun d => rt (Ent.fz d)) (mLst mNil)) [.fz sc, .fz d, .fz dm, .fz pl, .no, .no, .no, .no, .no, .no, .no, .no, .no, .no, .no] = .ok .nx [.fz sc, .fz d, .fz dm, .fz pl, .fz n, .ow [], .no, .no, .no, .no, .no, .no, .no, .no, .no] := by
  simp only [r_bd, r_ok, r_er, r_stuck, r_rt, r_os, r_eV, r_eB, r_m2, r_m2B, r_m1, r_mB, r_mAnd, r_mOr, r_mNot, r_vAnd, r_vOr, r_vNot, r_mIf, r_sq, r_sqnx, r_sqret, r_sIf, r_sRet, r_sDrop, r_setE, r_setU, r_sSet, r_sSetF, r_aName, r_aNil, r_aCons, r_aTup, r_aLst, r_sAsg, r_mNil, r_mCons, r_mTup, r_mLst, r_mNs, r_mCall, r_lift, r_lifter, r_mMeth, r_mMeth0, r_mProp, r_okOf, r_vIsi, r_mCut, r_mDget, r_mDisp2, r_mBM, r_vCh, r_mCh, r_sPar, r_mFor, r_sFld, r_sRaise, r_m1l, r_mMake, r_liftF, r_both, r_mLc, r_mLc2, r_mSk, r_mSetL, r_toDfz, r_toDow, r_toDdc, r_asB, r_asI, r_iteA, r_itlst, r_ittup, r_it1, r_mLM, r_mCallI, r_isOwn, r_liftI, r_outS, List.getElem?_cons_zero, List.getElem?_cons_succ, List.nil_append, List.set_cons_zero, List.set_cons_succ, List.length_cons, List.length_nil, Nat.reduceAdd, Nat.reduceLT, Nat.reduceEqDiff, ↓reduceIte, if_true, Bool.not_true, Bool.not_false, and_self, Bool.false_eq_true, h0, h1, r_short (l := []) (show 0 ≤ 1000 by decide)]
theorem ls4 {sc x : D} {L : List D} (h0 : rDget d (.str ("processes" : Str)) = some x) (hx : itemsA x = some L) {ρ' : DL.Env}
    (hf : sFor wtg wbod L [.fz sc, .fz d, .fz dm, .fz pl, .fz n, .ow [], .no, .no, .no, .no, .no, .no, .no, .no, .no] = .ok .nx ρ') :
    (mFor (bd (mDget (eV 1) (rt (.str ("processes" : Str)))) fun d => opt (itemsA d)) wtg wbod) [.fz sc, .fz d, .fz dm, .fz pl, .fz n, .ow [], .no, .no, .no, .no, .no, .no, .no, .no, .no] = .ok .nx ρ' := by
  generalize wtg = gt at *
  generalize wbod = gb at *
  simp only [r_bd, r_ok, r_er, r_stuck, r_rt, r_os, r_eV, r_eB, r_m2, r_m2B, r_m1, r_mB, r_mAnd, r_mOr, r_mNot, r_vAnd, r_vOr, r_vNot, r_mIf, r_sq, r_sqnx, r_sqret, r_sIf, r_sRet, r_sDrop, r_setE, r_setU, r_sSet, r_sSetF, r_aName, r_aNil, r_aCons, r_aTup, r_aLst, r_sAsg, r_mNil, r_mCons, r_mTup, r_mLst, r_mNs, r_mCall, r_lift, r_lifter, r_mMeth, r_mMeth0, r_mProp, r_okOf, r_vIsi, r_mCut, r_mDget, r_mDisp2, r_mBM, r_vCh, r_mCh, r_sPar, r_mFor, r_sFld, r_sRaise, r_m1l, r_mMake, r_liftF, r_both, r_mLc, r_mLc2, r_mSk, r_mSetL, r_toDfz, r_toDow, r_toDdc, r_asB, r_asI, r_iteA, r_itlst, r_ittup, r_it1, r_mLM, r_mCallI, r_isOwn, r_liftI, r_outS, List.getElem?_cons_zero, List.getElem?_cons_succ, List.nil_append, List.set_cons_zero, List.set_cons_succ, List.length_cons, List.length_nil, Nat.reduceAdd, Nat.reduceLT, Nat.reduceEqDiff, ↓reduceIte, if_true, Bool.not_true, Bool.not_false, and_self, Bool.false_eq_true, h0, hx, hf]
theorem ls5 {sc w : D} : (sSet 10 (mLst (mCons (rt .non) (mCons (rt (.int 5)) (mCons (eV 4) (mCons (mTup (mCons (eV 4) mNil)) (mCons (bd (mLst (mCons (eV 4) (mCons (rt (.int 0)) mNil))) fun x => opt (Ent.toD x)) (mCons (mTup (mCons (eV 4) (mCons (rt (.int 0)) (mCons (rt (.int 0)) mNil)))) (mCons (mTup (mCons (eV 4) (mCons (rt (.int (-1))) mNil))) (mCons (mTup (mCons (eV 4) (mCons (rt (.int 9)) mNil))) (mCons (mTup (mCons (eV 4) (mCons (rt .non) mNil))) (mCons (mTup (mCons (eV 4) (mCons (rt (.bl true)) mNil))) mNil)))))))))))) [.fz sc, .fz d, .fz dm, .fz pl, .fz n, .fz w, e6, e7, e8, .no, .no, .no, .no, .no, .no] = .ok .nx [.fz sc, .fz d, .fz dm, .fz pl, .fz n, .fz w, e6, e7, e8, .no, .ow (oddA n), .no, .no, .no, .no] := by
  simp only [r_bd, r_ok, r_er, r_stuck, r_rt, r_os, r_eV, r_eB, r_m2, r_m2B, r_m1, r_mB, r_mAnd, r_mOr, r_mNot, r_vAnd, r_vOr, r_vNot, r_mIf, r_sq, r_sqnx, r_sqret, r_sIf, r_sRet, r_sDrop, r_setE, r_setU, r_sSet, r_sSetF, r_aName, r_aNil, r_aCons, r_aTup, r_aLst, r_sAsg, r_mNil, r_mCons, r_mTup, r_mLst, r_mNs, r_mCall, r_lift, r_lifter, r_mMeth, r_mMeth0, r_mProp, r_okOf, r_vIsi, r_mCut, r_mDget, r_mDisp2, r_mBM, r_vCh, r_mCh, r_sPar, r_mFor, r_sFld, r_sRaise, r_m1l, r_mMake, r_liftF, r_both, r_mLc, r_mLc2, r_mSk, r_mSetL, r_toDfz, r_toDow, r_toDdc, r_asB, r_asI, r_iteA, r_itlst, r_ittup, r_it1, r_mLM, r_mCallI, r_isOwn, r_liftI, r_outS, List.getElem?_cons_zero, List.getElem?_cons_succ, List.nil_append, List.set_cons_zero, List.set_cons_succ, List.length_cons, List.length_nil, Nat.reduceAdd, Nat.reduceLT, Nat.reduceEqDiff, ↓reduceIte, if_true, Bool.not_true, Bool.not_false, and_self, Bool.false_eq_true, r_short (l := [_]) (show 1 ≤ 1000 by decide), r_short (l := [_, _]) (show 2 ≤ 1000 by decide), r_short (l := [_, _, _]) (show 3 ≤ 1000 by decide), r_short (l := [_, _, _, _, _, _, _, _, _, _]) (show 10 ≤ 1000 by decide)]
  rfl
theorem ls6 {sc w : D} {L R : List D} (hi : itemsA w = some L) (hs : ∀ e10, sole (loopL [11] (aName 11) (mB (m2B DL.rNotIn 11 (eB 3))) (eV 11) L []) [.fz sc, .fz d, .fz dm, .fz pl, .fz n, .fz w, e6, e7, e8, .no, e10, .no, .no, .no, .no] = .ok R [.fz sc, .fz d, .fz dm, .fz pl, .fz n, .fz w, e6, e7, e8, .no, e10, .no, .no, .no, .no])
    (h1 : DL.rAdd (.lst (oddA n)) (.lst (oddB n)) = some (.lst (oddA n ++ oddB n))) (h2 : DL.rAdd (.lst (oddA n ++ oddB n)) (.lst R) = some (.lst (oddA n ++ oddB n ++ R))) :
    (sSetF 10 (m2 DL.rAdd (m2B DL.rAdd 10 (bd (mLst (mCons (mTup (mCons (rt (.str ("nobody" : Str))) (mCons (rt (.int 0)) mNil))) (mCons (mTup (mCons (rt .non) (mCons (rt (.int 0)) mNil))) (mCons (mTup (mCons (rt (.int 0)) (mCons (eV 4) mNil))) (mCons (mTup (mCons (mTup (mCons (eV 4) mNil)) (mCons (rt (.int 0)) mNil))) mNil))))) fun x => opt (Ent.toD x))) (bd (mLc (bd (eV 5) fun d => opt (itemsA d)) [11] (aName 11) (mB (m2B DL.rNotIn 11 (eB 3))) (eV 11)) fun x => opt (Ent.toD x)))) [.fz sc, .fz d, .fz dm, .fz pl, .fz n, .fz w, e6, e7, e8, .no, .ow (oddA n), .no, .no, .no, .no] = .ok .nx [.fz sc, .fz d, .fz dm, .fz pl, .fz n, .fz w, e6, e7, e8, .no, .fz (.lst (oddA n ++ oddB n ++ R)), .no, .no, .no, .no] := by
  have hb : ([.tup [.str ("nobody" : Str), .int 0], .tup [.non, .int 0], .tup [.int 0, n], .tup [.tup [n], .int 0]] : List D) = oddB n := rfl
  have hsh : short (oddB n) = some (oddB n) := rfl
  generalize oddA n = A at *
  simp only [r_bd, r_ok, r_er, r_stuck, r_rt, r_os, r_eV, r_eB, r_m2, r_m2B, r_m1, r_mB, r_mAnd, r_mOr, r_mNot, r_vAnd, r_vOr, r_vNot, r_mIf, r_sq, r_sqnx, r_sqret, r_sIf, r_sRet, r_sDrop, r_setE, r_setU, r_sSet, r_sSetF, r_aName, r_aNil, r_aCons, r_aTup, r_aLst, r_sAsg, r_mNil, r_mCons, r_mTup, r_mLst, r_mNs, r_mCall, r_lift, r_lifter, r_mMeth, r_mMeth0, r_mProp, r_okOf, r_vIsi, r_mCut, r_mDget, r_mDisp2, r_mBM, r_vCh, r_mCh, r_sPar, r_mFor, r_sFld, r_sRaise, r_m1l, r_mMake, r_liftF, r_both, r_mLc, r_mLc2, r_mSk, r_mSetL, r_toDfz, r_toDow, r_toDdc, r_asB, r_asI, r_iteA, r_itlst, r_ittup, r_it1, r_mLM, r_mCallI, r_isOwn, r_liftI, r_outS, List.getElem?_cons_zero, List.getElem?_cons_succ, List.nil_append, List.set_cons_zero, List.set_cons_succ, List.length_cons, List.length_nil, Nat.reduceAdd, Nat.reduceLT, Nat.reduceEqDiff, ↓reduceIte, if_true, Bool.not_true, Bool.not_false, and_self, Bool.false_eq_true, r_short (l := [_]) (show 1 ≤ 1000 by decide), r_short (l := [_, _]) (show 2 ≤ 1000 by decide), r_short (l := [_, _, _, _]) (show 4 ≤ 1000 by decide), hb, hsh, h1, hi, hs, h2]
theorem ls7 {sc w : D} {V : List D} {ρ' : DL.Env} (hf : sFor (aName 12) b12 V [.fz sc, .fz d, .fz dm, .fz pl, .fz n, .fz w, e6, e7, e8, .no, .fz (.lst V), .no, .no, .no, .no] = .ok .nx ρ') :
    (mFor (bd (eV 10) fun d => opt (itemsA d)) (aName 12) b12) [.fz sc, .fz d, .fz dm, .fz pl, .fz n, .fz w, e6, e7, e8, .no, .fz (.lst V), .no, .no, .no, .no] = .ok .nx ρ' := by
  generalize b12 = gb at *
  simp only [r_bd, r_ok, r_er, r_stuck, r_rt, r_os, r_eV, r_eB, r_m2, r_m2B, r_m1, r_mB, r_mAnd, r_mOr, r_mNot, r_vAnd, r_vOr, r_vNot, r_mIf, r_sq, r_sqnx, r_sqret, r_sIf, r_sRet, r_sDrop, r_setE, r_setU, r_sSet, r_sSetF, r_aName, r_aNil, r_aCons, r_aTup, r_aLst, r_sAsg, r_mNil, r_mCons, r_mTup, r_mLst, r_mNs, r_mCall, r_lift, r_lifter, r_mMeth, r_mMeth0, r_mProp, r_okOf, r_vIsi, r_mCut, r_mDget, r_mDisp2, r_mBM, r_vCh, r_mCh, r_sPar, r_mFor, r_sFld, r_sRaise, r_m1l, r_mMake, r_liftF, r_both, r_mLc, r_mLc2, r_mSk, r_mSetL, r_toDfz, r_toDow, r_toDdc, r_asB, r_asI, r_iteA, r_itlst, r_ittup, r_it1, r_mLM, r_mCallI, r_isOwn, r_liftI, r_outS, List.getElem?_cons_zero, List.getElem?_cons_succ, List.nil_append, List.set_cons_zero, List.set_cons_succ, List.length_cons, List.length_nil, Nat.reduceAdd, Nat.reduceLT, Nat.reduceEqDiff, ↓reduceIte, if_true, Bool.not_true, Bool.not_false, and_self, Bool.false_eq_true, hf]
theorem ls8 {sc w o : D} {ρ' : DL.Env} (hf : sFor (aName 12) b8 [.non, .int 5, n, .dic [], .bl true] [.fz sc, .fz d, .fz dm, .fz pl, .fz n, .fz w, e6, e7, e8, .no, .fz o, .no, e12, e13, e14] = .ok .nx ρ') :
    (mFor (bd (bd (mLst (mCons (rt .non) (mCons (rt (.int 5)) (mCons (eV 4) (mCons (bd (rt (Ent.dc [])) fun x => opt (Ent.toD x)) (mCons (rt (.bl true)) mNil)))))) fun x => opt (Ent.toD x)) fun d => opt (itemsA d)) (aName 12) b8) [.fz sc, .fz d, .fz dm, .fz pl, .fz n, .fz w, e6, e7, e8, .no, .fz o, .no, e12, e13, e14] = .ok .nx ρ' := by
  generalize b8 = gb at *
  simp only [r_bd, r_ok, r_er, r_stuck, r_rt, r_os, r_eV, r_eB, r_m2, r_m2B, r_m1, r_mB, r_mAnd, r_mOr, r_mNot, r_vAnd, r_vOr, r_vNot, r_mIf, r_sq, r_sqnx, r_sqret, r_sIf, r_sRet, r_sDrop, r_setE, r_setU, r_sSet, r_sSetF, r_aName, r_aNil, r_aCons, r_aTup, r_aLst, r_sAsg, r_mNil, r_mCons, r_mTup, r_mLst, r_mNs, r_mCall, r_lift, r_lifter, r_mMeth, r_mMeth0, r_mProp, r_okOf, r_vIsi, r_mCut, r_mDget, r_mDisp2, r_mBM, r_vCh, r_mCh, r_sPar, r_mFor, r_sFld, r_sRaise, r_m1l, r_mMake, r_liftF, r_both, r_mLc, r_mLc2, r_mSk, r_mSetL, r_toDfz, r_toDow, r_toDdc, r_asB, r_asI, r_iteA, r_itlst, r_ittup, r_it1, r_mLM, r_mCallI, r_isOwn, r_liftI, r_outS, List.getElem?_cons_zero, List.getElem?_cons_succ, List.nil_append, List.set_cons_zero, List.set_cons_succ, List.length_cons, List.length_nil, Nat.reduceAdd, Nat.reduceLT, Nat.reduceEqDiff, ↓reduceIte, if_true, Bool.not_true, Bool.not_false, and_self, Bool.false_eq_true, r_short (l := [_, _, _, _, _]) (show 5 ≤ 1000 by decide), hf]
theorem ls9 {sc w o : D} (h0 : m_law_made [d] = .ok dn) (h1 : rEqO 3 m_Program_eq dm dn = some (.bl true)) (hr : recv 3 ("places" : Str) dm = some dm) (h2 : m_Program_places [dm] = .ok dl) (h3 : DL.rEq dl pl = some (.bl true)) :
    (sRet (vAnd (m2B (rEqO 3 m_Program_eq) 2 (mCall m_law_made (bd (mCons (eV 1) mNil) fun ds => if ds.length = 1 then rt ds else stuck))) (m2 DL.rEq (mMeth0 3 ("places" : Str) m_Program_places (eV 2)) (eB 3)))) [.fz sc, .fz d, .fz dm, .fz pl, .fz n, .fz w, e6, e7, e8, .no, .fz o, .no, e12, e13, e14] = .ok (.ret (.bl true)) [.fz sc, .fz d, .fz dm, .fz pl, .fz n, .fz w, e6, e7, e8, .no, .fz o, .no, e12, e13, e14] := by
  simp only [r_bd, r_ok, r_er, r_stuck, r_rt, r_os, r_eV, r_eB, r_m2, r_m2B, r_m1, r_mB, r_mAnd, r_mOr, r_mNot, r_vAnd, r_vOr, r_vNot, r_mIf, r_sq, r_sqnx, r_sqret, r_sIf, r_sRet, r_sDrop, r_setE, r_setU, r_sSet, r_sSetF, r_aName, r_aNil, r_aCons, r_aTup, r_aLst, r_sAsg, r_mNil, r_mCons, r_mTup, r_mLst, r_mNs, r_mCall, r_lift, r_lifter, r_mMeth, r_mMeth0, r_mProp, r_okOf, r_vIsi, r_mCut, r_mDget, r_mDisp2, r_mBM, r_vCh, r_mCh, r_sPar, r_mFor, r_sFld, r_sRaise, r_m1l, r_mMake, r_liftF, r_both, r_mLc, r_mLc2, r_mSk, r_mSetL, r_toDfz, r_toDow, r_toDdc, r_asB, r_asI, r_iteA, r_itlst, r_ittup, r_it1, r_mLM, r_mCallI, r_isOwn, r_liftI, r_outS, List.getElem?_cons_zero, List.getElem?_cons_succ, List.nil_append, List.set_cons_zero, List.set_cons_succ, List.length_cons, List.length_nil, Nat.reduceAdd, Nat.reduceLT, Nat.reduceEqDiff, ↓reduceIte, if_true, Bool.not_true, Bool.not_false, and_self, Bool.false_eq_true, h0, h1, hr, h2, h3]
end
theorem ix0 (x : D) (r : List D) : DL.rIx (.lst (x :: r)) (.int 0) = some x := by
  show atI (x :: r) 0 = some x
  unfold atI ixN
  rw [if_pos (by decide), if_pos (by rw [List.length_cons]; omega)]
  rfl
theorem pl_plain (l : List Pc) : (D.lst (l.map plD)).plain = true := by simp only [D.plain]; exact plainL_pl l
theorem pl_depth0 : ∀ l : List Pc, PyData.depthAll (D.pyL (l.map plD)) ≤ 1
  | [] => by simp [D.pyL, PyData.depthAll]
  | x :: r => by
    have := pl_depth0 r
    simp only [List.map_cons, plD, D.pyL, D.py, PyData.depthAll, PyData.depth]
    omega
theorem pl_depth (l : List Pc) : (D.lst (l.map plD)).py.depth ≤ 60 := by
  have := pl_depth0 l
  simp only [D.py, PyData.depth]
  omega
theorem law_ok (ns : List Int) : m_law [.scr ns] = .ok (.bl true) := by
  obtain ⟨l, h0, hp⟩ := pool_ok ns
  obtain ⟨P, W, C, l', h1, _, hP, hf5, hb2, _⟩ := plain_ok hp (many := 4) (bound := 2) (deep := 2) (by decide) (by decide) (by decide) (by decide) (by decide) (by decide)
  have hp5 := hP.p5
  have hm := made_ok hP
  have hpl := law_places hP
  have hnm := names_ok P (by omega)
  obtain ⟨p0, ps, hps⟩ : ∃ p0 ps, P.ps = p0 :: ps := by
    cases h : P.ps with
    | nil => have := hP.p1; rw [h] at this; simp at this
    | cons a b => exact ⟨a, b, rfl⟩
  have hn0 : DL.rIx (.lst (P.ps.map fun p => sD p.n)) (.int 0) = some (sD p0.n) := by
    rw [hps, List.map_cons]
    exact ix0 _ _
  have hn5 : p0.n ∈ five := hf5 p0 (by rw [hps]; simp)
  obtain ⟨e5, e6, e7, e8, hw, h5⟩ := whole_loop (E0 := .fz (.scr ns)) (E1 := .fz (plainD P)) (E2 := .fz (progO P)) (E3 := .fz (.lst ((plcs P).map plD))) (E4 := .fz (sD p0.n)) (e10 := .no) (e11 := .no) (e12 := .no) (e13 := .no) (e14 := .no) hP
  rw [h5] at hw
  have hwl : (wholeP P).length ≤ 5 * 4 := by
    have := flat_len (f := fun p : Pr => (List.range p.ds.length).map fun (i : Nat) => (p.n, (i : Int))) (k := 4) P.ps fun p hp => by
      rw [List.length_map, List.length_range]
      exact (hP.p p hp).ok.d4
    unfold wholeP
    omega
  have hll : (lost P).length ≤ 5 * 4 := Nat.le_trans (List.length_filter_le _ _) hwl
  have hloop := fun e10 => loop_fm (vs := [11]) (ga := aName 11) (tt := (mB (m2B DL.rNotIn 11 (eB 3)))) (ge := eV 11) (ρ := [.fz (.scr ns), .fz (plainD P), .fz (progO P), .fz (.lst ((plcs P).map plD)), .fz (sD p0.n), .fz (.lst ((wholeP P).map plD)), e6, e7, e8, .no, e10, .no, .no, .no, .no]) (f := plD) (g := fun q => if q ∈ plcs P then none else some (plD q)) (wholeP P) [] (fun q hq => by
    by_cases hq2 : q ∈ plcs P
    · rw [if_pos hq2]
      refine turn_none rfl (ρ1 := [.fz (.scr ns), .fz (plainD P), .fz (progO P), .fz (.lst ((plcs P).map plD)), .fz (sD p0.n), .fz (.lst ((wholeP P).map plD)), e6, e7, e8, .no, e10, .fz (plD q), .no, .no, .no]) rfl (ρ2 := [.fz (.scr ns), .fz (plainD P), .fz (progO P), .fz (.lst ((plcs P).map plD)), .fz (sD p0.n), .fz (.lst ((wholeP P).map plD)), e6, e7, e8, .no, e10, .fz (plD q), .no, .no, .no]) ?_ ⟨rfl, rfl⟩ rfl
      simp only [r_bd, r_ok, r_er, r_stuck, r_rt, r_os, r_eV, r_eB, r_m2, r_m2B, r_m1, r_mB, r_mAnd, r_mOr, r_mNot, r_vAnd, r_vOr, r_vNot, r_mIf, r_sq, r_sqnx, r_sqret, r_sIf, r_sRet, r_sDrop, r_setE, r_setU, r_sSet, r_sSetF, r_aName, r_aNil, r_aCons, r_aTup, r_aLst, r_sAsg, r_mNil, r_mCons, r_mTup, r_mLst, r_mNs, r_mCall, r_lift, r_lifter, r_mMeth, r_mMeth0, r_mProp, r_okOf, r_vIsi, r_mCut, r_mDget, r_mDisp2, r_mBM, r_vCh, r_mCh, r_sPar, r_mFor, r_sFld, r_sRaise, r_m1l, r_mMake, r_liftF, r_both, r_mLc, r_mLc2, r_mSk, r_mSetL, r_toDfz, r_toDow, r_toDdc, r_asB, r_asI, r_iteA, r_itlst, r_ittup, r_it1, r_mLM, r_mCallI, r_isOwn, r_liftI, r_outS, List.getElem?_cons_zero, List.getElem?_cons_succ, List.nil_append, List.set_cons_zero, List.set_cons_succ, List.length_cons, List.length_nil, Nat.reduceAdd, Nat.reduceLT, Nat.reduceEqDiff, ↓reduceIte, if_true, Bool.not_true, Bool.not_false, and_self, Bool.false_eq_true, rnin_pl, hq2, decide_true]
    · rw [if_neg hq2]
      refine turn_some rfl (ρ1 := [.fz (.scr ns), .fz (plainD P), .fz (progO P), .fz (.lst ((plcs P).map plD)), .fz (sD p0.n), .fz (.lst ((wholeP P).map plD)), e6, e7, e8, .no, e10, .fz (plD q), .no, .no, .no]) rfl (ρ2 := [.fz (.scr ns), .fz (plainD P), .fz (progO P), .fz (.lst ((plcs P).map plD)), .fz (sD p0.n), .fz (.lst ((wholeP P).map plD)), e6, e7, e8, .no, e10, .fz (plD q), .no, .no, .no]) ?_ (ρ3 := [.fz (.scr ns), .fz (plainD P), .fz (progO P), .fz (.lst ((plcs P).map plD)), .fz (sD p0.n), .fz (.lst ((wholeP P).map plD)), e6, e7, e8, .no, e10, .fz (plD q), .no, .no, .no]) rfl ⟨rfl, rfl⟩ rfl
      simp only [r_bd, r_ok, r_er, r_stuck, r_rt, r_os, r_eV, r_eB, r_m2, r_m2B, r_m1, r_mB, r_mAnd, r_mOr, r_mNot, r_vAnd, r_vOr, r_vNot, r_mIf, r_sq, r_sqnx, r_sqret, r_sIf, r_sRet, r_sDrop, r_setE, r_setU, r_sSet, r_sSetF, r_aName, r_aNil, r_aCons, r_aTup, r_aLst, r_sAsg, r_mNil, r_mCons, r_mTup, r_mLst, r_mNs, r_mCall, r_lift, r_lifter, r_mMeth, r_mMeth0, r_mProp, r_okOf, r_vIsi, r_mCut, r_mDget, r_mDisp2, r_mBM, r_vCh, r_mCh, r_sPar, r_mFor, r_sFld, r_sRaise, r_m1l, r_mMake, r_liftF, r_both, r_mLc, r_mLc2, r_mSk, r_mSetL, r_toDfz, r_toDow, r_toDdc, r_asB, r_asI, r_iteA, r_itlst, r_ittup, r_it1, r_mLM, r_mCallI, r_isOwn, r_liftI, r_outS, List.getElem?_cons_zero, List.getElem?_cons_succ, List.nil_append, List.set_cons_zero, List.set_cons_succ, List.length_cons, List.length_nil, Nat.reduceAdd, Nat.reduceLT, Nat.reduceEqDiff, ↓reduceIte, if_true, Bool.not_true, Bool.not_false, and_self, Bool.false_eq_true, rnin_pl, hq2, decide_false]) (by rw [szl]; simp; omega)
  have ef : ((wholeP P).filterMap fun q => if q ∈ plcs P then none else some (plD q)) = (lost P).map plD := by
    unfold lost
    generalize wholeP P = X
    induction X with
    | nil => rfl
    | cons x r ih =>
      rw [List.filterMap_cons, List.filter_cons, ih]
      by_cases hx : x ∈ plcs P
      · simp [hx]
      · simp [hx]
  rw [ef] at hloop
  have hs := fun e10 => r_sole (hloop e10)
  have hV : ∀ v ∈ oddA (sD p0.n) ++ oddB (sD p0.n) ++ (lost P).map plD, Bad P v ∧ ∃ r, rRepr v = some (.str r) := fun v hv => odd_bad hP hf5 hn5 hv
  obtain ⟨a12, a13, a14, ho⟩ := odd_loop (E0 := .fz (.scr ns)) (E1 := .fz (plainD P)) (E4 := .fz (sD p0.n)) (E5 := .fz (.lst ((wholeP P).map plD))) (E6 := e6) (E7 := e7) (E8 := e8) (E9 := .no) (E10 := .fz (.lst (oddA (sD p0.n) ++ oddB (sD p0.n) ++ (lost P).map plD))) (E11 := .no) hP _ hV .no .no .no
  have hn := fun v hv hb => none_turn (P := P) (v := v) (E0 := .fz (.scr ns)) (E1 := .fz (plainD P)) (E4 := .fz (sD p0.n)) (E5 := .fz (.lst ((wholeP P).map plD))) (E6 := e6) (E7 := e7) (E8 := e8) (E9 := .no) (E10 := .fz (.lst (oddA (sD p0.n) ++ oddB (sD p0.n) ++ (lost P).map plD))) (E11 := .no) hv hb
  have h8 : sFor (aName 12) b8 [.non, .int 5, sD p0.n, .dic [], .bl true] [.fz (.scr ns), .fz (plainD P), .fz (progO P), .fz (.lst ((plcs P).map plD)), .fz (sD p0.n), .fz (.lst ((wholeP P).map plD)), e6, e7, e8, .no, .fz (.lst (oddA (sD p0.n) ++ oddB (sD p0.n) ++ (lost P).map plD)), .no, a12, a13, a14] = .ok .nx [.fz (.scr ns), .fz (plainD P), .fz (progO P), .fz (.lst ((plcs P).map plD)), .fz (sD p0.n), .fz (.lst ((wholeP P).map plD)), e6, e7, e8, .no, .fz (.lst (oddA (sD p0.n) ++ oddB (sD p0.n) ++ (lost P).map plD)), .no, .fz (.bl true), a13, a14] :=
    (for_step (hn .non rfl rfl a12 a13 a14)).trans ((for_step (hn (.int 5) rfl rfl _ a13 a14)).trans ((for_step (hn (sD p0.n) rfl rfl _ a13 a14)).trans ((for_step (hn (.dic []) rfl rfl _ a13 a14)).trans ((for_step (hn (.bl true) rfl rfl _ a13 a14)).trans rfl))))
  have a1 : DL.rAdd (.lst (oddA (sD p0.n))) (.lst (oddB (sD p0.n))) = some (.lst (oddA (sD p0.n) ++ oddB (sD p0.n))) := add_lst (show 10 + 4 ≤ 10000 by decide)
  have a2 : DL.rAdd (.lst (oddA (sD p0.n) ++ oddB (sD p0.n))) (.lst ((lost P).map plD)) = some (.lst (oddA (sD p0.n) ++ oddB (sD p0.n) ++ (lost P).map plD)) := add_lst (by
    rw [List.length_map]
    have : (oddA (sD p0.n) ++ oddB (sD p0.n)).length = 14 := rfl
    omega)
  have e : g_law [.fz (.scr ns), .no, .no, .no, .no, .no, .no, .no, .no, .no, .no, .no, .no, .no, .no] = .ok (.ret (.bl true)) [.fz (.scr ns), .fz (plainD P), .fz (progO P), .fz (.lst ((plcs P).map plD)), .fz (sD p0.n), .fz (.lst ((wholeP P).map plD)), e6, e7, e8, .no, .fz (.lst (oddA (sD p0.n) ++ oddB (sD p0.n) ++ (lost P).map plD)), .no, .fz (.bl true), a13, a14] := by
    unfold g_law
    exact (run_sq (ls1 h0 h1)).trans ((run_sq (ls2 hm hpl)).trans ((run_sq (ls3 hnm hn0)).trans ((run_sq (ls4 (get_processes _ _) rfl hw)).trans ((run_sq ls5).trans ((run_sq (ls6 (r_itlst _) hs a1 a2)).trans ((run_sq (ls7 ho)).trans ((run_sq (ls8 h8)).trans (ls9 hm (req_prog hP) (rc3_places P) (prog_places hP) (req_refl (pl_plain _) (pl_depth _))))))))))
  show toOut (g_law [.fz (.scr ns), .no, .no, .no, .no, .no, .no, .no, .no, .no, .no, .no, .no, .no, .no]) = _
  rw [e]; rfl
end G
end
section
set_option Elab.async false
set_option linter.all false
set_option maxRecDepth 100000
set_option maxHeartbeats 4000000
namespace G
open PySem PySem.Spec PyProof.Rows L2 DL
theorem kbn_of0 {K : PySem.W.Frag} {x qual : Str} {params : Arguments} {body : List Stmt} {scope : Scope} {kws : List (Str × V)} {f : Addr} {fd : FuncData} {ps ks : List Str} {n : Nat} (F : FunD K x qual params body scope [] kws f fd)
    (h : ∀ (kV doc pm : Value) (an : Option Addr) (cdv ct : Value) (us ws : List Value), us.length = n → ws.length = ks.length → bindArgs (PySem.W.fnOf x qual params body scope .none kV doc pm an cdv ct) ⟨us, ks.zip ws⟩ = pure (ps.zip (us ++ ws))) :
    KBn K fd ps n ks (fun us ws => us ++ ws) (fun vs zs => vs ++ zs) := by
  obtain ⟨oc, od, dV, kV, doc, pm, an, cdv, ct, osl, rfl, lk, hcd, hD, hK⟩ := F.ex
  rcases hD with ⟨_, rfl⟩ | ⟨e, _⟩
  · exact ⟨fun s us ws _ l1 l2 => .of_eq (h kV doc pm an cdv ct us ws l1 l2), fun r1 r2 => Vals.append r1 r2⟩
  · exact absurd rfl e
def clsN : Nat → Str
  | 0 => "Term"
  | 1 => "Deed"
  | 2 => "Process"
  | 3 => "Program"
  | _ => "NoPlace"
def cfgK (w : World) (K : PySem.W.Frag) : Cfg := ⟨(PySem.Challenge.rw_tiedsteps_k79_delays_refused).prog, w, K, fun k => He.ga K (clsN k)⟩
abbrev df0 : Df := ⟨fun K => (He.ma K (He.ga K ("NoPlace" : Str)) ("__init__" : Str)), ("__init__" : Str), ("NoPlace.__init__" : Str), meth 10 0, [("__class__" : Str)], []⟩
abbrev df1 : Df := ⟨fun K => He.ga K ("is_whole" : Str), ("is_whole" : Str), ("is_whole" : Str), (top 17), [], []⟩
abbrev df2 : Df := ⟨fun K => He.ga K ("is_number" : Str), ("is_number" : Str), ("is_number" : Str), (top 18), [], []⟩
abbrev df3 : Df := ⟨fun K => He.ga K ("is_word" : Str), ("is_word" : Str), ("is_word" : Str), (top 19), [], []⟩
abbrev df4 : Df := ⟨fun K => He.ga K ("is_digit" : Str), ("is_digit" : Str), ("is_digit" : Str), (top 20), [], []⟩
abbrev df5 : Df := ⟨fun K => He.ga K ("are_unlike_words" : Str), ("are_unlike_words" : Str), ("are_unlike_words" : Str), (top 21), [], []⟩
abbrev df6 : Df := ⟨fun K => He.ga K ("ascending_words" : Str), ("ascending_words" : Str), ("ascending_words" : Str), (top 23), [], []⟩
abbrev df7 : Df := ⟨fun K => He.ga K ("ascending_numbers" : Str), ("ascending_numbers" : Str), ("ascending_numbers" : Str), (top 24), [], []⟩
abbrev df8 : Df := ⟨fun K => He.ga K ("word_at" : Str), ("word_at" : Str), ("word_at" : Str), (top 29), [], []⟩
abbrev df9 : Df := ⟨fun K => He.ga K ("plan_at" : Str), ("plan_at" : Str), ("plan_at" : Str), (top 30), [], []⟩
abbrev df10 : Df := ⟨fun K => He.ga K ("leaves_of" : Str), ("leaves_of" : Str), ("leaves_of" : Str), (top 33), [], []⟩
abbrev df11 : Df := ⟨fun K => He.ga K ("plan_of" : Str), ("plan_of" : Str), ("plan_of" : Str), (top 36), [], []⟩
abbrev df12 : Df := ⟨fun K => He.ma K (He.ga K ("Term" : Str)) ("__init__" : Str), ("__init__" : Str), ("Term.__init__" : Str), (meth 37 0), [], []⟩
abbrev df13 : Df := ⟨fun K => He.ma K (He.ga K ("Term" : Str)) ("variables" : Str), ("variables" : Str), ("Term.variables" : Str), (meth 37 5), [], []⟩
abbrev df14 : Df := ⟨fun K => He.ma K (He.ga K ("Term" : Str)) ("constants" : Str), ("constants" : Str), ("Term.constants" : Str), (meth 37 6), [], []⟩
abbrev df15 : Df := ⟨fun K => He.ma K (He.ga K ("Term" : Str)) ("__eq__" : Str), ("__eq__" : Str), ("Term.__eq__" : Str), (meth 37 12), [], []⟩
abbrev df16 : Df := ⟨fun K => He.ga K ("deed_parts" : Str), ("deed_parts" : Str), ("deed_parts" : Str), (top 44), [], []⟩
abbrev df17 : Df := ⟨fun K => He.ma K (He.ga K ("Deed" : Str)) ("__init__" : Str), ("__init__" : Str), ("Deed.__init__" : Str), (meth 45 0), [], []⟩
abbrev df18 : Df := ⟨fun K => stP K ("Deed" : Str) ("of" : Str), ("of" : Str), ("Deed.of" : Str), (meth 45 1), [], []⟩
abbrev df19 : Df := ⟨fun K => prP K ("Deed" : Str) ("variable" : Str), ("variable" : Str), ("Deed.variable" : Str), (meth 45 2), [], []⟩
abbrev df20 : Df := ⟨fun K => prP K ("Deed" : Str) ("term" : Str), ("term" : Str), ("Deed.term" : Str), (meth 45 3), [], []⟩
abbrev df21 : Df := ⟨fun K => prP K ("Deed" : Str) ("late" : Str), ("late" : Str), ("Deed.late" : Str), (meth 45 4), [], []⟩
abbrev df22 : Df := ⟨fun K => He.ma K (He.ga K ("Deed" : Str)) ("__eq__" : Str), ("__eq__" : Str), ("Deed.__eq__" : Str), (meth 45 7), [], []⟩
abbrev df23 : Df := ⟨fun K => He.ga K ("deeds_of" : Str), ("deeds_of" : Str), ("deeds_of" : Str), (top 46), [], []⟩
abbrev df24 : Df := ⟨fun K => He.ma K (He.ga K ("Process" : Str)) ("__init__" : Str), ("__init__" : Str), ("Process.__init__" : Str), (meth 47 0), [], []⟩
abbrev df25 : Df := ⟨fun K => prP K ("Process" : Str) ("name" : Str), ("name" : Str), ("Process.name" : Str), (meth 47 1), [], []⟩
abbrev df26 : Df := ⟨fun K => He.ma K (He.ga K ("Process" : Str)) ("reads" : Str), ("reads" : Str), ("Process.reads" : Str), (meth 47 5), [], []⟩
abbrev df27 : Df := ⟨fun K => He.ma K (He.ga K ("Process" : Str)) ("writes" : Str), ("writes" : Str), ("Process.writes" : Str), (meth 47 6), [], []⟩
abbrev df28 : Df := ⟨fun K => He.ma K (He.ga K ("Process" : Str)) ("constants" : Str), ("constants" : Str), ("Process.constants" : Str), (meth 47 8), [], []⟩
abbrev df29 : Df := ⟨fun K => He.ma K (He.ga K ("Process" : Str)) ("variables" : Str), ("variables" : Str), ("Process.variables" : Str), (meth 47 9), [], []⟩
abbrev df30 : Df := ⟨fun K => He.ma K (He.ga K ("Process" : Str)) ("at_once" : Str), ("at_once" : Str), ("Process.at_once" : Str), (meth 47 10), [], []⟩
abbrev df31 : Df := ⟨fun K => He.ma K (He.ga K ("Process" : Str)) ("__eq__" : Str), ("__eq__" : Str), ("Process.__eq__" : Str), (meth 47 17), [], []⟩
abbrev df32 : Df := ⟨fun K => He.ga K ("are_processes" : Str), ("are_processes" : Str), ("are_processes" : Str), (top 54), [], []⟩
abbrev df33 : Df := ⟨fun K => He.ga K ("are_inputs" : Str), ("are_inputs" : Str), ("are_inputs" : Str), (top 55), [], []⟩
abbrev df34 : Df := ⟨fun K => He.ga K ("all_variables" : Str), ("all_variables" : Str), ("all_variables" : Str), (top 56), [], []⟩
abbrev df35 : Df := ⟨fun K => He.ga K ("all_constants" : Str), ("all_constants" : Str), ("all_constants" : Str), (top 57), [], []⟩
abbrev df36 : Df := ⟨fun K => He.ga K ("first_wrong" : Str), ("first_wrong" : Str), ("first_wrong" : Str), (top 58), [], []⟩
abbrev df37 : Df := ⟨fun K => He.ma K (He.ga K ("Program" : Str)) ("__init__" : Str), ("__init__" : Str), ("Program.__init__" : Str), (meth 59 0), [], []⟩
abbrev df38 : Df := ⟨fun K => He.ma K (He.ga K ("Program" : Str)) ("__eq__" : Str), ("__eq__" : Str), ("Program.__eq__" : Str), (meth 59 12), [], []⟩
abbrev df39 : Df := ⟨fun K => He.ma K (He.ga K ("Program" : Str)) ("places" : Str), ("places" : Str), ("Program.places" : Str), (meth 59 16), [], []⟩
abbrev df40 : Df := ⟨fun K => He.ga K ("is_place" : Str), ("is_place" : Str), ("is_place" : Str), (top 60), [], []⟩
abbrev df41 : Df := ⟨fun K => He.ma K (He.ga K ("Program" : Str)) ("look_at_places" : Str), ("look_at_places" : Str), ("Program.look_at_places" : Str), (meth 59 17), [], []⟩
abbrev df42 : Df := ⟨fun K => He.ma K (He.ga K ("Program" : Str)) ("delayed" : Str), ("delayed" : Str), ("Program.delayed" : Str), (meth 59 18), [], []⟩
abbrev df43 : Df := ⟨fun K => He.ga K ("look_at_most" : Str), ("look_at_most" : Str), ("look_at_most" : Str), (top 82), [], []⟩
abbrev df44 : Df := ⟨fun K => He.ga K ("is_sole" : Str), ("is_sole" : Str), ("is_sole" : Str), (top 92), [], []⟩
abbrev df45 : Df := ⟨fun K => He.ga K ("helps" : Str), ("helps" : Str), ("helps" : Str), (top 95), [], []⟩
abbrev df46 : Df := ⟨fun K => He.ga K ("_law_pool" : Str), ("_law_pool" : Str), ("_law_pool" : Str), (top 97), [], []⟩
abbrev df47 : Df := ⟨fun K => He.ga K ("_law_take" : Str), ("_law_take" : Str), ("_law_take" : Str), (top 98), [], []⟩
abbrev df48 : Df := ⟨fun K => He.ga K ("_law_one" : Str), ("_law_one" : Str), ("_law_one" : Str), (top 99), [], []⟩
abbrev df49 : Df := ⟨fun K => He.ga K ("_law_turned" : Str), ("_law_turned" : Str), ("_law_turned" : Str), (top 100), [], []⟩
abbrev df50 : Df := ⟨fun K => He.ga K ("_law_words" : Str), ("_law_words" : Str), ("_law_words" : Str), (top 101), [], []⟩
abbrev df51 : Df := ⟨fun K => He.ga K ("_law_tree" : Str), ("_law_tree" : Str), ("_law_tree" : Str), (top 102), [], []⟩
abbrev df52 : Df := ⟨fun K => He.ga K ("_law_tree_text" : Str), ("_law_tree_text" : Str), ("_law_tree_text" : Str), (top 103), [], []⟩
abbrev df53 : Df := ⟨fun K => He.ga K ("_law_deed_text" : Str), ("_law_deed_text" : Str), ("_law_deed_text" : Str), (top 104), [], []⟩
abbrev df54 : Df := ⟨fun K => He.ga K ("_law_deeds_drawn" : Str), ("_law_deeds_drawn" : Str), ("_law_deeds_drawn" : Str), (top 105), [], []⟩
abbrev df55 : Df := ⟨fun K => He.ga K ("_law_less_at_once" : Str), ("_law_less_at_once" : Str), ("_law_less_at_once" : Str), (top 107), [], []⟩
abbrev df56 : Df := ⟨fun K => He.ga K ("_law_plain" : Str), ("_law_plain" : Str), ("_law_plain" : Str), (top 106), [], []⟩
abbrev df57 : Df := ⟨fun K => He.ga K ("_law_names" : Str), ("_law_names" : Str), ("_law_names" : Str), (top 108), [], []⟩
abbrev df58 : Df := ⟨fun K => He.ga K ("_law_made_process" : Str), ("_law_made_process" : Str), ("_law_made_process" : Str), (top 109), [], []⟩
abbrev df59 : Df := ⟨fun K => He.ga K ("_law_made" : Str), ("_law_made" : Str), ("_law_made" : Str), (top 110), [], []⟩
abbrev df60 : Df := ⟨fun K => He.ga K ("_law_places" : Str), ("_law_places" : Str), ("_law_places" : Str), (top 111), [], []⟩
abbrev df61 : Df := ⟨fun K => He.ga K ("_law_refused" : Str), ("_law_refused" : Str), ("_law_refused" : Str), (top 112), [], []⟩
abbrev df62 : Df := ⟨fun K => He.ga K ("law" : Str), ("law" : Str), ("law" : Str), (top 113), [], []⟩
theorem facts {K : PySem.W.Frag} {h : Heap} {mg : Str → Option Value} {w : World} (KX : K.In h) (G : h.Ns mainGlobals mg) (c : SaysK ex fn K) : Fx (cfgK w K) mg where
  b_bool := He.free_ok KX G (c.fact 0)
  b_enumerate := He.free_ok KX G (c.fact 1)
  b_int := He.free_ok KX G (c.fact 2)
  b_isinstance := He.free_ok KX G (c.fact 3)
  b_len := He.free_ok KX G (c.fact 4)
  b_list := He.free_ok KX G (c.fact 5)
  b_max := He.free_ok KX G (c.fact 6)
  b_range := He.free_ok KX G (c.fact 7)
  b_repr := He.free_ok KX G (c.fact 8)
  b_set := He.free_ok KX G (c.fact 9)
  b_sorted := He.free_ok KX G (c.fact 10)
  b_str := He.free_ok KX G (c.fact 11)
  b_sum := He.free_ok KX G (c.fact 12)
  b_tuple := He.free_ok KX G (c.fact 13)
  c_AT_ONCE := He.str_ok KX G (c.fact 14)
  c_AT_THE_END := He.str_ok KX G (c.fact 15)
  c_DIGITS := He.str_ok KX G (c.fact 16)
  c_LETTERS := He.str_ok KX G (c.fact 17)
  c_MOST_AT_ONCE := He.int_ok KX G (c.fact 18)
  c_MOST_CONSTANT := He.int_ok KX G (c.fact 19)
  c_MOST_CONSTANTS := He.int_ok KX G (c.fact 20)
  c_MOST_DEEDS := He.int_ok KX G (c.fact 21)
  c_MOST_DEPTH := He.int_ok KX G (c.fact 22)
  c_MOST_INPUTS := He.int_ok KX G (c.fact 23)
  c_MOST_LETTERS := He.int_ok KX G (c.fact 24)
  c_MOST_PROCESSES := He.int_ok KX G (c.fact 25)
  c_MOST_VARIABLES := He.int_ok KX G (c.fact 26)
  c_MOST_WAITS := He.int_ok KX G (c.fact 27)
  c_RESERVED := He.str_ok KX G (c.fact 28)
  c_SIGNS := ⟨_, (He.glo_ok KX G (c.fact 29)), He.tupB_ok (c.fact 30)⟩
  cl0 := He.cls_ok (c.fact 31)
  cl1 := He.cls_ok (c.fact 32)
  cl2 := He.cls_ok (c.fact 33)
  cl3 := He.cls_ok (c.fact 34)
  na0_tree := He.noat_ok (c.fact 35)
  na1_is_late := He.noat_ok (c.fact 36)
  na1_source := He.noat_ok (c.fact 37)
  na1_target := He.noat_ok (c.fact 38)
  na2_done := He.noat_ok (c.fact 39)
  na2_title := He.noat_ok (c.fact 40)
  na2_waited := He.noat_ok (c.fact 41)
  na3_given := He.noat_ok (c.fact 42)
  na3_line := He.noat_ok (c.fact 43)
  na3_numbers := He.noat_ok (c.fact 44)
  na3_titles := He.noat_ok (c.fact 45)
  na3_words := He.noat_ok (c.fact 46)
  g0 := (He.glo_ok KX G (c.fact 47))
  g1 := (He.glo_ok KX G (c.fact 48))
  g2 := (He.glo_ok KX G (c.fact 49))
  g3 := (He.glo_ok KX G (c.fact 50))
  g4 := (He.glo_ok KX G (c.fact 51))
  ic0 := isiCB_ok (c.fact 52)
  ic1 := isiCB_ok (c.fact 53)
  ic2 := isiCB_ok (c.fact 54)
  ic3 := isiCB_ok (c.fact 55)
  x4 := fun base => by
    obtain ⟨fd, XIh, hp, hd⟩ := xi_of (P := (PySem.Challenge.rw_tiedsteps_k79_delays_refused).prog) (d := df0) rfl rfl (c.def0 0 rfl).1 (c.def0 0 rfl).2 (c.fact 59) rfl rfl ⟨_, rfl, rfl⟩ (by decide +kernel) (by decide +kernel)
    refine ⟨oexB_ok (c.fact 56), (He.glo_ok KX G (c.fact 51)), _, fd, [("self" : Str), ("value" : Str)], He.eqO_ok (c.fact 57), of_decide_eq_true (c.fact 58), xinit_ok XIh (He.free_ok KX G (c.fact 60)) (by decide) rfl rfl rfl rfl rfl (fun env => rfl) (fun env => rfl) (fun env => rfl), ?_⟩
    refine Binds.all fun us hl => ?_
    obtain ⟨n1, n2, n3, n4, n5, n6, n7, n8, n9, n10, n11, n12, n13, n14, n15⟩ := fd
    cases hp
    cases hd
    exact match us, hl with
    | [_, _], _ => rfl
  exm4 := He.exm_ok (c.fact 61)
  xf4 := ⟨_, (He.glo_ok KX G (c.fact 66)), fun k hk => by
    cases hk with
    | head => exact ⟨xfB_ok (c.fact 62), He.eqO_ok (c.fact 63), excIB_ok (c.fact 64), of_decide_eq_true (c.fact 65)⟩
    | tail _ h => cases h⟩
  f_is_whole := let ⟨fd, F⟩ := c.def_ 1 (d := df1) rfl rfl; ⟨_, fd, F, (He.glo_ok KX G (c.fact 67))⟩
  f_is_number := let ⟨fd, F⟩ := c.def_ 2 (d := df2) rfl rfl; ⟨_, fd, F, (He.glo_ok KX G (c.fact 68))⟩
  f_is_word := let ⟨fd, F⟩ := c.def_ 3 (d := df3) rfl rfl; ⟨_, fd, F, (He.glo_ok KX G (c.fact 69))⟩
  f_is_digit := let ⟨fd, F⟩ := c.def_ 4 (d := df4) rfl rfl; ⟨_, fd, F, (He.glo_ok KX G (c.fact 70))⟩
  f_are_unlike_words := let ⟨fd, F⟩ := c.def_ 5 (d := df5) rfl rfl; ⟨_, fd, F, (He.glo_ok KX G (c.fact 71))⟩
  f_ascending_words := let ⟨fd, F⟩ := c.def_ 6 (d := df6) rfl rfl; ⟨_, fd, F, (He.glo_ok KX G (c.fact 72))⟩
  f_ascending_numbers := let ⟨fd, F⟩ := c.def_ 7 (d := df7) rfl rfl; ⟨_, fd, F, (He.glo_ok KX G (c.fact 73))⟩
  f_word_at := let ⟨fd, F⟩ := c.def_ 8 (d := df8) rfl rfl; ⟨_, fd, F, (He.glo_ok KX G (c.fact 74))⟩
  f_plan_at := let ⟨fd, F⟩ := c.def_ 9 (d := df9) rfl rfl; ⟨_, fd, F, (He.glo_ok KX G (c.fact 75))⟩
  f_leaves_of := let ⟨fd, F⟩ := c.def_ 10 (d := df10) rfl rfl; ⟨_, fd, F, (He.glo_ok KX G (c.fact 76))⟩
  f_plan_of := let ⟨fd, F⟩ := c.def_ 11 (d := df11) rfl rfl; ⟨_, fd, F, (He.glo_ok KX G (c.fact 77))⟩
  f_Term_init := let ⟨fd, F⟩ := c.def_ 12 (d := df12) rfl rfl; ⟨_, fd, F, He.mkr_ok (c.fact 78), (He.glo_ok KX G (c.fact 47))⟩
  f_Term_variables := ⟨let ⟨fd, F⟩ := c.def_ 13 (d := df13) rfl rfl; ⟨_, fd, F, He.meth_ok (c.fact 79)⟩, He.cls_ok (c.fact 31)⟩
  f_Term_constants := ⟨let ⟨fd, F⟩ := c.def_ 14 (d := df14) rfl rfl; ⟨_, fd, F, He.meth_ok (c.fact 80)⟩, He.cls_ok (c.fact 31)⟩
  f_Term_eq := ⟨let ⟨fd, F⟩ := c.def_ 15 (d := df15) rfl rfl; ⟨_, fd, F, He.meth_ok (c.fact 81)⟩, He.cls_ok (c.fact 31)⟩
  f_deed_parts := let ⟨fd, F⟩ := c.def_ 16 (d := df16) rfl rfl; ⟨_, fd, F, (He.glo_ok KX G (c.fact 82))⟩
  f_Deed_init := let ⟨fd, F⟩ := c.def_ 17 (d := df17) rfl rfl; ⟨_, fd, _, F, He.mkr_ok (c.fact 83), (He.glo_ok KX G (c.fact 48)), kbn_of0 F fun _ _ _ _ _ _ us ws h1 h2 => match us, ws, h1, h2 with | [_, _, _], [_], _, _ => rfl⟩
  f_Deed_of := let ⟨fd, F⟩ := c.def_ 18 (d := df18) rfl rfl; let ⟨h1, h2, r, h3⟩ := stB_ok (c.fact 84); ⟨_, _, fd, _, r, F, (He.glo_ok KX G (c.fact 48)), h1, h2, h3, F.kp⟩
  f_Deed_variable := ⟨let ⟨fd, F⟩ := c.def_ 19 (d := df19) rfl rfl; ⟨_, _, fd, F, prB_ok (c.fact 85)⟩, He.cls_ok (c.fact 32)⟩
  f_Deed_term := ⟨let ⟨fd, F⟩ := c.def_ 20 (d := df20) rfl rfl; ⟨_, _, fd, F, prB_ok (c.fact 86)⟩, He.cls_ok (c.fact 32)⟩
  f_Deed_late := ⟨let ⟨fd, F⟩ := c.def_ 21 (d := df21) rfl rfl; ⟨_, _, fd, F, prB_ok (c.fact 87)⟩, He.cls_ok (c.fact 32)⟩
  f_Deed_eq := ⟨let ⟨fd, F⟩ := c.def_ 22 (d := df22) rfl rfl; ⟨_, fd, F, He.meth_ok (c.fact 88)⟩, He.cls_ok (c.fact 32)⟩
  f_deeds_of := let ⟨fd, F⟩ := c.def_ 23 (d := df23) rfl rfl; ⟨_, fd, F, (He.glo_ok KX G (c.fact 89))⟩
  f_Process_init := let ⟨fd, F⟩ := c.def_ 24 (d := df24) rfl rfl; ⟨_, fd, F, He.mkr_ok (c.fact 90), (He.glo_ok KX G (c.fact 49))⟩
  f_Process_name := ⟨let ⟨fd, F⟩ := c.def_ 25 (d := df25) rfl rfl; ⟨_, _, fd, F, prB_ok (c.fact 91)⟩, He.cls_ok (c.fact 33)⟩
  f_Process_reads := ⟨let ⟨fd, F⟩ := c.def_ 26 (d := df26) rfl rfl; ⟨_, fd, F, He.meth_ok (c.fact 92)⟩, He.cls_ok (c.fact 33)⟩
  f_Process_writes := ⟨let ⟨fd, F⟩ := c.def_ 27 (d := df27) rfl rfl; ⟨_, fd, F, He.meth_ok (c.fact 93)⟩, He.cls_ok (c.fact 33)⟩
  f_Process_constants := ⟨let ⟨fd, F⟩ := c.def_ 28 (d := df28) rfl rfl; ⟨_, fd, F, He.meth_ok (c.fact 94)⟩, He.cls_ok (c.fact 33)⟩
  f_Process_variables := ⟨let ⟨fd, F⟩ := c.def_ 29 (d := df29) rfl rfl; ⟨_, fd, F, He.meth_ok (c.fact 95)⟩, He.cls_ok (c.fact 33)⟩
  f_Process_at_once := ⟨let ⟨fd, F⟩ := c.def_ 30 (d := df30) rfl rfl; ⟨_, fd, F, He.meth_ok (c.fact 96)⟩, He.cls_ok (c.fact 33)⟩
  f_Process_eq := ⟨let ⟨fd, F⟩ := c.def_ 31 (d := df31) rfl rfl; ⟨_, fd, F, He.meth_ok (c.fact 97)⟩, He.cls_ok (c.fact 33)⟩
  f_are_processes := let ⟨fd, F⟩ := c.def_ 32 (d := df32) rfl rfl; ⟨_, fd, F, (He.glo_ok KX G (c.fact 98))⟩
  f_are_inputs := let ⟨fd, F⟩ := c.def_ 33 (d := df33) rfl rfl; ⟨_, fd, F, (He.glo_ok KX G (c.fact 99))⟩
  f_all_variables := let ⟨fd, F⟩ := c.def_ 34 (d := df34) rfl rfl; ⟨_, fd, F, (He.glo_ok KX G (c.fact 100))⟩
  f_all_constants := let ⟨fd, F⟩ := c.def_ 35 (d := df35) rfl rfl; ⟨_, fd, F, (He.glo_ok KX G (c.fact 101))⟩
  f_first_wrong := let ⟨fd, F⟩ := c.def_ 36 (d := df36) rfl rfl; ⟨_, fd, F, (He.glo_ok KX G (c.fact 102))⟩
  f_Program_init := let ⟨fd, F⟩ := c.def_ 37 (d := df37) rfl rfl; ⟨_, fd, F, He.mkr_ok (c.fact 103), (He.glo_ok KX G (c.fact 50))⟩
  f_Program_eq := ⟨let ⟨fd, F⟩ := c.def_ 38 (d := df38) rfl rfl; ⟨_, fd, F, He.meth_ok (c.fact 104)⟩, He.cls_ok (c.fact 34)⟩
  f_Program_places := ⟨let ⟨fd, F⟩ := c.def_ 39 (d := df39) rfl rfl; ⟨_, fd, F, He.meth_ok (c.fact 105)⟩, He.cls_ok (c.fact 34)⟩
  f_is_place := let ⟨fd, F⟩ := c.def_ 40 (d := df40) rfl rfl; ⟨_, fd, F, (He.glo_ok KX G (c.fact 106))⟩
  f_Program_look_at_places := ⟨let ⟨fd, F⟩ := c.def_ 41 (d := df41) rfl rfl; ⟨_, fd, F, He.meth_ok (c.fact 107)⟩, He.cls_ok (c.fact 34)⟩
  f_Program_delayed := ⟨let ⟨fd, F⟩ := c.def_ 42 (d := df42) rfl rfl; ⟨_, fd, F, He.meth_ok (c.fact 108)⟩, He.cls_ok (c.fact 34)⟩
  f_look_at_most := let ⟨fd, F⟩ := c.def_ 43 (d := df43) rfl rfl; ⟨_, fd, F, (He.glo_ok KX G (c.fact 109))⟩
  f_is_sole := let ⟨fd, F⟩ := c.def_ 44 (d := df44) rfl rfl; ⟨_, fd, _, F, (He.glo_ok KX G (c.fact 110)), kbn_of0 F fun _ _ _ _ _ _ us ws h1 h2 => match us, ws, h1, h2 with | [_], [_], _, _ => rfl⟩
  f_helps := let ⟨fd, F⟩ := c.def_ 45 (d := df45) rfl rfl; ⟨_, fd, _, F, (He.glo_ok KX G (c.fact 111)), kbn_of0 F fun _ _ _ _ _ _ us ws h1 h2 => match us, ws, h1, h2 with | [_, _], [_], _, _ => rfl⟩
  f_law_pool := let ⟨fd, F⟩ := c.def_ 46 (d := df46) rfl rfl; ⟨_, fd, F, (He.glo_ok KX G (c.fact 112))⟩
  f_law_take := let ⟨fd, F⟩ := c.def_ 47 (d := df47) rfl rfl; ⟨_, fd, F, (He.glo_ok KX G (c.fact 113))⟩
  f_law_one := let ⟨fd, F⟩ := c.def_ 48 (d := df48) rfl rfl; ⟨_, fd, F, (He.glo_ok KX G (c.fact 114))⟩
  f_law_turned := let ⟨fd, F⟩ := c.def_ 49 (d := df49) rfl rfl; ⟨_, fd, F, (He.glo_ok KX G (c.fact 115))⟩
  f_law_words := let ⟨fd, F⟩ := c.def_ 50 (d := df50) rfl rfl; ⟨_, fd, F, (He.glo_ok KX G (c.fact 116))⟩
  f_law_tree := let ⟨fd, F⟩ := c.def_ 51 (d := df51) rfl rfl; ⟨_, fd, F, (He.glo_ok KX G (c.fact 117))⟩
  f_law_tree_text := let ⟨fd, F⟩ := c.def_ 52 (d := df52) rfl rfl; ⟨_, fd, F, (He.glo_ok KX G (c.fact 118))⟩
  f_law_deed_text := let ⟨fd, F⟩ := c.def_ 53 (d := df53) rfl rfl; ⟨_, fd, F, (He.glo_ok KX G (c.fact 119))⟩
  f_law_deeds_drawn := let ⟨fd, F⟩ := c.def_ 54 (d := df54) rfl rfl; ⟨_, fd, F, (He.glo_ok KX G (c.fact 120))⟩
  f_law_less_at_once := let ⟨fd, F⟩ := c.def_ 55 (d := df55) rfl rfl; ⟨_, fd, F, (He.glo_ok KX G (c.fact 121))⟩
  f_law_plain := let ⟨fd, F⟩ := c.def_ 56 (d := df56) rfl rfl; ⟨_, fd, F, (He.glo_ok KX G (c.fact 122))⟩
  f_law_names := let ⟨fd, F⟩ := c.def_ 57 (d := df57) rfl rfl; ⟨_, fd, F, (He.glo_ok KX G (c.fact 123))⟩
  f_law_made_process := let ⟨fd, F⟩ := c.def_ 58 (d := df58) rfl rfl; ⟨_, fd, F, (He.glo_ok KX G (c.fact 124))⟩
  f_law_made := let ⟨fd, F⟩ := c.def_ 59 (d := df59) rfl rfl; ⟨_, fd, F, (He.glo_ok KX G (c.fact 125))⟩
  f_law_places := let ⟨fd, F⟩ := c.def_ 60 (d := df60) rfl rfl; ⟨_, fd, F, (He.glo_ok KX G (c.fact 126))⟩
  f_law_refused := let ⟨fd, F⟩ := c.def_ 61 (d := df61) rfl rfl; ⟨_, fd, F, (He.glo_ok KX G (c.fact 127))⟩
  f_law := let ⟨fd, F⟩ := c.def_ 62 (d := df62) rfl rfl; ⟨_, fd, F, (He.glo_ok KX G (c.fact 128))⟩
end G
end
section
set_option Elab.async false
set_option linter.all false
set_option maxRecDepth 100000
set_option maxHeartbeats 0
namespace G
open PySem PySem.Spec PyProof.Rows L2 DL
theorem sp_law {c : Cfg} {a : Addr} {ns : List Int} {H : Hp} (hm : m_law [.scr ns] = .ok (.bl true)) (hS : SqL c.K H a (ns.map V.int)) : spP c 1 m_law [.ref a] H (fun v _ => v = .bl true) fun _ _ _ => False := by
  refine ⟨rfl, H, [.scr ns], .refl _, .one (.scr hS), ?_⟩
  rw [hm]
  intro v H' F' _ iv
  cases iv
  rfl
end G
open PySem PySem.W PySem.Calls PyProof.Rows
theorem holds_of (hm : ∀ ns : List Int, G.m_law [.scr ns] = .ok (.bl true)) : PySem.Challenge.rw_tiedsteps_k79_delays_refused.Holds := by
  w_on; o_law
  refine HandSHeadRun.head_any (r := OpenLaw.row PySem.Challenge.rw_tiedsteps_k79_delays_refused) (q := view (OpenLaw.row PySem.Challenge.rw_tiedsteps_k79_delays_refused).prog [113]) (H := G.hk) (ob := G.ob) (M := 9800) (loose := G.names) (d := HandSHeadRun.topDef (OpenLaw.row PySem.Challenge.rw_tiedsteps_k79_delays_refused).prog 113) (kwd := []) G.ob_eq
    (by kernel_rfl) (fun s => by kernel_rfl) G.run (by kernel_rfl) (by kernel_rfl) (by kernel_rfl) (by rfl) (by first | assumption | decide +kernel) (by decide +kernel) ⟨rfl, rfl, rfl, rfl, rfl, by decide +kernel⟩ ?hw ?hc
  case hw => w_witness2
  case hc =>
    refine Att.attach_call (l := PySem.Challenge.rw_tiedsteps_k79_delays_refused) (n := 63) rfl (by kernel_rfl) fun w s₀ s₁ mg mb fa o pm cd doc a vs ns Gr Y ho hd hcd hmg0 hobj hints hlen hg => ?_
    obtain ⟨K, KX, c⟩ := Y
    have hmg : mg ("law" : PySem.Str) = some (.ref fa) := by
      have e : (HandSHeadRun.topDef (OpenLaw.row PySem.Challenge.rw_tiedsteps_k79_delays_refused).prog 113).name = ("law" : PySem.Str) := by kernel_rfl
      rw [← e]
      exact hmg0
    have X := G.facts (w := w) KX Gr.T.g c
    obtain ⟨f, fd, Fd, hf⟩ := X.f_law.ex
    have e := hf.symm.trans hmg
    cases e
    have bnd := L2.FunD.bindsA (ps := [("script" : PySem.Str)]) Fd G.B_law
    exact DL.law_callG (k := 17) (x := ("script" : PySem.Str)) KX Gr.T.g Gr.T.b Gr.T.builtins Gr.T.nolimit hg hobj hints (Nat.le_trans hlen (by decide)) ⟨rfl, by decide, by decide⟩
      (fun base => DL.okPG Fd G.S_law (G.bd_law X _)) (fun s u => bnd s [u] rfl) fun H hS => G.sp_law (c := G.cfgK w K) (hm ns) hS
end
section
open PySem PySem.W PyProof.Rows
theorem PySem.Challenge.cw_tiedsteps_k79_delays_refused_holds : PySem.Challenge.rw_tiedsteps_k79_delays_refused.Holds := by
  exact holds_of G.law_ok
end
