import PyProof.Rows.All
import Wide.All
import OpenK.AllK
import Wide.FinOn
import HandS.ForMost
import HandS.Exc
import HandS.TryOnly
import HandS.Conv
import HandS.IsInst
import HandS.StrMore
import HandS.CallSlots
import HandS.HeadHook2
import HandS.Lambda
import HandS.Flow
import HandS.TupAny
import HandS.Wide
import PyProof.P3In
import HandS.Walk
import HandS.ExcOwn
import HandS.Iter
import HandS.Property
import HandS.WordsExc
import HandS.MakeKwOnly
import HandS.ClsMeth
import PyProof.ListStr
import PyProof.TupleOfStr
import HandS.More
import HandS.Replace
import HandS.Strs
import HandS.SetFor
import HandS.Codes
import HandS.List
import PyProof.Rows.SortShellAny
import PyProof.ReprRoads
import PyProof.ReprText
import PyProof.StrLawsRepr
import HandS.Set
import HandS.SetTxt0
import HandS.TupSets
import PyProof.CollectStr
import KE.KStateDown
import HandS.Ends
import HandS.EndBits
import HandS.Head0
import HandS.Head1
import HandS.Head2
import HandS.HeadHook1
import HandS.Defaults
import HandS.ExcValue
import HandS.Style
import HandS.Comp
import KE.KCallOwn
import PyProof.Rows.SeqRoads
import HandS.Zip
import HandS.ExcInit
import KE.KExcInit
import HandS.HotCalls
import HandS.ExcField
import HandS.ExcIs
import HandS.Text
import PyProof.StrLaws
import HandS.EndTab
import HandS.HeadHook4
import HandS.HeadWalk
import PySem.Challenge.RW_nevermixed_k03_whole_signs_refused
set_option Elab.async false
set_option linter.all false
set_option maxRecDepth 100000
set_option maxHeartbeats 4000000
section
namespace DLX
open PySem PySem.Spec PySem.W PySem.Calls PyProof.Rows
def isRef : Value → Bool
  | .ref _ => true
  | _ => false
def ownT (T l : List Value) : Bool := l.dropWhile isRef == T
end DLX
namespace DL
open PySem PySem.Spec PyProof.Rows L2 LamX DLX
abbrev Fg := PySem.W.Frag
def codeA (K : Fg) (x : Str) : Value := match K.lookup (He.ga K x) with
  | some ⟨_, _, .func fd, _⟩ => fd.code
  | _ => .none
def tabP (K : Fg) (c : Addr) : Addr := match K.lookup c with
  | some ⟨_, _, .fields vs, _⟩ => (match vs.getD 11 .none with
    | .ref P => P
    | _ => 0)
  | _ => 0
def tabA (K : Fg) (x : Str) : Addr := match codeA K x with
  | .ref c => tabP K c
  | _ => 0
def askT : List String := ["str", "int", "tuple", "bool", "list", "dict"]
def ofT : List String := ["NoneType", "bool", "int", "str", "tuple", "list", "dict"]
def propA (K : Fg) (x f : Str) : Addr := match PySem.W.findIn K (.ref (He.ga K x)) f with
  | some (some (.ref p)) => p
  | _ => 0
def getA (x f : Str) (K : Fg) : Addr := match PySem.W.recIn K (propA K x f) "property" with
  | some (.ref g :: _) => g
  | _ => 0
def cmA (x m : Str) (K : Fg) : Addr := match PySem.W.recIn K (propA K x m) "classmethod" with
  | some (.ref g :: _) => g
  | _ => 0
def propB (K : Fg) (x f : Str) : Bool := He.eqO (PySem.W.findIn K (.ref (He.ga K x)) f) (some (some (.ref (propA K x f)))) && (He.eqO (PySem.W.specialIn K (.ref (propA K x f)) "__get__") (some (some (.builtin "property.__get__"))) &&
  (decide (PySem.W.takesIn K (.ref (propA K x f)) = some true) && match PySem.W.recIn K (propA K x f) "property" with
    | some (.ref g :: _) => decide (g = getA x f K)
    | _ => false))
def hasB (K : Fg) (x m : Str) : Bool := He.eqO (PySem.W.findIn K (.ref (He.ga K x)) m) (some (some (.ref (He.ma K (He.ga K x) m)))) && PySem.W.isFn K (.ref (He.ma K (He.ga K x) m))
def isiB' (K : Fg) (own : List Str) (sub : Str → Str → Bool) : Bool := (own.all fun c => (He.Fa.cls c).ok K && (He.eqO (PySem.W.findIn K (.ref (He.ga K c)) "__class__") (some (some (.builtin "object.__class__"))) &&
    (He.eqO (PySem.W.specialIn K (.builtin "object.__class__") "__get__") (some (some (.builtin "getset_descriptor.__get__"))) && (decide (PySem.W.takesIn K (.builtin "object.__class__") = some true) && decide (PySem.W.mroIn K (He.ga K c) (.type "object") = some true))))) &&
  ((own.all fun c => askT.all fun n => decide (PySem.W.kitOne K (.ref (He.ga K c)) (.type n) = some false)) && ((ofT.all fun t => own.all fun x => decide (PySem.W.kitOne K (.type t) (.ref (He.ga K x)) = some false)) &&
    (own.all fun c => own.all fun x => decide (PySem.W.kitOne K (.ref (He.ga K c)) (.ref (He.ga K x)) = some (sub c x)))))
structure DefA where
  ad : Fg → Addr
  d : He.DefD
def fnA (K : Fg) (x : DefA) : He.FnW := match K.lookup (x.ad K) with
  | some ⟨_, _, .func fd, _⟩ => some (fd.name, fd.qualname, fd.params, fd.body, fd.scope, fd.globals, fd.closure, fd.builtins)
  | _ => none
def okA (K : Fg) (x : DefA) : Bool := PySem.W.keepIn K (.ref (x.ad K)) && (match K.lookup (x.ad K) with
  | some ⟨_, _, .func fd, _⟩ => PySem.W.codeIn K fd.code x.d.qual && (He.dflB K fd.defaults [] && He.kwdB K fd.kwdefaults [])
  | _ => false)
def obsX (fs : List (Fg → Bool)) (fn : List DefA) (K : Fg) : He.AlD := ((fs.all fun f => f K) && fn.all fun d => okA K d, fn.map fun d => fnA K d)
def valX (fn : List DefA) : He.AlD := (true, fn.map fun x => x.d.val)
def SaysX (fs : List (Fg → Bool)) (fn : List DefA) (K : Fg) : Prop := obsX fs fn K = valX fn
def obsXG (n : Nat) (fs : List (Fg → Bool)) (fn : List DefA) (g : Addr → Option Obj) : He.AlD := obsX fs fn (He.frG g (He.asD g n))
def hookX (n : Nat) (fs : List (Fg → Bool)) (fn : List DefA) : PySem.W.Hook where
  α := He.AlD
  obs := fun s => obsXG n fs fn s.heap.get?
  val := fun _ => valX fn
  says := fun _ h => ∃ K : PySem.W.Frag, K.In h ∧ SaysX fs fn K
  of := fun _ _ e => ⟨_, He.frG_in, e⟩
  keeps := fun _ _ _ ⟨K, hK, c⟩ k => ⟨K, PySem.W.Frag.In.keeps hK k, c⟩
theorem obsXG_eq {n : Nat} {fs : List (Fg → Bool)} {fn : List DefA} {g : Addr → Option Obj} {s : Shared} (h : ∀ a, g a = s.heap.get? a) : obsXG n fs fn g = (hookX n fs fn).obs s := by
  have e : g = s.heap.get? := funext h
  rw [e] <;> rfl
def hdB (K : Fg) (x : Str) : Bool := match codeA K x with
  | .ref c => PySem.W.codeHdIn K c (tabA K x)
  | _ => false
def emptyAt (g : Addr → Option Obj) (a : Addr) : Bool := match g a with
  | some o => He.emptyTab o
  | none => false
def nodupB : List Addr → Bool
  | [] => true
  | a :: as => (as.all fun b => a != b) && nodupB as
theorem nodupB_ok : ∀ {as : List Addr}, nodupB as = true → as.Nodup
  | [], _ => .nil
  | a :: as, h => by
    rw [nodupB, Bool.and_eq_true] at h
    refine List.nodup_cons.mpr ⟨fun z => ?_, nodupB_ok h.2⟩
    have := List.all_eq_true.mp h.1 a z
    simp at this
structure TabsZ (tf : List Str) (h : Heap) (K : Fg) : Prop where
  hd : ∀ x ∈ tf, hdB K x = true
  out : ∀ x ∈ tf, K.lookup (tabA K x) = none
  empty : ∀ x ∈ tf, h.get? (tabA K x) = some { cls := .none, data := .fields #[] }
  nd : (tf.map (tabA K)).Nodup
def tabsZ (g : Addr → Option Obj) (tf : List Str) (K : Fg) : Bool := (tf.all fun x => hdB K x && emptyAt g (tabA K x)) && nodupB (tf.map (tabA K))
abbrev AlZ : Type := He.AlD × Bool
def obsZ (n : Nat) (fs : List (Fg → Bool)) (fn : List DefA) (tf : List Str) (g : Addr → Option Obj) : AlZ := (obsX fs fn (He.frT g (He.asD g n)), tabsZ g tf (He.frT g (He.asD g n)))
theorem tabsZ_of {n : Nat} {tf : List Str} {h : Heap} (e : tabsZ h.get? tf (He.frT h.get? (He.asD h.get? n)) = true) : TabsZ tf h (He.frT h.get? (He.asD h.get? n)) := by
  unfold tabsZ at e
  rw [Bool.and_eq_true, List.all_eq_true] at e
  have key : ∀ x ∈ tf, hdB (He.frT h.get? (He.asD h.get? n)) x = true ∧ ∃ o, h.get? (tabA (He.frT h.get? (He.asD h.get? n)) x) = some o ∧ He.emptyTab o = true := fun x hx => by
    have h1 := e.1 x hx
    rw [Bool.and_eq_true] at h1
    refine ⟨h1.1, ?_⟩
    have h2 := h1.2
    unfold emptyAt at h2
    split at h2
    · rename_i o q; exact ⟨o, q, h2⟩
    · cases h2
  exact ⟨fun x hx => (key x hx).1, fun x hx => by
    obtain ⟨_, o, q, z⟩ := key x hx
    exact He.frT_none q z, fun x hx => by
    obtain ⟨_, o, q, z⟩ := key x hx
    rw [q, He.emptyTab_eq z], nodupB_ok e.2⟩
def hookZ (n : Nat) (fs : List (Fg → Bool)) (fn : List DefA) (tf : List Str) : PySem.W.Hook where
  α := AlZ
  obs := fun s => obsZ n fs fn tf s.heap.get?
  val := fun _ => (valX fn, true)
  says := fun _ h => ∃ K : PySem.W.Frag, K.In h ∧ SaysX fs fn K ∧ TabsZ tf h K
  of := fun _ _ e => ⟨_, He.frT_in, congrArg (fun z : AlZ => z.1) e, tabsZ_of (congrArg (fun z : AlZ => z.2) e)⟩
  keeps := fun _ _ _ ⟨K, hK, c, t⟩ k => ⟨K, PySem.W.Frag.In.keeps hK k, c, t.hd, t.out, fun x hx => k _ _ (t.empty x hx), t.nd⟩
theorem obsZ_eq {n : Nat} {fs : List (Fg → Bool)} {fn : List DefA} {tf : List Str} {g : Addr → Option Obj} {s : Shared} (h : ∀ a, g a = s.heap.get? a) : obsZ n fs fn tf g = (hookZ n fs fn tf).obs s := by
  have e : g = s.heap.get? := funext h
  rw [e] <;> rfl
def tailT (B : String) : List Value := [.type B, .type "Exception", .type "BaseException", .type "object"]
def clsB (K : Fg) (C : Addr) (T : List Value) (newId : String) : Bool := match K.lookup C with
  | some ⟨.type t, _, .cls cd, ⟨[_, _, _, _, some (.builtin n), _]⟩⟩ => decide (t = "type") && (decide (n = newId) && (cd.hasDict && (!cd.hasDel && (match cd.mro with
    | .ref C' :: bm => decide (C' = C) && ownT T bm
    | _ => false))))
  | _ => false
def oexB (K : Fg) (x : Str) (T : List Value) (newId : String) : Bool := clsB K (He.ga K x) T newId && (He.eqO (PySem.W.findIn K (.ref (He.ga K x)) "__setattr__") (some (some (.builtin "object.__setattr__"))) && (decide (PySem.W.subIn K (.ref (He.ga K x)) (.type "BaseException") = some true) &&
  (decide (PySem.W.typeIn K (.ref (He.ga K x)) = some (.type "type")) && PySem.W.keepIn K (.ref (He.ga K x)))))
def iniB (K : Fg) (x : Str) : Bool := He.eqO (PySem.W.findIn K (.ref (He.ga K x)) "__init__") (some (some (.ref (He.ma K (He.ga K x) "__init__")))) && PySem.W.isFn K (.ref (He.ma K (He.ga K x) "__init__"))
def excB (K : Fg) (x : Str) (B newId : String) (f : Str) : Bool := oexB K x (tailT B) newId && (iniB K x && He.eqO (PySem.W.findIn K (.ref (He.ga K x)) f) (some none))
def excCB (K : Fg) (D : Addr) : Bool := He.eqO (PySem.W.findIn K (.ref D) "__getattribute__") (some (some (.builtin "BaseException.__getattribute__"))) && (He.eqO (PySem.W.findIn K (.ref D) "__getattr__") (some none) && (decide (PySem.W.subIn K (.ref D) (.type "BaseException") = some true) && (PySem.W.hasDictIn K D &&
  (He.eqO (PySem.W.findIn K (.ref D) "__class__") (some (some (.builtin "object.__class__"))) && (He.eqO (PySem.W.specialIn K (.builtin "object.__class__") "__get__") (some (some (.builtin "getset_descriptor.__get__"))) && (decide (PySem.W.takesIn K (.builtin "object.__class__") = some true) && decide (PySem.W.mroIn K D (.type "object") = some true)))))))
def isxB (K : Fg) (errs xs : List Str) (ts : List String) (sub : Str → Str → Bool) (subT : Str → String → Bool) : Bool := (errs.all fun c => excCB K (He.ga K c)) && ((errs.all fun c => xs.all fun x => decide (PySem.W.kitOne K (.ref (He.ga K c)) (.ref (He.ga K x)) = some (sub c x))) &&
  (errs.all fun c => ts.all fun t => decide (PySem.W.kitOne K (.ref (He.ga K c)) (.type t) = some (subT c t))))
def exmB (K : Fg) (errs bs : List Str) (catches : Str → Bool) : Bool := errs.all fun z => decide (PySem.W.exmAny K (.ref (He.ga K z)) (bs.map fun b => .ref (He.ga K b)) = some (catches z))
def noatsB (K : Fg) (errs : List Str) (f : Str) : Bool := errs.all fun c => He.eqO (PySem.W.findIn K (.ref (He.ga K c)) f) (some none)
end DL
namespace PP
open PySem
def owns : List Str := ["Line"]
def subs : Str → Str → Bool := fun a b => decide (a = b)
end PP
namespace PA
end PA
end
section
namespace W03
open PySem PySem.Spec PyProof.Rows L2 DL PP PA
abbrev top (i : Nat) : Stmt := PySem.Challenge.pw_nevermixed_k03_whole_signs_refused.main.body.getD i (.Pass ⟨0, 0, 0, 0⟩)
def supE : List (Str × List Str) := [("InvalidSigns", ["InvalidSigns", "WrongValue"])]
def supT : List (Str × String) := [("InvalidSigns", "ValueError")]
def errs : List Str := ["InvalidSigns"]
def isX : List Str := ["WrongValue", "WrongName", "NotPossible", "InvalidSigns"]
def isT : List String := ["ValueError", "LookupError", "ArithmeticError"]
def subE : Str → Str → Bool := fun c x => match supE.lookup c with
  | some l => l.contains x
  | none => false
def subT : Str → String → Bool := fun c t => supT.lookup c == some t
def tf : List Str := ["_law_right"]
def X__law_dip : DefA := ⟨fun K => He.ga K "_law_dip", ⟨("", none), "_law_dip", "_law_dip", defArgs (top 20), defBody (top 20), defScope (top 20), [], []⟩⟩
def X__law_pick : DefA := ⟨fun K => He.ga K "_law_pick", ⟨("", none), "_law_pick", "_law_pick", defArgs (top 21), defBody (top 21), defScope (top 21), [], []⟩⟩
def X__law_figs : DefA := ⟨fun K => He.ga K "_law_figs", ⟨("", none), "_law_figs", "_law_figs", defArgs (top 22), defBody (top 22), defScope (top 22), [], []⟩⟩
def X__law_glyphs : DefA := ⟨fun K => He.ga K "_law_glyphs", ⟨("", none), "_law_glyphs", "_law_glyphs", defArgs (top 23), defBody (top 23), defScope (top 23), [], []⟩⟩
def X__law_plain_line : DefA := ⟨fun K => He.ga K "_law_plain_line", ⟨("", none), "_law_plain_line", "_law_plain_line", defArgs (top 24), defBody (top 24), defScope (top 24), [], []⟩⟩
def X__law_ring_line : DefA := ⟨fun K => He.ga K "_law_ring_line", ⟨("", none), "_law_ring_line", "_law_ring_line", defArgs (top 25), defBody (top 25), defScope (top 25), [], []⟩⟩
def X__law_any_line : DefA := ⟨fun K => He.ga K "_law_any_line", ⟨("", none), "_law_any_line", "_law_any_line", defArgs (top 26), defBody (top 26), defScope (top 26), [], []⟩⟩
def X__law_are_figs : DefA := ⟨fun K => He.ga K "_law_are_figs", ⟨("", none), "_law_are_figs", "_law_are_figs", defArgs (top 30), defBody (top 30), defScope (top 30), [], []⟩⟩
def X__law_is_glyph : DefA := ⟨fun K => He.ga K "_law_is_glyph", ⟨("", none), "_law_is_glyph", "_law_is_glyph", defArgs (top 31), defBody (top 31), defScope (top 31), [], []⟩⟩
def X__law_sign_slip : DefA := ⟨fun K => He.ga K "_law_sign_slip", ⟨("", none), "_law_sign_slip", "_law_sign_slip", defArgs (top 32), defBody (top 32), defScope (top 32), [], []⟩⟩
def X__law_bases : DefA := ⟨fun K => He.ga K "_law_bases", ⟨("", none), "_law_bases", "_law_bases", defArgs (top 28), defBody (top 28), defScope (top 28), [], []⟩⟩
def X__law_shown : DefA := ⟨fun K => He.ga K "_law_shown", ⟨("", none), "_law_shown", "_law_shown", defArgs (top 33), defBody (top 33), defScope (top 33), [], []⟩⟩
def X__law_caught : DefA := ⟨fun K => He.ga K "_law_caught", ⟨("", none), "_law_caught", "_law_caught", defArgs (top 29), defBody (top 29), defScope (top 29), [], []⟩⟩
def X__law_odd : DefA := ⟨fun K => He.ga K "_law_odd", ⟨("", none), "_law_odd", "_law_odd", defArgs (top 27), defBody (top 27), defScope (top 27), [], []⟩⟩
def X__law_bent : DefA := ⟨fun K => He.ga K "_law_bent", ⟨("", none), "_law_bent", "_law_bent", defArgs (top 34), defBody (top 34), defScope (top 34), [], []⟩⟩
def X_InvalidSigns___init__ : DefA := ⟨fun K => He.ma K (He.ga K "InvalidSigns") "__init__", ⟨("", none), "__init__", "InvalidSigns.__init__", defArgs (inClass (top 4) 0), defBody (inClass (top 4) 0), defScope (inClass (top 4) 0), [], []⟩⟩
def X_is_letter : DefA := ⟨fun K => He.ga K "is_letter", ⟨("", none), "is_letter", "is_letter", defArgs (top 12), defBody (top 12), defScope (top 12), [], []⟩⟩
def X_are_looks : DefA := ⟨fun K => He.ga K "are_looks", ⟨("", none), "are_looks", "are_looks", defArgs (top 13), defBody (top 13), defScope (top 13), [], []⟩⟩
def X_is_pair : DefA := ⟨fun K => He.ga K "is_pair", ⟨("", none), "is_pair", "is_pair", defArgs (top 14), defBody (top 14), defScope (top 14), [], []⟩⟩
def X_check_signs : DefA := ⟨fun K => He.ga K "check_signs", ⟨("", none), "check_signs", "check_signs", defArgs (top 15), defBody (top 15), defScope (top 15), [], []⟩⟩
def X_Line___init__ : DefA := ⟨fun K => He.ma K (He.ga K "Line") "__init__", ⟨("", none), "__init__", "Line.__init__", defArgs (inClass (top 17) 0), defBody (inClass (top 17) 0), defScope (inClass (top 17) 0), [], []⟩⟩
def X_Line_signs : DefA := ⟨getA "Line" "signs", ⟨("", none), "signs", "Line.signs", defArgs (inClass (top 17) 2), defBody (inClass (top 17) 2), defScope (inClass (top 17) 2), [], []⟩⟩
def X__law_right : DefA := ⟨fun K => He.ga K "_law_right", ⟨("", none), "_law_right", "_law_right", defArgs (top 35), defBody (top 35), defScope (top 35), [], []⟩⟩
def X__law_jar : DefA := ⟨fun K => He.ga K "_law_jar", ⟨("", none), "_law_jar", "_law_jar", defArgs (top 19), defBody (top 19), defScope (top 19), [], []⟩⟩
def X_law : DefA := ⟨fun K => He.ga K "law", ⟨("", none), "law", "law", defArgs (top 36), defBody (top 36), defScope (top 36), [], []⟩⟩
def fn : List DefA := [X__law_dip, X__law_pick, X__law_figs, X__law_glyphs, X__law_plain_line, X__law_ring_line, X__law_any_line, X__law_are_figs, X__law_is_glyph, X__law_sign_slip, X__law_bases, X__law_shown, X__law_caught, X__law_odd, X__law_bent, X_InvalidSigns___init__, X_is_letter, X_are_looks, X_is_pair, X_check_signs, X_Line___init__, X_Line_signs, X__law_right, X__law_jar, X_law]
def fs : List (Fg → Bool) := [fun K => (He.Fa.free "int").ok K,
  fun K => (He.Fa.free "len").ok K,
  fun K => (He.Fa.glo "_law_dip").ok K,
  fun K => (He.Fa.free "list").ok K,
  fun K => (He.Fa.free "range").ok K,
  fun K => (He.Fa.glo "_law_pick").ok K,
  fun K => (He.Fa.glo "_law_glyphs").ok K,
  fun K => (He.Fa.glo "_law_figs").ok K,
  fun K => (He.Fa.free "tuple").ok K,
  fun K => (He.Fa.free "sorted").ok K,
  fun K => (He.Fa.free "set").ok K,
  fun K => (He.Fa.glo "_law_plain_line").ok K,
  fun K => (He.Fa.glo "_law_ring_line").ok K,
  fun K => (He.Fa.free "str").ok K,
  fun K => isiB' K owns subs,
  fun K => (He.Fa.free "isinstance").ok K,
  fun K => (He.Fa.glo "_law_are_figs").ok K,
  fun K => (He.Fa.free "repr").ok K,
  fun K => (He.Fa.glo "_law_is_glyph").ok K,
  fun K => (He.Fa.glo "WrongValue").ok K,
  fun K => isxB K errs isX isT subE subT,
  fun K => (He.Fa.free "ValueError").ok K,
  fun K => (He.Fa.glo "WrongName").ok K,
  fun K => (He.Fa.free "LookupError").ok K,
  fun K => (He.Fa.glo "NotPossible").ok K,
  fun K => (He.Fa.free "ArithmeticError").ok K,
  fun K => (He.Fa.glo "InvalidSigns").ok K,
  fun K => (He.Fa.glo "_law_bases").ok K,
  fun K => noatsB K errs "index",
  fun K => exmB K errs ["WrongValue", "WrongName", "NotPossible"] (fun _ => true),
  fun K => (He.Fa.glo "_law_shown").ok K,
  fun K => (He.Fa.glo "_law_odd").ok K,
  fun K => excB K "InvalidSigns" "ValueError" "ValueError.__new__" "index",
  fun K => (He.Fa.str "LETTERS" (PySem.Str.ofString "abcdefghijklmnopqrstuvwxyz")).ok K,
  fun K => (He.Fa.str "FIGURES" (PySem.Str.ofString "01234567")).ok K,
  fun K => (He.Fa.free "all").ok K,
  fun K => (He.Fa.glo "is_letter").ok K,
  fun K => (He.Fa.glo "are_looks").ok K,
  fun K => (He.Fa.int "MOST_SIGNS" (6)).ok K,
  fun K => (He.Fa.glo "is_pair").ok K,
  fun K => (He.Fa.int "LEAST_SIGNS" (2)).ok K,
  fun K => (He.Fa.glo "check_signs").ok K,
  fun K => (He.Fa.cls "Line").ok K,
  fun K => (He.Fa.noat "Line" "lot").ok K,
  fun K => (He.Fa.glo "_law_any_line").ok K,
  fun K => (He.Fa.glo "_law_bent").ok K,
  fun K => (He.Fa.glo "_law_sign_slip").ok K,
  fun K => (He.Fa.mkr "Line").ok K,
  fun K => (He.Fa.glo "Line").ok K,
  fun K => (He.Fa.glo "_law_caught").ok K,
  fun K => propB K "Line" "signs",
  fun K => (He.Fa.free "abs").ok K,
  fun K => (He.Fa.free "min").ok K,
  fun K => (He.Fa.free "max").ok K,
  fun K => (He.Fa.glo "_law_jar").ok K,
  fun K => (He.Fa.glo "_law_right").ok K,
  fun K => (He.Fa.glo "law").ok K]
end W03
end
section
namespace W03
open PySem PySem.Spec PyProof.Rows L2 DL PP PA
def loose0 : List Str := ["_wall", "WrongValue", "InvalidText", "InvalidSigns", "WrongName", "NotPossible", "MOST_SIGNS", "LETTERS", "FIGURES", "LEAST_SIGNS", "is_letter", "are_looks", "is_pair", "check_signs", "line_told", "Line", "_law_jar", "_law_dip", "_law_pick", "_law_figs", "_law_glyphs", "_law_plain_line", "_law_ring_line", "_law_any_line", "_law_odd", "_law_bases", "_law_caught", "_law_are_figs", "_law_is_glyph", "_law_sign_slip"]
def loose1 : List Str := ["_law_shown", "_law_bent", "_law_right"]
def loose : List Str := loose0 ++ loose1
abbrev R : PySem.W.OpenRow := PySem.W.OpenLaw.row PySem.Challenge.rw_nevermixed_k03_whole_signs_refused
abbrev hk : PySem.W.Hook := hookZ 7 fs fn tf
def ob (s : PySem.W.SharedT) : AlZ := obsZ 7 fs fn tf (HandSHeadRun.getT s)
theorem ob_eq (s : PySem.W.SharedT) : ob s = hk.obs s.abs := obsZ_eq (HandSHeadRun.getT_eq s)
theorem run (w : World) : HandSHeadRun.RunEq R (PySem.W.view R.prog [36]) hk ob 4000 loose w := by
  intro os
  kernel_rfl
end W03
end
section
section
/-! DL: values as trees, mutable cells in a store, what an expression and a statement mean -/
namespace DL
open PySem PySem.Spec PyProof.Rows L2

/-- a value that never changes -/
inductive D where
  | non | bl (b : Bool) | int (i : Int) | str (s : List Nat)
  | tup (xs : List D) | lst (xs : List D) | dct (ks : List D) (vs : List D) | ins (c : Str) (ns : List Str) (vs : List D) | scr (ns : List Int) | exn (c : Str) (ns : List Str) (vs : List D)
/-- what a name holds: a value, a mutable cell, a thing of the module's top, a built-in type -/
inductive W where
  | d (x : D) | loc (n : Nat) | glo (x : Str) | ty (n : String)
inductive Cell where
  | lst (xs : List D) | dct (ks : List D) (vs : List D) | ins (c : Str) (ns : List Str) (vs : List D) | tab (q : Str)
abbrev Store := List Cell
abbrev Env := List (Option W)
/-- a raised error: its class by name, its attributes -/
structure Ex where
  cls : Str
  ns : List Str
  vs : List D
inductive R (α : Type) where
  | ok (a : α) (S : Store) | ex (x : Ex) (S : Store) | no
inductive Fl where
  | nx (ρ : Env) (S : Store) | rt (w : W) (S : Store) | bk (ρ : Env) (S : Store) | ct (ρ : Env) (S : Store) | ex (x : Ex) (ρ : Env) (S : Store) | no
def R.bind {α β : Type} (r : R α) (k : α → Store → R β) : R β := match r with
  | .ok a S => k a S
  | .ex x S => .ex x S
  | .no => .no

/-- a dict's key -/
def dkey : D → Option Key
  | .int i => some (.inl i)
  | .str s => some (.inr ⟨s.toArray⟩)
  | _ => none

/-- at a: an exception of the class C, its dict d -/
def ExV (a : Addr) (C : Value) (d : Option Addr) : HO := .ext fun h => ∃ (oe : Obj) (vs : Array Value), h.get? a = some oe ∧ oe.cls = C ∧ oe.dict = d ∧ oe.data = .fields vs
/-- the attributes of an exception -/
def ExD (G : Hp) (d : Option Addr) (fs : List (Str × V)) : Prop := (d = none ∧ fs = []) ∨ ∃ dd, d = some dd ∧ G dd = some (.xd fs)
theorem ExD.sub {G G' : Hp} {d : Option Addr} {fs : List (Str × V)} (s : ∀ a o, G a = some o → G' a = some o) : ExD G d fs → ExD G' d fs
  | .inl h => .inl h
  | .inr ⟨dd, e, h⟩ => .inr ⟨dd, e, s _ _ h⟩
mutual
/-- v stands for the tree d, over the part G of the heap that never changes -/
inductive Rep (K : Fg) (G : Hp) : V → D → Prop
  | non : Rep K G .non .non
  | bl (b : Bool) : Rep K G (.bl b) (.bl b)
  | int (i : Int) : Rep K G (.int i) (.int i)
  | str {l : List Nat} (h : l.length ≤ sizeLine) (h2 : ∀ c ∈ l, c < 1114112) : Rep K G (.str ⟨l.toArray⟩) (.str l)
  | tup {a : Addr} {vs : List V} {ds : List D} (h : SqT K G a vs) (r : Reps K G vs ds) (z : ds.length ≤ sizeLine) : Rep K G (.ref a) (.tup ds)
  | lst {a : Addr} {vs : List V} {ds : List D} (h : G a = some (.lst vs)) (r : Reps K G vs ds) (z : ds.length ≤ sizeLine) : Rep K G (.ref a) (.lst ds)
  | dct {a : Addr} {o : Obj} {kvs : List (Key × V)} {ks vs : List D} (h : G a = some (.frz o (.dK kvs))) (hk : ks.map dkey = kvs.map fun p => some p.1) (r : Reps K G (kvs.map (·.2)) vs) (z : ks.length ≤ sizeLine) (kr : Reps K G (kvs.map fun p => kV p.1) ks) : Rep K G (.ref a) (.dct ks vs)
  | ins {a dx : Addr} {c : Str} {ns : List Str} {fs : List (Str × V)} {vs : List D} (h : G a = some (.ins (He.ga K c) dx fs)) (hn : fs.map (·.1) = ns) (r : Reps K G (fs.map (·.2)) vs) : Rep K G (.ref a) (.ins c ns vs)
  | scr {a : Addr} {ns : List Int} (h : SqL K G a (ns.map V.int)) (z : ns.length ≤ 63) : Rep K G (.ref a) (.scr ns)
  | exn {a : Addr} {d : Option Addr} {c : Str} {ns : List Str} {fs : List (Str × V)} {vs : List D} (h : G a = some (ExV a (.ref (He.ga K c)) d)) (hd : ExD G d fs) (hn : fs.map (·.1) = ns) (r : Reps K G (fs.map (·.2)) vs) : Rep K G (.ref a) (.exn c ns vs)
inductive Reps (K : Fg) (G : Hp) : List V → List D → Prop
  | nil : Reps K G [] []
  | cons {v : V} {vs : List V} {d : D} {ds : List D} (h : Rep K G v d) (t : Reps K G vs ds) : Reps K G (v :: vs) (d :: ds)
end

/-! ### growth -/
def Sub (G G' : Hp) : Prop := ∀ a o, G a = some o → G' a = some o
theorem Sub.refl (G : Hp) : Sub G G := fun _ _ h => h
theorem Sub.trans {A B C : Hp} (x : Sub A B) (y : Sub B C) : Sub A C := fun a o h => y a o (x a o h)
theorem Sub.upd {G : Hp} {p : Addr} {o : HO} (h : G p = none) : Sub G (upd G p o) := fun a u e => by
  rw [upd_ne (ne_of_none e h)]; exact e
theorem rd_sub {G G' : Hp} {a : Addr} {u : HO} (s : Sub G G') : Rd G a u → Rd G' a u
  | .inl h => .inl (s _ _ h)
  | .inr ⟨o, h⟩ => .inr ⟨o, s _ _ h⟩
theorem sqL_sub {K : Fg} {G G' : Hp} {a : Addr} {vs : List V} (s : Sub G G') (h : SqL K G a vs) : SqL K G' a vs := h.imp (rd_sub s) id
theorem sqT_sub {K : Fg} {G G' : Hp} {a : Addr} {vs : List V} (s : Sub G G') (h : SqT K G a vs) : SqT K G' a vs := h.imp (rd_sub s) id

mutual
theorem Rep.sub {K : Fg} {G G' : Hp} (s : Sub G G') : ∀ (d : D) (v : V), Rep K G v d → Rep K G' v d
  | .non, _, h => by cases h; exact .non
  | .bl b, _, h => by cases h; exact .bl b
  | .int i, _, h => by cases h; exact .int i
  | .str l, _, h => by cases h with | str h h2 => exact .str h h2
  | .tup ds, _, h => by cases h with | tup h r z => exact .tup (sqT_sub s h) (Reps.sub s ds _ r) z
  | .lst ds, _, h => by cases h with | lst h r z => exact .lst (s _ _ h) (Reps.sub s ds _ r) z
  | .dct ks vs, _, h => by cases h with | dct h hk r z kr => exact .dct (s _ _ h) hk (Reps.sub s vs _ r) z (Reps.sub s ks _ kr)
  | .ins c ns vs, _, h => by cases h with | ins h hn r => exact .ins (s _ _ h) hn (Reps.sub s vs _ r)
  | .scr ns, _, h => by cases h with | scr h z => exact .scr (sqL_sub s h) z
  | .exn c ns vs, _, h => by cases h with | exn h hd hn r => exact .exn (s _ _ h) (hd.sub s) hn (Reps.sub s vs _ r)
theorem Reps.sub {K : Fg} {G G' : Hp} (s : Sub G G') : ∀ (ds : List D) (vs : List V), Reps K G vs ds → Reps K G' vs ds
  | [], _, h => by cases h; exact .nil
  | d :: ds, _, h => by cases h with | cons h t => exact .cons (Rep.sub s d _ h) (Reps.sub s ds _ t)
end
theorem Reps.length {K : Fg} {G : Hp} : ∀ {vs : List V} {ds : List D}, Reps K G vs ds → vs.length = ds.length
  | _, _, .nil => rfl
  | _, _, .cons _ t => by rw [List.length_cons, List.length_cons, Reps.length t]
theorem Reps.get {K : Fg} {G : Hp} : ∀ {vs : List V} {ds : List D} {i : Nat} {d : D}, Reps K G vs ds → ds[i]? = some d → ∃ v, vs[i]? = some v ∧ Rep K G v d
  | _, _, i, _, .nil, h => by simp at h
  | _, _, 0, _, .cons h t, e => by simp at e; subst e; exact ⟨_, rfl, h⟩
  | _, _, i + 1, _, .cons h t, e => by
    obtain ⟨v, h1, h2⟩ := Reps.get (i := i) t (by simpa using e)
    exact ⟨v, by simpa using h1, h2⟩
theorem Reps.getV {K : Fg} {G : Hp} : ∀ {vs : List V} {ds : List D} {i : Nat} {v : V}, Reps K G vs ds → vs[i]? = some v → ∃ d, ds[i]? = some d ∧ Rep K G v d
  | _, _, i, _, .nil, h => by simp at h
  | _, _, 0, _, .cons h t, e => by simp at e; subst e; exact ⟨_, rfl, h⟩
  | _, _, i + 1, _, .cons h t, e => by
    obtain ⟨v, h1, h2⟩ := Reps.getV (i := i) t (by simpa using e)
    exact ⟨v, by simpa using h1, h2⟩
theorem Reps.append {K : Fg} {G : Hp} : ∀ {vs us : List V} {ds es : List D}, Reps K G vs ds → Reps K G us es → Reps K G (vs ++ us) (ds ++ es)
  | _, _, _, _, .nil, t => t
  | _, _, _, _, .cons h r, t => .cons h (Reps.append r t)
theorem Reps.take {K : Fg} {G : Hp} : ∀ {vs : List V} {ds : List D} (n : Nat), Reps K G vs ds → Reps K G (vs.take n) (ds.take n)
  | _, _, 0, _ => .nil
  | _, _, _ + 1, .nil => .nil
  | _, _, n + 1, .cons h r => .cons h (Reps.take n r)
theorem Reps.drop {K : Fg} {G : Hp} : ∀ {vs : List V} {ds : List D} (n : Nat), Reps K G vs ds → Reps K G (vs.drop n) (ds.drop n)
  | _, _, 0, h => h
  | _, _, _ + 1, .nil => .nil
  | _, _, n + 1, .cons h r => Reps.drop n r
theorem Reps.set {K : Fg} {G : Hp} {v : V} {d : D} (q : Rep K G v d) : ∀ {vs : List V} {ds : List D} (n : Nat), Reps K G vs ds → Reps K G (vs.set n v) (ds.set n d)
  | _, _, _, .nil => .nil
  | _, _, 0, .cons h r => .cons q r
  | _, _, n + 1, .cons h r => .cons h (Reps.set q n r)

/-! ### names and cells -/
inductive RepW (K : Fg) (G : Hp) (c : List Addr) : V → W → Prop
  | d {v : V} {x : D} (h : Rep K G v x) : RepW K G c v (.d x)
  | loc {n : Nat} {a : Addr} (h : c[n]? = some a) : RepW K G c (.ref a) (.loc n)
  | glo {x : Str} : RepW K G c (.ref (He.ga K x)) (.glo x)
  | ty {n : String} : RepW K G c (.ty n) (.ty n)
abbrev RepWs (K : Fg) (G : Hp) (c : List Addr) : List V → List W → Prop := Paired (RepW K G c)
def lamQ (x : Str) : Str := x ++ ".<locals>." ++ "<lambda>"
inductive CellAt (K : Fg) (G : Hp) (c : List Addr) (H : Hp) (a : Addr) : Cell → Prop
  | lst {vs : List V} {ds : List D} (h : H a = some (.lst vs)) (r : Reps K G vs ds) (z : ds.length ≤ sizeLine) : CellAt K G c H a (.lst ds)
  | dct {kvs : List (Key × V)} {ks vs : List D} (h : H a = some (.dK kvs)) (hk : ks.map dkey = kvs.map fun p => some p.1) (r : Reps K G (kvs.map (·.2)) vs) (z : ks.length ≤ sizeLine) (kr : Reps K G (kvs.map fun p => kV p.1) ks) : CellAt K G c H a (.dct ks vs)
  | ins {dx : Addr} {cn : Str} {ns : List Str} {fs : List (Str × V)} {vs : List D} (h : H a = some (.ins (He.ga K cn) dx fs)) (hn : fs.map (·.1) = ns) (r : Reps K G (fs.map (·.2)) vs) (z : ns.length < 100) : CellAt K G c H a (.ins cn ns vs)
  | tab {q : Str} {ps : Array Value} (h : H a = some (.tbl ps)) (t : TriplesOk ps.toList) (k : ∀ (pos : Pos) (cv : Value), codeAmong pos ps.toList = some cv → ∃ c1, cv = .ref c1 ∧ G c1 = some (LamX.CodeO c1 (lamQ q))) (e0 : a = tabA K q) : CellAt K G c H a (.tab q)
structure Good (K : Fg) (G : Hp) (c : List Addr) (S : Store) (H : Hp) : Prop where
  sub : Sub G H
  len : c.length = S.length
  nd : c.Nodup
  cell : ∀ (n : Nat) (a : Addr), c[n]? = some a → G a = none ∧ ∃ x, S[n]? = some x ∧ CellAt K G c H a x
structure Ev (G : Hp) (c : List Addr) (H : Hp) (G' : Hp) (c' : List Addr) (H' : Hp) : Prop where
  gg : Sub G G'
  cc : c <+: c'
  fr : ∀ a o, H a = some o → a ∉ c → H' a = some o
  nw : ∀ a o, H a = some o → G a = none → G' a = none
  nc : ∀ a ∈ c', a ∈ c ∨ H a = none
  th : ∀ a o, H a = some o → ∃ o', H' a = some o'
theorem Ev.refl (G : Hp) (c : List Addr) (H : Hp) : Ev G c H G c H := ⟨.refl _, List.prefix_refl _, fun _ _ h _ => h, fun _ _ _ h => h, fun _ h => .inl h, fun _ o h => ⟨o, h⟩⟩
theorem Ev.trans {G c H G1 c1 H1 G2 c2 H2} (x : Ev G c H G1 c1 H1) (y : Ev G1 c1 H1 G2 c2 H2) : Ev G c H G2 c2 H2 where
  gg := x.gg.trans y.gg
  cc := x.cc.trans y.cc
  fr := fun a o h n => by
    refine y.fr a o (x.fr a o h n) fun h1 => ?_
    rcases x.nc a h1 with q | q
    · exact n q
    · rw [h] at q; cases q
  nw := fun a o h n => by
    obtain ⟨o', h'⟩ := x.th a o h
    exact y.nw a o' h' (x.nw a o h n)
  nc := fun a h => by
    rcases y.nc a h with q | q
    · exact x.nc a q
    · refine .inr ?_
      cases e : H a with
      | none => rfl
      | some o =>
        obtain ⟨o', h'⟩ := x.th a o e
        rw [h'] at q; cases q
  th := fun a o h => by
    obtain ⟨o', h'⟩ := x.th a o h
    exact y.th a o' h'
theorem pre_get {α : Type} {c c' : List α} (h : c <+: c') {n : Nat} {a : α} (e : c[n]? = some a) : c'[n]? = some a := by
  obtain ⟨t, rfl⟩ := h
  have hn : n < c.length := (List.getElem?_eq_some_iff.mp e).1
  rw [List.getElem?_append_left hn]; exact e
theorem RepW.ev {K : Fg} {G G' : Hp} {c c' : List Addr} {v : V} {w : W} (g : Sub G G') (p : c <+: c') (h : RepW K G c v w) : RepW K G' c' v w := by
  cases h with
  | d h => exact .d (Rep.sub g _ _ h)
  | loc h => exact .loc (pre_get p h)
  | glo => exact .glo
  | ty => exact .ty
theorem RepWs.ev {K : Fg} {G G' : Hp} {c c' : List Addr} {vs : List V} {ws : List W} (g : Sub G G') (p : c <+: c') (h : RepWs K G c vs ws) : RepWs K G' c' vs ws := Paired.mapP h fun _ _ => RepW.ev g p
/-- the slots -/
structure RepE (K : Fg) (G : Hp) (c : List Addr) (σ : L2.St) (ρ : Env) : Prop where
  len : σ.length = ρ.length
  get : ∀ (i : Nat) (w : W), ρ[i]? = some (some w) → ∃ v, σ[i]? = some (some v) ∧ RepW K G c v w
theorem RepE.ev {K : Fg} {G G' : Hp} {c c' : List Addr} {σ : L2.St} {ρ : Env} (g : Sub G G') (p : c <+: c') (h : RepE K G c σ ρ) : RepE K G' c' σ ρ := ⟨h.len, fun i w e => by
  obtain ⟨v, e1, r⟩ := h.get i w e
  exact ⟨v, e1, r.ev g p⟩⟩
theorem RepE.set {K : Fg} {G : Hp} {c : List Addr} {σ : L2.St} {ρ : Env} {i : Nat} {v : V} {w : W} (h : RepE K G c σ ρ) (r : RepW K G c v w) : RepE K G c (σ.set i (some v)) (ρ.set i (some w)) := by
  refine ⟨by simp [h.len], fun j u e => ?_⟩
  by_cases hj : i = j
  · subst hj
    by_cases hl : i < ρ.length
    · rw [List.getElem?_set_self hl] at e
      have e' : w = u := by simpa using e
      subst e'
      exact ⟨v, by rw [List.getElem?_set_self (by rw [h.len]; exact hl)], r⟩
    · rw [List.getElem?_eq_none (by simpa using hl)] at e; cases e
  · rw [List.getElem?_set_ne hj] at e
    obtain ⟨v', e1, r1⟩ := h.get j u e
    exact ⟨v', by rw [List.getElem?_set_ne hj]; exact e1, r1⟩

/-- an error's own dict -/
def RepX (K : Fg) (G : Hp) (H : Hp) (x : Ex) (cls : Value) (dx : Option Addr) : Prop :=
  cls = .ref (He.ga K x.cls) ∧ ∃ fs, ExD G dx fs ∧ fs.map (·.1) = x.ns ∧ Reps K G (fs.map (·.2)) x.vs

/-- what is wanted behind a run that means r -/
def Wants {α β : Type} (K : Fg) (Z : WX) (σ : L2.St) (rel : Hp → List Addr → β → α → Prop) (G : Hp) (c : List Addr) (H : Hp) (r : R α) (Q : β → Hp → Prop) : Prop := match r with
  | .ok a S' => ∀ G' c' H' b, Ev G c H G' c' H' → Good K G' c' S' H' → rel G' c' b a → Q b H'
  | .ex x S' => ∀ G' c' H' cls dx, Ev G c H G' c' H' → Good K G' c' S' H' → RepX K G' H' x cls dx → Z cls dx σ H'
  | .no => False
abbrev FE := Env → Store → R W
abbrev FL := Env → Store → R (List W)
abbrev FB := Env → Store → R Bool
abbrev FS := Env → Store → Fl
def Ref (K : Fg) (Z : WX) (t : TE) (f : FE) : Prop := ∀ ρ S σ H G c Q, Good K G c S H → RepE K G c σ ρ → Wants K Z σ (RepW K) G c H (f ρ S) Q → t σ H Q
def RefL (K : Fg) (Z : WX) (t : TA) (f : FL) : Prop := ∀ ρ S σ H G c Q, Good K G c S H → RepE K G c σ ρ → Wants K Z σ (RepWs K) G c H (f ρ S) Q → t σ H Q
def RefB (K : Fg) (Z : WX) (t : TT) (f : FB) : Prop := ∀ ρ S σ H G c Q, Good K G c S H → RepE K G c σ ρ → Wants K Z σ (fun _ _ (b : Bool) a => b = a) G c H (f ρ S) Q → t σ H Q
def WantsS (K : Fg) (Z : WX) (G : Hp) (c : List Addr) (H : Hp) (r : Fl) (D : Ends) : Prop := match r with
  | .nx ρ' S' => ∀ G' c' H' σ', Ev G c H G' c' H' → Good K G' c' S' H' → RepE K G' c' σ' ρ' → D.nx σ' H'
  | .bk ρ' S' => ∀ G' c' H' σ', Ev G c H G' c' H' → Good K G' c' S' H' → RepE K G' c' σ' ρ' → D.bk σ' H'
  | .ct ρ' S' => ∀ G' c' H' σ', Ev G c H G' c' H' → Good K G' c' S' H' → RepE K G' c' σ' ρ' → D.ct σ' H'
  | .rt w S' => ∀ G' c' H' v, Ev G c H G' c' H' → Good K G' c' S' H' → RepW K G' c' v w → D.rt v H'
  | .ex x ρ' S' => ∀ G' c' H' σ' cls dx, Ev G c H G' c' H' → Good K G' c' S' H' → RepE K G' c' σ' ρ' → RepX K G' H' x cls dx → Z cls dx σ' H'
  | .no => False
def RefS (K : Fg) (Z : WX) (t : TS) (f : FS) : Prop := ∀ ρ S σ H G c D, Good K G c S H → RepE K G c σ ρ → WantsS K Z G c H (f ρ S) D → t D σ H

/-- the judgements -/
def DE (X : Cx) (Z : WX) (e : Expr) (f : FE) : Prop := ∃ t, PE X e t ∧ Ref X.K Z t f
def DA (X : Cx) (Z : WX) (es : List Expr) (f : FL) : Prop := ∃ t, PA X es t ∧ RefL X.K Z t f
def DT (X : Cx) (Z : WX) (e : Expr) (f : FB) : Prop := ∃ t, PT X e t ∧ RefB X.K Z t f
def DS (X : Cx) (Z : WX) (s : Stmt) (f : FS) : Prop := ∃ t, PS X s t ∧ RefS X.K Z t f
def DSs (X : Cx) (Z : WX) (s : List Stmt) (f : FS) : Prop := ∃ t, PSs X s t ∧ RefS X.K Z t f

theorem Wants.step {α β γ δ : Type} {K : Fg} {Z : WX} {σ : L2.St} {rel : Hp → List Addr → β → α → Prop} {rel' : Hp → List Addr → δ → γ → Prop} {G c H} {r : R α} {k : α → Store → R γ} {Q : δ → Hp → Prop} {P : β → Hp → Prop}
    (h : Wants K Z σ rel' G c H (r.bind k) Q)
    (f : ∀ a S' G' c' H' b, Ev G c H G' c' H' → Good K G' c' S' H' → rel G' c' b a → Wants K Z σ rel' G' c' H' (k a S') Q → P b H') : Wants K Z σ rel G c H r P := by
  cases r with
  | ok a S =>
    intro G' c' H' b e g q
    refine f a S G' c' H' b e g q ?_
    have h : Wants K Z σ rel' G c H (k a S) Q := h
    revert h
    cases k a S with
    | ok a2 S2 => exact fun h G2 c2 H2 b2 e2 => h G2 c2 H2 b2 (e.trans e2)
    | ex x S2 => exact fun h G2 c2 H2 cls dx e2 => h G2 c2 H2 cls dx (e.trans e2)
    | no => exact fun h => h
  | ex x S => exact h
  | no => exact h
theorem Wants.stepS {α β : Type} {K : Fg} {Z : WX} {σ : L2.St} {rel : Hp → List Addr → β → α → Prop} {G c H} {r : R α} {ρ : Env} {k : α → Store → Fl} {D : Ends} {P : β → Hp → Prop} (he : RepE K G c σ ρ)
    (h : WantsS K Z G c H (match r with | .ok a S => k a S | .ex x S => .ex x ρ S | .no => .no) D)
    (f : ∀ a S' G' c' H' b, Ev G c H G' c' H' → Good K G' c' S' H' → rel G' c' b a → WantsS K Z G' c' H' (k a S') D → P b H') : Wants K Z σ rel G c H r P := by
  cases r with
  | ok a S =>
    intro G' c' H' b e g q
    refine f a S G' c' H' b e g q ?_
    have h : WantsS K Z G c H (k a S) D := h
    revert h
    cases k a S with
    | nx _ _ => exact fun h G2 c2 H2 b2 e2 => h G2 c2 H2 b2 (e.trans e2)
    | bk _ _ => exact fun h G2 c2 H2 b2 e2 => h G2 c2 H2 b2 (e.trans e2)
    | ct _ _ => exact fun h G2 c2 H2 b2 e2 => h G2 c2 H2 b2 (e.trans e2)
    | rt _ _ => exact fun h G2 c2 H2 b2 e2 => h G2 c2 H2 b2 (e.trans e2)
    | ex _ _ _ => exact fun h G2 c2 H2 s2 cls dx e2 => h G2 c2 H2 s2 cls dx (e.trans e2)
    | no => exact fun h => h
  | ex x S => exact fun G' c' H' cls dx e g q => h G' c' H' σ cls dx e g (he.ev e.gg e.cc) q
  | no => exact h
end DL
end
section
/-! DL, 2: names, constants, operators, displays, tests, subscripts -/
namespace DL
open PySem PySem.Spec PyProof.Rows L2
section
variable {K : Fg} {G G' H H' : Hp} {c c' : List Addr} {S : Store}
theorem CellAt.ev {a : Addr} {x : Cell} (s : Sub G G') (p : c <+: c') (e : H' a = H a) (h : CellAt K G c H a x) : CellAt K G' c' H' a x := by
  cases h with
  | lst h r z => exact .lst (e.trans h) (Reps.sub s _ _ r) z
  | dct h hk r z kr => exact .dct (e.trans h) hk (Reps.sub s _ _ r) z (Reps.sub s _ _ kr)
  | ins h hn r z => exact .ins (e.trans h) hn (Reps.sub s _ _ r) z
  | tab h t k e0 => exact .tab (e.trans h) t (fun pos cv q => let ⟨c1, a1, b1⟩ := k pos cv q; ⟨c1, a1, s _ _ b1⟩) e0
theorem CellAt.some {a : Addr} {x : Cell} (h : CellAt K G c H a x) : ∃ o, H a = some o := by
  cases h with
  | lst h r z => exact ⟨_, h⟩
  | dct h hk r z kr => exact ⟨_, h⟩
  | ins h hn r z => exact ⟨_, h⟩
  | tab h t k e0 => exact ⟨_, h⟩
theorem Good.free (g : Good K G c S H) {p : Addr} (hp : H p = none) : G p = none := by
  cases e : G p with
  | none => rfl
  | some o => rw [g.sub p o e] at hp; cases hp
/-- a new object that stays as it is -/
theorem Good.new (g : Good K G c S H) {p : Addr} (hp : H p = none) (o : HO) : Ev G c H (upd G p o) c (upd H p o) ∧ Good K (upd G p o) c S (upd H p o) := by
  have gp := g.free hp
  refine ⟨⟨Sub.upd gp, List.prefix_refl _, fun a u h _ => ?_, fun a u h n => ?_, fun a h => .inl h, fun a u h => ⟨u, ?_⟩⟩, ⟨fun a u e => ?_, g.len, g.nd, fun n a e => ?_⟩⟩
  · rw [upd_ne (ne_of_none h hp)]; exact h
  · rw [upd_ne (ne_of_none h hp)]; exact n
  · rw [upd_ne (ne_of_none h hp)]; exact h
  · by_cases ha : a = p
    · subst ha; rw [upd_same] at e ⊢; exact e
    · rw [upd_ne ha] at e ⊢; exact g.sub a u e
  · obtain ⟨ga, x, hx, ca⟩ := g.cell n a e
    obtain ⟨o', ho⟩ := ca.some
    have ne := ne_of_none ho hp
    exact ⟨by rw [upd_ne ne]; exact ga, x, hx, ca.ev (Sub.upd gp) (List.prefix_refl _) (upd_ne ne)⟩
theorem Good.seqT (g : Good K G c S H) {a : Addr} {vs : List V} (h : SqT K G a vs) : SqT K H a vs := sqT_sub g.sub h
end

/-! ### names, constants -/
section
variable {X : Cx} {Z : WX}
def fVar (i : Nat) : FE := fun ρ S => match ρ[i]? with
  | some (some w) => .ok w S
  | _ => .no
def fK (w : W) : FE := fun _ S => .ok w S
theorem ref_var {K : Fg} (i : Nat) : Ref K Z (tVar i) (fVar i) := by
  intro ρ S σ H G c Q g re h
  unfold fVar at h
  cases e : ρ[i]? with
  | none => rw [e] at h; exact h.elim
  | some o =>
    rw [e] at h
    cases o with
    | none => exact h.elim
    | some w =>
      obtain ⟨v, e1, r⟩ := re.get i w e
      exact ⟨v, e1, h G c H v (.refl ..) g r⟩
theorem ref_const {K : Fg} {v : V} {w : W} (r : ∀ G c, RepW K G c v w) : Ref K Z (tC v) (fK w) := fun ρ S σ H G c Q g re h => h G c H v (.refl ..) g (r G c)
/-- the name that stands in the i-th slot -/
theorem de_var (i : Nat) {x : Str} {pos : Pos} (hN : X.N[i]? = some x := by rfl) (hv : Vis X.env.scope x := by first | exact Or.inl rfl | exact Or.inr (Or.inl rfl) | exact Or.inr (Or.inr rfl)) (hd : (x == ("__debug__" : Str)) = false := by decide)
    (hcd : (x == ("__classdict__" : Str)) = false := by decide) : DE X Z (.Name x pos) (fVar i) := ⟨_, pe_var hN hv hd hcd, ref_var i⟩
theorem de_int {i j pos} : DE X Z (.Constant (.int i) j pos) (fK (.d (.int i))) := ⟨_, pe_int, ref_const fun _ _ => .d (.int i)⟩
theorem de_bl {b j pos} : DE X Z (.Constant (.bool b) j pos) (fK (.d (.bl b))) := ⟨_, pe_bl, ref_const fun _ _ => .d (.bl b)⟩
theorem de_non {j pos} : DE X Z (.Constant .none j pos) (fK (.d .non)) := ⟨_, pe_non, ref_const fun _ _ => .d .non⟩
/-- a text's signs, written out -/
def strC (x : Str) (l : List Nat) : Bool := decide (x = ⟨l.toArray⟩) && (decide (l.length ≤ 100000) && l.all fun c => decide (c < 1114112))
theorem rep_strC {K : Fg} {G : Hp} {x : Str} {l : List Nat} (h : strC x l = true) : Rep K G (.str x) (.str l) := by
  unfold strC at h
  rw [Bool.and_eq_true, Bool.and_eq_true] at h
  obtain ⟨h1, h2, h3⟩ := h
  rw [of_decide_eq_true h1]
  refine .str (Nat.le_trans (of_decide_eq_true h2) (by decide)) fun c hc => of_decide_eq_true (List.all_eq_true.mp h3 c hc)
theorem de_str (l : List Nat) {x j pos} (h : strC x l = true := by decide +kernel) : DE X Z (.Constant (.str x) j pos) (fK (.d (.str l))) := ⟨_, pe_str, ref_const fun _ _ => .d (rep_strC h)⟩
theorem de_glob {x : Str} {v : V} {u : Value} {w : W} {pos : Pos} (hg : Gl X x) (hm : X.mg x = some u) (r : RelV v u) (rw : ∀ G c, RepW X.K G c v w) (hd : (x == ("__debug__" : Str)) = false := by decide) : DE X Z (.Name x pos) (fK w) :=
  ⟨_, pe_glob hg hm r hd, ref_const rw⟩
theorem de_globI {x : Str} {i : Int} {pos : Pos} (hm : ∃ t, X.mg x = some (.int i t)) (hg : Gl X x := by rfl) (hd : (x == ("__debug__" : Str)) = false := by decide) : DE X Z (.Name x pos) (fK (.d (.int i))) :=
  let ⟨t, h⟩ := hm; de_glob (v := .int i) hg h ⟨t, rfl⟩ (fun _ _ => .d (.int i)) hd
theorem de_globS (l : List Nat) {x z : Str} {pos : Pos} (hm : ∃ t, X.mg x = some (.str z t)) (h : strC z l = true := by decide +kernel) (hg : Gl X x := by rfl) (hd : (x == ("__debug__" : Str)) = false := by decide) : DE X Z (.Name x pos) (fK (.d (.str l))) :=
  let ⟨t, e⟩ := hm; de_glob (v := .str z) hg e ⟨t, rfl⟩ (fun _ _ => .d (rep_strC h)) hd
/-- a class, a def of the module, as a value -/
theorem de_globR {x : Str} {pos : Pos} (hm : X.mg x = some (.ref (He.ga X.K x))) (hg : Gl X x := by rfl) (hd : (x == ("__debug__" : Str)) = false := by decide) : DE X Z (.Name x pos) (fK (.glo x)) := de_glob hg hm (v := .ref _) rfl (fun _ _ => .glo) hd
theorem de_ty {x : Str} {n : String} {pos : Pos} (hm : X.mg x = none) (hv : bootBuiltins x = some (.type n) := by decide +kernel) (hg : Gl X x := by rfl) (hn : x ≠ "__name__" := by decide) (hd : (x == ("__debug__" : Str)) = false := by decide) : DE X Z (.Name x pos) (fK (.ty n)) :=
  ⟨_, pe_bltn (v := .ty n) hg hm hv rfl hn hd, ref_const fun _ _ => .ty⟩

/-! ### a value as it is read: a cell's content too -/
inductive RepT (K : Fg) (G H : Hp) : V → D → Prop
  | of {v : V} {d : D} (h : Rep K G v d) : RepT K G H v d
  | lst {a : Addr} {vs : List V} {ds : List D} (h : H a = some (.lst vs)) (r : Reps K G vs ds) (z : ds.length ≤ sizeLine) : RepT K G H (.ref a) (.lst ds)
  | dct {a : Addr} {kvs : List (Key × V)} {ks vs : List D} (h : H a = some (.dK kvs)) (hk : ks.map dkey = kvs.map fun p => some p.1) (r : Reps K G (kvs.map (·.2)) vs) (z : ks.length ≤ sizeLine) (kr : Reps K G (kvs.map fun p => kV p.1) ks) : RepT K G H (.ref a) (.dct ks vs)
def val (w : W) (S : Store) : Option D := match w with
  | .d x => some x
  | .loc n => (match S[n]? with
    | some (.lst ds) => some (.lst ds)
    | some (.dct ks vs) => some (.dct ks vs)
    | _ => none)
  | _ => none
theorem val_rep {K : Fg} {G c S H} {v : V} {w : W} {d : D} (g : Good K G c S H) (r : RepW K G c v w) (h : val w S = some d) : RepT K G H v d := by
  cases r with
  | d r => cases h; exact .of r
  | loc hn =>
    obtain ⟨gn, x, hx, ca⟩ := g.cell _ _ hn
    unfold val at h
    dsimp only at h
    rw [hx] at h
    cases ca with
    | lst h1 q z => cases h; exact .lst h1 q z
    | dct h1 hk q z kr => cases h; exact .dct h1 hk q z kr
    | ins h1 hn q z => cases h
    | tab h1 t k e0 => cases h
  | glo => cases h
  | ty => cases h
theorem RepT.lst' {K : Fg} {G H : Hp} {v : V} {ds : List D} (s : Sub G H) (h : RepT K G H v (.lst ds)) : ∃ a vs, v = .ref a ∧ H a = some (.lst vs) ∧ Reps K G vs ds ∧ ds.length ≤ sizeLine := by
  cases h with
  | of h => cases h with | lst h r z => exact ⟨_, _, rfl, s _ _ h, r, z⟩
  | lst h r z => exact ⟨_, _, rfl, h, r, z⟩
theorem RepT.dct' {K : Fg} {G H : Hp} {v : V} {ks vs : List D} (s : Sub G H) (h : RepT K G H v (.dct ks vs)) : ∃ a kvs, v = .ref a ∧ Rd H a (.dK kvs) ∧ ks.map dkey = (kvs.map fun p => some p.1) ∧ Reps K G (kvs.map (·.2)) vs ∧ ks.length ≤ sizeLine := by
  cases h with
  | of h => cases h with | dct h hk r z kr => exact ⟨_, _, rfl, .inr ⟨_, s _ _ h⟩, hk, r, z⟩
  | dct h hk r z kr => exact ⟨_, _, rfl, .inl h, hk, r, z⟩
def isDct : D → Bool
  | .dct _ _ => true
  | _ => false
theorem RepT.in {K : Fg} {G H : Hp} {v : V} {d : D} (s : Sub G H) (h : RepT K G H v d) (hd : isDct d = false) : Rep K H v d := by
  cases h with
  | of h => exact Rep.sub s _ _ h
  | lst h r z => exact .lst h (Reps.sub s _ _ r) z
  | dct h hk r z kr => cases hd
def gV (g : D → D → Store → R W) : W → W → Store → R W := fun w1 w2 S => match val w1 S, val w2 S with
  | some x, some y => g x y S
  | _, _ => .no

/-! ### two operands -/
def OpRef (K : Fg) (Z : WX) (r : R2) (g : W → W → Store → R W) : Prop := ∀ σ G c S H x y w1 w2 Q, Good K G c S H → RepW K G c x w1 → RepW K G c y w2 → Wants K Z σ (RepW K) G c H (g w1 w2 S) Q → r x y H Q
def OpRefD (K : Fg) (Z : WX) (r : R2) (g : D → D → Store → R W) : Prop := ∀ σ G c S H x y d1 d2 Q, Good K G c S H → RepT K G H x d1 → RepT K G H y d2 → Wants K Z σ (RepW K) G c H (g d1 d2 S) Q → r x y H Q
theorem OpRefD.w {K : Fg} {r : R2} {g : D → D → Store → R W} (h : OpRefD K Z r g) : OpRef K Z r (gV g) := by
  intro σ G c S H x y w1 w2 Q gd r1 r2 q
  unfold gV at q
  split at q
  · rename_i a b e1 e2
    exact h σ G c S H x y a b Q gd (val_rep gd r1 e1) (val_rep gd r2 e2) q
  · exact q.elim
def fBin (g : W → W → Store → R W) (fa fb : FE) : FE := fun ρ S => (fa ρ S).bind fun a S1 => (fb ρ S1).bind fun b S2 => g a b S2
theorem ref_bin {K : Fg} {r : R2} {g : W → W → Store → R W} {ta tb : TE} {fa fb : FE} (hr : OpRef K Z r g) (ha : Ref K Z ta fa) (hb : Ref K Z tb fb) : Ref K Z (tOp r ta tb) (fBin g fa fb) := by
  intro ρ S σ H G c Q gd re h
  refine ha ρ S σ H G c _ gd re (Wants.step h fun a S1 G1 c1 H1 x e1 g1 rx h1 => ?_)
  refine hb ρ S1 σ H1 G1 c1 _ g1 (re.ev e1.gg e1.cc) (Wants.step h1 fun b S2 G2 c2 H2 y e2 g2 ry h2 => ?_)
  exact hr σ G2 c2 S2 H2 x y a b Q g2 (rx.ev e2.gg e2.cc) ry h2
variable {a b : Expr} {fa fb : FE} {pos : Pos}
theorem de_bin {op : Operator} {r : R2} {g : W → W → Store → R W} (ho : OpR X (binaryOp op) r) (hr : OpRef X.K Z r g) (ha : DE X Z a fa) (hb : DE X Z b fb) : DE X Z (.BinOp a op b pos) (fBin g fa fb) :=
  let ⟨_, p1, q1⟩ := ha; let ⟨_, p2, q2⟩ := hb; ⟨_, pe_op ho p1 p2, ref_bin hr q1 q2⟩
theorem de_cmp {op : CmpOp} {r : R2} {g : W → W → Store → R W} (ho : OpR X (compareOp op) r) (hr : OpRef X.K Z r g) (ha : DE X Z a fa) (hb : DE X Z b fb) (hm : behindInMarks op b = false) : DE X Z (.Compare a [op] [b] pos) (fBin g fa fb) :=
  let ⟨_, p1, q1⟩ := ha; let ⟨_, p2, q2⟩ := hb; ⟨_, pe_cmpR ho p1 p2 hm, ref_bin hr q1 q2⟩
/-- an outcome that is no new object -/
theorem Wants.ret {σ : L2.St} {K : Fg} {G c S H} {w : W} {v : V} {Q : VK} (g : Good K G c S H) (h : Wants K Z σ (RepW K) G c H (.ok w S) Q) (r : RepW K G c v w) : Q v H := h G c H v (.refl ..) g r
theorem Wants.retNew {σ : L2.St} {K : Fg} {G c S H} {w : W} {p : Addr} {o : HO} {Q : VK} (g : Good K G c S H) (h : Wants K Z σ (RepW K) G c H (.ok w S) Q) (hp : H p = none) (r : RepW K (upd G p o) c (.ref p) w) : Q (.ref p) (upd H p o) :=
  let n := g.new hp o; h _ _ _ _ n.1 n.2 r

def lenOk (n : Nat) : Bool := decide (n ≤ sizeLine)
/-- a + b -/
def gAddD : D → D → Store → R W
  | .int i, .int j, S => .ok (.d (.int (i + j))) S
  | .str x, .str y, S => if lenOk (x.length + y.length) then .ok (.d (.str (x ++ y))) S else .no
  | .lst x, .lst y, S => if lenOk (x.length + y.length) then .ok (.d (.lst (x ++ y))) S else .no
  | .tup x, .tup y, S => if lenOk (x.length + y.length) then .ok (.d (.tup (x ++ y))) S else .no
  | _, _, _ => .no
abbrev gAdd := gV gAddD
def rAddA (K : Fg) : R2 := fun x y H Q => (∃ i j, x = .int i ∧ y = .int j ∧ Q (.int (i + j)) H) ∨ (∃ i j, x = .str i ∧ y = .str j ∧ i.length + j.length ≤ sizeLine ∧ Q (.str (i ++ j)) H) ∨ rCat x y H Q ∨ rCatA K x y H Q
theorem op_addA : OpR X (binaryOp .Add) (rAddA X.K) := op_add.or (op_add_str.or (op_cat.or op_catA))
theorem nil_of {K : Fg} {G : Hp} {vs : List V} {ds : List D} (r : Reps K G vs ds) : vs = [] ↔ ds = [] := by
  cases r <;> simp
theorem opr_add {K : Fg} : OpRefD K Z (rAddA K) gAddD := by
  intro σ G c S H x y w1 w2 Q g r1 r2 h
  unfold gAddD at h
  split at h
  · cases r1 with | of r1 => cases r2 with | of r2 => cases r1; cases r2; exact .inl ⟨_, _, rfl, rfl, h.ret g (.d (.int _))⟩
  · rename_i x y
    split at h
    · rename_i hz
      cases r1 with | of r1 => cases r2 with | of r2 => cases r1 with | str a1 b1 => cases r2 with | str a2 b2 =>
        have hz' := of_decide_eq_true hz
        refine .inr (.inl ⟨_, _, rfl, rfl, ?_, h.ret g ?_⟩)
        · show x.toArray.size + y.toArray.size ≤ sizeLine
          simpa using hz'
        · have e : ((⟨x.toArray⟩ : Str) ++ ⟨y.toArray⟩) = ⟨(x ++ y).toArray⟩ := by
            show Str.append _ _ = _
            simp [Str.append]
          rw [e]
          exact .d (.str (by rw [List.length_append]; exact hz') fun c hc => (List.mem_append.mp hc).elim (b1 c) (b2 c))
    · exact h.elim
  · rename_i x y
    split at h
    · rename_i hz
      obtain ⟨a1, v1, rfl, h1, q1, z1⟩ := r1.lst' g.sub
      obtain ⟨a2, v2, rfl, h2, q2, z2⟩ := r2.lst' g.sub
      have hz' := of_decide_eq_true hz
      refine .inr (.inr (.inl ⟨_, _, _, _, rfl, rfl, h1, h2, ?_, fun p hp => h.retNew g hp ?_⟩))
      · rw [q1.length, q2.length]; exact hz'
      · have s : ∀ o, Sub G (upd G p o) := fun o => Sub.upd (g.free hp)
        exact .d (.lst upd_same (Reps.append (Reps.sub (s _) _ _ q1) (Reps.sub (s _) _ _ q2)) (by rw [List.length_append]; exact hz'))
    · exact h.elim
  · rename_i x y
    split at h
    · rename_i hz
      cases r1 with | of r1 => cases r2 with | of r2 => cases r1 with | tup h1 q1 z1 => cases r2 with | tup h2 q2 z2 =>
        have hz' := of_decide_eq_true hz
        refine .inr (.inr (.inr ⟨_, _, _, _, rfl, rfl, g.seqT h1, g.seqT h2, ?_, fun z => ?_, fun z z' => ?_, fun z z' p hp => h.retNew g hp ?_⟩))
        · rw [q1.length, q2.length]; exact hz'
        · have z2' := (nil_of q1).mp z
          subst z2'
          exact h.ret g (.d (.tup h2 q2 z2))
        · have z2' := (nil_of q2).mp z'
          subst z2'
          refine h.ret g (.d ?_)
          rw [List.append_nil]
          exact .tup h1 q1 z1
        · have s : ∀ o, Sub G (upd G p o) := fun o => Sub.upd (g.free hp)
          exact .d (.tup (.of upd_same) (Reps.append (Reps.sub (s _) _ _ q1) (Reps.sub (s _) _ _ q2)) (by rw [List.length_append]; exact hz'))
    · exact h.elim
  · exact h.elim
theorem de_add (ha : DE X Z a fa) (hb : DE X Z b fb) : DE X Z (.BinOp a .Add b pos) (fBin gAdd fa fb) := de_bin op_addA opr_add.w ha hb

/-- two ints, a condition -/
def gI (C : Int → Int → Bool) (k : Int → Int → D) : W → W → Store → R W
  | .d (.int i), .d (.int j), S => if C i j then .ok (.d (k i j)) S else .no
  | _, _, _ => .no
theorem opr_I {K : Fg} {C : Int → Int → Prop} {Cb : Int → Int → Bool} {k : Int → Int → V} {kd : Int → Int → D} (hC : ∀ i j, Cb i j = true → C i j) (hk : ∀ G i j, Rep K G (k i j) (kd i j)) : OpRef K Z (rI C k) (gI Cb kd) := by
  intro σ G c S H x y w1 w2 Q g r1 r2 h
  unfold gI at h
  split at h
  · split at h
    · rename_i hc
      cases r1 with | d r1 => cases r2 with | d r2 => cases r1; cases r2; exact ⟨_, _, rfl, rfl, hC _ _ hc, h.ret g (.d (hk _ _ _))⟩
    · exact h.elim
  · exact h.elim
def gSub : W → W → Store → R W := gI (fun _ _ => true) fun i j => .int (i - j)
theorem de_sub (ha : DE X Z a fa) (hb : DE X Z b fb) : DE X Z (.BinOp a .Sub b pos) (fBin gSub fa fb) :=
  de_bin (r := rI (fun _ _ => True) fun i j => .int (i - j)) (fun pins s σ H x y v u Q I rx ry ⟨i, j, e1, e2, _, q⟩ => op_sub pins s σ H x y v u Q I rx ry ⟨i, j, e1, e2, q⟩) (opr_I (fun _ _ _ => True.intro) fun _ _ _ => .int _) ha hb
def mulOk (i j : Int) : Bool := decide (i.natAbs < 2 ^ 60) || decide (j.natAbs < 2 ^ 60)
def gMul : W → W → Store → R W := gI mulOk fun i j => .int (i * j)
theorem de_mul (ha : DE X Z a fa) (hb : DE X Z b fb) : DE X Z (.BinOp a .Mult b pos) (fBin gMul fa fb) := de_bin op_mul (opr_I (fun i j h => by
  unfold mulOk at h
  rw [Bool.or_eq_true] at h
  rcases h with h | h
  · have := of_decide_eq_true h; exact .inl ⟨by omega, by omega⟩
  · have := of_decide_eq_true h; exact .inr ⟨by omega, by omega⟩) fun _ _ _ => .int _) ha hb
def gDiv : W → W → Store → R W := gI (fun _ j => decide (0 < j) && Nat.blt j.natAbs 1073741824) fun i j => .int (i / j)
theorem de_div (ha : DE X Z a fa) (hb : DE X Z b fb) : DE X Z (.BinOp a .FloorDiv b pos) (fBin gDiv fa fb) := de_bin op_fdiv (opr_I (fun i j h => by
  rw [Bool.and_eq_true] at h
  have h1 : 0 < j := of_decide_eq_true h.1
  have h2 : j.natAbs < 1073741824 := Nat.le_of_ble_eq_true h.2
  exact ⟨h1, by omega⟩) fun _ _ _ => .int _) ha hb
def gMod : W → W → Store → R W := gI (fun _ j => decide (0 < j)) fun i j => .int (i % j)
theorem de_mod (ha : DE X Z a fa) (hb : DE X Z b fb) : DE X Z (.BinOp a .Mod b pos) (fBin gMod fa fb) := de_bin op_mod (opr_I (fun i j h => of_decide_eq_true h) fun _ _ _ => .int _) ha hb
def gPow : W → W → Store → R W := gI (fun i j => decide (0 ≤ j) && (decide (j ≤ 1000000) && decide (i.natAbs < 2 ^ 64))) fun i j => .int (i ^ j.toNat)
theorem de_pow (ha : DE X Z a fa) (hb : DE X Z b fb) : DE X Z (.BinOp a .Pow b pos) (fBin gPow fa fb) := de_bin op_pow (opr_I (fun i j h => by
  rw [Bool.and_eq_true, Bool.and_eq_true] at h
  exact ⟨of_decide_eq_true h.1, of_decide_eq_true h.2.1, of_decide_eq_true h.2.2⟩) fun _ _ _ => .int _) ha hb

/-! ### order -/
def gOrd (p : Int → Int → Bool) (q : List Nat → List Nat → Bool) : W → W → Store → R W
  | .d (.int i), .d (.int j), S => .ok (.d (.bl (p i j))) S
  | .d (.str x), .d (.str y), S => .ok (.d (.bl (q x y))) S
  | _, _, _ => .no
theorem opr_ord {K : Fg} {p : Int → Int → Bool} {q : List Nat → List Nat → Bool} {qs : Str → Str → Bool} (hq : ∀ x y : List Nat, qs ⟨x.toArray⟩ ⟨y.toArray⟩ = q x y) :
    OpRef K Z (fun x y H Q => (∃ i j, x = .int i ∧ y = .int j ∧ Q (.bl (p i j)) H) ∨ (∃ i j, x = .str i ∧ y = .str j ∧ Q (.bl (qs i j)) H)) (gOrd p q) := by
  intro σ G c S H x y w1 w2 Q g r1 r2 h
  unfold gOrd at h
  split at h
  · cases r1 with | d r1 => cases r2 with | d r2 => cases r1; cases r2; exact .inl ⟨_, _, rfl, rfl, h.ret g (.d (.bl _))⟩
  · cases r1 with | d r1 => cases r2 with | d r2 => cases r1; cases r2; exact .inr ⟨_, _, rfl, rfl, h.ret g (by rw [hq]; exact .d (.bl _))⟩
  · exact h.elim
def gLt : W → W → Store → R W := gOrd (fun i j => decide (i < j)) fun x y => decide (x < y)
def gLe : W → W → Store → R W := gOrd (fun i j => decide (i ≤ j)) fun x y => !decide (y < x)
def gGt : W → W → Store → R W := gOrd (fun i j => decide (j < i)) fun x y => decide (y < x)
def gGe : W → W → Store → R W := gOrd (fun i j => decide (j ≤ i)) fun x y => !decide (x < y)
def rLt : R2 := fun x y H Q => (∃ i j, x = .int i ∧ y = .int j ∧ Q (.bl (decide (i < j))) H) ∨ (∃ i j, x = .str i ∧ y = .str j ∧ Q (.bl (decide (i.cps.toList < j.cps.toList))) H)
def rLe : R2 := fun x y H Q => (∃ i j, x = .int i ∧ y = .int j ∧ Q (.bl (decide (i ≤ j))) H) ∨ (∃ i j, x = .str i ∧ y = .str j ∧ Q (.bl (!decide (j.cps.toList < i.cps.toList))) H)
def rGt : R2 := fun x y H Q => (∃ i j, x = .int i ∧ y = .int j ∧ Q (.bl (decide (j < i))) H) ∨ (∃ i j, x = .str i ∧ y = .str j ∧ Q (.bl (decide (j.cps.toList < i.cps.toList))) H)
def rGe : R2 := fun x y H Q => (∃ i j, x = .int i ∧ y = .int j ∧ Q (.bl (decide (j ≤ i))) H) ∨ (∃ i j, x = .str i ∧ y = .str j ∧ Q (.bl (!decide (i.cps.toList < j.cps.toList))) H)
theorem o_lt : OpR X (compareOp .Lt) rLt := op_lt.or op_lt_str
theorem o_le : OpR X (compareOp .LtE) rLe := op_le.or op_le_str
theorem o_gt : OpR X (compareOp .Gt) rGt := op_gt.or op_gt_str
theorem o_ge : OpR X (compareOp .GtE) rGe := op_ge.or op_ge_str
theorem r_lt {K : Fg} : OpRef K Z rLt gLt := opr_ord (qs := fun i j => decide (i.cps.toList < j.cps.toList)) fun _ _ => rfl
theorem r_le {K : Fg} : OpRef K Z rLe gLe := opr_ord (qs := fun i j => !decide (j.cps.toList < i.cps.toList)) fun _ _ => rfl
theorem r_gt {K : Fg} : OpRef K Z rGt gGt := opr_ord (qs := fun i j => decide (j.cps.toList < i.cps.toList)) fun _ _ => rfl
theorem r_ge {K : Fg} : OpRef K Z rGe gGe := opr_ord (qs := fun i j => !decide (i.cps.toList < j.cps.toList)) fun _ _ => rfl

/-! ### == of data -/
mutual
def toPy : D → Option PyData
  | .non => some .none
  | .bl b => some (.bool b)
  | .int i => some (.int i)
  | .str l => some (.str ⟨l.toArray⟩)
  | .tup xs => (toPys xs).map .tuple
  | .lst xs => (toPys xs).map .list
  | .dct _ _ | .ins _ _ _ | .scr _ | .exn _ _ _ => none
def toPys : List D → Option (List PyData)
  | [] => some []
  | x :: xs => match toPy x, toPys xs with
    | some a, some as => some (a :: as)
    | _, _ => none
end
mutual
def deq : D → D → Bool
  | .non, .non => true
  | .bl a, .bl b => a == b
  | .bl a, .int j => (if a then 1 else 0) == j
  | .int i, .bl b => i == (if b then 1 else 0)
  | .int i, .int j => i == j
  | .str x, .str y => x == y
  | .lst xs, .lst ys => deqs xs ys
  | .tup xs, .tup ys => deqs xs ys
  | _, _ => false
def deqs : List D → List D → Bool
  | [], [] => true
  | x :: xs, y :: ys => deq x y && deqs xs ys
  | _, _ => false
end
mutual
/-- plain data, nested less than n deep -/
def plainD : Nat → D → Bool
  | _, .non | _, .bl _ | _, .int _ | _, .str _ => true
  | n + 1, .tup xs | n + 1, .lst xs => plainDs n xs
  | _, _ => false
def plainDs : Nat → List D → Bool
  | _, [] => true
  | n, x :: xs => plainD n x && plainDs n xs
end
end
end DL
end
section
/-! DL, 3: ==, in, is; displays; tests; subscripts, slices -/
namespace DL
open PySem PySem.Spec PyProof.Rows L2
section
variable {X : Cx} {Z : WX}
theorem plain_nd {n : Nat} {d : D} (h : plainD n d = true) : isDct d = false := by
  cases d <;> first | rfl | (cases n <;> simp [plainD] at h)
mutual
theorem toPy_rep {K : Fg} {G : Hp} : ∀ (n : Nat) (d : D) (v : V), plainD n d = true → Rep K G v d → ∃ p, toPy d = some p ∧ Dp K G v p ∧ p.canLay0 = true ∧ p.depth ≤ n
  | _, .non, _, _, h => by cases h; exact ⟨_, rfl, .non, by simp [PyData.canLay0], by simp [PyData.depth]⟩
  | _, .bl b, _, _, h => by cases h; exact ⟨_, rfl, .bl b, by simp [PyData.canLay0], by simp [PyData.depth]⟩
  | _, .int i, _, _, h => by cases h; exact ⟨_, rfl, .int i, by simp [PyData.canLay0], by simp [PyData.depth]⟩
  | _, .str l, _, _, h => by
    cases h with
    | str h1 h2 => exact ⟨_, rfl, .str _, by simpa [PyData.canLay0, PyData.strOk] using h2, by simp [PyData.depth]⟩
  | n + 1, .tup xs, _, hp, h => by
    cases h with
    | tup h r z =>
      obtain ⟨ps, e, q, cl, dp⟩ := toPys_rep n xs _ (by simpa [plainD] using hp) r
      exact ⟨.tuple ps, by simp [toPy, e], .tup h q, by simpa [PyData.canLay0] using cl, by simp only [PyData.depth]; omega⟩
  | n + 1, .lst xs, _, hp, h => by
    cases h with
    | lst h r z =>
      obtain ⟨ps, e, q, cl, dp⟩ := toPys_rep n xs _ (by simpa [plainD] using hp) r
      exact ⟨.list ps, by simp [toPy, e], .lst (.of h) q, by simpa [PyData.canLay0] using cl, by simp only [PyData.depth]; omega⟩
  | 0, .tup _, _, hp, _ => by simp [plainD] at hp
  | 0, .lst _, _, hp, _ => by simp [plainD] at hp
  | _, .dct _ _, _, hp, _ => by simp [plainD] at hp
  | _, .ins _ _ _, _, hp, _ => by simp [plainD] at hp
  | _, .scr _, _, hp, _ => by simp [plainD] at hp
  | _, .exn _ _ _, _, hp, _ => by simp [plainD] at hp
theorem toPys_rep {K : Fg} {G : Hp} : ∀ (n : Nat) (ds : List D) (vs : List V), plainDs n ds = true → Reps K G vs ds → ∃ ps, toPys ds = some ps ∧ DpAll K G vs ps ∧ PyData.canLayAll0 ps = true ∧ PyData.depthAll ps ≤ n
  | _, [], _, _, h => by cases h; exact ⟨[], rfl, .nil, by simp [PyData.canLayAll0], by simp [PyData.depthAll]⟩
  | n, d :: ds, _, hp, h => by
    cases h with
    | cons h t =>
      rw [plainDs, Bool.and_eq_true] at hp
      obtain ⟨p, e1, q1, c1, d1⟩ := toPy_rep n d _ hp.1 h
      obtain ⟨ps, e2, q2, c2, d2⟩ := toPys_rep n ds _ hp.2 t
      exact ⟨p :: ps, by simp [toPys, e1, e2], .cons q1 q2, by simp [PyData.canLayAll0, c1, c2], by simp only [PyData.depthAll]; omega⟩
end
mutual
theorem eqv_deq : ∀ (x y : D) (p q : PyData), toPy x = some p → toPy y = some q → PyData.eqv p q = deq x y
  | .tup xs, y, p, q, hx, hy => by
    cases y <;> simp only [toPy, Option.some.injEq, Option.map_eq_some_iff, reduceCtorEq] at hx hy
    case tup ys =>
      obtain ⟨a, ha, rfl⟩ := hx
      obtain ⟨b, hb, rfl⟩ := hy
      simp only [PyData.eqv, deq]
      exact eqvAll_deqs xs ys a b ha hb
    all_goals (obtain ⟨a, ha, rfl⟩ := hx; try (obtain ⟨b, hb, rfl⟩ := hy))
    all_goals (try subst hy)
    all_goals simp only [PyData.eqv, deq]
  | .lst xs, y, p, q, hx, hy => by
    cases y <;> simp only [toPy, Option.some.injEq, Option.map_eq_some_iff, reduceCtorEq] at hx hy
    case lst ys =>
      obtain ⟨a, ha, rfl⟩ := hx
      obtain ⟨b, hb, rfl⟩ := hy
      simp only [PyData.eqv, deq]
      exact eqvAll_deqs xs ys a b ha hb
    all_goals (obtain ⟨a, ha, rfl⟩ := hx; try (obtain ⟨b, hb, rfl⟩ := hy))
    all_goals (try subst hy)
    all_goals simp only [PyData.eqv, deq]
  | .non, y, p, q, hx, hy => by
    cases y <;> simp only [toPy, Option.some.injEq, Option.map_eq_some_iff, reduceCtorEq] at hx hy
    all_goals (subst hx; try (obtain ⟨b, hb, rfl⟩ := hy))
    all_goals (try subst hy)
    all_goals simp only [PyData.eqv, deq]
  | .bl _, y, p, q, hx, hy => by
    cases y <;> simp only [toPy, Option.some.injEq, Option.map_eq_some_iff, reduceCtorEq] at hx hy
    all_goals (subst hx; try (obtain ⟨b, hb, rfl⟩ := hy))
    all_goals (try subst hy)
    all_goals simp only [PyData.eqv, deq]
  | .int _, y, p, q, hx, hy => by
    cases y <;> simp only [toPy, Option.some.injEq, Option.map_eq_some_iff, reduceCtorEq] at hx hy
    all_goals (subst hx; try (obtain ⟨b, hb, rfl⟩ := hy))
    all_goals (try subst hy)
    all_goals simp only [PyData.eqv, deq]
  | .str s, y, p, q, hx, hy => by
    cases y <;> simp only [toPy, Option.some.injEq, Option.map_eq_some_iff, reduceCtorEq] at hx hy
    case str t =>
      subst hx; subst hy
      simp only [PyData.eqv, deq]
      rw [Bool.eq_iff_iff]
      simp
    all_goals (subst hx; try (obtain ⟨b, hb, rfl⟩ := hy))
    all_goals (try subst hy)
    all_goals simp only [PyData.eqv, deq]
  | .dct _ _, _, _, _, hx, _ => by simp [toPy] at hx
  | .ins _ _ _, _, _, _, hx, _ => by simp [toPy] at hx
  | .scr _, _, _, _, hx, _ => by simp [toPy] at hx
  | .exn _ _ _, _, _, _, hx, _ => by simp [toPy] at hx
theorem eqvAll_deqs : ∀ (xs ys : List D) (ps qs : List PyData), toPys xs = some ps → toPys ys = some qs → PyData.eqvAll ps qs = deqs xs ys
  | [], [], _, _, hx, hy => by cases hx; cases hy; simp only [PyData.eqvAll, deqs]
  | [], y :: ys, ps, qs, hx, hy => by
    cases hx
    rw [toPys] at hy
    split at hy
    · cases hy; simp only [PyData.eqvAll, deqs]
    · cases hy
  | x :: xs, [], ps, qs, hx, hy => by
    cases hy
    rw [toPys] at hx
    split at hx
    · cases hx; simp only [PyData.eqvAll, deqs]
    · cases hx
  | x :: xs, y :: ys, ps, qs, hx, hy => by
    rw [toPys] at hx hy
    split at hx
    · split at hy
      · rename_i _ _ a as ha has _ _ b bs hb hbs
        cases hx; cases hy
        simp only [PyData.eqvAll, deqs]
        rw [eqv_deq x y _ _ ha hb, eqvAll_deqs xs ys _ _ has hbs]
      · cases hy
    · cases hx
end
/-- x == y -/
def eqOk (x y : D) : Bool := plainD 60 x && plainD 60 y
def gEqD : D → D → Store → R W := fun x y S => if eqOk x y then .ok (.d (.bl (deq x y))) S else .no
def gNeD : D → D → Store → R W := fun x y S => if eqOk x y then .ok (.d (.bl (!deq x y))) S else .no
abbrev gEq := gV gEqD
abbrev gNe := gV gNeD
mutual
theorem Dp.sub {K : Fg} {G G' : Hp} (s : Sub G G') : ∀ (d : PyData) (v : V), Dp K G v d → Dp K G' v d
  | .none, _, h => by cases h; exact .non
  | .bool b, _, h => by cases h; exact .bl b
  | .int i, _, h => by cases h; exact .int i
  | .str l, _, h => by cases h; exact .str l
  | .tuple ds, _, h => by cases h with | tup h r => exact .tup (sqT_sub s h) (DpAll.sub s ds _ r)
  | .list ds, _, h => by cases h with | lst h r => exact .lst (sqL_sub s h) (DpAll.sub s ds _ r)
  | .dict _, _, h => by cases h
theorem DpAll.sub {K : Fg} {G G' : Hp} (s : Sub G G') : ∀ (ds : List PyData) (vs : List V), DpAll K G vs ds → DpAll K G' vs ds
  | [], _, h => by cases h; exact .nil
  | d :: ds, _, h => by cases h with | cons h t => exact .cons (Dp.sub s d _ h) (DpAll.sub s ds _ t)
end
theorem shaped_of {p : PyData} (h : p.canLay0 = true) (h2 : p.depth ≤ 60) : SeqAt.shaped p = true := by
  unfold SeqAt.shaped
  rw [h, Bool.true_and]
  exact decide_eq_true (by omega)
theorem opr_eq {K : Fg} : OpRefD K Z (rEqD K) gEqD := by
  intro σ G c S H x y w1 w2 Q g r1 r2 h
  unfold gEqD at h
  split at h
  · rename_i hk
    unfold eqOk at hk
    rw [Bool.and_eq_true] at hk
    obtain ⟨p, e1, q1, c1, d1⟩ := toPy_rep 60 _ _ hk.1 (r1.in g.sub (plain_nd hk.1))
    obtain ⟨q, e2, q2, c2, d2⟩ := toPy_rep 60 _ _ hk.2 (r2.in g.sub (plain_nd hk.2))
    exact ⟨p, q, q1, q2, shaped_of c1 d1, shaped_of c2 d2, h.ret g (by rw [eqv_deq _ _ _ _ e1 e2]; exact .d (.bl _))⟩
  · exact h.elim
theorem opr_ne {K : Fg} : OpRefD K Z (rNeD K) gNeD := by
  intro σ G c S H x y w1 w2 Q g r1 r2 h
  unfold gNeD at h
  split at h
  · rename_i hk
    unfold eqOk at hk
    rw [Bool.and_eq_true] at hk
    obtain ⟨p, e1, q1, c1, d1⟩ := toPy_rep 60 _ _ hk.1 (r1.in g.sub (plain_nd hk.1))
    obtain ⟨q, e2, q2, c2, d2⟩ := toPy_rep 60 _ _ hk.2 (r2.in g.sub (plain_nd hk.2))
    exact ⟨p, q, q1, q2, shaped_of c1 d1, shaped_of c2 d2, h.ret g (by rw [eqv_deq _ _ _ _ e1 e2]; exact .d (.bl _))⟩
  · exact h.elim
/-! ### is None -/
def gIsN (k : Bool) : W → W → Store → R W
  | .d .non, .d .non, S => .ok (.d (.bl k)) S
  | .d _, .d .non, S => .ok (.d (.bl !k)) S
  | .loc _, .d .non, S => .ok (.d (.bl !k)) S
  | _, _, _ => .no
theorem opr_isN {K : Fg} : OpRef K Z (fun x y H Q => y = .non ∧ Q (.bl (decide (x = .non))) H) (gIsN true) := by
  intro σ G c S H x y w1 w2 Q g r1 r2 h
  unfold gIsN at h
  split at h
  · cases r1 with | d r1 => cases r2 with | d r2 => cases r1; cases r2; exact ⟨rfl, h.ret g (.d (.bl _))⟩
  · rename_i z _
    cases r1 with | d r1 => cases r2 with | d r2 =>
      cases r2
      refine ⟨rfl, ?_⟩
      have e : decide (x = V.non) = false := by
        cases r1 <;> first | rfl | (rename_i hz; exact absurd rfl hz) | (exact decide_eq_false fun z => nomatch z)
      rw [e]
      exact h.ret g (.d (.bl _))
  · cases r1 with | loc r1 => cases r2 with | d r2 => cases r2; exact ⟨rfl, h.ret g (.d (.bl _))⟩
  · exact h.elim
theorem opr_notN {K : Fg} : OpRef K Z (fun x y H Q => y = .non ∧ Q (.bl (!decide (x = .non))) H) (gIsN false) := by
  intro σ G c S H x y w1 w2 Q g r1 r2 h
  unfold gIsN at h
  split at h
  · cases r1 with | d r1 => cases r2 with | d r2 => cases r1; cases r2; exact ⟨rfl, h.ret g (.d (.bl _))⟩
  · rename_i z _
    cases r1 with | d r1 => cases r2 with | d r2 =>
      cases r2
      refine ⟨rfl, ?_⟩
      have e : decide (x = V.non) = false := by
        cases r1 <;> first | rfl | (rename_i hz; exact absurd rfl hz) | (exact decide_eq_false fun z => nomatch z)
      rw [e]
      exact h.ret g (.d (.bl _))
  · cases r1 with | loc r1 => cases r2 with | d r2 => cases r2; exact ⟨rfl, h.ret g (.d (.bl _))⟩
  · exact h.elim
end
end DL
end
section
/-! DL, 4: in; displays; tests; subscripts, slices -/
namespace DL
open PySem PySem.Spec PyProof.Rows L2
section
variable {X : Cx} {Z : WX}
theorem hu100 {k : Nat} {A : Around} (hr : Room k A) : A.units + 100 < cLine := by have := hr.un; omega
/-! ### in, not in -/
def rInP (K : Fg) (neg : Bool) : R2 := fun x y H Q => ∃ d ds, Dp K H x d ∧ (Dp K H y (.list ds) ∨ Dp K H y (.tuple ds)) ∧ d.canLay0 = true ∧ PyData.canLayAll0 ds = true ∧ d.depth ≤ 60 ∧ Q (.bl (neg ^^ ds.any fun y => PyData.eqv y d)) H
theorem o_inP (hu : X.A.units + 100 < cLine) : OpR X (compareOp .In) (rInP X.K false) := by
  intro pins s σ H x y v u Q I rx ry h
  obtain ⟨d, ds, hd, he, c1, c2, dp, q⟩ := h
  obtain ⟨as, r1⟩ := Dp.reads I d x v hd rx
  rw [Bool.false_xor] at q
  have hz : X.A.units + 1 + min (PyData.depthAll ds) d.depth < cLine := by have := Nat.min_le_right (PyData.depthAll ds) d.depth; omega
  rcases he with he | he
  · obtain ⟨bs, r2⟩ := Dp.reads I _ y u he ry
    exact SeqAt.in_list_reads r2 r1 c2 c1 hz ⟨.bl _, H, I, rfl, q⟩
  · obtain ⟨bs, r2⟩ := Dp.reads I _ y u he ry
    exact SeqAt.in_tuple_reads r2 r1 c2 c1 hz ⟨.bl _, H, I, rfl, q⟩
theorem o_notInP (hu : X.A.units + 100 < cLine) : OpR X (compareOp .NotIn) (rInP X.K true) := by
  intro pins s σ H x y v u Q I rx ry h
  obtain ⟨d, ds, hd, he, c1, c2, dp, q⟩ := h
  obtain ⟨as, r1⟩ := Dp.reads I d x v hd rx
  rw [Bool.true_xor] at q
  have hz : X.A.units + 1 + min (PyData.depthAll ds) d.depth < cLine := by have := Nat.min_le_right (PyData.depthAll ds) d.depth; omega
  rcases he with he | he
  · obtain ⟨bs, r2⟩ := Dp.reads I _ y u he ry
    exact SeqAt.notIn_list_reads r2 r1 c2 c1 hz ⟨.bl _, H, I, rfl, q⟩
  · obtain ⟨bs, r2⟩ := Dp.reads I _ y u he ry
    exact SeqAt.notIn_tuple_reads r2 r1 c2 c1 hz ⟨.bl _, H, I, rfl, q⟩
def rInD2 (neg : Bool) : R2 := fun y x H Q => ∃ a kvs k, x = .ref a ∧ Rd H a (.dK kvs) ∧ y = kV k ∧ Q (.bl (neg ^^ (valV kvs k).isSome)) H
theorem o_inD (hu : X.A.units + 100 < cLine) : OpR X (compareOp .In) (rInD2 false) := by
  intro pins s σ H y x u v Q I ry rx h
  obtain ⟨a, kvs, k, rfl, hd, rfl, q⟩ := h
  cases rx
  rw [Bool.false_xor] at q
  exact d_in (by omega) I (o := valV kvs k) (.inl ⟨kvs, k, hd, rfl, rfl⟩) ry fun s3 I3 => ⟨.bl _, H, I3, rfl, q⟩
theorem o_notInD (hu : X.A.units + 100 < cLine) : OpR X (compareOp .NotIn) (rInD2 true) := by
  intro pins s σ H y x u v Q I ry rx h
  obtain ⟨a, kvs, k, rfl, hd, rfl, q⟩ := h
  cases rx
  rw [Bool.true_xor] at q
  exact d_notIn (by omega) I (o := valV kvs k) (.inl ⟨kvs, k, hd, rfl, rfl⟩) ry fun s3 I3 => ⟨.bl _, H, I3, rfl, q⟩
def rInS (neg : Bool) : R2 := fun x y H Q => ∃ (c : Nat) (z : Str), x = .str ⟨#[c]⟩ ∧ y = .str z ∧ Q (.bl (neg ^^ decide (c ∈ z.cps.toList))) H
theorem o_inS : OpR X (compareOp .In) (rInS false) := fun pins s σ H x y v u Q I rx ry ⟨c, z, e1, e2, q⟩ => op_in_sign pins s σ H x y v u Q I rx ry ⟨c, z, e1, e2, by rw [Bool.false_xor] at q; exact q⟩
theorem o_notInS : OpR X (compareOp .NotIn) (rInS true) := fun pins s σ H x y v u Q I rx ry ⟨c, z, e1, e2, q⟩ => op_notIn_sign pins s σ H x y v u Q I rx ry ⟨c, z, e1, e2, by rw [Bool.true_xor] at q; exact q⟩
/-- two keys are the same -/
def keq (x y : D) : Bool := match dkey x, dkey y with
  | some a, some b => decide (a = b)
  | _, _ => false
def dget : List D → List D → D → Option D
  | k :: ks, v :: vs, x => if keq k x then some v else dget ks vs x
  | _, _, _ => none
/-- x in y, the containers that the language has -/
def gIn0D (neg : Bool) : D → D → Store → R W
  | .str x, .str z, S => match x with
    | [c] => .ok (.d (.bl (neg ^^ decide (c ∈ z)))) S
    | _ => .no
  | x, .lst ys, S => if plainD 60 x && plainDs 60 ys then .ok (.d (.bl (neg ^^ ys.any fun y => deq y x))) S else .no
  | x, .tup ys, S => if plainD 60 x && plainDs 60 ys then .ok (.d (.bl (neg ^^ ys.any fun y => deq y x))) S else .no
  | x, .dct ks vs, S => if (dkey x).isSome then .ok (.d (.bl (neg ^^ (dget ks vs x).isSome))) S else .no
  | _, _, _ => .no
abbrev gIn0 (neg : Bool) := gV (gIn0D neg)
theorem any_deq : ∀ (ys : List D) (ps : List PyData) (x : D) (p : PyData), toPys ys = some ps → toPy x = some p → (ps.any fun y => PyData.eqv y p) = ys.any fun y => deq y x
  | [], _, _, _, h, _ => by cases h; rfl
  | y :: ys, ps, x, p, h, hx => by
    rw [toPys] at h
    split at h
    · rename_i _ _ a as ha has
      cases h
      rw [List.any_cons, List.any_cons, eqv_deq y x a p ha hx, any_deq ys as x p has hx]
    · cases h
theorem dkey_nd {x : D} {k : Key} (h : dkey x = some k) : isDct x = false := by
  cases x <;> first | rfl | cases h
theorem dkey_rep {K : Fg} {G : Hp} {v : V} {x : D} {k : Key} (r : Rep K G v x) (h : dkey x = some k) : v = kV k := by
  cases r <;> simp only [dkey, Option.some.injEq, reduceCtorEq] at h <;> (subst h; rfl)
theorem dget_rep {K : Fg} {G : Hp} {x : D} {k : Key} (hx : dkey x = some k) : ∀ {kvs : List (Key × V)} {ks vs : List D}, ks.map dkey = kvs.map (fun p => some p.1) → Reps K G (kvs.map (·.2)) vs →
    (∀ d, dget ks vs x = some d → ∃ v, valV kvs k = some v ∧ Rep K G v d) ∧ (dget ks vs x = none → valV kvs k = none)
  | [], ks, vs, hk, r => by
    cases r
    have : ks = [] := by simpa using hk
    subst this
    exact ⟨fun d h => by simp [dget] at h, fun _ => rfl⟩
  | p :: kvs, ks, vs, hk, r => by
    cases ks with
    | nil => simp at hk
    | cons k' ks =>
      simp only [List.map_cons, List.cons.injEq] at hk
      obtain ⟨hk1, hk2⟩ := hk
      cases r with
      | cons hv ht =>
        rename_i d0 ds
        have ih := dget_rep (K := K) (G := G) hx (kvs := kvs) (ks := ks) (vs := ds) hk2 ht
        have e : keq k' x = decide (p.1 = k) := by unfold keq; rw [hk1, hx]
        unfold dget
        rw [e]
        by_cases hp : p.1 = k
        · rw [decide_eq_true hp, if_pos rfl, valV_pos hp]
          exact ⟨fun d h => ⟨_, rfl, by cases h; exact hv⟩, fun h => by cases h⟩
        · rw [decide_eq_false hp, valV_neg hp]
          exact ih
def rIn0 (K : Fg) (neg : Bool) : R2 := fun x y H Q => rInS neg x y H Q ∨ rInP K neg x y H Q ∨ rInD2 neg x y H Q
theorem o_in0 (hu : X.A.units + 100 < cLine) : OpR X (compareOp .In) (rIn0 X.K false) := o_inS.or ((o_inP hu).or (o_inD hu))
theorem o_notIn0 (hu : X.A.units + 100 < cLine) : OpR X (compareOp .NotIn) (rIn0 X.K true) := o_notInS.or ((o_notInP hu).or (o_notInD hu))
theorem opr_in0 {K : Fg} {neg : Bool} : OpRefD K Z (rIn0 K neg) (gIn0D neg) := by
  intro σ G c S H x y w1 w2 Q g r1 r2 h
  unfold gIn0D at h
  split at h
  · split at h
    · cases r1 with | of r1 => cases r2 with | of r2 => cases r1; cases r2; exact .inl ⟨_, _, rfl, rfl, h.ret g (.d (.bl _))⟩
    · exact h.elim
  · split at h
    · rename_i hk
      rw [Bool.and_eq_true] at hk
      obtain ⟨p, e1, q1, c1, d1⟩ := toPy_rep 60 _ _ hk.1 (r1.in g.sub (plain_nd hk.1))
      cases r2.in g.sub rfl with | lst h2 q2 z2 =>
        obtain ⟨ps, e2, q2', c2, d2⟩ := toPys_rep 60 _ _ hk.2 q2
        refine .inr (.inl ⟨p, ps, q1, .inl (.lst (.of h2) q2'), c1, c2, d1, ?_⟩)
        rw [any_deq _ _ _ _ e2 e1]
        exact h.ret g (.d (.bl _))
    · exact h.elim
  · split at h
    · rename_i hk
      rw [Bool.and_eq_true] at hk
      obtain ⟨p, e1, q1, c1, d1⟩ := toPy_rep 60 _ _ hk.1 (r1.in g.sub (plain_nd hk.1))
      cases r2.in g.sub rfl with | tup h2 q2 z2 =>
        obtain ⟨ps, e2, q2', c2, d2⟩ := toPys_rep 60 _ _ hk.2 q2
        refine .inr (.inl ⟨p, ps, q1, .inr (.tup h2 q2'), c1, c2, d1, ?_⟩)
        rw [any_deq _ _ _ _ e2 e1]
        exact h.ret g (.d (.bl _))
    · exact h.elim
  · rename_i ks vs
    split at h
    · rename_i hk
      obtain ⟨k, hk⟩ := Option.isSome_iff_exists.mp hk
      obtain ⟨a2, kvs, rfl, h2, hk2, q2, z2⟩ := r2.dct' g.sub
      refine .inr (.inr ⟨_, _, k, rfl, h2, dkey_rep (r1.in g.sub (dkey_nd hk)) hk, ?_⟩)
      obtain ⟨a1, a2⟩ := dget_rep hk hk2 q2
      cases e : dget ks vs w1 with
      | none => rw [a2 e]; rw [e] at h; exact h.ret g (.d (.bl _))
      | some d =>
        obtain ⟨v, ev, _⟩ := a1 d e
        rw [ev]; rw [e] at h; exact h.ret g (.d (.bl _))
    · exact h.elim
  · exact h.elim

/-! ### displays -/
def fNil : FL := fun _ S => .ok [] S
def fCons (f : FE) (fs : FL) : FL := fun ρ S => (f ρ S).bind fun w S1 => (fs ρ S1).bind fun ws S2 => .ok (w :: ws) S2
theorem refl_nil {K : Fg} : RefL K Z tNil fNil := fun ρ S σ H G c Q g re h => h G c H [] (.refl ..) g .nil
theorem refl_cons {K : Fg} {te : TE} {t : TA} {f : FE} {fs : FL} (h1 : Ref K Z te f) (h2 : RefL K Z t fs) : RefL K Z (tCons te t) (fCons f fs) := by
  intro ρ S σ H G c Q gd re h
  refine h1 ρ S σ H G c _ gd re (Wants.step h fun a S1 G1 c1 H1 x e1 g1 rx h1 => ?_)
  refine h2 ρ S1 σ H1 G1 c1 _ g1 (re.ev e1.gg e1.cc) (Wants.step h1 fun b S2 G2 c2 H2 y e2 g2 ry h2 => ?_)
  exact h2 G2 c2 H2 (x :: y) (.refl ..) g2 (.cons (rx.ev e2.gg e2.cc) ry)
theorem da_nil : DA X Z [] fNil := ⟨_, pa_nil, refl_nil⟩
theorem da_cons {e : Expr} {es : List Expr} {f : FE} {fs : FL} (h1 : DE X Z e f) (h2 : DA X Z es fs) (hs : starEach (e :: es) X.env = (false, eval e X.env) :: starEach es X.env := by rfl) : DA X Z (e :: es) (fCons f fs) :=
  let ⟨_, p1, q1⟩ := h1; let ⟨_, p2, q2⟩ := h2; ⟨_, pa_cons p1 p2 hs, refl_cons q1 q2⟩
/-- all are values -/
def pures : List W → Option (List D)
  | [] => some []
  | .d x :: ws => (pures ws).map (x :: ·)
  | _ :: _ => none
theorem pures_rep {K : Fg} {G : Hp} {c : List Addr} : ∀ {vs : List V} {ws : List W} {ds : List D}, RepWs K G c vs ws → pures ws = some ds → Reps K G vs ds
  | _, _, _, .nil, h => by cases h; exact .nil
  | _, _, _, .cons (a := v) (b := w) r t, h => by
    cases w with
    | d x =>
      rw [pures, Option.map_eq_some_iff] at h
      obtain ⟨ds, h1, rfl⟩ := h
      cases r with | d r => exact .cons r (pures_rep t h1)
    | loc n => cases h
    | glo x => cases h
    | ty x => cases h
theorem pures_len : ∀ {ws : List W} {ds : List D}, pures ws = some ds → ds.length = ws.length
  | [], _, h => by cases h; rfl
  | .d x :: ws, _, h => by
    rw [pures, Option.map_eq_some_iff] at h
    obtain ⟨ds, h1, rfl⟩ := h
    rw [List.length_cons, List.length_cons, pures_len h1]
  | .loc _ :: _, _, h => by cases h
  | .glo _ :: _, _, h => by cases h
  | .ty _ :: _, _, h => by cases h
def fTup (fs : FL) : FE := fun ρ S => (fs ρ S).bind fun ws S1 => match pures ws with
  | some ds => if lenOk ds.length then .ok (.d (.tup ds)) S1 else .no
  | none => .no
def fLst (fs : FL) : FE := fun ρ S => (fs ρ S).bind fun ws S1 => match pures ws with
  | some ds => if lenOk ds.length then .ok (.d (.lst ds)) S1 else .no
  | none => .no
variable {es : List Expr} {fs : FL} {pos : Pos}
theorem de_tup {x1} (h : DA X Z es fs) : DE X Z (.Tuple es x1 pos) (fTup fs) := by
  obtain ⟨t, p, q⟩ := h
  refine ⟨_, pe_tup p, fun ρ S σ H G c Q gd re h => ?_⟩
  refine q ρ S σ H G c _ gd re (Wants.step h fun ws S1 G1 c1 H1 vs e1 g1 rx h1 => ?_)
  cases e : pures ws with
  | none => rw [e] at h1; exact h1.elim
  | some ds =>
    rw [e] at h1
    dsimp only at h1
    split at h1
    · rename_i hz
      have hz' := of_decide_eq_true hz
      have r := pures_rep rx e
      refine ⟨by rw [r.length]; exact hz', fun p hp => h1.retNew g1 hp ?_⟩
      exact .d (.tup (.of upd_same) (Reps.sub (Sub.upd (g1.free hp)) _ _ r) hz')
    · exact h1.elim
theorem de_lst (h : DA X Z es fs) : DE X Z (.List es pos) (fLst fs) := by
  obtain ⟨t, p, q⟩ := h
  refine ⟨_, pe_lst p, fun ρ S σ H G c Q gd re h => ?_⟩
  refine q ρ S σ H G c _ gd re (Wants.step h fun ws S1 G1 c1 H1 vs e1 g1 rx h1 => ?_)
  cases e : pures ws with
  | none => rw [e] at h1; exact h1.elim
  | some ds =>
    rw [e] at h1
    dsimp only at h1
    split at h1
    · rename_i hz
      have hz' := of_decide_eq_true hz
      have r := pures_rep rx e
      refine ⟨by rw [r.length]; exact hz', fun p hp => h1.retNew g1 hp ?_⟩
      exact .d (.lst upd_same (Reps.sub (Sub.upd (g1.free hp)) _ _ r) hz')
    · exact h1.elim

/-! ### tests -/
def toB (f : FE) : FB := fun ρ S => (f ρ S).bind fun w S1 => match w with
  | .d (.bl b) => .ok b S1
  | _ => .no
variable {a b e : Expr} {fa fb f : FE} {t u : FB}
theorem refb_of {K : Fg} {te : TE} (h : Ref K Z te f) : RefB K Z (tB te) (toB f) := by
  intro ρ S σ H G c Q gd re q
  refine h ρ S σ H G c _ gd re (Wants.step q fun w S1 G1 c1 H1 v e1 g1 rx h1 => ?_)
  split at h1
  · cases rx with | d rx => cases rx; exact ⟨_, rfl, h1 G1 c1 H1 _ (.refl ..) g1 rfl⟩
  · exact h1.elim
theorem dt_cmp {op : CmpOp} {r : R2} {g : W → W → Store → R W} (ho : OpR X (compareOp op) r) (hr : OpRef X.K Z r g) (ha : DE X Z a fa) (hb : DE X Z b fb) (hm : behindInMarks op b = false) : DT X Z (.Compare a [op] [b] pos) (toB (fBin g fa fb)) :=
  let ⟨_, p1, q1⟩ := ha; let ⟨_, p2, q2⟩ := hb; ⟨_, pt_cmpR ho p1 p2 hm, refb_of (ref_bin hr q1 q2)⟩
/-- an expression whose value is a truth value, as a test -/
theorem dt_val (h : DE X Z e f) (he : ∀ whole, isTrue e X.env whole = (do let v ← whole; standAt e.pos; holding [v] (truthy v)) := by intro _; rfl) : DT X Z e (toB f) :=
  let ⟨_, p, q⟩ := h; ⟨_, pt_val p he, refb_of q⟩
def fNotB (t : FB) : FB := fun ρ S => (t ρ S).bind fun b S1 => .ok (!b) S1
def fAndB (t u : FB) : FB := fun ρ S => (t ρ S).bind fun b S1 => if b = true then u ρ S1 else .ok false S1
def fOrB (t u : FB) : FB := fun ρ S => (t ρ S).bind fun b S1 => if b = true then .ok true S1 else u ρ S1
theorem dt_not (h : DT X Z a t) : DT X Z (.UnaryOp .Not a pos) (fNotB t) := by
  obtain ⟨_, p, q⟩ := h
  refine ⟨_, pt_not p, fun ρ S σ H G c Q gd re h => ?_⟩
  refine q ρ S σ H G c _ gd re (Wants.step h fun w S1 G1 c1 H1 v e1 g1 rx h1 => ?_)
  subst rx
  exact h1 G1 c1 H1 _ (.refl ..) g1 rfl
/-- a test whatever its whole is -/
def DW (X : Cx) (Z : WX) (e : Expr) (f : FB) : Prop := ∃ t, PW X e t ∧ RefB X.K Z t f
theorem DW.dt (h : DW X Z e t) : DT X Z e t := let ⟨_, p, q⟩ := h; ⟨_, p.pt, q⟩
theorem dw_and1 (h : DT X Z a t) : DW X Z (.BoolOp .And [a] pos) t := let ⟨_, p, q⟩ := h; ⟨_, pw_and1 p, q⟩
theorem dw_or1 (h : DT X Z a t) : DW X Z (.BoolOp .Or [a] pos) t := let ⟨_, p, q⟩ := h; ⟨_, pw_or1 p, q⟩
variable {rest : List Expr}
theorem dw_and (h1 : DT X Z a t) (h2 : DW X Z (.BoolOp .And (b :: rest) pos) u) : DW X Z (.BoolOp .And (a :: b :: rest) pos) (fAndB t u) := by
  obtain ⟨_, p1, q1⟩ := h1
  obtain ⟨_, p2, q2⟩ := h2
  refine ⟨_, pw_and p1 p2, fun ρ S σ H G c Q gd re h => ?_⟩
  refine q1 ρ S σ H G c _ gd re (Wants.step h fun w S1 G1 c1 H1 v e1 g1 rx h1 => ?_)
  subst rx
  cases v with
  | true => exact iteT (q2 ρ S1 σ H1 G1 c1 Q g1 (re.ev e1.gg e1.cc) h1)
  | false => exact iteF (h1 G1 c1 H1 _ (.refl ..) g1 rfl)
theorem dw_or (h1 : DT X Z a t) (h2 : DW X Z (.BoolOp .Or (b :: rest) pos) u) : DW X Z (.BoolOp .Or (a :: b :: rest) pos) (fOrB t u) := by
  obtain ⟨_, p1, q1⟩ := h1
  obtain ⟨_, p2, q2⟩ := h2
  refine ⟨_, pw_or p1 p2, fun ρ S σ H G c Q gd re h => ?_⟩
  refine q1 ρ S σ H G c _ gd re (Wants.step h fun w S1 G1 c1 H1 v e1 g1 rx h1 => ?_)
  subst rx
  cases v with
  | true => exact iteT (h1 G1 c1 H1 _ (.refl ..) g1 rfl)
  | false => exact iteF (q2 ρ S1 σ H1 G1 c1 Q g1 (re.ev e1.gg e1.cc) h1)
/-! ### and, or, not as values -/
def fAndV (fa fb : FE) : FE := fun ρ S => (fa ρ S).bind fun w S1 => match w with
  | .d (.bl true) => fb ρ S1
  | .d (.bl false) => .ok (.d (.bl false)) S1
  | _ => .no
def fOrV (fa fb : FE) : FE := fun ρ S => (fa ρ S).bind fun w S1 => match w with
  | .d (.bl true) => .ok (.d (.bl true)) S1
  | .d (.bl false) => fb ρ S1
  | _ => .no
def fNotV (fa : FE) : FE := fun ρ S => (fa ρ S).bind fun w S1 => match w with
  | .d (.bl b) => .ok (.d (.bl (!b))) S1
  | _ => .no
theorem de_one {op} (h : DE X Z a fa) : DE X Z (.BoolOp op [a] pos) fa := let ⟨_, p, q⟩ := h; ⟨_, pe_one p, q⟩
theorem de_and (h1 : DE X Z a fa) (h2 : DE X Z (.BoolOp .And (b :: rest) pos) fb) : DE X Z (.BoolOp .And (a :: b :: rest) pos) (fAndV fa fb) := by
  obtain ⟨_, p1, q1⟩ := h1
  obtain ⟨_, p2, q2⟩ := h2
  refine ⟨_, pe_and p1 p2, fun ρ S σ H G c Q gd re h => ?_⟩
  refine q1 ρ S σ H G c _ gd re (Wants.step h fun w S1 G1 c1 H1 v e1 g1 rx h1 => ?_)
  split at h1
  · cases rx with | d rx => cases rx; exact ⟨true, rfl, iteT (q2 ρ S1 σ H1 G1 c1 Q g1 (re.ev e1.gg e1.cc) h1)⟩
  · cases rx with | d rx => cases rx; exact ⟨false, rfl, iteF (h1.ret g1 (.d (.bl _)))⟩
  · exact h1.elim
theorem de_or (h1 : DE X Z a fa) (h2 : DE X Z (.BoolOp .Or (b :: rest) pos) fb) : DE X Z (.BoolOp .Or (a :: b :: rest) pos) (fOrV fa fb) := by
  obtain ⟨_, p1, q1⟩ := h1
  obtain ⟨_, p2, q2⟩ := h2
  refine ⟨_, pe_or p1 p2, fun ρ S σ H G c Q gd re h => ?_⟩
  refine q1 ρ S σ H G c _ gd re (Wants.step h fun w S1 G1 c1 H1 v e1 g1 rx h1 => ?_)
  split at h1
  · cases rx with | d rx => cases rx; exact ⟨true, rfl, iteT (h1.ret g1 (.d (.bl _)))⟩
  · cases rx with | d rx => cases rx; exact ⟨false, rfl, iteF (q2 ρ S1 σ H1 G1 c1 Q g1 (re.ev e1.gg e1.cc) h1)⟩
  · exact h1.elim
theorem de_not (h1 : DE X Z a fa) : DE X Z (.UnaryOp .Not a pos) (fNotV fa) := by
  obtain ⟨_, p1, q1⟩ := h1
  refine ⟨_, pe_not p1, fun ρ S σ H G c Q gd re h => ?_⟩
  refine q1 ρ S σ H G c _ gd re (Wants.step h fun w S1 G1 c1 H1 v e1 g1 rx h1 => ?_)
  split at h1
  · cases rx with | d rx => cases rx; exact ⟨_, rfl, h1.ret g1 (.d (.bl _))⟩
  · exact h1.elim
def fIf (t : FB) (fa fb : FE) : FE := fun ρ S => (t ρ S).bind fun b S1 => if b = true then fa ρ S1 else fb ρ S1
theorem de_if (h : DT X Z e t) (h1 : DE X Z a fa) (h2 : DE X Z b fb) : DE X Z (.IfExp e a b pos) (fIf t fa fb) := by
  obtain ⟨_, p, q⟩ := h
  obtain ⟨_, p1, q1⟩ := h1
  obtain ⟨_, p2, q2⟩ := h2
  refine ⟨_, pe_ifExp p p1 p2, fun ρ S σ H G c Q gd re h => ?_⟩
  refine q ρ S σ H G c _ gd re (Wants.step h fun w S1 G1 c1 H1 v e1 g1 rx h1 => ?_)
  subst rx
  cases v with
  | true => exact iteT (q1 ρ S1 σ H1 G1 c1 Q g1 (re.ev e1.gg e1.cc) h1)
  | false => exact iteF (q2 ρ S1 σ H1 G1 c1 Q g1 (re.ev e1.gg e1.cc) h1)
end
end DL
end
section
/-! DL, 5: subscripts, slices; statements -/
namespace DL
open PySem PySem.Spec PyProof.Rows L2
section
variable {X : Cx} {Z : WX}
/-! ### x[i] -/
def ixA {α : Type} (xs : List α) (i : Int) : Option α := atI xs i
def gIxD : D → D → Store → R W
  | .lst xs, .int i, S => match ixA xs i with
    | some d => .ok (.d d) S
    | none => .no
  | .tup xs, .int i, S => match ixA xs i with
    | some d => .ok (.d d) S
    | none => .no
  | .scr ns, .int i, S => match ixA ns i with
    | some n => .ok (.d (.int n)) S
    | none => .no
  | .str l, .int i, S => match ixA l i with
    | some c => .ok (.d (.str [c])) S
    | none => .no
  | .dct ks vs, k, S => if (dkey k).isSome then (match dget ks vs k with
    | some d => .ok (.d d) S
    | none => .no) else .no
  | _, _, _ => .no
abbrev gIx := gV gIxD
def rIxD : R2 := fun x y H Q => ∃ a kvs k v, x = .ref a ∧ Rd H a (.dK kvs) ∧ y = kV k ∧ valV kvs k = some v ∧ Q v H
theorem ix_dict (hu : X.A.units + 100 < cLine) : IxR X rIxD := by
  intro value slice pins s σ H x y v u Q I rx ry h hs
  obtain ⟨a, kvs, k, z, rfl, hd, rfl, e, q⟩ := h
  cases rx
  have g : DGet H a (kV k) (some z) := .inl ⟨kvs, k, hd, rfl, e.symm⟩
  exact tail_any (dict_typeIs I g) PySem.F.slot_dict_getitem.lookup (d_getItem (by omega) I g ry fun w' s3 I3 rw' => ⟨z, H, I3, rw', q⟩) hs
def rIxA (K : Fg) : R2 := fun x y H Q => rIx K x y H Q ∨ rIxD x y H Q
theorem ix_all (hu : X.A.units + 100 < cLine) : IxR X (rIxA X.K) := ix_seq.or (ix_dict hu)
theorem atI_rep {K : Fg} {G : Hp} {vs : List V} {ds : List D} {i : Int} {d : D} (r : Reps K G vs ds) (h : atI ds i = some d) : ∃ v, atI vs i = some v ∧ Rep K G v d := by
  unfold atI at h ⊢
  rw [r.length]
  cases e : ixN ds.length i with
  | none => rw [e] at h; cases h
  | some j =>
    rw [e] at h
    exact Reps.get r h
theorem opr_ix {K : Fg} : OpRefD K Z (rIxA K) gIxD := by
  intro σ G c S H x y w1 w2 Q g r1 r2 h
  unfold gIxD at h
  split at h
  · obtain ⟨a1, v1, rfl, h1, q1, z1⟩ := r1.lst' g.sub
    cases r2 with | of r2 => cases r2 with | int =>
    split at h
    · rename_i d e
      obtain ⟨v, ev, rv⟩ := atI_rep q1 e
      exact .inl (.inl ⟨_, _, _, v, rfl, rfl, .of h1, ev, h.ret g (.d rv)⟩)
    · exact h.elim
  · cases r1 with | of r1 => cases r2 with | of r2 => cases r2; cases r1 with | tup h1 q1 z1 =>
    split at h
    · rename_i d e
      obtain ⟨v, ev, rv⟩ := atI_rep q1 e
      exact .inl (.inr (.inl ⟨_, _, _, v, rfl, rfl, g.seqT h1, ev, h.ret g (.d rv)⟩))
    · exact h.elim
  · rename_i ns i
    cases r1 with | of r1 => cases r2 with | of r2 => cases r2; cases r1 with | scr h1 z1 =>
    split at h
    · rename_i n e
      have e2 : atI (ns.map V.int) i = some (.int n) := by
        unfold ixA atI at e
        unfold atI
        rw [List.length_map]
        cases e3 : ixN ns.length i with
        | none => rw [e3] at e; cases e
        | some j => rw [e3] at e; simp only [Option.bind_some] at e ⊢; rw [List.getElem?_map, e]; rfl
      exact .inl (.inl ⟨_, _, _, _, rfl, rfl, sqL_sub g.sub h1, e2, h.ret g (.d (.int _))⟩)
    · exact h.elim
  · rename_i l i
    cases r1 with | of r1 => cases r2 with | of r2 => cases r2; cases r1 with | str h1 q1 =>
    split at h
    · rename_i ch e
      have hm : ch ∈ l := by
        unfold ixA atI at e
        cases e3 : ixN l.length i with
        | none => rw [e3] at e; cases e
        | some j => rw [e3] at e; exact List.mem_of_getElem? e
      refine .inl (.inr (.inr ⟨_, _, ch, rfl, rfl, ?_, e, h.ret g (.d (.str (l := [ch]) ?_ ?_))⟩))
      · show l.toArray.size ≤ sizeLine
        simpa using h1
      · show 1 ≤ sizeLine; decide
      · intro c hc; rw [List.mem_singleton.mp hc]; exact q1 _ hm
    · exact h.elim
  · split at h
    · rename_i hk
      obtain ⟨k, hk⟩ := Option.isSome_iff_exists.mp hk
      obtain ⟨a3, kvs, rfl, h2, hk2, q2, z2⟩ := r1.dct' g.sub
      obtain ⟨a1, a2⟩ := dget_rep hk hk2 q2
      split at h
      · rename_i d e
        obtain ⟨v, ev, rv⟩ := a1 d e
        exact .inr ⟨_, _, k, v, rfl, h2, dkey_rep (r2.in g.sub (dkey_nd hk)) hk, ev, h.ret g (.d rv)⟩
      · exact h.elim
    · exact h.elim
  · exact h.elim
variable {a b e : Expr} {fa fb f : FE} {pos : Pos}
theorem de_ix (hu : X.A.units + 100 < cLine) (ha : DE X Z a fa) (hb : DE X Z b fb) (hs : PlainIx b := by exact fun _ _ => rfl) : DE X Z (.Subscript a b pos) (fBin gIx fa fb) :=
  let ⟨_, p1, q1⟩ := ha; let ⟨_, p2, q2⟩ := hb; ⟨_, pe_ix (ix_all hu) p1 p2 hs, ref_bin opr_ix.w q1 q2⟩
/-! ### x[i:j] -/
abbrev FO := Env → Store → R (Option Int)
def RefO (K : Fg) (Z : WX) (t : TO) (f : FO) : Prop := ∀ ρ S σ H G c Q, Good K G c S H → RepE K G c σ ρ → Wants K Z σ (fun _ _ (b : Option Int) a => b = a) G c H (f ρ S) Q → t σ H Q
def DO (X : Cx) (Z : WX) (e : Option Expr) (f : FO) : Prop := ∃ t, PO X e t ∧ RefO X.K Z t f
def fNoO : FO := fun _ S => .ok none S
def fSomeO (f : FE) : FO := fun ρ S => (f ρ S).bind fun w S1 => match w with
  | .d (.int i) => .ok (some i) S1
  | _ => .no
theorem do_none : DO X Z none fNoO := ⟨_, po_none, fun ρ S σ H G c Q g re h => h G c H none (.refl ..) g rfl⟩
theorem do_some (h : DE X Z e f) : DO X Z (some e) (fSomeO f) := by
  obtain ⟨_, p, q⟩ := h
  refine ⟨_, po_some p, fun ρ S σ H G c Q gd re h => ?_⟩
  refine q ρ S σ H G c _ gd re (Wants.step h fun w S1 G1 c1 H1 v e1 g1 rx h1 => ?_)
  split at h1
  · cases rx with | d rx => cases rx; exact ⟨_, rfl, h1 G1 c1 H1 _ (.refl ..) g1 rfl⟩
  · exact h1.elim
def cutL {α : Type} (xs : List α) (lo hi : Option Int) : List α := (xs.drop (HT.sIx xs.length 0 lo)).take (HT.sIx xs.length xs.length hi - HT.sIx xs.length 0 lo)
def gSlD (d : D) (lo hi : Option Int) (S : Store) : R W := match d with
  | .lst xs => .ok (.d (.lst (cutL xs lo hi))) S
  | .tup xs => .ok (.d (.tup (cutL xs lo hi))) S
  | .str l => .ok (.d (.str (cutL l lo hi))) S
  | .scr ns => .ok (.d (.lst ((cutL ns lo hi).map D.int))) S
  | _ => .no
def gSl (w : W) (lo hi : Option Int) (S : Store) : R W := match val w S with
  | some d => gSlD d lo hi S
  | none => .no
theorem cutL_len {α : Type} (xs : List α) (lo hi : Option Int) : (cutL xs lo hi).length ≤ xs.length := by
  unfold cutL
  rw [List.length_take, List.length_drop]
  omega
theorem cutL_mem {α : Type} {xs : List α} {lo hi : Option Int} {x : α} (h : x ∈ cutL xs lo hi) : x ∈ xs := List.mem_of_mem_drop (List.mem_of_mem_take h)
theorem cut_rep {K : Fg} {G : Hp} {vs : List V} {ds : List D} {lo hi : Option Int} (r : Reps K G vs ds) : Reps K G (cutV vs lo hi) (cutL ds lo hi) := by
  unfold cutV cutL
  rw [r.length]
  exact Reps.take _ (Reps.drop _ r)
def rSlX (K : Fg) : V → Option Int → Option Int → Hp → VK → Prop := fun x lo hi H Q => rSlL K x lo hi H Q ∨ rSlA K x lo hi H Q ∨ rSlS x lo hi H Q
theorem sl_all : SlR X (rSlX X.K) := sl_list.or (sl_tupA.or sl_str)
theorem ints_rep {K : Fg} {G : Hp} : ∀ ns : List Int, Reps K G (ns.map V.int) (ns.map D.int)
  | [] => .nil
  | n :: ns => .cons (.int n) (ints_rep ns)
theorem cutV_ints (ns : List Int) (lo hi : Option Int) : cutV (ns.map V.int) lo hi = (cutL ns lo hi).map V.int := by
  unfold cutV cutL
  rw [List.length_map, List.map_take, List.map_drop]
theorem sl_ref {K : Fg} {σ : L2.St} {G c S H} {x : V} {w : W} {lo hi : Option Int} {Q : VK} (g : Good K G c S H) (r : RepW K G c x w) (h : Wants K Z σ (RepW K) G c H (gSl w lo hi S) Q) : rSlX K x lo hi H Q := by
  unfold gSl at h
  split at h
  · rename_i d ed
    have r := val_rep g r ed
    unfold gSlD at h
    split at h
    · obtain ⟨a1, v1, rfl, h1, q1, z1⟩ := r.lst' g.sub
      refine .inl ⟨_, _, rfl, .of h1, fun p hp => h.retNew g hp (.d (.lst upd_same (Reps.sub (Sub.upd (g.free hp)) _ _ (cut_rep q1)) (Nat.le_trans (cutL_len ..) z1)))⟩
    · rename_i xs
      cases r with | of r => cases r with | tup h1 q1 z1 =>
      refine .inr (.inl ⟨_, _, rfl, g.seqT h1, fun hw => h.ret g (.d ?_), fun hw p hp => h.retNew g hp (.d (.tup (.of upd_same) (Reps.sub (Sub.upd (g.free hp)) _ _ (cut_rep q1)) (Nat.le_trans (cutL_len ..) z1)))⟩)
      have e : cutL xs lo hi = xs := by
        unfold cutL
        rw [q1.length] at hw
        rw [hw.1, hw.2, List.drop_zero, Nat.sub_zero, List.take_length]
      rw [e]
      exact .tup h1 q1 z1
    · rename_i l
      cases r with | of r => cases r with | str h1 q1 =>
      have e : cutS ⟨l.toArray⟩ lo hi = ⟨(cutL l lo hi).toArray⟩ := rfl
      refine .inr (.inr ⟨_, rfl, ?_, ?_⟩)
      · show l.toArray.size ≤ sizeLine
        simpa using h1
      · rw [e]
        exact h.ret g (.d (.str (Nat.le_trans (cutL_len ..) h1) fun c hc => q1 c (cutL_mem hc)))
    · rename_i ns
      cases r with | of r => cases r with | scr h1 z1 =>
      refine .inl ⟨_, _, rfl, sqL_sub g.sub h1, fun p hp => h.retNew g hp (.d (.lst upd_same ?_ ?_))⟩
      · rw [cutV_ints]; exact ints_rep _
      · rw [List.length_map]; exact Nat.le_trans (cutL_len ..) (Nat.le_trans z1 (by decide))
    · exact h.elim
  · exact h.elim
def fSl (f : FE) (l u : FO) : FE := fun ρ S => (f ρ S).bind fun w S1 => (l ρ S1).bind fun lo S2 => (u ρ S2).bind fun hi S3 => gSl w lo hi S3
variable {lo hi : Option Expr} {fl fu : FO} {p2 : Pos}
theorem de_sl (h : DE X Z e f) (hl : DO X Z lo fl) (hh : DO X Z hi fu) : DE X Z (.Subscript e (.Slice lo hi none p2) pos) (fSl f fl fu) := by
  obtain ⟨_, p, q⟩ := h
  obtain ⟨_, p1, q1⟩ := hl
  obtain ⟨_, p2, q2⟩ := hh
  refine ⟨_, pe_slice sl_all p p1 p2, fun ρ S σ H G c Q gd re h => ?_⟩
  refine q ρ S σ H G c _ gd re (Wants.step h fun w S1 G1 c1 H1 v e1 g1 rx h1 => ?_)
  refine q1 ρ S1 σ H1 G1 c1 _ g1 (re.ev e1.gg e1.cc) (Wants.step h1 fun w1 S2 G2 c2 H2 v1 e2 g2 rx1 h2 => ?_)
  refine q2 ρ S2 σ H2 G2 c2 _ g2 ((re.ev e1.gg e1.cc).ev e2.gg e2.cc) (Wants.step h2 fun w2 S3 G3 c3 H3 v2 e3 g3 rx2 h3 => ?_)
  subst rx1 rx2
  exact sl_ref g3 ((rx.ev e2.gg e2.cc).ev e3.gg e3.cc) h3

/-! ### statements -/
/-- an expression's meaning, then a statement's rest -/
def thenS {α : Type} (ρ : Env) (r : R α) (k : α → Store → Fl) : Fl := match r with
  | .ok a S => k a S
  | .ex x S => .ex x ρ S
  | .no => .no
theorem WantsS.ev {K : Fg} {G c H G1 c1 H1} {r : Fl} {D : Ends} (e : Ev G c H G1 c1 H1) (h : WantsS K Z G c H r D) : WantsS K Z G1 c1 H1 r D := by
  revert h
  cases r with
  | nx _ _ => exact fun h G2 c2 H2 b2 e2 => h G2 c2 H2 b2 (e.trans e2)
  | bk _ _ => exact fun h G2 c2 H2 b2 e2 => h G2 c2 H2 b2 (e.trans e2)
  | ct _ _ => exact fun h G2 c2 H2 b2 e2 => h G2 c2 H2 b2 (e.trans e2)
  | rt _ _ => exact fun h G2 c2 H2 b2 e2 => h G2 c2 H2 b2 (e.trans e2)
  | ex _ _ _ => exact fun h G2 c2 H2 s2 cls dx e2 => h G2 c2 H2 s2 cls dx (e.trans e2)
  | no => exact fun h => h
def seqS (r : Fl) (k : Env → Store → Fl) : Fl := match r with
  | .nx ρ S => k ρ S
  | r => r
def fSeq (f g : FS) : FS := fun ρ S => seqS (f ρ S) g
def fNext : FS := fun ρ S => .nx ρ S
theorem refs_seq {K : Fg} {t u : TS} {f g : FS} (h1 : RefS K Z t f) (h2 : RefS K Z u g) : RefS K Z (tSeq t u) (fSeq f g) := by
  intro ρ S σ H G c D gd re h
  refine h1 ρ S σ H G c _ gd re ?_
  unfold fSeq seqS at h
  revert h
  cases f ρ S with
  | nx ρ1 S1 => exact fun h G1 c1 H1 σ1 e g1 r1 => h2 ρ1 S1 σ1 H1 G1 c1 D g1 r1 (WantsS.ev e h)
  | bk _ _ => exact fun h => h
  | ct _ _ => exact fun h => h
  | rt _ _ => exact fun h => h
  | ex _ _ _ => exact fun h => h
  | no => exact fun h => h
variable {st : Stmt} {rest : List Stmt} {fs gs : FS}
theorem dss_nil : DSs X Z [] fNext := ⟨_, pss_nil, fun ρ S σ H G c D g re h => h G c H σ (.refl ..) g re⟩
theorem dss_cons (h1 : DS X Z st fs) (h2 : DSs X Z rest gs) : DSs X Z (st :: rest) (fSeq fs gs) := let ⟨_, p1, q1⟩ := h1; let ⟨_, p2, q2⟩ := h2; ⟨_, pss_cons p1 p2, refs_seq q1 q2⟩
theorem dss_one (h1 : DS X Z st fs) : DSs X Z [st] fs := let ⟨_, p1, q1⟩ := h1; ⟨_, pss_one p1, q1⟩
def fNever : FS := fun _ _ => .no
theorem ds_never : DS X Z st fNever := ⟨_, ps_never, fun _ _ _ _ _ _ _ _ _ h => h⟩
theorem dss_never : DSs X Z rest fNever := ⟨_, pss_never, fun _ _ _ _ _ _ _ _ _ h => h⟩
theorem ds_pass : DS X Z (.Pass pos) fNext := ⟨_, ps_pass, fun ρ S σ H G c D g re h => h G c H σ (.refl ..) g re⟩
theorem ds_doc {x j p pos'} : DS X Z (.Expr (.Constant (.str x) j p) pos') fNext := ⟨_, ps_doc, fun ρ S σ H G c D g re h => h G c H σ (.refl ..) g re⟩
def fBreak : FS := fun ρ S => .bk ρ S
def fCont : FS := fun ρ S => .ct ρ S
theorem ds_break : DS X Z (.Break pos) fBreak := ⟨_, ps_break, fun ρ S σ H G c D g re h => h G c H σ (.refl ..) g re⟩
theorem ds_continue : DS X Z (.Continue pos) fCont := ⟨_, ps_continue, fun ρ S σ H G c D g re h => h G c H σ (.refl ..) g re⟩
/-- an expression alone -/
def fExpr (f : FE) : FS := fun ρ S => thenS ρ (f ρ S) fun _ S1 => .nx ρ S1
theorem ds_expr (h : DE X Z e f) (hs : swapsWith e none pos.line X.env = pure false := by rfl) : DS X Z (.Expr e pos) (fExpr f) := by
  obtain ⟨_, p, q⟩ := h
  refine ⟨_, ps_expr p hs, fun ρ S σ H G c D gd re h => ?_⟩
  refine q ρ S σ H G c _ gd re (Wants.stepS re h fun w S1 G1 c1 H1 v e1 g1 rx h1 => ?_)
  exact h1 G1 c1 H1 σ (.refl ..) g1 (re.ev e1.gg e1.cc)
def fRet (f : FE) : FS := fun ρ S => thenS ρ (f ρ S) fun w S1 => .rt w S1
theorem ds_ret (h : DE X Z e f) : DS X Z (.Return (some e) pos) (fRet f) := by
  obtain ⟨_, p, q⟩ := h
  refine ⟨_, ps_ret p, fun ρ S σ H G c D gd re h => ?_⟩
  refine q ρ S σ H G c _ gd re (Wants.stepS re h fun w S1 G1 c1 H1 v e1 g1 rx h1 => ?_)
  exact h1 G1 c1 H1 v (.refl ..) g1 rx
def fRetN : FS := fun _ S => .rt (.d .non) S
theorem ds_retN : DS X Z (.Return none pos) fRetN := ⟨_, ps_retN, fun ρ S σ H G c D g re h => h G c H .non (.refl ..) g (.d .non)⟩
def fIfS (t : FB) (f g : FS) : FS := fun ρ S => thenS ρ (t ρ S) fun b S1 => if b = true then f ρ S1 else g ρ S1
theorem ds_if {cnd : Expr} {A B : List Stmt} {t : FB} (hc : DT X Z cnd t) (ha : DSs X Z A fs) (hb : DSs X Z B gs) : DS X Z (.If cnd A B pos) (fIfS t fs gs) := by
  obtain ⟨_, p, q⟩ := hc
  obtain ⟨_, p1, q1⟩ := ha
  obtain ⟨_, p2, q2⟩ := hb
  refine ⟨_, ps_if p p1 p2, fun ρ S σ H G c D gd re h => ?_⟩
  refine q ρ S σ H G c _ gd re (Wants.stepS re h fun w S1 G1 c1 H1 v e1 g1 rx h1 => ?_)
  subst rx
  cases v with
  | true => exact iteT (q1 ρ S1 σ H1 G1 c1 D g1 (re.ev e1.gg e1.cc) h1)
  | false => exact iteF (q2 ρ S1 σ H1 G1 c1 D g1 (re.ev e1.gg e1.cc) h1)
/-! ### targets -/
abbrev FG := W → Env → Store → R Env
def RefG (K : Fg) (Z : WX) (t : TG) (f : FG) : Prop := ∀ w v ρ S σ H G c (Q : L2.St → Hp → Prop), Good K G c S H → RepE K G c σ ρ → RepW K G c v w →
  (match f w ρ S with
    | .ok ρ' S' => ∀ G' c' H' σ', Ev G c H G' c' H' → Good K G' c' S' H' → RepE K G' c' σ' ρ' → Q σ' H'
    | _ => False) → t v σ H Q
def DG (X : Cx) (Z : WX) (e : Expr) (f : FG) : Prop := ∃ t, PG X e t ∧ RefG X.K Z t f
def gSet (i : Nat) : FG := fun w ρ S => .ok (ρ.set i (some w)) S
theorem refg_name {K : Fg} (i : Nat) : RefG K Z (gName i) (gSet i) := fun w v ρ S σ H G c Q g re r h => h G c H _ (.refl ..) g (re.set r)
theorem dg_name {i : Nat} {x : Str} (hN : X.N.Nodup) (hi : X.N[i]? = some x := by rfl) (hx : Loc X.env.scope x := by first | exact Or.inl rfl | exact Or.inr rfl) (hf : X.fn x = true ∨ X.env.scope.names.lookup x = some .local := by first | exact .inl rfl | exact .inr rfl | assumption) : DG X Z (.Name x pos) (gSet i) :=
  ⟨_, pg_name hN hi hx hf, refg_name i⟩
abbrev FGs := List W → Env → Store → R Env
def RefGs (K : Fg) (Z : WX) (t : TGs) (f : FGs) : Prop := ∀ ws vs ρ S σ H G c (Q : L2.St → Hp → Prop), Good K G c S H → RepE K G c σ ρ → RepWs K G c vs ws →
  (match f ws ρ S with
    | .ok ρ' S' => ∀ G' c' H' σ', Ev G c H G' c' H' → Good K G' c' S' H' → RepE K G' c' σ' ρ' → Q σ' H'
    | _ => False) → t vs σ H Q
def DGs (X : Cx) (Z : WX) (es : List Expr) (f : FGs) : Prop := ∃ t, PGs X es t ∧ RefGs X.K Z t f
def gsNil : FGs := fun ws ρ S => match ws with
  | [] => .ok ρ S
  | _ => .no
def gsCons (f : FG) (g : FGs) : FGs := fun ws ρ S => match ws with
  | w :: ws => (match f w ρ S with
    | .ok ρ1 S1 => g ws ρ1 S1
    | _ => .no)
  | _ => .no
theorem dgs_nil : DGs X Z [] gsNil := ⟨_, pgs_nil, fun ws vs ρ S σ H G c Q g re r h => by
  cases r with
  | nil => exact ⟨rfl, h G c H σ (.refl ..) g re⟩
  | cons _ _ => exact h.elim⟩
theorem dgs_cons {es : List Expr} {f : FG} {g : FGs} (h1 : DG X Z e f) (h2 : DGs X Z es g) (hs : (assignEach (e :: es) X.env).map (·.2) = assign e X.env :: (assignEach es X.env).map (·.2) := by rfl) : DGs X Z (e :: es) (gsCons f g) := by
  obtain ⟨_, p1, q1⟩ := h1
  obtain ⟨_, p2, q2⟩ := h2
  refine ⟨_, pgs_cons p1 p2 hs, fun ws vs ρ S σ H G c Q gd re r h => ?_⟩
  cases r with
  | nil => exact h.elim
  | cons r rs =>
    rename_i v w vs ws
    refine ⟨_, _, rfl, q1 w v ρ S σ H G c _ gd re r ?_⟩
    unfold gsCons at h
    dsimp only at h
    revert h
    cases f w ρ S with
    | ok ρ1 S1 =>
      refine fun h G1 c1 H1 σ1 e1 g1 r1 => q2 ws vs ρ1 S1 σ1 H1 G1 c1 Q g1 r1 (RepWs.ev e1.gg e1.cc rs) ?_
      dsimp only at h
      revert h
      cases g ws ρ1 S1 with
      | ok ρ2 S2 => exact fun h G2 c2 H2 σ2 e2 => h G2 c2 H2 σ2 (e1.trans e2)
      | ex _ _ => exact fun h => h
      | no => exact fun h => h
    | ex _ _ => exact fun h => h
    | no => exact fun h => h
def gTupT (n : Nat) (g : FGs) : FG := fun w ρ S => match w with
  | .d (.tup ds) => if ds.length = n then g (ds.map W.d) ρ S else .no
  | _ => .no
theorem repWs_of {K : Fg} {G : Hp} {c : List Addr} : ∀ {vs : List V} {ds : List D}, Reps K G vs ds → RepWs K G c vs (ds.map W.d)
  | _, _, .nil => .nil
  | _, _, .cons h t => .cons (.d h) (repWs_of t)
theorem dg_tup {es : List Expr} {k : Nat} {g : FGs} {n : Nat} (h : DGs X Z es g) (hc : X.calm = true := by rfl) (hn : (assignEach es X.env).length = n := by rfl) (hst : (assignEach es X.env).findIdx? (·.1) = none := by rfl) : DG X Z (.Tuple es k pos) (gTupT n g) := by
  obtain ⟨_, p, q⟩ := h
  refine ⟨_, pg_tup hc p hn hst, fun w v ρ S σ H G c Q gd re r h => ?_⟩
  unfold gTupT at h
  cases r with
  | d r =>
    cases r with
    | @tup a vs ds h1 q1 z1 =>
      dsimp only at h
      by_cases hl : ds.length = n
      · rw [if_pos hl] at h
        exact ⟨_, _, rfl, gd.seqT h1, by rw [q1.length]; exact hl, q _ _ ρ S σ H G c Q gd re (repWs_of q1) h⟩
      · rw [if_neg hl] at h
        exact h.elim
    | _ => exact h.elim
  | _ => exact h.elim
/-- tg = e -/
def fAsg (f : FE) (g : FG) : FS := fun ρ S => thenS ρ (f ρ S) fun w S1 => match g w ρ S1 with
  | .ok ρ2 S2 => .nx ρ2 S2
  | _ => .no
theorem refs_asg {K : Fg} {te : TE} {tg : TG} {f : FE} {g : FG} (h1 : Ref K Z te f) (h2 : RefG K Z tg g) : RefS K Z (tAsg te tg) (fAsg f g) := by
  intro ρ S σ H G c D gd re h
  refine h1 ρ S σ H G c _ gd re (Wants.stepS re h fun w S1 G1 c1 H1 v e1 g1 rx h1 => ?_)
  refine h2 w v ρ S1 σ H1 G1 c1 _ g1 (re.ev e1.gg e1.cc) rx ?_
  revert h1
  cases g w ρ S1 with
  | ok ρ2 S2 => exact fun h => h
  | ex _ _ => exact fun h => h
  | no => exact fun h => h
theorem ds_asg {tg : Expr} {g : FG} (h : DE X Z e f) (hg : DG X Z tg g) (hs : swapsWithSole [tg] e pos.line X.env = pure false := by rfl) (hw : swappedStores [tg] e X.env = pure none := by rfl) (ht : (assignEach [tg] X.env).map (·.2) = [assign tg X.env] := by rfl) : DS X Z (.Assign [tg] e pos) (fAsg f g) :=
  let ⟨_, p1, q1⟩ := h; let ⟨_, p2, q2⟩ := hg; ⟨_, ps_asg p1 p2 hs hw ht, refs_asg q1 q2⟩
/-- x = e -/
theorem ds_set {i : Nat} {x : Str} {pos' : Pos} (hN : X.N.Nodup) (h : DE X Z e f) (hi : X.N[i]? = some x := by rfl) (hx : Loc X.env.scope x := by first | exact Or.inl rfl | exact Or.inr rfl) (hs : swapsWith e (some (.Name x pos')) pos.line X.env = pure false := by rfl)
    (hf : X.fn x = true ∨ X.env.scope.names.lookup x = some .local := by first | exact .inl rfl | exact .inr rfl | assumption) : DS X Z (.Assign [.Name x pos'] e pos) (fAsg f (gSet i)) :=
  let ⟨_, p1, q1⟩ := h; ⟨_, ps_set hN hi hx p1 hs hf, refs_asg q1 (refg_name i)⟩
/-- x, y = e1, e2 -/
def fPar (i j : Nat) (fs : FL) : FS := fun ρ S => thenS ρ (fs ρ S) fun ws S1 => match ws with
  | [v, w] => .nx ((ρ.set i (some v)).set j (some w)) S1
  | _ => .no
theorem refs_par {K : Fg} {i j : Nat} {ta : TA} {fs : FL} (h : RefL K Z ta fs) : RefS K Z (tPar i j ta) (fPar i j fs) := by
  intro ρ S σ H G c D gd re q
  refine h ρ S σ H G c _ gd re (Wants.stepS re q fun ws S1 G1 c1 H1 vs e1 g1 rx h1 => ?_)
  split at h1
  · cases rx with | cons r1 rx => cases rx with | cons r2 rx => cases rx; exact ⟨_, _, rfl, h1 G1 c1 H1 _ (.refl ..) g1 (((re.ev e1.gg e1.cc).set r1).set r2)⟩
  · exact h1.elim
end
end DL
end
section
/-! DL, 6: what is walked; for; comprehensions; while -/
namespace DL
open PySem PySem.Spec PyProof.Rows L2
/-! ### the reading that belongs to a meaning -/
def canE (K : Fg) (Z : WX) (f : FE) : TE := fun σ H Q => ∃ ρ S G c, Good K G c S H ∧ RepE K G c σ ρ ∧ Wants K Z σ (RepW K) G c H (f ρ S) Q
def canB (K : Fg) (Z : WX) (f : FB) : TT := fun σ H Q => ∃ ρ S G c, Good K G c S H ∧ RepE K G c σ ρ ∧ Wants K Z σ (fun _ _ (b : Bool) a => b = a) G c H (f ρ S) Q
def canS (K : Fg) (Z : WX) (f : FS) : TS := fun D σ H => ∃ ρ S G c, Good K G c S H ∧ RepE K G c σ ρ ∧ WantsS K Z G c H (f ρ S) D
def WantsG (K : Fg) (G : Hp) (c : List Addr) (H : Hp) (r : R Env) (Q : L2.St → Hp → Prop) : Prop := match r with
    | .ok ρ' S' => ∀ G' c' H' σ', Ev G c H G' c' H' → Good K G' c' S' H' → RepE K G' c' σ' ρ' → Q σ' H'
    | _ => False
def canG (K : Fg) (f : FG) : TG := fun v σ H Q => ∃ w ρ S G c, Good K G c S H ∧ RepE K G c σ ρ ∧ RepW K G c v w ∧ WantsG K G c H (f w ρ S) Q
section
variable {X : Cx} {Z : WX}
theorem DE.can {e : Expr} {f : FE} (h : DE X Z e f) : PE X e (canE X.K Z f) := by
  obtain ⟨t, p, q⟩ := h
  exact ⟨fun pins s σ H Q I ⟨ρ, S, G, c, g, re, w⟩ => p.run pins s σ H Q I (q ρ S σ H G c Q g re w)⟩
theorem DT.can {e : Expr} {f : FB} (h : DT X Z e f) : PT X e (canB X.K Z f) := by
  obtain ⟨t, p, q⟩ := h
  exact ⟨fun pins s σ H Q I ⟨ρ, S, G, c, g, re, w⟩ => p.run pins s σ H Q I (q ρ S σ H G c Q g re w)⟩
theorem DSs.can {e : List Stmt} {f : FS} (h : DSs X Z e f) : PSs X e (canS X.K Z f) := by
  obtain ⟨t, p, q⟩ := h
  exact ⟨fun pins s σ H D I ⟨ρ, S, G, c, g, re, w⟩ => p.run pins s σ H D I (q ρ S σ H G c D g re w)⟩
theorem DG.can {e : Expr} {f : FG} (h : DG X Z e f) : PG X e (canG X.K f) := by
  obtain ⟨t, p, q⟩ := h
  exact ⟨fun pins s σ H v u Q I r ⟨w, ρ, S, G, c, g, re, rw, h⟩ => p.run pins s σ H v u Q I r (q w v ρ S σ H G c Q g re rw h)⟩
theorem canE_ref {K : Fg} {f : FE} : Ref K Z (canE K Z f) f := fun ρ S σ H G c Q g re w => ⟨ρ, S, G, c, g, re, w⟩
theorem canB_ref {K : Fg} {f : FB} : RefB K Z (canB K Z f) f := fun ρ S σ H G c Q g re w => ⟨ρ, S, G, c, g, re, w⟩
theorem canS_ref {K : Fg} {f : FS} : RefS K Z (canS K Z f) f := fun ρ S σ H G c D g re w => ⟨ρ, S, G, c, g, re, w⟩
theorem canG_ref {K : Fg} {f : FG} : RefG K Z (canG K f) f := fun w v ρ S σ H G c Q g re r h => ⟨w, ρ, S, G, c, g, re, r, h⟩

/-! ### what is walked -/
inductive Src where
  | fix (ds : List D) | cell (n : Nat)
/-- the walk J gives these -/
def Turns (K : Fg) (G0 : Hp) (c0 : List Addr) (J : It) : Src → Prop
  | .fix ds => ∃ (P : Hp → Prop) (Y : Nat → Hp → V → Hp → Prop), Walk J ds.length P Y ∧ (∀ G c S H, Good K G c S H → Sub G0 G → P H) ∧
      ∀ G c S H i x H', Good K G c S H → Sub G0 G → Y i H x H' → ∃ d G', ds[i]? = some d ∧ Ev G c H G' c H' ∧ Good K G' c S H' ∧ Rep K G' x d
  | .cell n => ∃ a, c0[n]? = some a ∧ J = Itl K a
theorem Turns.mono {K : Fg} {G0 G1 : Hp} {c0 c1 : List Addr} {J : It} {s : Src} (h : Turns K G0 c0 J s) (g : Sub G0 G1) (p : c0 <+: c1) : Turns K G1 c1 J s := by
  cases s with
  | fix ds =>
    obtain ⟨P, Y, w, h1, h2⟩ := h
    exact ⟨P, Y, w, fun G c S H a b => h1 G c S H a (g.trans b), fun G c S H i x H' a b => h2 G c S H i x H' a (g.trans b)⟩
  | cell n =>
    obtain ⟨a, e, rfl⟩ := h
    exact ⟨a, pre_get p e, rfl⟩
abbrev FI := Env → Store → R Src
def RefI (K : Fg) (Z : WX) (wi : TI) (f : FI) : Prop := ∀ ρ S σ H G c (Q : It → Hp → Prop), Good K G c S H → RepE K G c σ ρ → Wants K Z σ (fun G c J s => Turns K G c J s) G c H (f ρ S) Q → wi σ H Q
def DI (X : Cx) (Z : WX) (tg e : Expr) (f : FI) : Prop := ∃ t, PI X tg e t ∧ RefI X.K Z t f
theorem pi_or {tg e : Expr} {t u : TI} (h1 : PI X tg e t) (h2 : PI X tg e u) : PI X tg e (fun σ H Q => t σ H Q ∨ u σ H Q) := ⟨fun pins s σ H Q I h => h.elim (h1.run pins s σ H Q I) (h2.run pins s σ H Q I)⟩
def itemsW (w : W) (S : Store) : R Src := match w with
  | .d (.lst ds) => .ok (.fix ds) S
  | .d (.tup ds) => .ok (.fix ds) S
  | .d (.str l) => .ok (.fix (l.map fun ch => .str [ch])) S
  | .d (.scr ns) => .ok (.fix (ns.map .int)) S
  | .loc n => (match S[n]? with
    | some (.lst _) => .ok (.cell n) S
    | _ => .no)
  | _ => .no
def fItems (f : FE) : FI := fun ρ S => (f ρ S).bind fun w S1 => itemsW w S1
theorem turns_fix {K : Fg} {G : Hp} {c : List Addr} {J : It} {vs : List V} {ds : List D} {P : Hp → Prop} (w : Walk J vs.length P (YAt vs)) (r : Reps K G vs ds) (hP : ∀ G' c' S H, Good K G' c' S H → Sub G G' → P H) : Turns K G c J (.fix ds) := by
  refine ⟨P, YAt vs, r.length ▸ w, hP, fun G1 c1 S H i x H' g s y => ?_⟩
  obtain ⟨rfl, e⟩ := y
  obtain ⟨d, e1, r1⟩ := r.getV e
  exact ⟨d, G1, e1, .refl .., g, Rep.sub s _ _ r1⟩
theorem turns_str {K : Fg} {G : Hp} {c : List Addr} {l : List Nat} (q1 : ∀ c ∈ l, c < 1114112) : Turns K G c (Its ⟨l.toArray⟩) (.fix (l.map fun ch => .str [ch])) := by
  have w := walk_str (z := ⟨l.toArray⟩)
  have e : (⟨l.toArray⟩ : Str).cps.size = (l.map fun ch => D.str [ch]).length := by simp
  rw [e] at w
  refine ⟨_, _, w, fun _ _ _ _ _ _ => True.intro, fun G2 c2 S2 H2 i x H' g2 s2 y => ?_⟩
  obtain ⟨rfl, ch, e, rfl⟩ := y
  have e2 : l[i]? = some ch := by simpa using e
  refine ⟨.str [ch], G2, by rw [List.getElem?_map, e2]; rfl, .refl .., g2, .str (l := [ch]) (by show 1 ≤ sizeLine; decide) fun c hc => ?_⟩
  rw [List.mem_singleton.mp hc]
  exact q1 ch (List.mem_of_getElem? e2)
theorem refi_items {K : Fg} {te : TE} {f : FE} (h : Ref K Z te f) : RefI K Z (fun σ H Q => iList K te σ H Q ∨ iTup K te σ H Q ∨ iStr te σ H Q) (fItems f) := by
  intro ρ S σ H G c Q gd re q
  unfold fItems at q
  have base := fun P => h ρ S σ H G c P gd re
  revert base q
  cases f ρ S with
  | no => exact fun q _ => q.elim
  | ex x S1 => exact fun q base => .inl (base _ q)
  | ok w S1 =>
    intro q0 base
    have q : Wants K Z σ (fun G c J s => Turns K G c J s) G c H (itemsW w S1) Q := q0
    clear q0
    unfold itemsW at q
    split at q
    · rename_i ds
      refine .inl (base _ fun G1 c1 H1 v e1 g1 r1 => ?_)
      cases r1 with | d r1 => cases r1 with | lst h1 q1 z1 =>
      exact ⟨_, rfl, ⟨_, .of (g1.sub _ _ h1)⟩, q G1 c1 H1 _ e1 g1 (turns_fix (walk_list (K := K)) q1 fun G' c' S H g s => .of (g.sub _ _ (s _ _ h1)))⟩
    · rename_i ds
      refine .inr (.inl (base _ fun G1 c1 H1 v e1 g1 r1 => ?_))
      cases r1 with | d r1 => cases r1 with | tup h1 q1 z1 =>
      exact ⟨_, rfl, ⟨_, g1.seqT h1⟩, q G1 c1 H1 _ e1 g1 (turns_fix (walk_tup (K := K)) q1 fun G' c' S H g s => g.seqT (sqT_sub s h1))⟩
    · rename_i l
      refine .inr (.inr (base _ fun G1 c1 H1 v e1 g1 r1 => ?_))
      cases r1 with | d r1 => cases r1 with | str h1 q1 =>
      exact ⟨_, rfl, q G1 c1 H1 _ e1 g1 (turns_str q1)⟩
    · rename_i ns
      refine .inl (base _ fun G1 c1 H1 v e1 g1 r1 => ?_)
      cases r1 with | d r1 => cases r1 with | scr h1 z1 =>
      exact ⟨_, rfl, ⟨_, sqL_sub g1.sub h1⟩, q G1 c1 H1 _ e1 g1 (turns_fix (walk_list (K := K)) (ints_rep ns) fun G' c' S H g s => sqL_sub (s.trans g.sub) h1)⟩
    · split at q
      · rename_i e
        refine .inl (base _ fun G1 c1 H1 v e1 g1 r1 => ?_)
        cases r1 with | loc hn =>
        obtain ⟨gn, x, hx, ca⟩ := g1.cell _ _ hn
        rw [e] at hx
        cases hx
        cases ca with | lst h1 q1 z1 =>
        exact ⟨_, rfl, ⟨_, .of h1⟩, q G1 c1 H1 _ e1 g1 ⟨_, hn, rfl⟩⟩
      · exact q.elim
    · exact q.elim
theorem di_items {tg e : Expr} {f : FE} (h : DE X Z e f) : DI X Z tg e (fItems f) :=
  let ⟨_, p, q⟩ := h; ⟨_, pi_or (pi_list p) (pi_or (pi_tup p) (pi_str p)), refi_items q⟩
/-- range -/
def small62 (i : Int) : Bool := Nat.ble i.natAbs 4611686018427387903
def rangeD (lo : Int) (n : Nat) : List D := (List.range n).map fun (k : Nat) => .int (lo + (k : Int))
def fRange1 (fs : FL) : FI := fun ρ S => (fs ρ S).bind fun ws S1 => match ws with
  | [.d (.int j)] => if small62 j then .ok (.fix (rangeD 0 j.toNat)) S1 else .no
  | _ => .no
def fRange2 (fs : FL) : FI := fun ρ S => (fs ρ S).bind fun ws S1 => match ws with
  | [.d (.int i), .d (.int j)] => if small62 i && small62 j then .ok (.fix (rangeD i (j - i).toNat)) S1 else .no
  | _ => .no
theorem turns_range {K : Fg} {G : Hp} {c : List Addr} {lo : Int} {n : Nat} : Turns K G c (Itr lo n) (.fix (rangeD lo n)) := by
  have e : n = (rangeD lo n).length := by simp [rangeD]
  have w : Walk (Itr lo n) (rangeD lo n).length (fun _ => True) (fun i H x H' => (H' = H ∧ x = .int (lo + (i : Nat))) ∧ i < n) :=
    ⟨fun i _ h _ => (by have h' : i < n := by omega
                        exact h'), fun _ _ => Nat.le_of_eq e, fun i _ _ _ h _ y => ⟨y, by omega⟩⟩
  refine ⟨_, _, w, fun _ _ _ _ _ _ => True.intro, fun G2 c2 S2 H2 i x H' g2 s2 y => ?_⟩
  obtain ⟨⟨rfl, rfl⟩, hi⟩ := y
  exact ⟨.int (lo + i), G2, by simp [rangeD, hi], .refl .., g2, .int _⟩
theorem small62_ok {i : Int} (h : small62 i = true) : -(2 ^ 62) ≤ i ∧ i < 2 ^ 62 := by
  have h : i.natAbs ≤ 4611686018427387903 := Nat.le_of_ble_eq_true h
  constructor <;> omega
theorem refi_range1 {K : Fg} {ta : TA} {fs : FL} (h : RefL K Z ta fs) : RefI K Z (iRng1 ta) (fRange1 fs) := by
  intro ρ S σ H G c Q gd re q
  refine h ρ S σ H G c _ gd re (Wants.step q fun ws S1 G1 c1 H1 vs e1 g1 rx h1 => ?_)
  split at h1
  · split at h1
    · rename_i hz
      cases rx with | cons r1 rx => cases rx with | nil => cases r1 with | d r1 => cases r1 with | int =>
      exact ⟨_, rfl, (small62_ok hz).1, (small62_ok hz).2, h1 G1 c1 H1 _ (.refl ..) g1 turns_range⟩
    · exact h1.elim
  · exact h1.elim
theorem refi_range2 {K : Fg} {ta : TA} {fs : FL} (h : RefL K Z ta fs) : RefI K Z (iRng2 ta) (fRange2 fs) := by
  intro ρ S σ H G c Q gd re q
  refine h ρ S σ H G c _ gd re (Wants.step q fun ws S1 G1 c1 H1 vs e1 g1 rx h1 => ?_)
  split at h1
  · split at h1
    · rename_i hz
      rw [Bool.and_eq_true] at hz
      cases rx with | cons r1 rx => cases rx with | cons r2 rx => cases rx with | nil => cases r1 with | d r1 => cases r2 with | d r2 => cases r1 with | int => cases r2 with | int =>
      exact ⟨_, _, rfl, ⟨(small62_ok hz.1).1, (small62_ok hz.1).2, (small62_ok hz.2).1, (small62_ok hz.2).2⟩, h1 G1 c1 H1 _ (.refl ..) g1 turns_range⟩
    · exact h1.elim
  · exact h1.elim
theorem di_range1 {tg a : Expr} {p pos : Pos} {fs : FL} (hm : X.mg "range" = none) (ha : DA X Z [a] fs) (hg : Gl X "range" := by rfl) (hs : starEach [a] X.env = [(false, eval a X.env)] := by rfl) : DI X Z tg (.Call (.Name "range" p) [a] [] pos) (fRange1 fs) :=
  let ⟨_, p, q⟩ := ha; ⟨_, pi_range1 hg hm p hs, refi_range1 q⟩
theorem di_range2 {tg a b : Expr} {p pos : Pos} {fs : FL} (hm : X.mg "range" = none) (ha : DA X Z [a, b] fs) (hg : Gl X "range" := by rfl) (hs : starEach [a, b] X.env = [(false, eval a X.env), (false, eval b X.env)] := by rfl) (hs2 : starEach [b] X.env = [(false, eval b X.env)] := by rfl) :
    DI X Z tg (.Call (.Name "range" p) [a, b] [] pos) (fRange2 fs) :=
  let ⟨_, p, q⟩ := ha; ⟨_, pi_range2 hg hm p hs hs2, refi_range2 q⟩

/-! ### for -/
def forD (g : FG) (b : FS) : List D → Env → Store → Fl
  | [], ρ, S => .nx ρ S
  | d :: ds, ρ, S => match g (.d d) ρ S with
    | .ok ρ1 S1 => (match b ρ1 S1 with
      | .nx ρ2 S2 => forD g b ds ρ2 S2
      | .ct ρ2 S2 => forD g b ds ρ2 S2
      | .bk ρ2 S2 => .nx ρ2 S2
      | r => r)
    | _ => .no
/-- over a cell's list: n turns in all, the list never longer nor shorter -/
def forC (g : FG) (b : FS) (cell n : Nat) : Nat → Env → Store → Fl
  | 0, ρ, S => match S[cell]? with
    | some (.lst ds) => if ds.length = n then .nx ρ S else .no
    | _ => .no
  | m + 1, ρ, S => match S[cell]? with
    | some (.lst ds) => (match ds[n - (m + 1)]? with
      | some d => (match g (.d d) ρ S with
        | .ok ρ1 S1 => (match b ρ1 S1 with
          | .nx ρ2 S2 => forC g b cell n m ρ2 S2
          | .ct ρ2 S2 => forC g b cell n m ρ2 S2
          | .bk ρ2 S2 => .nx ρ2 S2
          | r => r)
        | _ => .no)
      | none => .no)
    | _ => .no
def forS (g : FG) (b : FS) (s : Src) (ρ : Env) (S : Store) : Fl := match s with
  | .fix ds => forD g b ds ρ S
  | .cell n => (match S[n]? with
    | some (.lst ds) => forC g b n ds.length ds.length ρ S
    | _ => .no)
def fFor (fi : FI) (g : FG) (b : FS) : FS := fun ρ S => thenS ρ (fi ρ S) fun s S1 => forS g b s ρ S1
/-- a turn -/
theorem turn_ok {K : Fg} {tg : TG} {tb : TS} {g : FG} {b : FS} (hg : RefG K Z tg g) (hb : RefS K Z tb b) {G c H S ρ σ} {d : D} {x : V} {D : Ends} {N : L2.St → Hp → Prop} {k : Env → Store → Fl} (gd : Good K G c S H) (re : RepE K G c σ ρ) (r : Rep K G x d)
    (h : WantsS K Z G c H (match g (.d d) ρ S with
      | .ok ρ1 S1 => (match b ρ1 S1 with
        | .nx ρ2 S2 => k ρ2 S2
        | .ct ρ2 S2 => k ρ2 S2
        | .bk ρ2 S2 => .nx ρ2 S2
        | r => r)
      | _ => .no) D)
    (hN : ∀ ρ' S' G' c' H' σ', Ev G c H G' c' H' → Good K G' c' S' H' → RepE K G' c' σ' ρ' → WantsS K Z G' c' H' (k ρ' S') D → N σ' H') :
    tg x σ H fun σ2 H2 => tb { D with nx := N, ct := N, bk := D.nx } σ2 H2 := by
  refine hg (.d d) x ρ S σ H G c _ gd re (.d r) ?_
  revert h
  cases g (.d d) ρ S with
  | no => exact fun h => h
  | ex _ _ => exact fun h => h
  | ok ρ1 S1 =>
    intro h G1 c1 H1 σ1 e1 g1 r1
    refine hb ρ1 S1 σ1 H1 G1 c1 _ g1 r1 ?_
    dsimp only at h
    revert h
    cases b ρ1 S1 with
    | no => exact fun h => h
    | nx ρ2 S2 => exact fun h G2 c2 H2 σ2 e2 g2 r2 => hN ρ2 S2 G2 c2 H2 σ2 (e1.trans e2) g2 r2 (WantsS.ev (e1.trans e2) h)
    | ct ρ2 S2 => exact fun h G2 c2 H2 σ2 e2 g2 r2 => hN ρ2 S2 G2 c2 H2 σ2 (e1.trans e2) g2 r2 (WantsS.ev (e1.trans e2) h)
    | bk ρ2 S2 => exact fun h G2 c2 H2 σ2 e2 g2 r2 => h G2 c2 H2 σ2 (e1.trans e2) g2 r2
    | rt w S2 => exact fun h G2 c2 H2 σ2 e2 g2 r2 => h G2 c2 H2 σ2 (e1.trans e2) g2 r2
    | ex w S2 x2 => exact fun h G2 c2 H2 σ2 cls dx e2 g2 r2 => h G2 c2 H2 σ2 cls dx (e1.trans e2) g2 r2
theorem for_turns {K : Fg} {tg : TG} {tb : TS} {g : FG} {b : FS} (hg : RefG K Z tg g) (hb : RefS K Z tb b) {J : It} {s : Src} {G c H S ρ σ} {D : Ends} (gd : Good K G c S H) (re : RepE K G c σ ρ) (T : Turns K G c J s) (h : WantsS K Z G c H (forS g b s ρ S) D) :
    ∃ W : Nat → Nat → L2.St → Hp → Prop, (∃ m, W 0 m σ H) ∧ ∀ i m σ H, W i m σ H →
      (J.stop i H ∧ D.nx σ H) ∨ (J.go i H ∧ ∃ N : L2.St → Hp → Prop, (∀ σ' H', N σ' H' → ∃ m', m' < m ∧ W (i + 1) m' σ' H') ∧ ∀ x H', J.yld i H x H' → tg x σ H' fun σ2 H2 => tb { D with nx := N, ct := N, bk := D.nx } σ2 H2) := by
  cases s with
  | fix ds =>
    obtain ⟨P, Y, w, hP, hY⟩ := T
    refine for_it w (fun i σ' H' => ∃ ρ' S' G' c', Ev G c H G' c' H' ∧ Good K G' c' S' H' ∧ RepE K G' c' σ' ρ' ∧ WantsS K Z G' c' H' (forD g b (ds.drop i) ρ' S') D)
      ⟨ρ, S, G, c, .refl .., gd, re, h⟩ (fun i σ' H' _ ⟨ρ', S', G', c', e', g', r', _⟩ => hP G' c' S' H' g' e'.gg) ?_ ?_
    · rintro i x σ' H' H'' hi ⟨ρ', S', G', c', e', g', r', h'⟩ y
      obtain ⟨d, G2, ed, ev2, g2, rd⟩ := hY G' c' S' H' i x H'' g' e'.gg y
      have hlt : i < ds.length := hi
      rw [List.drop_eq_getElem_cons hlt] at h'
      have ed' : ds[i] = d := by
        rw [List.getElem?_eq_getElem hlt] at ed
        exact Option.some.inj ed
      rw [ed'] at h'
      refine turn_ok hg hb g2 (r'.ev ev2.gg ev2.cc) rd (k := forD g b (ds.drop (i + 1))) (WantsS.ev ev2 h') fun ρ3 S3 G3 c3 H3 σ3 e3 g3 r3 h3 => ?_
      exact ⟨ρ3, S3, G3, c3, (e'.trans ev2).trans e3, g3, r3, h3⟩
    · rintro σ' H' ⟨ρ', S', G', c', e', g', r', h'⟩
      rw [List.drop_length] at h'
      exact h' G' c' H' σ' (.refl ..) g' r'
  | cell n =>
    obtain ⟨a, ha, rfl⟩ := T
    obtain ⟨ga, x, hx, ca⟩ := gd.cell _ _ ha
    unfold forS at h
    dsimp only at h
    rw [hx] at h
    cases ca with
    | dct => exact h.elim
    | ins => exact h.elim
    | tab => exact h.elim
    | @lst vs ds h1 q1 z1 =>
      dsimp only at h
      refine ⟨fun i m σ' H' => i + m = ds.length ∧ ∃ ρ' S' G' c', Ev G c H G' c' H' ∧ Good K G' c' S' H' ∧ RepE K G' c' σ' ρ' ∧ WantsS K Z G' c' H' (forC g b n ds.length m ρ' S') D, ⟨ds.length, by omega, ρ, S, G, c, .refl .., gd, re, h⟩, ?_⟩
      rintro i m σ' H' ⟨him, ρ', S', G', c', e', g', r', h'⟩
      have ha' := pre_get e'.cc ha
      obtain ⟨ga', x', hx', ca'⟩ := g'.cell _ _ ha'
      cases m with
      | zero =>
        unfold forC at h'
        rw [hx'] at h'
        cases ca' with
        | dct => exact h'.elim
        | ins => exact h'.elim
        | tab => exact h'.elim
        | @lst vs' ds' h1' q1' z1' =>
          dsimp only at h'
          by_cases hl : ds'.length = ds.length
          · rw [if_pos hl] at h'
            refine .inl ⟨⟨vs', .of h1', ?_⟩, h' G' c' H' σ' (.refl ..) g' r'⟩
            rw [q1'.length, hl]
            omega
          · rw [if_neg hl] at h'; exact h'.elim
      | succ m =>
        unfold forC at h'
        rw [hx'] at h'
        cases ca' with
        | dct => exact h'.elim
        | ins => exact h'.elim
        | tab => exact h'.elim
        | @lst vs' ds' h1' q1' z1' =>
          dsimp only at h'
          have ei : ds.length - (m + 1) = i := by omega
          rw [ei] at h'
          cases ed : ds'[i]? with
          | none => rw [ed] at h'; exact h'.elim
          | some d =>
            rw [ed] at h'
            dsimp only at h'
            obtain ⟨v, ev, rv⟩ := q1'.get ed
            refine .inr ⟨⟨vs', v, .of h1', ev⟩, fun σ3 H3 => ∃ ρ3 S3 G3 c3, Ev G c H G3 c3 H3 ∧ Good K G3 c3 S3 H3 ∧ RepE K G3 c3 σ3 ρ3 ∧ WantsS K Z G3 c3 H3 (forC g b n ds.length m ρ3 S3) D,
              fun σ3 H3 q => ⟨m, Nat.lt_succ_self _, by omega, q⟩, fun x H'' y => ?_⟩
            obtain ⟨rfl, y⟩ := y
            have exv : x = v := by
              have := y vs' (.of h1')
              rw [ev] at this
              exact (Option.some.inj this).symm
            subst exv
            exact turn_ok hg hb g' r' rv (k := forC g b n ds.length m) h' fun ρ3 S3 G3 c3 H3 σ3 e3 g3 r3 h3 => ⟨ρ3, S3, G3, c3, e'.trans e3, g3, r3, h3⟩
theorem refs_for {K : Fg} {wi : TI} {tg : TG} {tb : TS} {fi : FI} {g : FG} {b : FS} (hi : RefI K Z wi fi) (hg : RefG K Z tg g) (hb : RefS K Z tb b) : RefS K Z (tFor wi tg tb) (fFor fi g b) := by
  intro ρ S σ H G c D gd re h
  refine hi ρ S σ H G c _ gd re (Wants.stepS re h fun s S1 G1 c1 H1 J e1 g1 T h1 => ?_)
  exact for_turns hg hb g1 (re.ev e1.gg e1.cc) T h1
theorem ds_for {tg iter : Expr} {body : List Stmt} {fi : FI} {g : FG} {b : FS} {pos : Pos} (hp : PassesOwn (model X.prog X.w) X.A X.env X.xe) (hi : DI X Z tg iter fi) (hg : DG X Z tg g) (hb : DSs X Z body b) (hc : X.calm = true := by rfl)
    (hs : ∀ x, foldedSetIterable iter X.env x = pure x := by intro _; rfl) : DS X Z (.For tg iter body [] pos) (fFor fi g b) :=
  let ⟨_, p1, q1⟩ := hi; let ⟨_, p2, q2⟩ := hg; let ⟨_, p3, q3⟩ := hb; ⟨_, ps_for hp hc p1 p2 p3 hs, refs_for q1 q2 q3⟩
end
end DL
end
section
/-! DL, 7: list comprehensions -/
namespace DL
open PySem PySem.Spec PyProof.Rows L2
def wipeE (ρ : Env) : List Nat → Env
  | [] => ρ
  | v :: vs => (wipeE ρ vs).set v none
theorem wipe_get {σ : L2.St} : ∀ {vs : List Nat} {j : Nat}, (wipe σ vs)[j]? = if j ∈ vs then (σ[j]?).map (fun _ => none) else σ[j]?
  | [], j => by simp [wipe]
  | v :: vs, j => by
    unfold wipe
    by_cases hv : v = j
    · subst hv
      rw [if_pos List.mem_cons_self]
      by_cases hl : v < σ.length
      · rw [List.getElem?_set_self (by rw [wipe_length]; exact hl), List.getElem?_eq_getElem hl]; rfl
      · rw [List.getElem?_eq_none (by rw [List.length_set, wipe_length]; omega), List.getElem?_eq_none (by omega)]; rfl
    · rw [List.getElem?_set_ne hv, wipe_get]
      have : j ∈ v :: vs ↔ j ∈ vs := by rw [List.mem_cons]; exact ⟨fun h => h.elim (fun e => absurd e.symm hv) id, .inr⟩
      by_cases h : j ∈ vs
      · rw [if_pos h, if_pos (this.mpr h)]
      · rw [if_neg h, if_neg fun z => h (this.mp z)]
theorem wipe_set {σ : L2.St} {vs : List Nat} {i : Nat} (h : i ∈ vs) (o : Option V) : wipe (σ.set i o) vs = wipe σ vs := by
  apply List.ext_getElem?
  intro j
  rw [wipe_get, wipe_get]
  by_cases hj : j ∈ vs
  · rw [if_pos hj, if_pos hj]
    by_cases e : i = j
    · subst e
      by_cases hl : i < σ.length
      · rw [List.getElem?_set_self hl, List.getElem?_eq_getElem hl]; rfl
      · rw [List.getElem?_eq_none (by rw [List.length_set]; omega), List.getElem?_eq_none (by omega)]
    · rw [List.getElem?_set_ne e]
  · rw [if_neg hj, if_neg hj]
    exact List.getElem?_set_ne fun e => hj (by rw [← e]; exact h)
theorem wipe_wipe (σ : L2.St) (vs : List Nat) : wipe (wipe σ vs) vs = wipe σ vs := by
  apply List.ext_getElem?
  intro j
  rw [wipe_get, wipe_get]
  by_cases hj : j ∈ vs
  · rw [if_pos hj, if_pos hj]; cases σ[j]? <;> rfl
  · rw [if_neg hj, if_neg hj]
theorem RepE.wipe {K : Fg} {G : Hp} {c : List Addr} {σ : L2.St} {ρ : Env} (h : RepE K G c σ ρ) (vs : List Nat) : RepE K G c (wipe σ vs) (wipeE ρ vs) := by
  induction vs with
  | nil => exact h
  | cons v vs ih =>
    unfold L2.wipe wipeE
    refine ⟨by simp [ih.len], fun i w e => ?_⟩
    by_cases hv : v = i
    · subst hv
      by_cases hl : v < (wipeE ρ vs).length
      · rw [List.getElem?_set_self hl] at e; cases e
      · rw [List.getElem?_eq_none (by rw [List.length_set]; omega)] at e; cases e
    · rw [List.getElem?_set_ne hv] at e ⊢
      exact ih.get i w e
/-- targets of a comprehension -/
inductive Tgt where
  | name (i : Nat) | tup (is : List Nat)
def gsets : List Nat → TGs
  | [] => gNil
  | i :: is => gCons (gName i) (gsets is)
def Tgt.tg (K : Fg) : Tgt → TG
  | .name i => gName i
  | .tup is => L2.gTup K is.length (gsets is)
def Tgt.slots : Tgt → List Nat
  | .name i => [i]
  | .tup is => is
def setsE : List Nat → List D → Env → Env
  | i :: is, d :: ds, ρ => setsE is ds (ρ.set i (some (.d d)))
  | _, _, ρ => ρ
def Tgt.fg (t : Tgt) (d : D) (ρ : Env) : Option Env := match t with
  | .name i => some (ρ.set i (some (.d d)))
  | .tup is => (match d with
    | .tup ds => if ds.length = is.length then some (setsE is ds ρ) else none
    | _ => none)
theorem gsets_ok {K : Fg} {G : Hp} {c : List Addr} {vs0 : List Nat} : ∀ {is : List Nat} {vs : List V} {ds : List D} {σ : L2.St} {ρ : Env} {H : Hp} {Q : L2.St → Hp → Prop}, (∀ i ∈ is, i ∈ vs0) → vs.length = is.length → Reps K G vs ds → RepE K G c σ ρ →
    (∀ σ', wipe σ' vs0 = wipe σ vs0 → RepE K G c σ' (setsE is ds ρ) → Q σ' H) → gsets is vs σ H Q
  | [], [], _, σ, ρ, H, Q, _, _, r, re, h => by cases r; exact ⟨rfl, h σ rfl re⟩
  | [], _ :: _, _, σ, ρ, H, Q, _, e, r, re, h => by simp at e
  | _ :: _, [], _, σ, ρ, H, Q, _, e, r, re, h => by simp at e
  | i :: is, v :: vs, _, σ, ρ, H, Q, hi, e, .cons r t, re, h => by
    refine ⟨v, vs, rfl, gsets_ok (fun j hj => hi j (List.mem_cons_of_mem _ hj)) (by simpa using e) t (re.set (.d r)) fun σ' hw hr => h σ' ?_ hr⟩
    rw [hw]
    exact wipe_set (hi i List.mem_cons_self) _
theorem tgt_ok {K : Fg} {t : Tgt} {G c S H σ} {ρ ρ1 : Env} {d : D} {x : V} {vs0 : List Nat} {Q : L2.St → Hp → Prop} (g : Good K G c S H) (hs : ∀ i ∈ t.slots, i ∈ vs0) (re : RepE K G c σ ρ) (r : Rep K G x d) (e : t.fg d ρ = some ρ1)
    (h : ∀ σ', wipe σ' vs0 = wipe σ vs0 → RepE K G c σ' ρ1 → Q σ' H) : t.tg K x σ H Q := by
  cases t with
  | name i =>
    cases e
    exact h _ (wipe_set (hs i (by simp [Tgt.slots])) _) (re.set (.d r))
  | tup is =>
    unfold Tgt.fg at e
    dsimp only at e
    cases r with
    | @tup a vs ds h1 q1 z1 =>
      dsimp only at e
      by_cases hl : ds.length = is.length
      · rw [if_pos hl] at e
        cases e
        exact ⟨a, vs, rfl, g.seqT h1, by rw [q1.length]; exact hl, gsets_ok hs (by rw [q1.length]; exact hl) q1 re h⟩
      · rw [if_neg hl] at e; cases e
    | _ => cases e
/-- one turn of a comprehension: none where the test fails -/
def compT (t : Tgt) (tt : FB) (f : FE) (d : D) (ρ : Env) (S : Store) : R (Option D) := match t.fg d ρ with
  | some ρ1 => (match tt ρ1 S with
    | .ok true S2 => (match f ρ1 S2 with
      | .ok (.d x) S3 => .ok (some x) S3
      | _ => .no)
    | .ok false S2 => .ok none S2
    | _ => .no)
  | none => .no
def consO (o : Option D) (r : List D) : List D := match o with
  | some x => x :: r
  | none => r
def compD (t : Tgt) (tt : FB) (f : FE) (ρ : Env) : List D → Store → R (List D)
  | [], S => .ok [] S
  | d :: ds, S => (compT t tt f d ρ S).bind fun o S1 => (compD t tt f ρ ds S1).bind fun r S2 => .ok (consO o r) S2
def compC (t : Tgt) (tt : FB) (f : FE) (ρ : Env) (cell n : Nat) : Nat → Store → R (List D)
  | 0, S => (match S[cell]? with
    | some (.lst ds) => if ds.length = n then .ok [] S else .no
    | _ => .no)
  | m + 1, S => (match S[cell]? with
    | some (.lst ds) => (match ds[n - (m + 1)]? with
      | some d => (compT t tt f d ρ S).bind fun o S1 => (compC t tt f ρ cell n m S1).bind fun r S2 => .ok (consO o r) S2
      | none => .no)
    | _ => .no)
def compS (t : Tgt) (tt : FB) (f : FE) (s : Src) (ρ : Env) (S : Store) : R (List D) := match s with
  | .fix ds => if lenOk ds.length then compD t tt f ρ ds S else .no
  | .cell n => (match S[n]? with
    | some (.lst ds) => compC t tt f ρ n ds.length ds.length S
    | _ => .no)
def fLc (fi : FI) (t : Tgt) (tt : FB) (f : FE) (vs : List Nat) : FE := fun ρ S => (fi ρ S).bind fun s S1 => (compS t tt f s (wipeE ρ vs) S1).bind fun r S2 => .ok (.d (.lst r)) S2
section
variable {K : Fg} {Z : WX}
abbrev Z0 : WX := fun _ _ _ _ => False
theorem Good.setD {G c S H} {p : Addr} (g : Good K G c S H) (h1 : G p = none) (h2 : p ∉ c) (o : HO) : Good K G c S (upd H p o) := by
  refine ⟨fun a u e => ?_, g.len, g.nd, fun n a e => ?_⟩
  · rw [upd_ne (ne_of_none e h1)]; exact g.sub a u e
  · obtain ⟨ga, x, hx, ca⟩ := g.cell n a e
    have ne : a ≠ p := fun z => h2 (z ▸ List.mem_of_getElem? e)
    exact ⟨ga, x, hx, ca.ev (.refl _) (List.prefix_refl _) (upd_ne ne)⟩
theorem Ev.setD {G1 c1 H1 G c H} {p : Addr} (e : Ev G1 c1 H1 G c H) (h : H1 p = none) (o : HO) : Ev G1 c1 H1 G c (upd H p o) := by
  refine ⟨e.gg, e.cc, fun a u q n => ?_, e.nw, e.nc, fun a u q => ?_⟩
  · rw [upd_ne (ne_of_none q h)]; exact e.fr a u q n
  · rw [upd_ne (ne_of_none q h)]; exact e.th a u q
/-- the new list D, so far -/
structure Acc (K : Fg) (σ : L2.St) (ρ : Env) (G1 : Hp) (c1 : List Addr) (H1 : Hp) (D : Addr) (G : Hp) (c : List Addr) (H : Hp) (S : Store) (acc : List V) (ds : List DL.D) : Prop where
  ev : Ev G1 c1 H1 G c H
  gd : Good K G c S H
  re : RepE K G c σ ρ
  at_ : H D = some (.lst acc)
  gD : G D = none
  cD : D ∉ c
  r : Reps K G acc ds
theorem Acc.ext {σ : L2.St} {ρ : Env} {G1 c1 H1 D G c H S acc ds G2 c2 H2 S2} (a : Acc K σ ρ G1 c1 H1 D G c H S acc ds) (e : Ev G c H G2 c2 H2) (g : Good K G2 c2 S2 H2) : Acc K σ ρ G1 c1 H1 D G2 c2 H2 S2 acc ds :=
  ⟨a.ev.trans e, g, a.re.ev e.gg e.cc, e.fr D _ a.at_ a.cD, e.nw D _ a.at_ a.gD, (fun h => by
    rcases e.nc D h with q | q
    · exact a.cD q
    · rw [a.at_] at q; cases q), Reps.sub e.gg _ _ a.r⟩
theorem Acc.push {σ : L2.St} {ρ : Env} {G1 c1 H1 D G c H S acc ds} {y : V} {x : DL.D} (a : Acc K σ ρ G1 c1 H1 D G c H S acc ds) (hD : H1 D = none) (r : Rep K G y x) : Acc K σ ρ G1 c1 H1 D G c (upd H D (.lst (acc ++ [y]))) S (acc ++ [y]) (ds ++ [x]) :=
  ⟨a.ev.setD hD _, a.gd.setD a.gD a.cD _, a.re, upd_same, a.gD, a.cD, a.r.append (.cons r .nil)⟩
theorem Acc.done {σ σ0 : L2.St} {ρ : Env} {G1 c1 H1 D G c H S acc ds} {Q : VK} (a : Acc K σ ρ G1 c1 H1 D G c H S acc ds) (hD : H1 D = none) (hz : ds.length ≤ sizeLine) (h : Wants K Z σ0 (RepW K) G1 c1 H1 (.ok (.d (.lst ds)) S) Q) : Q (.ref D) H := by
  refine h (upd G D (.lst acc)) c H _ ⟨a.ev.gg.trans (Sub.upd a.gD), a.ev.cc, a.ev.fr, fun b o hb hg => ?_, a.ev.nc, a.ev.th⟩ ⟨fun b o e => ?_, a.gd.len, a.gd.nd, fun n b e => ?_⟩ (.d (.lst upd_same (Reps.sub (Sub.upd a.gD) _ _ a.r) hz))
  · rw [upd_ne (ne_of_none hb hD)]; exact a.ev.nw b o hb hg
  · by_cases hb : b = D
    · subst hb; rw [upd_same] at e; rw [a.at_]; exact e
    · rw [upd_ne hb] at e; exact a.gd.sub b o e
  · obtain ⟨ga, x, hx, ca⟩ := a.gd.cell n b e
    have ne : b ≠ D := fun z => a.cD (z ▸ List.mem_of_getElem? e)
    exact ⟨by rw [upd_ne ne]; exact ga, x, hx, ca.ev (Sub.upd a.gD) (List.prefix_refl _) rfl⟩
/-- what is wanted of the rest, at the start of the whole -/
def Rest (K : Fg) (Z : WX) (σ0 : L2.St) (G1 : Hp) (c1 : List Addr) (H1 : Hp) (ds : List DL.D) (r : R (List DL.D)) (Q : VK) : Prop := Wants K Z σ0 (RepW K) G1 c1 H1 (r.bind fun l S2 => .ok (.d (.lst (ds ++ l))) S2) Q
theorem lc_turn {t : Tgt} {tt : FB} {f : FE} {vs : List Nat} {σ σ0 : L2.St} {ρ : Env} {G1 c1 H1 D G c H S acc ds} {Q : VK} {x : V} {d : DL.D} {k : Store → R (List DL.D)} {N : Hp → Prop}
    (hsl : ∀ i ∈ t.slots, i ∈ vs) (a : Acc K (wipe σ vs) ρ G1 c1 H1 D G c H S acc ds) (hD : H1 D = none) (hz : ds.length < sizeLine) (r : Rep K G x d)
    (h : Rest K Z σ0 G1 c1 H1 ds ((compT t tt f d ρ S).bind fun o S1 => (k S1).bind fun r S2 => .ok (consO o r) S2) Q)
    (hN : ∀ G2 c2 H2 S2 acc2 ds2, Acc K (wipe σ vs) ρ G1 c1 H1 D G2 c2 H2 S2 acc2 ds2 → ds2.length ≤ ds.length + 1 → Rest K Z σ0 G1 c1 H1 ds2 (k S2) Q → N H2) :
    t.tg K x (wipe σ vs) H fun σ2 H2 => wipe σ2 vs = wipe σ vs ∧ canB K Z0 tt σ2 H2 fun b H3 => if b = true then canE K Z0 f σ2 H3 fun y H4 => ∃ acc, H4 D = some (.lst acc) ∧ acc.length < sizeLine ∧ N (upd H4 D (.lst (acc ++ [y]))) else N H3 := by
  unfold compT at h
  cases et : t.fg d ρ with
  | none => rw [et] at h; exact h.elim
  | some ρ1 =>
    rw [et] at h
    dsimp only at h
    refine tgt_ok a.gd hsl a.re r et fun σ2 hw re2 => ⟨hw.trans (wipe_wipe σ vs), ρ1, S, G, c, a.gd, re2, ?_⟩
    revert h
    cases tt ρ1 S with
    | no => exact fun h => h
    | ex _ _ => exact fun h => h.elim
    | ok b S2 =>
      cases b with
      | false =>
        intro h G2 c2 H2 b e2 g2 eb
        subst eb
        refine iteF (hN G2 c2 H2 S2 acc ds (a.ext e2 g2) (Nat.le_succ _) ?_)
        have h : Rest K Z σ0 G1 c1 H1 ds ((k S2).bind fun r S3 => .ok (consO none r) S3) Q := h
        unfold Rest at h ⊢
        revert h
        cases k S2 with
        | no => exact fun h => h
        | ex _ _ => exact fun h => h
        | ok l S3 => exact fun h => h
      | true =>
        intro h G2 c2 H2 b e2 g2 eb
        subst eb
        refine iteT ⟨ρ1, S2, G2, c2, g2, re2.ev e2.gg e2.cc, ?_⟩
        dsimp only at h
        revert h
        cases f ρ1 S2 with
        | no => exact fun h => h
        | ex _ _ => exact fun h => h.elim
        | ok w S3 =>
          cases w with
          | loc n => exact fun h => h.elim
          | glo x => exact fun h => h.elim
          | ty x => exact fun h => h.elim
          | d dx =>
            intro h G3 c3 H3 y e3 g3 ry
            cases ry with | d ry =>
            have a3 := (a.ext e2 g2).ext e3 g3
            refine ⟨acc, a3.at_, by rw [a3.r.length]; exact hz, hN G3 c3 _ S3 _ _ (a3.push hD ry) (by simp) ?_⟩
            have h : Rest K Z σ0 G1 c1 H1 ds ((k S3).bind fun r S4 => .ok (consO (some dx) r) S4) Q := h
            unfold Rest at h ⊢
            revert h
            cases k S3 with
            | no => exact fun h => h
            | ex _ _ => exact fun h => h
            | ok l S4 =>
              intro h
              show Wants K Z σ0 (RepW K) G1 c1 H1 (.ok (.d (.lst ((ds ++ [dx]) ++ l))) S4) Q
              rw [List.append_assoc]
              exact h
theorem rest_bind {σ0 : L2.St} {G1 c1 H1} {r : R (List DL.D)} {Q : VK} (h : Wants K Z σ0 (RepW K) G1 c1 H1 (r.bind fun l S2 => .ok (.d (.lst l)) S2) Q) : Rest K Z σ0 G1 c1 H1 [] r Q := h
theorem lc_turns {t : Tgt} {tt : FB} {f : FE} {vs : List Nat} {σ : L2.St} {ρ : Env} {G1 c1 H1 S1} {Q : VK} {J : It} {s : Src} {D : Addr} (hsl : ∀ i ∈ t.slots, i ∈ vs) (gd : Good K G1 c1 S1 H1) (re : RepE K G1 c1 σ ρ) (T : Turns K G1 c1 J s) (hD : H1 D = none)
    (h : Wants K Z σ (RepW K) G1 c1 H1 ((compS t tt f s (wipeE ρ vs) S1).bind fun l S2 => .ok (.d (.lst l)) S2) Q) :
    ∃ W : Nat → Nat → Hp → Prop, (∃ m, W 0 m (upd H1 D (.lst []))) ∧ ∀ i m H, W i m H →
      (J.stop i H ∧ Q (.ref D) H) ∨ (J.go i H ∧ ∃ Nx : Hp → Prop, (∀ H', Nx H' → ∃ m', m' < m ∧ W (i + 1) m' H') ∧ ∀ x H', J.yld i H x H' → t.tg K x (wipe σ vs) H' fun σ2 H2 => wipe σ2 vs = wipe σ vs ∧ canB K Z0 tt σ2 H2 fun b H3 =>
        if b = true then canE K Z0 f σ2 H3 fun y H4 => ∃ acc, H4 D = some (.lst acc) ∧ acc.length < sizeLine ∧ Nx (upd H4 D (.lst (acc ++ [y]))) else Nx H3) := by
  have start : Acc K (wipe σ vs) (wipeE ρ vs) G1 c1 H1 D G1 c1 (upd H1 D (.lst [])) S1 [] [] :=
    ⟨(Ev.refl ..).setD hD _, gd.setD (gd.free hD) (fun z => by
      obtain ⟨n, hn, e⟩ := List.mem_iff_getElem.mp z
      obtain ⟨_, x, _, ca⟩ := gd.cell n D (by rw [List.getElem?_eq_getElem hn, e])
      obtain ⟨o, ho⟩ := ca.some
      rw [hD] at ho; cases ho) _, re.wipe vs, upd_same, gd.free hD, (fun z => by
      obtain ⟨n, hn, e⟩ := List.mem_iff_getElem.mp z
      obtain ⟨_, x, _, ca⟩ := gd.cell n D (by rw [List.getElem?_eq_getElem hn, e])
      obtain ⟨o, ho⟩ := ca.some
      rw [hD] at ho; cases ho), .nil⟩
  cases s with
  | fix items =>
    obtain ⟨P, Y, w, hP, hY⟩ := T
    unfold compS at h
    dsimp only at h
    by_cases hz : lenOk items.length = true
    · rw [if_pos hz] at h
      have hz' : items.length ≤ sizeLine := of_decide_eq_true hz
      refine lc_it w (fun i H => ∃ G c S acc ds, Acc K (wipe σ vs) (wipeE ρ vs) G1 c1 H1 D G c H S acc ds ∧ ds.length ≤ i ∧ Rest K Z σ G1 c1 H1 ds (compD t tt f (wipeE ρ vs) (items.drop i) S) Q)
        ⟨G1, c1, S1, [], [], start, Nat.le_refl _, h⟩ (fun i H _ ⟨G, c, S, acc, ds, a, _, _⟩ => hP G c S H a.gd a.ev.gg) ?_ ?_
      · rintro i x H H' hi ⟨G, c, S, acc, ds, a, hl, h'⟩ y
        obtain ⟨d, G2, ed, ev2, g2, rd⟩ := hY G c S H i x H' a.gd a.ev.gg y
        have hlt : i < items.length := hi
        rw [List.drop_eq_getElem_cons hlt] at h'
        have ed' : items[i] = d := by
          rw [List.getElem?_eq_getElem hlt] at ed
          exact Option.some.inj ed
        rw [ed'] at h'
        exact lc_turn hsl (a.ext ev2 g2) hD (by omega) rd (k := compD t tt f (wipeE ρ vs) (items.drop (i + 1))) h' fun G3 c3 H3 S3 acc3 ds3 a3 hl3 h3 => ⟨G3, c3, S3, acc3, ds3, a3, by omega, h3⟩
      · rintro H ⟨G, c, S, acc, ds, a, hl, h'⟩
        rw [List.drop_length] at h'
        refine a.done (Z := Z) (σ0 := σ) hD (by omega) ?_
        have h' : Wants K Z σ (RepW K) G1 c1 H1 (.ok (.d (.lst (ds ++ []))) S) Q := h'
        rw [List.append_nil] at h'
        exact h'
    · rw [if_neg hz] at h; exact h.elim
  | cell n =>
    obtain ⟨a, ha, rfl⟩ := T
    obtain ⟨ga, x, hx, ca⟩ := gd.cell _ _ ha
    unfold compS at h
    dsimp only at h
    rw [hx] at h
    cases ca with
    | dct => exact h.elim
    | ins => exact h.elim
    | tab => exact h.elim
    | @lst vs1 its h1 q1 z1 =>
      dsimp only at h
      refine ⟨fun i m H => i + m = its.length ∧ ∃ G c S acc ds, Acc K (wipe σ vs) (wipeE ρ vs) G1 c1 H1 D G c H S acc ds ∧ ds.length ≤ i ∧ Rest K Z σ G1 c1 H1 ds (compC t tt f (wipeE ρ vs) n its.length m S) Q,
        ⟨its.length, by omega, G1, c1, S1, [], [], start, Nat.le_refl _, h⟩, ?_⟩
      rintro i m H ⟨him, G, c, S, acc, ds, ac, hl, h'⟩
      have ha' := pre_get ac.ev.cc ha
      obtain ⟨ga', x', hx', ca'⟩ := ac.gd.cell _ _ ha'
      cases m with
      | zero =>
        unfold compC at h'
        rw [hx'] at h'
        cases ca' with
        | dct => exact h'.elim
        | ins => exact h'.elim
        | tab => exact h'.elim
        | @lst vs' ds' h1' q1' z1' =>
          dsimp only at h'
          by_cases hll : ds'.length = its.length
          · rw [if_pos hll] at h'
            refine .inl ⟨⟨vs', .of h1', by rw [q1'.length, hll]; omega⟩, ac.done (Z := Z) (σ0 := σ) hD (by omega) ?_⟩
            have h' : Wants K Z σ (RepW K) G1 c1 H1 (.ok (.d (.lst (ds ++ []))) S) Q := h'
            rw [List.append_nil] at h'
            exact h'
          · rw [if_neg hll] at h'; exact h'.elim
      | succ m =>
        unfold compC at h'
        rw [hx'] at h'
        cases ca' with
        | dct => exact h'.elim
        | ins => exact h'.elim
        | tab => exact h'.elim
        | @lst vs' ds' h1' q1' z1' =>
          dsimp only at h'
          have ei : its.length - (m + 1) = i := by omega
          rw [ei] at h'
          cases ed : ds'[i]? with
          | none => rw [ed] at h'; exact h'.elim
          | some d =>
            rw [ed] at h'
            dsimp only at h'
            obtain ⟨v, ev, rv⟩ := q1'.get ed
            refine .inr ⟨⟨vs', v, .of h1', ev⟩, fun H3 => ∃ G c S acc ds, Acc K (wipe σ vs) (wipeE ρ vs) G1 c1 H1 D G c H3 S acc ds ∧ ds.length ≤ i + 1 ∧ Rest K Z σ G1 c1 H1 ds (compC t tt f (wipeE ρ vs) n its.length m S) Q,
              fun H3 q => ⟨m, Nat.lt_succ_self _, by omega, q⟩, fun x H'' y => ?_⟩
            obtain ⟨rfl, y⟩ := y
            have exv : x = v := by
              have := y vs' (.of h1')
              rw [ev] at this
              exact (Option.some.inj this).symm
            subst exv
            exact lc_turn hsl ac hD (by omega) rv (k := compC t tt f (wipeE ρ vs) n its.length m) h' fun G3 c3 H3 S3 acc3 ds3 a3 hl3 h3 => ⟨G3, c3, S3, acc3, ds3, a3, by omega, h3⟩
theorem ref_lc {wi : TI} {fi : FI} {t : Tgt} {tt : FB} {f : FE} {vs : List Nat} (hi : RefI K Z wi fi) (hsl : ∀ i ∈ t.slots, i ∈ vs) : Ref K Z (tLc wi (t.tg K) (canB K Z0 tt) (canE K Z0 f) vs) (fLc fi t tt f vs) := by
  intro ρ S σ H G c Q gd re h
  refine hi ρ S σ H G c _ gd re (Wants.step h fun s S1 G1 c1 H1 J e1 g1 T h1 => fun D hD => ?_)
  exact lc_turns hsl g1 (re.ev e1.gg e1.cc) T hD h1
end
/-! ### the rules -/
section
variable {X : Cx} {Z : WX} {elt tg iter : Expr} {ifs : List Expr} {scope : Scope} {own : List (Str × Nat)} {pos spos : Pos} {fi : FI} {t : Tgt} {tt : FB} {f : FE}
/-- in the block of a comprehension -/
abbrev InBlk (X : Cx) (scope : Scope) (P : Cx → Prop) : Prop := ∀ (s : Shared) (H : Hp) (C : Addr) (cl : List (Str × Addr)) (fp : List Addr), P (X.blk s H scope (compEnvC scope cl C X.env) fp)
def DTs (X : Cx) (Z : WX) (ifs : List Expr) (f : FB) : Prop := PTs X ifs (canB X.K Z f)
def fYes : FB := fun _ S => .ok true S
theorem dts_nil : DTs X Z [] fYes := ⟨fun pins s σ H Q I ⟨ρ, S, G, c, g, re, w⟩ => pts_nil.run pins s σ H Q I (w G c H true (.refl ..) g rfl)⟩
theorem dts_one {e : Expr} (h : DT X Z e tt) : DTs X Z [e] tt := pts_one h.can
theorem de_lc (hN : X.N.Nodup) (hi : DI X Z tg iter fi) (ok : blkC X.N X.env.scope scope own = true) (hsl : ∀ i ∈ t.slots, i ∈ own.map (·.2)) (hg : InBlk X scope fun Y => PG Y tg (t.tg Y.K)) (ht : InBlk X scope fun Y => DTs Y Z0 ifs tt) (he : InBlk X scope fun Y => DE Y Z0 elt f)
    (hc : X.calm = true := by rfl) (hs : ∀ x, foldedSetIterable iter X.env x = pure x := by intro _; rfl) : DE X Z (.ListComp elt [⟨tg, iter, ifs, 0⟩] scope pos) (fLc fi t tt f (own.map (·.2))) := by
  obtain ⟨_, p, q⟩ := hi
  exact ⟨_, pe_lc (tt := canB X.K Z0 tt) hc hN p (blkOk_by ok) hg (fun s H C cl fp => ht s H C cl fp) (fun s H C cl fp => (he s H C cl fp).can) hs, ref_lc q hsl⟩
theorem ds_setLc {i : Nat} {y : Str} {py : Pos} (hN : X.N.Nodup) (hi : DI X Z tg iter fi) (ok : blkC X.N X.env.scope scope own = true) (hsl : ∀ i ∈ t.slots, i ∈ own.map (·.2)) (hg : InBlk X scope fun Y => PG Y tg (t.tg Y.K)) (ht : InBlk X scope fun Y => DTs Y Z0 ifs tt) (he : InBlk X scope fun Y => DE Y Z0 elt f)
    (hsw : swapsWith (.ListComp elt [⟨tg, iter, ifs, 0⟩] scope pos) (some (.Name y py)) spos.line X.env = pure true) (hy : X.N[i]? = some y := by rfl) (hyl : X.env.scope.names.lookup y = some .local := by rfl)
    (hc : X.calm = true := by rfl) (hs : ∀ x, foldedSetIterable iter X.env x = pure x := by intro _; rfl) : DS X Z (.Assign [.Name y py] (.ListComp elt [⟨tg, iter, ifs, 0⟩] scope pos) spos) (fAsg (fLc fi t tt f (own.map (·.2))) (gSet i)) := by
  obtain ⟨_, p, q⟩ := hi
  exact ⟨_, L2.ps_setLc (tt := canB X.K Z0 tt) hc hN hy hyl hsw p (blkOk_by ok) hg (fun s H C cl fp => ht s H C cl fp) (fun s H C cl fp => (he s H C cl fp).can) hs, refs_asg (ref_lc q hsl) (refg_name i)⟩
end
end DL
end
section
/-! DL, 8: defs and their calls -/
namespace DL
open PySem PySem.Spec PyProof.Rows L2
/-! ### what a call means -/
def isTab : Cell → Bool
  | .tab _ => true
  | _ => false
@[simp] theorem isTab_lst {ds : List D} : isTab (.lst ds) = false := (rfl)
@[simp] theorem isTab_dct {ks vs : List D} : isTab (.dct ks vs) = false := (rfl)
@[simp] theorem isTab_ins {c : Str} {ns : List Str} {vs : List D} : isTab (.ins c ns vs) = false := (rfl)
def frozenC : Cell → D
  | .lst ds => .lst ds
  | .dct ks vs => .dct ks vs
  | .ins c ns vs => .ins c ns vs
  | .tab _ => .non
/-- kp: what the callee hands out of its own stays a cell -/
def finish (kp : Bool) (n : Nat) (w : W) (S' : Store) : R W := match w with
  | .loc m => if m < n then .ok (.loc m) (S'.take n) else (match S'[m]? with
    | some x => if isTab x = true then .no else if kp = true then .ok (.loc n) (S'.take n ++ [x]) else .ok (.d (frozenC x)) (S'.take n)
    | none => .no)
  | w => .ok w (S'.take n)
/-- a def of P parameters, N names, whose body means g -/
def fnB (kp : Bool) (n : Nat) (r : Fl) : R W := match r with
  | .rt w S' => finish kp n w S'
  | .nx _ S' => .ok (.d .non) (S'.take n)
  | .ex x _ S' => .ex x (S'.take n)
  | _ => .no
def fnK (kp : Bool) (P N : Nat) (g : FS) (ws : List W) (S : Store) : R W := if ws.length = P then fnB kp S.length (g (ws.map some ++ List.replicate (N - P) none) S) else .no
abbrev fnD := fnK false
abbrev FF := List W → Store → R W
def dsp (K : Fg) (F : FF) : Sp := fun vs H Q E => ∃ G c S ws, Good K G c S H ∧ RepWs K G c vs ws ∧ Wants K (fun cls d _ H' => E cls d H') [] (RepW K) G c H (F ws S) Q
/-- the def at f means F: by at most k calls, one in another, and nothing being shown around -/
structure FOk (P : Program) (w : World) (K : Fg) (mg : Str → Option Value) (base : Heap) (k : Nat) (f : Addr) (fd : FuncData) (ps : List Str) (F : FF) : Prop where
  run : ∀ (A : Around) (outer : List PySem.Env) (s : Shared) (H : Hp) (args : Args) (us : List Value) (vs : List V) (Q : VK) (E : XK), A.guards = some [] → Room k A → Env0 P w K mg base A outer s H → BindsTo s fd args (ps.zip us) → us.length = ps.length → Vals vs us → dsp K F vs H Q E →
    codeAny (model P w) A (.call (.ref f) args) (CR (L2.CX P w) outer P w H s Q E) s
theorem FOk.mono {P w K mg base j k f fd ps F} (h : FOk P w K mg base j f fd ps F) (hjk : j ≤ k) : FOk P w K mg base k f fd ps F := ⟨fun A outer s H args us vs Q E hg hr => h.run A outer s H args us vs Q E hg (hr.mono hjk)⟩
section
variable {K : Fg} {G G' H H' : Hp} {c c' : List Addr} {S S' : Store} {Z : WX} {σ : L2.St}
/-- back at the caller: its own cells alone -/
theorem Good.back (g : Good K G' c' S' H') (p : c <+: c') (hl : c.length = S.length) : Good K G' c (S'.take S.length) H' := by
  obtain ⟨t, ht⟩ := p
  refine ⟨g.sub, ?_, ?_, fun n a e => ?_⟩
  · rw [List.length_take, ← g.len, ← ht, List.length_append]; omega
  · rw [← ht] at g; exact (List.nodup_append.mp g.nd).1
  · have hn : n < c.length := (List.getElem?_eq_some_iff.mp e).1
    obtain ⟨ga, x, hx, ca⟩ := g.cell n a (by rw [← ht, List.getElem?_append_left hn]; exact e)
    refine ⟨ga, x, by rw [List.getElem?_take_of_lt (by omega)]; exact hx, ?_⟩
    cases ca with
    | lst h r z => exact .lst h r z
    | dct h hk r z kr => exact .dct h hk r z kr
    | ins h hn r z => exact .ins h hn r z
    | tab h t k e0 => exact .tab h t k e0
theorem Ev.back (e : Ev G c H G' c' H') : Ev G c H G' c H' := ⟨e.gg, List.prefix_refl _, e.fr, e.nw, fun a h => .inl h, e.th⟩
/-- a cell of the callee's that is handed back is never written again -/
theorem Good.freeze (g : Good K G' c' S' H') (e : Ev G c H G' c' H') (hl : c.length = S.length) {m : Nat} {a : Addr} {o : HO} (hm : c'[m]? = some a) (hn : ¬ m < S.length) (ho : H' a = some o) :
    Good K (upd G' a o) c (S'.take S.length) H' ∧ Ev G c H (upd G' a o) c H' := by
  have gb := g.back e.cc hl
  obtain ⟨ga, _, _, _⟩ := g.cell m a hm
  have notin : a ∉ c := fun z => by
    obtain ⟨n, hn', e'⟩ := List.mem_iff_getElem.mp z
    have e2 : c'[n]? = some a := pre_get e.cc (by rw [List.getElem?_eq_getElem hn', e'])
    have hlt : n < c'.length := (List.getElem?_eq_some_iff.mp e2).1
    have := (List.getElem?_inj hlt g.nd).mp (e2.trans hm.symm)
    rw [hl] at hn'
    omega
  have hH : H a = none := (e.nc a (List.mem_of_getElem? hm)).resolve_left notin
  refine ⟨⟨fun b u q => ?_, gb.len, gb.nd, fun n b q => ?_⟩, ⟨e.gg.trans (Sub.upd ga), List.prefix_refl _, e.fr, fun b u q r => ?_, fun b h => .inl h, e.th⟩⟩
  · by_cases hb : b = a
    · subst hb; rw [upd_same] at q; rw [ho]; exact q
    · rw [upd_ne hb] at q; exact g.sub b u q
  · obtain ⟨gn, x, hx, ca⟩ := gb.cell n b q
    have ne : b ≠ a := fun z => notin (z ▸ List.mem_of_getElem? q)
    exact ⟨by rw [upd_ne ne]; exact gn, x, hx, ca.ev (Sub.upd ga) (List.prefix_refl _) rfl⟩
  · rw [upd_ne (ne_of_none q hH)]; exact e.nw b u q r
theorem Good.notin (g : Good K G' c' S' H') (e : Ev G c H G' c' H') (hl : c.length = S.length) {m : Nat} {a : Addr} (hm : c'[m]? = some a) (hn : ¬ m < S.length) : a ∉ c := fun z => by
  obtain ⟨n, hn', e'⟩ := List.mem_iff_getElem.mp z
  have e2 : c'[n]? = some a := pre_get e.cc (by rw [List.getElem?_eq_getElem hn', e'])
  have hlt : n < c'.length := (List.getElem?_eq_some_iff.mp e2).1
  have := (List.getElem?_inj hlt g.nd).mp (e2.trans hm.symm)
  rw [hl] at hn'
  omega
/-- .. a dict: it is known from now on -/
theorem Good.freezeD (g : Good K G' c' S' H') (e : Ev G c H G' c' H') (hl : c.length = S.length) {m : Nat} {a : Addr} {o : HO} (hm : c'[m]? = some a) (hn : ¬ m < S.length) (od : Obj) :
    Good K (upd G' a (.frz od o)) c (S'.take S.length) (upd H' a (.frz od o)) ∧ Ev G c H (upd G' a (.frz od o)) c (upd H' a (.frz od o)) := by
  have gb := g.back e.cc hl
  obtain ⟨ga, _, _, _⟩ := g.cell m a hm
  have notin := g.notin e hl hm hn
  have hH : H a = none := (e.nc a (List.mem_of_getElem? hm)).resolve_left notin
  refine ⟨⟨fun b u q => ?_, gb.len, gb.nd, fun n b q => ?_⟩, ⟨e.gg.trans (Sub.upd ga), List.prefix_refl _, fun b u q nb => by rw [upd_ne (ne_of_none q hH)]; exact e.fr b u q nb, fun b u q r => ?_, fun b h => .inl h, fun b u q => by rw [upd_ne (ne_of_none q hH)]; exact e.th b u q⟩⟩
  · by_cases hb : b = a
    · subst hb; rw [upd_same] at q ⊢; exact q
    · rw [upd_ne hb] at q ⊢; exact g.sub b u q
  · obtain ⟨gn, x, hx, ca⟩ := gb.cell n b q
    have ne : b ≠ a := fun z => notin (z ▸ List.mem_of_getElem? q)
    exact ⟨by rw [upd_ne ne]; exact gn, x, hx, ca.ev (Sub.upd ga) (List.prefix_refl _) (upd_ne ne)⟩
  · rw [upd_ne (ne_of_none q hH)]; exact e.nw b u q r
/-- .. that stays a cell, the caller's last one -/
theorem Good.keepC (g : Good K G' c' S' H') (e : Ev G c H G' c' H') (hl : c.length = S.length) {m : Nat} {a : Addr} {x : Cell} (hm : c'[m]? = some a) (hn : ¬ m < S.length) (hx : S'[m]? = some x) :
    Good K G' (c ++ [a]) (S'.take S.length ++ [x]) H' ∧ Ev G c H G' (c ++ [a]) H' := by
  have gb := g.back e.cc hl
  have notin := g.notin e hl hm hn
  have hH : H a = none := (e.nc a (List.mem_of_getElem? hm)).resolve_left notin
  obtain ⟨ga, y, hy, cy⟩ := g.cell m a hm
  rw [hx] at hy; cases hy
  refine ⟨⟨gb.sub, by simp [gb.len], List.nodup_append.mpr ⟨gb.nd, by simp, fun u hu b hb => by
    rw [List.mem_singleton.mp hb]; exact fun z => notin (z ▸ hu)⟩, fun n b q => ?_⟩, ⟨e.gg, List.prefix_append _ _, e.fr, e.nw, fun b h => ?_, e.th⟩⟩
  · by_cases hnn : n < c.length
    · rw [List.getElem?_append_left hnn] at q
      obtain ⟨gn, z, hz, ca⟩ := gb.cell n b q
      exact ⟨gn, z, by rw [List.getElem?_append_left (by rw [← gb.len]; exact hnn)]; exact hz, ca.ev (.refl _) (List.prefix_append _ _) rfl⟩
    · rw [List.getElem?_append_right (by omega)] at q
      have h0 : n - c.length = 0 := by
        have := (List.getElem?_eq_some_iff.mp q).1
        simpa using this
      rw [h0] at q
      have q' : a = b := by simpa using q
      subst q'
      refine ⟨ga, x, ?_, ?_⟩
      · rw [List.getElem?_append_right (by rw [← gb.len]; omega), ← gb.len, h0]; rfl
      · cases cy with
        | lst h r z => exact .lst h r z
        | dct h hk r z kr => exact .dct h hk r z kr
        | ins h hn r z => exact .ins h hn r z
        | tab h t k e0 => exact .tab h t k e0
  · rcases List.mem_append.mp h with q | q
    · exact .inl q
    · rw [List.mem_singleton.mp q]; exact .inr hH
/-- what a call ends with: perhaps a thing of its own is known from now on -/
def FinQ (Q : VK) (v : V) (H : Hp) : Prop := Q v H ∨ ∃ a u, H a = some u ∧ Mut (some u) ∧ ∀ od, Q v (upd H a (.frz od u))
theorem finish_ok {kp : Bool} {w : W} {v : V} {Q : VK} (g0 : Good K G c S H) (e : Ev G c H G' c' H') (g : Good K G' c' S' H') (r : RepW K G' c' v w) (h : Wants K Z σ (RepW K) G c H (finish kp S.length w S') Q) : FinQ Q v H' := by
  unfold finish at h
  cases r with
  | d r => exact .inl (h G' c H' _ e.back (g.back e.cc g0.len) (.d r))
  | glo => exact .inl (h G' c H' _ e.back (g.back e.cc g0.len) .glo)
  | ty => exact .inl (h G' c H' _ e.back (g.back e.cc g0.len) .ty)
  | @loc m a hm =>
    dsimp only at h
    by_cases hlt : m < S.length
    · rw [if_pos hlt] at h
      refine .inl (h G' c H' _ e.back (g.back e.cc g0.len) (.loc ?_))
      obtain ⟨t, ht⟩ := e.cc
      rw [← ht, List.getElem?_append_left (by rw [g0.len]; exact hlt)] at hm
      exact hm
    · rw [if_neg hlt] at h
      obtain ⟨ga, x, hx, ca⟩ := g.cell m a hm
      rw [hx] at h
      dsimp only at h
      by_cases ht : isTab x = true
      · rw [if_pos ht] at h; exact h.elim
      rw [if_neg ht] at h
      by_cases hk : kp = true
      · rw [if_pos hk] at h
        obtain ⟨g2, e2⟩ := g.keepC e g0.len hm hlt hx
        exact .inl (h _ _ _ _ e2 g2 (.loc (by rw [← g0.len, List.getElem?_append_right (Nat.le_refl _), Nat.sub_self]; rfl)))
      · rw [if_neg hk] at h
        cases ca with
        | lst h1 q z =>
          obtain ⟨g2, e2⟩ := g.freeze e g0.len hm hlt h1
          exact .inl (h _ _ _ _ e2 g2 (.d (.lst upd_same (Reps.sub (Sub.upd ga) _ _ q) z)))
        | @dct kvs ks vs h1 hk q z kr =>
          refine .inr ⟨a, _, h1, True.intro, fun od => ?_⟩
          obtain ⟨g2, e2⟩ := g.freezeD (o := .dK kvs) e g0.len hm hlt od
          exact h _ _ _ _ e2 g2 (.d (.dct upd_same hk (Reps.sub (Sub.upd ga) _ _ q) z (Reps.sub (Sub.upd ga) _ _ kr)))
        | ins h1 hn q z =>
          obtain ⟨g2, e2⟩ := g.freeze e g0.len hm hlt h1
          exact .inl (h _ _ _ _ e2 g2 (.d (.ins upd_same hn (Reps.sub (Sub.upd ga) _ _ q))))
        | tab h1 t k e0 => exact absurd rfl ht
theorem RepWs.length : ∀ {vs : List V} {ws : List W}, RepWs K G c vs ws → vs.length = ws.length
  | _, _, .nil => rfl
  | _, _, .cons _ t => by rw [List.length_cons, List.length_cons, RepWs.length t]
theorem RepWs.get : ∀ {vs : List V} {ws : List W} {i : Nat} {w : W}, RepWs K G c vs ws → ws[i]? = some w → ∃ v, vs[i]? = some v ∧ RepW K G c v w
  | _, _, i, _, .nil, h => by simp at h
  | _, _, 0, _, .cons h t, e => by simp at e; subst e; exact ⟨_, rfl, h⟩
  | _, _, i + 1, _, .cons h t, e => by
    obtain ⟨v, h1, h2⟩ := RepWs.get (i := i) t (by simpa using e)
    exact ⟨v, by simpa using h1, h2⟩
theorem start_rep {N : List Str} {vs : List V} {ws : List W} (r : RepWs K G c vs ws) : RepE K G c (L2.start N vs) (ws.map some ++ List.replicate (N.length - ws.length) none) := by
  unfold L2.start
  refine ⟨by simp [r.length], fun i w e => ?_⟩
  by_cases hi : i < ws.length
  · rw [List.getElem?_append_left (by simpa using hi), List.getElem?_map] at e
    cases q : ws[i]? with
    | none => rw [q] at e; cases e
    | some w' =>
      rw [q] at e
      have e' : w' = w := by simpa using e
      subst e'
      obtain ⟨v, hv, rv⟩ := r.get q
      exact ⟨v, by rw [List.getElem?_append_left (by rw [List.length_map, r.length]; exact hi), List.getElem?_map, hv]; rfl, rv⟩
  · rw [List.getElem?_append_right (by simpa using hi), List.getElem?_replicate] at e
    split at e <;> cases e
end
/-- a def by its body -/
theorem fok_of {P : Program} {w : World} {K : Fg} {mg : Str → Option Value} {base : Heap} {k : Nat} {f : Addr} {fd : FuncData} {x qual : Str} {params : Arguments} {body : List Stmt} {scope : Scope} {dvs : List V} {kws : List (Str × V)} {N ps : List Str} {n : Nat} {g : FS} (kp : Bool)
    (F : FunD K x qual params body scope dvs kws f fd) (Sc : FnScope N ps scope) (hn : N.length = n)
    (hb : ∀ (cdv : Value) (A : Around) (outer : List PySem.Env) (s : Shared) (H : Hp) (E : XK), (A.deeper (envOfC qual scope s.heap.objs.size f cdv)).guards = some [] → Room k (A.deeper (envOfC qual scope s.heap.objs.size f cdv)) →
      DSs (cxOf (L2.CX P w) P w K mg base N qual scope f cdv A outer s H E) (fun cls d _ H => E cls d H) body g) : FOk P w K mg base (k + 1) f fd ps (fnK kp ps.length n g) := by
  subst hn
  obtain ⟨oc, od, dV, kV, doc, pm, an, cdv, ct, osl, rfl, lk, hcd, _, _⟩ := F.ex
  refine ⟨fun A outer s H args us vs Q E hgu hr e0 hbind hl rv hsp => ?_⟩
  obtain ⟨G, c, S, ws, gd, rw', wants⟩ := hsp
  have KX : K.In s.heap := e0.mod.kin.keeps fun b o e => (e0.bs b o e).1
  have lim : s.heap.NoLimit := e0.mod.nolimit.keeps fun b o e => (e0.bs b o e).1
  have hlv : vs.length = ps.length := rv.length.trans hl
  refine codeAny_call_function hr.depth (KX _ _ lk) rfl Sc.co Sc.gen rfl (PySem.W.codeRec_of KX hcd) (hbind _ _ _ _ ?_)
  refine wpAny_newFunctionEnv_cells Sc.kind (fun y hy => ?_) fun env he s1 x => ?_
  · obtain ⟨n1, v1⟩ := y
    rcases Sc.par n1 (List.of_mem_zip hy).1 with q | q
    · exact .inl q
    · exact .inr ⟨q, PySem.W.cellsFrom_some _ _ _ (.inl q)⟩
  subst he
  refine ⟨lim.keeps x.toInCall.keep, codeAny_func ?_⟩
  obtain ⟨t, ht, hq⟩ := hb cdv A outer s H E hgu (hr.deeper _)
  have I : Inv (cxOf (L2.CX P w) P w K mg base N qual scope f cdv A outer s H E) [] (start N vs) H s1 := inv_start Sc hr.hd e0 hlv rv x
  have hws : ws.length = ps.length := rw'.length.symm.trans hlv
  unfold fnK at wants
  rw [if_pos hws] at wants
  unfold fnB at wants
  rw [← hws] at wants
  have body : t { nx := fun _ H' => Q .non H', rt := FinQ Q } (start N vs) H := by
    refine hq _ S _ H G c _ gd (start_rep rw') ?_
    revert wants
    cases g (ws.map some ++ List.replicate (N.length - ws.length) none) S with
    | no => exact fun h => h
    | bk _ _ => exact fun h => h.elim
    | ct _ _ => exact fun h => h.elim
    | nx ρ' S' => exact fun h G' c' H' σ' e g' _ => h G' c H' _ e.back (g'.back e.cc gd.len) (.d .non)
    | rt w S' => exact fun h G' c' H' v e g' r => finish_ok gd e g' r h
    | ex x ρ' S' => exact fun h G' c' H' σ' cls dx e g' _ rx => h G' c H' cls dx e.back (g'.back e.cc gd.len) rx
  refine wpAny_mono (ht.run [] s1 (start N vs) H _ I body) (fun fl s' hs => ?_) fun e s' hs => hs
  cases fl with
  | ret u =>
    obtain ⟨v, σ', H', J, rv, q⟩ := hs
    rcases q with q | ⟨a, u0, hu, mu, q⟩
    · exact ⟨v, H', J.os, J.bare, J.base, J.hok, rv, q⟩
    · obtain ⟨od, J2⟩ := J.lock hu mu
      exact ⟨v, _, J2.os, J2.bare, J2.base, J2.hok, rv, q od⟩
  | next =>
    obtain ⟨σ', H', J, q⟩ := hs
    exact ⟨.non, H', J.os, J.bare, J.base, J.hok, rfl, q⟩
  | brk => obtain ⟨_, _, _, q⟩ := hs; exact q.elim
  | cont => obtain ⟨_, _, _, q⟩ := hs; exact q.elim
/-! ### calls -/
section
variable {X : Cx} {Z : WX} {k : Nat} {f : Addr} {fd : FuncData} {d : He.DefD} {ps : List Str} {F : FF}
/-- the callee runs, somewhere right below the running body -/
theorem run_fok {A : Around} {pins : List (Addr × Obj)} {σ : L2.St} {H : Hp} {s : Shared} {Q : VK} {args : Args} {us : List Value} {vs : List V} {R : Result → Shared → Prop} (h : FOk X.prog X.w X.K X.mg X.base k f fd ps F) (tk : Takes X Z) (hg : A.guards = some []) (hr : Room k A) (hf : A.frames = X.A.frames)
    (I : Inv X pins σ H s) (hb : BindsTo s fd args (ps.zip us)) (hl : us.length = ps.length) (rv : Vals vs us) (hs : dsp X.K F vs H Q (WE Z σ))
    (hR : ∀ u s', EP X pins σ Q u s' → R (.ok (.ret u)) s') (hX : ∀ e s', X.xe e s' → R (.error e) s') : codeAny (model X.prog X.w) A (.call (.ref f) args) R s := by
  have e0 := I.env0
  have e1 : Env0 X.prog X.w X.K X.mg X.base A X.stack s H := ⟨hf.trans e0.frames, e0.mod, e0.bs, e0.bsz, e0.funs, e0.frf, e0.hok, e0.bare⟩
  refine codeAny_mono (h.run A X.stack s H args us vs Q (WE Z σ) hg hr e1 hb hl rv hs) fun r s' q => ?_
  cases r with
  | error e => exact hX e s' (passAt tk σ pins H s e s' I q)
  | ok fl =>
    cases fl with
    | ret u => exact hR u s' (I.after q)
    | next => exact False.elim q
    | brk => exact False.elim q
    | cont => exact False.elim q
def fCall (F : FF) (fs : FL) : FE := fun ρ S => (fs ρ S).bind F
/-- what a def's call asks: where it stands, how its parameters are bound -/
structure Def (P : Program) (w : World) (K : Fg) (mg : Str → Option Value) (base : Heap) (k : Nat) (f : Addr) (d : He.DefD) (ps : List Str) (F : FF) : Prop where
  ok : ∃ fd, FunD K d.name d.qual d.params d.body d.scope [] [] f fd ∧ FOk P w K mg base k f fd ps F ∧ ∀ (s : Shared) (us : List Value), us.length = ps.length → BindsTo s fd ⟨us, []⟩ (ps.zip us)
  len : ∀ ws S, ws.length ≠ ps.length → F ws S = .no
theorem Def.kp {P w K mg base k f d ps} {F : FF} (D : Def P w K mg base k f d ps F) : PySem.W.keepIn K (.ref f) = true := let ⟨_, h, _⟩ := D.ok; h.kp
theorem Def.mono {P w K mg base j k f d ps} {F : FF} (D : Def P w K mg base j f d ps F) (h : j ≤ k) : Def P w K mg base k f d ps F := ⟨let ⟨fd, a, b, c⟩ := D.ok; ⟨fd, a, b.mono h, c⟩, D.len⟩
theorem fnK_len {kp : Bool} {P N : Nat} {g : FS} (ws : List W) (S : Store) (h : ws.length ≠ P) : fnK kp P N g ws S = .no := if_neg h
theorem dsp_len {K : Fg} {ps : List Str} {vs : List V} {H : Hp} {Q : VK} {E : XK} (hl : ∀ ws S, ws.length ≠ ps.length → F ws S = .no) (h : dsp K F vs H Q E) : vs.length = ps.length := by
  obtain ⟨G, c, S, ws, g, r, q⟩ := h
  by_cases hw : ws.length = ps.length
  · rw [r.length]; exact hw
  · rw [hl ws S hw] at q; exact q.elim
theorem wants_sp {K : Fg} {G c S H} {σ : L2.St} {vs : List V} {ws : List W} {Q : VK} (g : Good K G c S H) (r : RepWs K G c vs ws) (h : Wants K Z σ (RepW K) G c H (F ws S) Q) : dsp K F vs H Q (WE Z σ) := by
  refine ⟨G, c, S, ws, g, r, ?_⟩
  revert h
  cases F ws S with
  | no => exact fun h => h
  | ok _ _ => exact fun h => h
  | ex _ _ => exact fun h => h
def tCallD (K : Fg) (Z : WX) (F : FF) (t : TA) : TE := fun σ H Q => t σ H fun vs H1 => dsp K F vs H1 Q (WE Z σ)
variable {x : Str} {p pos : Pos} {e : Expr} {es : List Expr} {fs : FL}
theorem ref_call {K : Fg} {t : TA} (q : RefL K Z t fs) : Ref K Z (tCallD K Z F t) (fCall F fs) := by
  intro ρ S σ H G c Q gd re h
  exact q ρ S σ H G c _ gd re (Wants.step h fun ws S1 G1 c1 H1 vs e1 g1 rx h1 => wants_sp g1 rx h1)
theorem de_call (D : Def X.prog X.w X.K X.mg X.base k (He.ga X.K x) d ps F) (tk : Takes X Z) (hgu : X.A.guards = some []) (hr : Room k X.A) (hm : X.mg x = some (.ref (He.ga X.K x))) (ha : DA X Z (e :: es) fs) (hg : Gl X x := by rfl)
    (hdb : (x == ("__debug__" : Str)) = false := by decide) (he : starEach (e :: es) X.env = (false, eval e X.env) :: starEach es X.env := by rfl) (hpl : (backTo pos (starEach es X.env)).any (·.1) = false := by rfl) :
    DE X Z (.Call (.Name x p) (e :: es) [] pos) (fCall F fs) := by
  obtain ⟨fd, _, ok, hb⟩ := D.ok
  obtain ⟨t, pa, q⟩ := ha
  refine ⟨tCallD X.K Z F t, ⟨fun pins s σ H Q I h => ?_⟩, ref_call q⟩
  refine wpAny_Call_Name_kw (ld_glob I hg hm ?_ hdb)
  refine PySem.W.callWith_K (h₀ := X.base) I.ok.mod.kin D.kp (thn (pa.run pos pins s σ H _ I h) fun us s1 ⟨vs, H1, I1, r, q⟩ => ⟨I1.kIn, ?_⟩) he hpl
  have hlu : us.length = ps.length := r.length.symm.trans (dsp_len D.len q)
  exact wpAny_call (run_fok ok tk hgu hr rfl I1 (hb s1 us hlu) hlu r q (fun _ _ h => h) fun _ _ h => h)
theorem de_call0 (D : Def X.prog X.w X.K X.mg X.base k (He.ga X.K x) d ps F) (tk : Takes X Z) (hgu : X.A.guards = some []) (hr : Room k X.A) (hm : X.mg x = some (.ref (He.ga X.K x))) (hg : Gl X x := by rfl)
    (hdb : (x == ("__debug__" : Str)) = false := by decide) : DE X Z (.Call (.Name x p) [] [] pos) (fCall F fNil) := by
  obtain ⟨fd, _, ok, hb⟩ := D.ok
  refine ⟨tCallD X.K Z F tNil, ⟨fun pins s σ H Q I h => ?_⟩, ref_call refl_nil⟩
  refine wpAny_Call_Name_kw (ld_glob I hg hm ?_ hdb)
  have hl : ([] : List Value).length = ps.length := dsp_len D.len h
  exact PySem.W.callWith_K0 I.kIn D.kp (wpAny_call (run_fok ok tk hgu hr rfl I (hb s [] hl) hl .nil h (fun _ _ h => h) fun _ _ h => h))
end
end DL
end
section
/-! DL, 9: keywords; own classes: made, read, stored, called -/
namespace DL
open PySem PySem.Spec PyProof.Rows L2
theorem make_guards {A : Around} {C : Addr} {us : List Value} {kw : List (Str × Value)} : (A.under (.builtin "type.__call__" ⟨.ref C :: us, kw⟩)).guards = A.guards := by
  obtain ⟨hd, d, fr, gs, u⟩ := A
  cases gs <;> simp [Around.under, Code.guards, Code.isGuard, guardIds, pushGuards]
theorem make_frames {A : Around} {C : Addr} {us : List Value} {kw : List (Str × Value)} : (A.under (.builtin "type.__call__" ⟨.ref C :: us, kw⟩)).frames = A.frames := by
  obtain ⟨hd, d, fr, gs, u⟩ := A
  cases fr <;> simp [Around.under, Code.envs, Code.isFrame, pushEnvs]
/-! ### keywords: the values in the parameters' order -/
def perm {α : Type} (ix : List Nat) (l : List α) : List α := ix.filterMap fun i => l[i]?
theorem perm_rel {α β : Type} {r : α → β → Prop} {l : List α} {m : List β} (h : Paired r l m) : ∀ ix : List Nat, Paired r (perm ix l) (perm ix m)
  | [] => .nil
  | i :: ix => by
    have ih := perm_rel h ix
    have key : ∀ {l : List α} {m : List β} (i : Nat), Paired r l m → (l[i]? = none ∧ m[i]? = none) ∨ ∃ a b, l[i]? = some a ∧ m[i]? = some b ∧ r a b := by
      intro l m i h
      induction h generalizing i with
      | nil => exact .inl ⟨by simp, by simp⟩
      | @cons a b l m hr _ ih' =>
        cases i with
        | zero => exact .inr ⟨a, b, rfl, rfl, hr⟩
        | succ i => simpa using ih' i
    unfold perm at ih ⊢
    rcases key i h with ⟨h1, h2⟩ | ⟨a, b, h1, h2, hr⟩
    · rw [List.filterMap_cons, List.filterMap_cons, h1, h2]; exact ih
    · rw [List.filterMap_cons, List.filterMap_cons, h1, h2]; exact .cons hr ih
theorem paired_append {α β : Type} {r : α → β → Prop} : ∀ {l l' : List α} {m m' : List β}, Paired r l m → Paired r l' m' → Paired r (l ++ l') (m ++ m')
  | _, _, _, _, .nil, h => h
  | _, _, _, _, .cons a t, h => .cons a (paired_append t h)
def DK (X : Cx) (Z : WX) (kws : List Keyword) (f : FL) : Prop := ∃ t, PK X kws t ∧ RefL X.K Z t f
section
variable {X : Cx} {Z : WX} {k n : Nat} {f : Addr} {fd : FuncData} {d : He.DefD} {ps ks : List Str} {F : FF} {x : Str} {p pos apos kpos : Pos} {e o : Expr} {es : List Expr} {kws : List Keyword} {fs gs : FL} {fe fo : FE} {nm : Option Str} {ix : List Nat}
theorem dk_nil : DK X Z [] fNil := ⟨_, pk_nil, refl_nil⟩
theorem dk_cons (h1 : DE X Z e fe) (h2 : DK X Z kws fs) : DK X Z (⟨nm, e, kpos⟩ :: kws) (fCons fe fs) := let ⟨_, p1, q1⟩ := h1; let ⟨_, p2, q2⟩ := h2; ⟨_, pk_cons p1 p2, refl_cons q1 q2⟩
/-- how n values by place and the keywords ks are bound -/
def KBind (d : He.DefD) (ps ks : List Str) (n : Nat) (ix : List Nat) : Prop := ∀ (kV doc pm : Value) (an : Option Addr) (cdv ct : Value) (us ws : List Value), us.length = n → ws.length = ks.length →
  bindArgs (PySem.W.fnOf d.name d.qual d.params d.body d.scope .none kV doc pm an cdv ct) ⟨us, ks.zip ws⟩ = pure (ps.zip (perm ix (us ++ ws))) ∧ (perm ix (us ++ ws)).length = ps.length
theorem kbind_to {K : Fg} (F : FunD K d.name d.qual d.params d.body d.scope [] [] f fd) (h : KBind d ps ks n ix) (s : Shared) (us ws : List Value) (h1 : us.length = n) (h2 : ws.length = ks.length) : BindsTo s fd ⟨us, ks.zip ws⟩ (ps.zip (perm ix (us ++ ws))) ∧ (perm ix (us ++ ws)).length = ps.length := by
  obtain ⟨oc, od, dV, kV, doc, pm, an, cdv, ct, osl, rfl, lk, hcd, hD, hK⟩ := F.ex
  rcases hD with ⟨_, rfl⟩ | ⟨e, _⟩
  · exact ⟨.of_eq (h kV doc pm an cdv ct us ws h1 h2).1, (h kV doc pm an cdv ct us ws h1 h2).2⟩
  · exact absurd rfl e
def fCallK (F : FF) (n m : Nat) (ix : List Nat) (fs gs : FL) : FE := fun ρ S => (fs ρ S).bind fun ws S1 => (gs ρ S1).bind fun zs S2 => if ws.length = n then (if zs.length = m then F (perm ix (ws ++ zs)) S2 else .no) else .no
def tCallKD (K : Fg) (Z : WX) (F : FF) (n m : Nat) (ix : List Nat) (t tk : TA) : TE := fun σ H Q => t σ H fun vs H1 => tk σ H1 fun zs H2 => vs.length = n ∧ zs.length = m ∧ dsp K F (perm ix (vs ++ zs)) H2 Q (WE Z σ)
theorem ref_callK {K : Fg} {m : Nat} {t tk : TA} (q1 : RefL K Z t fs) (q2 : RefL K Z tk gs) : Ref K Z (tCallKD K Z F n m ix t tk) (fCallK F n m ix fs gs) := by
  intro ρ S σ H G c Q gd re h
  refine q1 ρ S σ H G c _ gd re (Wants.step h fun ws S1 G1 c1 H1 vs e1 g1 rx h1 => ?_)
  refine q2 ρ S1 σ H1 G1 c1 _ g1 (re.ev e1.gg e1.cc) (Wants.step h1 fun us S2 G2 c2 H2 zs e2 g2 ry h2 => ?_)
  by_cases l1 : ws.length = n
  · rw [if_pos l1] at h2
    by_cases l2 : us.length = m
    · rw [if_pos l2] at h2
      exact ⟨by rw [rx.length]; exact l1, by rw [ry.length]; exact l2, wants_sp g2 (perm_rel (paired_append (RepWs.ev e2.gg e2.cc rx) ry) ix) h2⟩
    · rw [if_neg l2] at h2; exact h2.elim
  · rw [if_neg l1] at h2; exact h2.elim
theorem de_callK0 (D : Def X.prog X.w X.K X.mg X.base k (He.ga X.K x) d ps F) (tk : Takes X Z) (hgu : X.A.guards = some []) (hr : Room k X.A) (hm : X.mg x = some (.ref (He.ga X.K x))) (hkw : DK X Z kws gs) (hb : KBind d ps ks 0 ix) (hg : Gl X x := by rfl)
    (hall : (backToKw pos (keywordEach kws X.env)).all (·.1.isSome) = true := by rfl) (hks : (backToKw pos (keywordEach kws X.env)).filterMap (·.1) = ks := by rfl) (hdb : (x == ("__debug__" : Str)) = false := by decide)
    (hpl : ((backTo pos (starEach [] X.env)).any (·.1) || (backToKw pos (keywordEach kws X.env)).any (·.1.isNone)) = false := by rfl) : DE X Z (.Call (.Name x p) [] kws pos) (fCallK F 0 ks.length ix fNil gs) := by
  obtain ⟨fd, fD, ok, _⟩ := D.ok
  obtain ⟨t, pk, q⟩ := hkw
  refine ⟨tCallKD X.K Z F 0 ks.length ix tNil t, ⟨fun pins s σ H Q I h => ?_⟩, ref_callK refl_nil q⟩
  refine wpAny_Call_Name_kw (ld_glob I hg hm ?_ hdb)
  refine PySem.W.callWith_KW0 (h₀ := X.base) I.ok.mod.kin D.kp hall (thn (pk.run pos pins s σ H _ I h) fun ws s2 ⟨zs, H2, I2, rz, _, hz, hs⟩ => ⟨I2.kIn, ?_⟩) hpl
  rw [hks]
  obtain ⟨b1, b2⟩ := kbind_to fD hb s2 [] ws rfl (rz.length.symm.trans hz)
  exact wpAny_call (run_fok ok tk hgu hr rfl I2 b1 b2 (perm_rel rz ix) hs (fun _ _ h => h) fun _ _ h => h)

/-! ### an instance as it stands -/
/-- w is an instance of the class: its attributes -/
def insOf (cn : Str) (w : W) (S : Store) : Option (List Str × List D) := match w with
  | .d (.ins c ns vs) => if c = cn then some (ns, vs) else none
  | .loc n => (match S[n]? with
    | some (.ins c ns vs) => if c = cn then some (ns, vs) else none
    | _ => none)
  | _ => none
theorem ins_rep {K : Fg} {G c S H} {v : V} {w : W} {cn : Str} {ns : List Str} {vs : List D} (g : Good K G c S H) (r : RepW K G c v w) (h : insOf cn w S = some (ns, vs)) :
    ∃ a dx fs, v = .ref a ∧ H a = some (.ins (He.ga K cn) dx fs) ∧ fs.map (·.1) = ns ∧ Reps K G (fs.map (·.2)) vs := by
  cases r with
  | d r =>
    cases r with
    | @ins a dx c' ns' fs vs' h1 hn q =>
      unfold insOf at h
      dsimp only at h
      by_cases hc : c' = cn
      · rw [if_pos hc] at h
        cases h
        subst hc
        exact ⟨a, dx, fs, rfl, g.sub _ _ h1, hn, q⟩
      · rw [if_neg hc] at h; cases h
    | _ => cases h
  | @loc n a hn =>
    obtain ⟨ga, x, hx, ca⟩ := g.cell _ _ hn
    unfold insOf at h
    dsimp only at h
    rw [hx] at h
    cases ca with
    | @ins dx c' ns' fs vs' h1 hm q z =>
      dsimp only at h
      by_cases hc : c' = cn
      · rw [if_pos hc] at h
        cases h
        subst hc
        exact ⟨a, dx, fs, rfl, h1, hm, q⟩
      · rw [if_neg hc] at h; cases h
    | _ => cases h
  | _ => cases h
def lookN (f : Str) : List Str → List D → Option D
  | n :: ns, v :: vs => if f = n then some v else lookN f ns vs
  | _, _ => none
theorem lookN_rep {K : Fg} {G : Hp} {f : Str} : ∀ {fs : List (Str × V)} {ns : List Str} {vs : List D}, fs.map (·.1) = ns → Reps K G (fs.map (·.2)) vs → (∀ d, lookN f ns vs = some d → ∃ v, fs.lookup f = some v ∧ Rep K G v d) ∧ (lookN f ns vs = none → fs.lookup f = none)
  | [], ns, vs, hn, r => by
    have : ns = [] := by simpa using hn.symm
    subst this
    exact ⟨fun d h => by simp [lookN] at h, fun _ => rfl⟩
  | p :: fs, ns, vs, hn, r => by
    subst hn
    cases r with
    | cons h t =>
      have ih := lookN_rep (f := f) rfl t
      simp only [List.map_cons, lookN]
      by_cases e : f = p.1
      · subst e
        rw [if_pos rfl]
        exact ⟨fun d hd => ⟨p.2, by simp [List.lookup], by cases hd; exact h⟩, fun hd => by cases hd⟩
      · rw [if_neg e]
        have q : (f == p.1) = false := by simpa using e
        have e2 : List.lookup f (p :: fs) = List.lookup f fs := by
          show (match f == p.1 with | true => some p.2 | false => fs.lookup f) = _
          rw [q]
        rw [e2]
        exact ih
/-- o.f -/
def fFld (cn f : Str) (fo : FE) : FE := fun ρ S => (fo ρ S).bind fun w S1 => match insOf cn w S1 with
  | some (ns, vs) => (match lookN f ns vs with
    | some d => .ok (.d d) S1
    | none => .no)
  | none => .no
theorem de_fld {cn f : Str} (h : DE X Z o fo) (hc : Cls X.K (He.ga X.K cn)) (hn : NoAttr X.K (He.ga X.K cn) f) (hb : attributeBase o f X.env (eval o X.env) = eval o X.env := by rfl) : DE X Z (.Attribute o f pos) (fFld cn f fo) := by
  obtain ⟨t, p, q⟩ := h
  refine ⟨_, pe_fld p hb, fun ρ S σ H G c Q gd re h => ?_⟩
  refine q ρ S σ H G c _ gd re (Wants.step h fun w S1 G1 c1 H1 v e1 g1 rx h1 => ?_)
  split at h1
  · rename_i ns vs ei
    obtain ⟨a, dx, fs, rfl, ha, hm, r⟩ := ins_rep g1 rx ei
    split at h1
    · rename_i dd el
      obtain ⟨u, hu, ru⟩ := (lookN_rep hm r).1 dd el
      exact ⟨a, _, dx, fs, u, rfl, ha, hc, hn, hu, h1.ret g1 (.d ru)⟩
    · exact h1.elim
  · exact h1.elim
/-- o.f, a property -/
def noEx {α : Type} (r : R α) : R α := match r with
  | .ok a S => .ok a S
  | _ => .no
def fProp (cn : Str) (F : FF) (fo : FE) : FE := fun ρ S => (fo ρ S).bind fun w S1 => match insOf cn w S1 with
  | some _ => noEx (F [w] S1)
  | none => .no
theorem wants_noex {α β : Type} {K : Fg} {σ : L2.St} {rel : Hp → List Addr → β → α → Prop} {G c H} {r : R α} {Q : β → Hp → Prop} (h : Wants K Z σ rel G c H (noEx r) Q) {Z' : WX} {σ' : L2.St} : Wants K Z' σ' rel G c H r Q := by
  cases r with
  | ok _ _ => exact h
  | ex _ _ => exact h.elim
  | no => exact h.elim
theorem de_prop {cn f' : Str} {pa g : Addr} (h : DE X Z o fo) (hc : Cls X.K (He.ga X.K cn)) (hp : PropOf X.K (He.ga X.K cn) f' pa g) (D : Def X.prog X.w X.K X.mg X.base k g d ps F) (hgu : X.A.guards = some []) (hr : Room (k + 1) X.A) (hb : attributeBase o f' X.env (eval o X.env) = eval o X.env := by rfl) :
    DE X Z (.Attribute o f' pos) (fProp cn F fo) := by
  obtain ⟨fd, _, ok, hbd⟩ := D.ok
  obtain ⟨t, p, q⟩ := h
  refine ⟨fun σ H Q => t σ H fun x H1 => ∃ a dx fs, x = .ref a ∧ H1 a = some (.ins (He.ga X.K cn) dx fs) ∧ dsp X.K F [x] H1 Q fun _ _ _ => False, ⟨fun pins s σ H Q I h => ?_⟩, fun ρ S σ H G c Q gd re h => ?_⟩
  · refine attr_of hb (thn (p.run pins s σ H _ I h) fun u s1 ⟨x, H1, I1, rx, a, dx, fs, ex, ea, hs⟩ => ?_)
    subst ex
    obtain rfl : u = Value.ref a := rx
    obtain ⟨mA, O, _, _, _, _⟩ := ins_get I1.hok ea
    obtain ⟨od, J, _⟩ := O.look
    obtain ⟨rest, hrec⟩ := hp.rec_
    have I2 := I1.tok (s1.toks + 1)
    have hl : ([Value.ref a] : List Value).length = ps.length := dsp_len D.len hs
    have hcc : (PySem.W.clsIn X.K (He.ga X.K cn)).isSome = true := by
      obtain ⟨cd, hcd, _⟩ := PySem.W.any_some hc.hd
      rw [hcd]; rfl
    refine PySem.W.get_bind I1.kIn J (PySem.W.plainGet_of (hc.get f')).1 (PySem.W.findObj_data hcc hp.at_ hp.get hp.tak) (PySem.W.plainGet_of (hc.get f')).2 (wpAny_call (PySem.W.prop_get (s := { s1 with toks := s1.toks + 1 }) I1.kIn hrec ?_))
    have I3 : Inv X.nox pins σ H1 { s1 with toks := s1.toks + 1 } := I2.wish _
    refine codeAny_mono (run_fok (X := X.nox) (Z := Z0) (R := fun r s' => match r with | .ok (.ret u) => EP X.nox pins σ Q u s' | _ => False) ok takes0 (A := X.A.in1) hgu hr.in1 rfl I3 (hbd _ [.ref a] hl) hl (.cons (show RelV (V.ref a) (Value.ref a) from rfl) .nil) hs (fun _ _ h => h) fun _ _ h => h) fun r s' hq => ?_
    cases r with
    | error er => exact False.elim hq
    | ok fl =>
      cases fl with
      | ret u =>
        obtain ⟨v, H', I4, rv, q3⟩ := hq
        show wpAny _ _ (handedOut u) _ _ _
        rw [PySem.W.handedOut_of (handed_of rv)]
        exact wpAny_pure ⟨v, H', I4.unwish, rv, q3⟩
      | next => exact False.elim hq
      | brk => exact False.elim hq
      | cont => exact False.elim hq
  · refine q ρ S σ H G c _ gd re (Wants.step h fun w S1 G1 c1 H1 v e1 g1 rx h1 => ?_)
    split at h1
    · rename_i z ei
      obtain ⟨a, dx, fs, rfl, ha, hm, r⟩ := ins_rep (ns := z.1) (vs := z.2) g1 rx ei
      exact ⟨a, dx, fs, rfl, ha, G1, c1, S1, [w], g1, .cons rx .nil, wants_noex h1⟩
    · exact h1.elim
end
end DL
end
section
/-! DL, 10: whatever is called: defs, methods, classes; attributes stored -/
namespace DL
open PySem PySem.Spec PyProof.Rows L2
/-! ### cells: a new one, one written -/
section
variable {K : Fg} {G G' H H' : Hp} {c c' : List Addr} {S S' : Store} {Z : WX} {σ : L2.St}
theorem Good.alloc (g : Good K G c S H) {p : Addr} {x : Cell} (hk : ∀ a o, H a = some o → H' a = some o) (hp : H p = none) (ca : CellAt K G c H' p x) : Good K G (c ++ [p]) (S ++ [x]) H' ∧ Ev G c H G (c ++ [p]) H' := by
  have notin : p ∉ c := fun z => by
    obtain ⟨n, hn, e⟩ := List.mem_iff_getElem.mp z
    obtain ⟨_, y, _, cy⟩ := g.cell n p (by rw [List.getElem?_eq_getElem hn, e])
    obtain ⟨o, ho⟩ := cy.some
    rw [hp] at ho; cases ho
  refine ⟨⟨fun a o e => hk a o (g.sub a o e), by simp [g.len], List.nodup_append.mpr ⟨g.nd, by simp, fun a ha b hb => by
    rw [List.mem_singleton.mp hb]; exact fun z => notin (z ▸ ha)⟩, fun n a e => ?_⟩, ⟨.refl _, List.prefix_append _ _, fun a o e _ => hk a o e, fun _ _ _ h => h, fun a h => ?_, fun a o e => ⟨o, hk a o e⟩⟩⟩
  · by_cases hn : n < c.length
    · rw [List.getElem?_append_left hn] at e
      obtain ⟨ga, y, hy, cy⟩ := g.cell n a e
      obtain ⟨o, ho⟩ := cy.some
      exact ⟨ga, y, by rw [List.getElem?_append_left (by rw [← g.len]; exact hn)]; exact hy, cy.ev (.refl _) (List.prefix_append _ _) ((hk a o ho).trans ho.symm)⟩
    · rw [List.getElem?_append_right (by omega)] at e
      have h0 : n - c.length = 0 := by
        have := (List.getElem?_eq_some_iff.mp e).1
        simpa using this
      rw [h0] at e
      have e' : p = a := by simpa using e
      subst e'
      refine ⟨g.free hp, x, ?_, ca.ev (.refl _) (List.prefix_append _ _) rfl⟩
      rw [List.getElem?_append_right (by rw [← g.len]; omega), ← g.len, h0]; rfl
  · rcases List.mem_append.mp h with q | q
    · exact .inl q
    · rw [List.mem_singleton.mp q]; exact .inr hp
theorem Good.at_new (g : Good K G c S H) {p : Addr} : (c ++ [p])[S.length]? = some p := by
  rw [← g.len, List.getElem?_append_right (Nat.le_refl _), Nat.sub_self]; rfl
/-- the cell n is written -/
theorem Good.write (g : Good K G c S H) {n : Nat} {p : Addr} {x : Cell} {o : HO} (hn : c[n]? = some p) (ca : CellAt K G c (upd H p o) p x) : Good K G c (S.set n x) (upd H p o) ∧ Ev G c H G c (upd H p o) := by
  obtain ⟨gp, y, hy, cy⟩ := g.cell n p hn
  obtain ⟨o', ho'⟩ := cy.some
  have hm : p ∈ c := List.mem_of_getElem? hn
  refine ⟨⟨fun a u e => by rw [upd_ne (ne_of_none e gp)]; exact g.sub a u e, by simp [g.len], g.nd, fun m a e => ?_⟩, ⟨.refl _, List.prefix_refl _, fun a u e na => by rw [upd_ne (show a ≠ p from fun z => na (by rw [z]; exact hm))]; exact e, fun _ _ _ h => h, fun a h => .inl h, fun a u e => ?_⟩⟩
  · obtain ⟨ga, z, hz, cz⟩ := g.cell m a e
    by_cases hmn : n = m
    · subst hmn
      rw [hn] at e; cases e
      have hl : n < S.length := (List.getElem?_eq_some_iff.mp hy).1
      exact ⟨ga, x, List.getElem?_set_self hl, ca⟩
    · have ne : a ≠ p := fun z => hmn (by
        subst z
        have hl : n < c.length := (List.getElem?_eq_some_iff.mp hn).1
        exact (List.getElem?_inj hl g.nd).mp (hn.trans e.symm))
      exact ⟨ga, z, by rw [List.getElem?_set_ne hmn]; exact hz, cz.ev (.refl _) (List.prefix_refl _) (upd_ne ne)⟩
  · by_cases ha : a = p
    · exact ⟨o, by rw [ha]; exact upd_same⟩
    · exact ⟨u, by rw [upd_ne ha]; exact e⟩
end
/-! ### what can be called -/
section
variable {X : Cx} {Z : WX} {k n : Nat} {f : Addr} {fd : FuncData} {d : He.DefD} {ps ks : List Str} {F : FF} {x m : Str} {p pos apos kpos : Pos} {e o : Expr} {es : List Expr} {kws : List Keyword} {fs gs : FL} {fe fo : FE} {ix : List Nat}
/-- the call of f with n values by place and the keywords ks means F -/
structure RunC (X : Cx) (Z : WX) (f : Value) (n : Nat) (ks : List Str) (F : FF) : Prop where
  kp : PySem.W.keepIn X.K f = true
  run : ∀ (pins : List (Addr × Obj)) (s : Shared) (σ : L2.St) (H : Hp) (Q : VK) (us ws : List Value) (vs zs : List V), Inv X pins σ H s → Vals vs us → Vals zs ws → vs.length = n → zs.length = ks.length → dsp X.K F (vs ++ zs) H Q (WE Z σ) →
    wpAny (model X.prog X.w) X.A (call f us (ks.zip ws)) (EP X pins σ Q) X.xe s
/-- a def -/
theorem Def.runC (D : Def X.prog X.w X.K X.mg X.base k f d ps F) (tk : Takes X Z) (hgu : X.A.guards = some []) (hr : Room k X.A) (hb : KBind d ps ks n ix) : RunC X Z (.ref f) n ks fun l => F (perm ix l) := by
  obtain ⟨fd, fD, ok, _⟩ := D.ok
  refine ⟨D.kp, fun pins s σ H Q us ws vs zs I r rz l1 l2 ⟨G, c, S, wl, g, rw', q⟩ => ?_⟩
  obtain ⟨b1, b2⟩ := kbind_to fD hb s us ws (r.length.symm.trans l1) (rz.length.symm.trans l2)
  exact wpAny_call (run_fok ok tk hgu hr rfl I b1 b2 (perm_rel (paired_append r rz) ix) ⟨G, c, S, perm ix wl, g, perm_rel rw' ix, q⟩ (fun _ _ h => h) fun _ _ h => h)
/-- .. by place alone -/
theorem Def.runP (D : Def X.prog X.w X.K X.mg X.base k f d ps F) (tk : Takes X Z) (hgu : X.A.guards = some []) (hr : Room k X.A) : RunC X Z (.ref f) ps.length [] F := by
  obtain ⟨fd, fD, ok, hb⟩ := D.ok
  refine ⟨D.kp, fun pins s σ H Q us ws vs zs I r rz l1 l2 q => ?_⟩
  have e0 : zs = [] := List.eq_nil_of_length_eq_zero l2
  subst e0
  cases rz
  rw [List.append_nil] at q
  have hl := r.length.symm.trans l1
  exact wpAny_call (run_fok ok tk hgu hr rfl I (hb s us hl) hl r q (fun _ _ h => h) fun _ _ h => h)
/-- an instance made: cn's __init__ is F -/
def fMk (cn : Str) (F : FF) : FF := fun ws S => match F (.loc S.length :: ws) (S ++ [.ins cn [] []]) with
  | .ok (.d .non) S' => (match S'[S.length]? with
    | some (.ins c ns vs) => .ok (.d (.ins c ns vs)) (S'.take S.length)
    | _ => .no)
  | .ex x S' => .ex x (S'.take S.length)
  | _ => .no
theorem mk_sp {K : Fg} {cn : Str} {σ : L2.St} {H : Hp} {vs : List V} {Q : VK} {x dx : Addr} (hx : H x = none) (hd : H dx = none) (hne : dx ≠ x) (h : dsp K (fMk cn F) vs H Q (WE Z σ)) :
    dsp K F (.ref x :: vs) (upd (upd H dx (.own x)) x (.ins (He.ga K cn) dx [])) (fun v H2 => v = .non ∧ Q (.ref x) H2) (WE Z σ) := by
  obtain ⟨G, c, S, ws, g, r, q⟩ := h
  have hk : ∀ a o, H a = some o → (upd (upd H dx (.own x)) x (.ins (He.ga K cn) dx [])) a = some o := fun a o e => by
    rw [upd_ne (ne_of_none e hx), upd_ne (ne_of_none e hd)]; exact e
  obtain ⟨g1, e1⟩ := g.alloc (p := x) (x := .ins cn [] []) hk hx (.ins upd_same rfl .nil (by decide))
  refine ⟨G, c ++ [x], _, .loc S.length :: ws, g1, .cons (.loc g.at_new) (RepWs.ev (.refl _) (List.prefix_append _ _) r), ?_⟩
  unfold fMk at q
  revert q
  cases F (.loc S.length :: ws) (S ++ [.ins cn [] []]) with
  | no => exact fun h => h
  | ex x2 S2 =>
    intro q G2 c2 H2 cls d2 e2 g2 rx
    exact q G2 c H2 cls d2 (e1.trans e2).back (g2.back (e1.trans e2).cc g.len) rx
  | ok w S2 =>
    intro q
    cases w with
    | loc _ => exact q.elim
    | glo _ => exact q.elim
    | ty _ => exact q.elim
    | d dd =>
      cases dd with
      | non =>
        intro G2 c2 H2 v e2 g2 rv
        cases rv with | d rv => cases rv with | non =>
        refine ⟨rfl, ?_⟩
        have hm := pre_get e2.cc g.at_new
        obtain ⟨ga, cx, hcx, ca⟩ := g2.cell _ _ hm
        dsimp only at q
        rw [hcx] at q
        cases ca with
        | lst h1 qq z => exact q.elim
        | dct h1 hk qq z kr => exact q.elim
        | tab h1 t k e0 => exact q.elim
        | ins h1 hn qq z =>
          obtain ⟨g3, e3⟩ := g2.freeze (e1.trans e2) g.len hm (Nat.lt_irrefl _) h1
          exact q _ _ _ _ e3 g3 (.d (.ins upd_same hn (Reps.sub (Sub.upd ga) _ _ qq)))
      | _ => exact q.elim
theorem run_mk {cn : Str} {pins : List (Addr × Obj)} {σ : L2.St} {H : Hp} {s : Shared} {Q : VK} {us : List Value} {kwl : List (Str × Value)} {us' : Value → List Value} {vs' : V → List V} (M : Mk X.K (He.ga X.K cn) f) (ok : FOk X.prog X.w X.K X.mg X.base k f fd ps F) (tk : Takes X Z) (hgu : X.A.guards = some []) (hr : Room (k + 1) X.A)
    (I : Inv X pins σ H s) (hrel : ∀ a, Vals (vs' (.ref a)) (us' (.ref a))) (hb : ∀ (s2 : Shared) (a : Addr), BindsTo s2 fd ⟨.ref a :: us, kwl⟩ (ps.zip (us' (.ref a))) ∧ (us' (.ref a)).length = ps.length)
    (h : ∀ x dx, H x = none → H dx = none → dx ≠ x → dsp X.K F (vs' (.ref x)) (upd (upd H dx (.own x)) x (.ins (He.ga X.K cn) dx [])) (fun v H2 => v = .non ∧ Q (.ref x) H2) (WE Z σ)) :
    wpAny (model X.prog X.w) X.A (call (.ref (He.ga X.K cn)) us kwl) (EP X pins σ Q) X.xe s := by
  have hq := h (s.heap.objs.size + 1) s.heap.objs.size (I.hok.fresh (Nat.le_succ _)) (I.hok.fresh (Nat.le_refl _)) (Nat.ne_of_lt (Nat.lt_succ_self _))
  have I2 := Inv.made (C := He.ga X.K cn) I
  obtain ⟨b1, b2⟩ := hb { s with heap := (s.heap.push PySem.W.emptyDict).push (PySem.W.instObj (He.ga X.K cn) s.heap.objs.size) } (s.heap.objs.size + 1)
  have e1 := I2.env0.make (He.ga X.K cn) us kwl
  refine wpAny_call (make_map (f := f) I.kIn M.makes M.init (beq_iff_eq.mp M.fn) (codeAny_mono (ok.run _ X.stack _ _ ⟨Value.ref (s.heap.objs.size + 1) :: us, kwl⟩ (us' (.ref (s.heap.objs.size + 1))) _ _ (WE Z σ) (make_guards.trans hgu) (hr.make _ us kwl)
    e1 b1 b2 (hrel _) hq) fun r s' hq' => ?_))
  cases r with
  | error e => exact passAt tk σ pins _ _ e s' I2 hq'
  | ok fl =>
    cases fl with
    | ret u =>
      obtain ⟨v, H', I3, rv, ev, q3⟩ := I2.after hq'
      subst ev
      exact ⟨rv, ⟨V.ref (s.heap.objs.size + 1), H', I3, rfl, q3⟩⟩
    | next => exact False.elim hq'
    | brk => exact False.elim hq'
    | cont => exact False.elim hq'
theorem Def.mkP {cn : Str} (D : Def X.prog X.w X.K X.mg X.base k f d ps F) (M : Mk X.K (He.ga X.K cn) f) (tk : Takes X Z) (hgu : X.A.guards = some []) (hr : Room (k + 1) X.A) (hn : ps.length = n + 1) : RunC X Z (.ref (He.ga X.K cn)) n [] (fMk cn F) := by
  obtain ⟨fd, fD, ok, hb⟩ := D.ok
  refine ⟨M.kp, fun pins s σ H Q us ws vs zs I r rz l1 l2 q => ?_⟩
  have e0 : zs = [] := List.eq_nil_of_length_eq_zero l2
  subst e0
  cases rz
  rw [List.append_nil] at q
  have hl := r.length.symm.trans l1
  exact run_mk (us' := fun v => v :: us) (vs' := fun v => v :: vs) M ok tk hgu hr I (fun a => .cons rfl r) (fun s2 a => ⟨hb s2 _ (by rw [List.length_cons, hl, hn]), by rw [List.length_cons, hl, hn]⟩) fun x dx h1 h2 h3 => mk_sp h1 h2 h3 q
theorem Def.mkC {cn : Str} (D : Def X.prog X.w X.K X.mg X.base k f d ps F) (M : Mk X.K (He.ga X.K cn) f) (tk : Takes X Z) (hgu : X.A.guards = some []) (hr : Room (k + 1) X.A) (hb : KBind d ps ks (n + 1) ix) : RunC X Z (.ref (He.ga X.K cn)) n ks (fMk cn fun l => F (perm ix l)) := by
  obtain ⟨fd, fD, ok, _⟩ := D.ok
  refine ⟨M.kp, fun pins s σ H Q us ws vs zs I r rz l1 l2 q => ?_⟩
  have hl := r.length.symm.trans l1
  refine run_mk (us' := fun v => perm ix (v :: us ++ ws)) (vs' := fun v => perm ix (v :: vs ++ zs)) M ok tk hgu hr I (fun a => perm_rel (paired_append (.cons (show RelV (V.ref a) (Value.ref a) from rfl) r) rz) ix) (fun s2 a => kbind_to fD hb s2 (.ref a :: us) ws (by rw [List.length_cons, hl]) (rz.length.symm.trans l2)) fun x dx h1 h2 h3 => ?_
  obtain ⟨G, c, S, wl, g, r2, w⟩ := mk_sp (F := fun l => F (perm ix l)) h1 h2 h3 q
  exact ⟨G, c, S, _, g, perm_rel r2 ix, w⟩
/-! ### x(..) -/
def fCallG (F : FF) (n m : Nat) (fs gs : FL) : FE := fun ρ S => (fs ρ S).bind fun ws S1 => (gs ρ S1).bind fun zs S2 => if ws.length = n then (if zs.length = m then F (ws ++ zs) S2 else .no) else .no
def tCallG (K : Fg) (Z : WX) (F : FF) (n m : Nat) (t tk : TA) : TE := fun σ H Q => t σ H fun vs H1 => tk σ H1 fun zs H2 => vs.length = n ∧ zs.length = m ∧ dsp K F (vs ++ zs) H2 Q (WE Z σ)
theorem ref_callG {K : Fg} {m : Nat} {t tk : TA} (q1 : RefL K Z t fs) (q2 : RefL K Z tk gs) : Ref K Z (tCallG K Z F n m t tk) (fCallG F n m fs gs) := by
  intro ρ S σ H G c Q gd re h
  refine q1 ρ S σ H G c _ gd re (Wants.step h fun ws S1 G1 c1 H1 vs e1 g1 rx h1 => ?_)
  refine q2 ρ S1 σ H1 G1 c1 _ g1 (re.ev e1.gg e1.cc) (Wants.step h1 fun us S2 G2 c2 H2 zs e2 g2 ry h2 => ?_)
  by_cases l1 : ws.length = n
  · rw [if_pos l1] at h2
    by_cases l2 : us.length = m
    · rw [if_pos l2] at h2
      exact ⟨by rw [rx.length]; exact l1, by rw [ry.length]; exact l2, wants_sp g2 (paired_append (RepWs.ev e2.gg e2.cc rx) ry) h2⟩
    · rw [if_neg l2] at h2; exact h2.elim
  · rw [if_neg l1] at h2; exact h2.elim
/-- x(e, ..) -/
theorem de_callP {f : Addr} (C : RunC X Z (.ref f) n [] F) (hm : X.mg x = some (.ref f)) (ha : DA X Z (e :: es) fs) (hg : Gl X x := by rfl)
    (hdb : (x == ("__debug__" : Str)) = false := by decide) (he : starEach (e :: es) X.env = (false, eval e X.env) :: starEach es X.env := by rfl) (hpl : (backTo pos (starEach es X.env)).any (·.1) = false := by rfl) :
    DE X Z (.Call (.Name x p) (e :: es) [] pos) (fCallG F n 0 fs fNil) := by
  obtain ⟨t, pa, q⟩ := ha
  refine ⟨tCallG X.K Z F n 0 t tNil, ⟨fun pins s σ H Q I h => ?_⟩, ref_callG q refl_nil⟩
  refine wpAny_Call_Name_kw (ld_glob I hg hm ?_ hdb)
  refine PySem.W.callWith_K (h₀ := X.base) I.ok.mod.kin C.kp (thn (pa.run pos pins s σ H _ I h) fun us s1 ⟨vs, H1, I1, r, q⟩ => ⟨I1.kIn, ?_⟩) he hpl
  obtain ⟨l1, l2, q⟩ := q
  exact C.run pins s1 σ H1 Q us [] vs [] I1 r .nil l1 rfl q
theorem de_callP0 {f : Addr} (C : RunC X Z (.ref f) 0 [] F) (hm : X.mg x = some (.ref f)) (hg : Gl X x := by rfl)
    (hdb : (x == ("__debug__" : Str)) = false := by decide) : DE X Z (.Call (.Name x p) [] [] pos) (fCallG F 0 0 fNil fNil) := by
  refine ⟨tCallG X.K Z F 0 0 tNil tNil, ⟨fun pins s σ H Q I h => ?_⟩, ref_callG refl_nil refl_nil⟩
  refine wpAny_Call_Name_kw (ld_glob I hg hm ?_ hdb)
  obtain ⟨l1, l2, q⟩ := h
  exact PySem.W.callWith_K0 I.kIn C.kp (C.run pins s σ H Q [] [] [] [] I .nil .nil l1 l2 q)
theorem de_callN {f : Addr} (C : RunC X Z (.ref f) n ks F) (hm : X.mg x = some (.ref f)) (ha : DA X Z (e :: es) fs) (hkw : DK X Z kws gs) (hg : Gl X x := by rfl)
    (hall : (backToKw pos (keywordEach kws X.env)).all (·.1.isSome) = true := by rfl) (hks : (backToKw pos (keywordEach kws X.env)).filterMap (·.1) = ks := by rfl)
    (hdb : (x == ("__debug__" : Str)) = false := by decide) (he : starEach (e :: es) X.env = (false, eval e X.env) :: starEach es X.env := by rfl)
    (hpl : ((backTo pos (starEach (e :: es) X.env)).any (·.1) || (backToKw pos (keywordEach kws X.env)).any (·.1.isNone)) = false := by rfl) :
    DE X Z (.Call (.Name x p) (e :: es) kws pos) (fCallG F n ks.length fs gs) := by
  obtain ⟨t, pa, q⟩ := ha
  obtain ⟨tk, pk, qk⟩ := hkw
  refine ⟨tCallG X.K Z F n ks.length t tk, ⟨fun pins s σ H Q I h => ?_⟩, ref_callG q qk⟩
  refine wpAny_Call_Name_kw (ld_glob I hg hm ?_ hdb)
  refine PySem.W.callWith_KW (h₀ := X.base) I.ok.mod.kin C.kp hall (thn (pa.run pos pins s σ H _ I h) fun us s1 ⟨vs, H1, I1, r, q⟩ => ?_) hpl he
  refine thn (pk.run pos pins s1 σ H1 _ I1 q) fun ws s2 ⟨zs, H2, I2, rz, l1, l2, q2⟩ => ⟨I2.kIn, ?_⟩
  rw [hks]
  exact C.run pins s2 σ H2 Q us ws vs zs I2 r rz l1 l2 q2
theorem de_callN0 {f : Addr} (C : RunC X Z (.ref f) 0 ks F) (hm : X.mg x = some (.ref f)) (hkw : DK X Z kws gs) (hg : Gl X x := by rfl)
    (hall : (backToKw pos (keywordEach kws X.env)).all (·.1.isSome) = true := by rfl) (hks : (backToKw pos (keywordEach kws X.env)).filterMap (·.1) = ks := by rfl)
    (hdb : (x == ("__debug__" : Str)) = false := by decide) (hpl : ((backTo pos (starEach [] X.env)).any (·.1) || (backToKw pos (keywordEach kws X.env)).any (·.1.isNone)) = false := by rfl) :
    DE X Z (.Call (.Name x p) [] kws pos) (fCallG F 0 ks.length fNil gs) := by
  obtain ⟨tk, pk, qk⟩ := hkw
  refine ⟨tCallG X.K Z F 0 ks.length tNil tk, ⟨fun pins s σ H Q I h => ?_⟩, ref_callG refl_nil qk⟩
  refine wpAny_Call_Name_kw (ld_glob I hg hm ?_ hdb)
  refine PySem.W.callWith_KW0 (h₀ := X.base) I.ok.mod.kin C.kp hall ?_ hpl
  refine thn (pk.run pos pins s σ H _ I h) fun ws s2 ⟨zs, H2, I2, rz, l1, l2, q2⟩ => ⟨I2.kIn, ?_⟩
  rw [hks]
  exact C.run pins s2 σ H2 Q [] ws [] zs I2 .nil rz l1 l2 q2
/-! ### o.m(..) -/
def fMeth (cn mn : Str) (F : FF) (n m : Nat) (fo : FE) (fs gs : FL) : FE := fun ρ S => (fo ρ S).bind fun w S1 => match insOf cn w S1 with
  | some (ns, vs) => if (lookN mn ns vs).isSome then .no else (fs ρ S1).bind fun ws S2 => (gs ρ S2).bind fun zs S3 => if ws.length = n then (if zs.length = m then F (w :: (ws ++ zs)) S3 else .no) else .no
  | none => .no
def tMethG (K : Fg) (Z : WX) (cn mn : Str) (F : FF) (n m : Nat) (to : TE) (t tk : TA) : TE := fun σ H Q => to σ H fun x H1 => ∃ a dx fs, x = .ref a ∧ H1 a = some (.ins (He.ga K cn) dx fs) ∧ fs.lookup mn = none ∧
  t σ H1 fun vs H2 => tk σ H2 fun zs H3 => vs.length = n ∧ zs.length = m ∧ dsp K F (.ref a :: (vs ++ zs)) H3 Q (WE Z σ)
theorem ref_methG {K : Fg} {cn mn : Str} {m : Nat} {to : TE} {t tk : TA} (q0 : Ref K Z to fo) (q1 : RefL K Z t fs) (q2 : RefL K Z tk gs) : Ref K Z (tMethG K Z cn mn F n m to t tk) (fMeth cn mn F n m fo fs gs) := by
  intro ρ S σ H G c Q gd re h
  refine q0 ρ S σ H G c _ gd re (Wants.step h fun w S1 G1 c1 H1 v e1 g1 rx h1 => ?_)
  split at h1
  · rename_i ns vs ei
    obtain ⟨a, dx, fl, rfl, ha, hm, r⟩ := ins_rep g1 rx ei
    by_cases hl : (lookN mn ns vs).isSome = true
    · rw [if_pos hl] at h1; exact h1.elim
    · rw [if_neg hl] at h1
      have hl' : lookN mn ns vs = none := by simpa using hl
      refine ⟨a, dx, fl, rfl, ha, (lookN_rep hm r).2 hl', ?_⟩
      have re1 := re.ev e1.gg e1.cc
      refine q1 ρ S1 σ H1 G1 c1 _ g1 re1 (Wants.step h1 fun ws S2 G2 c2 H2 vs e2 g2 rx2 h2 => ?_)
      refine q2 ρ S2 σ H2 G2 c2 _ g2 (re1.ev e2.gg e2.cc) (Wants.step h2 fun us S3 G3 c3 H3 zs e3 g3 ry h3 => ?_)
      by_cases l1 : ws.length = n
      · rw [if_pos l1] at h3
        by_cases l2 : us.length = m
        · rw [if_pos l2] at h3
          exact ⟨by rw [rx2.length]; exact l1, by rw [ry.length]; exact l2, wants_sp g3 (.cons ((rx.ev e2.gg e2.cc).ev e3.gg e3.cc) (paired_append (RepWs.ev e3.gg e3.cc rx2) ry)) h3⟩
        · rw [if_neg l2] at h3; exact h3.elim
      · rw [if_neg l1] at h3; exact h3.elim
  · exact h1.elim
variable {g : Addr} {cn : Str} {pl : Sem Bool}
theorem de_methP (h : DE X Z o fo) (c : Cls X.K (He.ga X.K cn)) (hm : Meth X.K (He.ga X.K cn) m g) (C : RunC X Z (.ref g) (n + 1) [] F) (ha : DA X Z (e :: es) fs)
    (hst : starEach (e :: es) X.env = (false, eval e X.env) :: starEach es X.env := by rfl) (hpl : (backTo pos (starEach es X.env)).any (·.1) = false := by rfl)
    (ht : eval (.Call (.Attribute o m apos) (e :: es) [] pos) X.env = (do
      let ov ← eval o X.env
      standAt apos.atName
      let (f, first) ← holding [ov] (getMethod ov m pl)
      callWith pos f first (backTo pos (starEach (e :: es) X.env)) (backToKw pos (keywordEach [] X.env))) := by rfl) :
    DE X Z (.Call (.Attribute o m apos) (e :: es) [] pos) (fMeth cn m F n 0 fo fs fNil) := by
  obtain ⟨to, po, qo⟩ := h
  obtain ⟨t, pa, q⟩ := ha
  refine ⟨tMethG X.K Z cn m F n 0 to t tNil, ⟨fun pins s σ H Q I h => ?_⟩, ref_methG qo q refl_nil⟩
  refine PySem.W.methodCall_KW (pl := pl) (thn (po.run pins s σ H _ I h) fun u s1 ⟨x, H1, I1, rx, a, dx, fl, ex, ea, l, q⟩ => ?_) ht
  subst ex
  obtain rfl : u = Value.ref a := rx
  refine getmeth_ok I1 ea c hm l ?_
  refine PySem.W.callWith_K (first := [.ref a]) (h₀ := X.base) I.ok.mod.kin hm.kp (thn (pa.run pos pins s1 σ H1 _ I1 q) fun us s2 ⟨vs, H2, I2, r, l1, l2, q2⟩ => ⟨I2.kIn, ?_⟩) hst hpl
  exact C.run pins s2 σ H2 Q (.ref a :: us) [] (.ref a :: vs) [] I2 (.cons rfl r) .nil (by rw [List.length_cons, l1]) rfl q2
theorem de_methP0 (h : DE X Z o fo) (c : Cls X.K (He.ga X.K cn)) (hm : Meth X.K (He.ga X.K cn) m g) (C : RunC X Z (.ref g) 1 [] F)
    (ht : eval (.Call (.Attribute o m apos) [] [] pos) X.env = (do
      let ov ← eval o X.env
      standAt apos.atName
      let (f, first) ← holding [ov] (getMethod ov m pl)
      callWith pos f first (backTo pos (starEach [] X.env)) (backToKw pos (keywordEach [] X.env))) := by rfl) :
    DE X Z (.Call (.Attribute o m apos) [] [] pos) (fMeth cn m F 0 0 fo fNil fNil) := by
  obtain ⟨to, po, qo⟩ := h
  refine ⟨tMethG X.K Z cn m F 0 0 to tNil tNil, ⟨fun pins s σ H Q I h => ?_⟩, ref_methG qo refl_nil refl_nil⟩
  refine PySem.W.methodCall_KW (pl := pl) (thn (po.run pins s σ H _ I h) fun u s1 ⟨x, H1, I1, rx, a, dx, fl, ex, ea, l, l1, l2, q⟩ => ?_) ht
  subst ex
  obtain rfl : u = Value.ref a := rx
  refine getmeth_ok I1 ea c hm l ?_
  exact PySem.W.callWith_K0 (first := [.ref a]) I1.kIn hm.kp (C.run pins s1 σ H1 Q [.ref a] [] [.ref a] [] I1 (.cons rfl .nil) .nil rfl rfl q)
theorem de_methN (h : DE X Z o fo) (c : Cls X.K (He.ga X.K cn)) (hm : Meth X.K (He.ga X.K cn) m g) (C : RunC X Z (.ref g) (n + 1) ks F) (ha : DA X Z (e :: es) fs) (hkw : DK X Z kws gs)
    (hst : starEach (e :: es) X.env = (false, eval e X.env) :: starEach es X.env := by rfl) (hpl : ((backTo pos (starEach (e :: es) X.env)).any (·.1) || (backToKw pos (keywordEach kws X.env)).any (·.1.isNone)) = false := by rfl)
    (hall : (backToKw pos (keywordEach kws X.env)).all (·.1.isSome) = true := by rfl) (hks : (backToKw pos (keywordEach kws X.env)).filterMap (·.1) = ks := by rfl)
    (ht : eval (.Call (.Attribute o m apos) (e :: es) kws pos) X.env = (do
      let ov ← eval o X.env
      standAt apos.atName
      let (f, first) ← holding [ov] (getMethod ov m pl)
      callWith pos f first (backTo pos (starEach (e :: es) X.env)) (backToKw pos (keywordEach kws X.env))) := by rfl) :
    DE X Z (.Call (.Attribute o m apos) (e :: es) kws pos) (fMeth cn m F n ks.length fo fs gs) := by
  obtain ⟨to, po, qo⟩ := h
  obtain ⟨t, pa, q⟩ := ha
  obtain ⟨tk, pk, qk⟩ := hkw
  refine ⟨tMethG X.K Z cn m F n ks.length to t tk, ⟨fun pins s σ H Q I h => ?_⟩, ref_methG qo q qk⟩
  refine PySem.W.methodCall_KW (pl := pl) (thn (po.run pins s σ H _ I h) fun u s1 ⟨x, H1, I1, rx, a, dx, fl, ex, ea, l, q⟩ => ?_) ht
  subst ex
  obtain rfl : u = Value.ref a := rx
  refine getmeth_ok I1 ea c hm l ?_
  refine PySem.W.callWith_KW (first := [.ref a]) (h₀ := X.base) I.ok.mod.kin hm.kp hall (thn (pa.run pos pins s1 σ H1 _ I1 q) fun us s2 ⟨vs, H2, I2, r, q2⟩ => ?_) hpl hst
  refine thn (pk.run pos pins s2 σ H2 _ I2 q2) fun ws s3 ⟨zs, H3, I3, rz, l1, l2, q3⟩ => ⟨I3.kIn, ?_⟩
  rw [hks]
  exact C.run pins s3 σ H3 Q (.ref a :: us) ws (.ref a :: vs) zs I3 (.cons rfl r) rz (by rw [List.length_cons, l1]) l2 q3
theorem de_methN0 (h : DE X Z o fo) (c : Cls X.K (He.ga X.K cn)) (hm : Meth X.K (He.ga X.K cn) m g) (C : RunC X Z (.ref g) 1 ks F) (hkw : DK X Z kws gs)
    (hpl : ((backTo pos (starEach [] X.env)).any (·.1) || (backToKw pos (keywordEach kws X.env)).any (·.1.isNone)) = false := by rfl)
    (hall : (backToKw pos (keywordEach kws X.env)).all (·.1.isSome) = true := by rfl) (hks : (backToKw pos (keywordEach kws X.env)).filterMap (·.1) = ks := by rfl)
    (ht : eval (.Call (.Attribute o m apos) [] kws pos) X.env = (do
      let ov ← eval o X.env
      standAt apos.atName
      let (f, first) ← holding [ov] (getMethod ov m pl)
      callWith pos f first (backTo pos (starEach [] X.env)) (backToKw pos (keywordEach kws X.env))) := by rfl) :
    DE X Z (.Call (.Attribute o m apos) [] kws pos) (fMeth cn m F 0 ks.length fo fNil gs) := by
  obtain ⟨to, po, qo⟩ := h
  obtain ⟨tk, pk, qk⟩ := hkw
  refine ⟨tMethG X.K Z cn m F 0 ks.length to tNil tk, ⟨fun pins s σ H Q I h => ?_⟩, ref_methG qo refl_nil qk⟩
  refine PySem.W.methodCall_KW (pl := pl) (thn (po.run pins s σ H _ I h) fun u s1 ⟨x, H1, I1, rx, a, dx, fl, ex, ea, l, q⟩ => ?_) ht
  subst ex
  obtain rfl : u = Value.ref a := rx
  refine getmeth_ok I1 ea c hm l ?_
  refine PySem.W.callWith_KW0 (first := [.ref a]) (h₀ := X.base) I.ok.mod.kin hm.kp hall ?_ hpl
  refine thn (pk.run pos pins s1 σ H1 _ I1 q) fun ws s3 ⟨zs, H3, I3, rz, l1, l2, q3⟩ => ⟨I3.kIn, ?_⟩
  rw [hks]
  exact C.run pins s3 σ H3 Q [.ref a] ws [.ref a] zs I3 (.cons rfl .nil) rz rfl l2 q3
end
end DL
end
section
/-! DL, 11: stores into lists, dicts, own objects; new cells; what the language has to call -/
namespace DL
open PySem PySem.Spec PyProof.Rows L2
section
variable {X : Cx} {Z : WX} {o i e value : Expr} {es : List Expr} {fo fi fv f : FE} {fs : FL} {pos pos' p apos cpos : Pos} {x : Str}
/-! ### o[i] = v -/
def putDk (ks : List D) (x : D) : List D := if (ks.any fun k => keq k x) = true then ks else ks ++ [x]
def putDv (ks vs : List D) (x y : D) : List D := if (ks.any fun k => keq k x) = true then List.zipWith (fun k v => if keq k x then y else v) ks vs else vs ++ [y]
def wrIxD (S : Store) (n : Nat) (i v : D) : Option Store := match S[n]? with
  | some (.lst ds) => (match i with
    | .int k => (ixN ds.length k).map fun j => S.set n (.lst (ds.set j v))
    | _ => none)
  | some (.dct ks vs) => if ((dkey i).isSome && lenOk (ks.length + 1)) = true then some (S.set n (.dct (putDk ks i) (putDv ks vs i v))) else none
  | _ => none
def wrIx (w i v : W) (S : Store) : Option Store := match w, i, v with
  | .loc n, .d i, .d v => wrIxD S n i v
  | _, _, _ => none
def gIxS (fo fi : FE) : FG := fun v ρ S => (fo ρ S).bind fun w S1 => (fi ρ S1).bind fun i S2 => match wrIx w i v S2 with
  | some S3 => .ok ρ S3
  | none => .no
theorem Wants.stepG {α β : Type} {K : Fg} {σ : L2.St} {rel : Hp → List Addr → β → α → Prop} {G c H} {r : R α} {k : α → Store → R Env} {Q : L2.St → Hp → Prop} {P : β → Hp → Prop}
    (h : match r.bind k with
      | .ok ρ' S' => ∀ G' c' H' σ', Ev G c H G' c' H' → Good K G' c' S' H' → RepE K G' c' σ' ρ' → Q σ' H'
      | _ => False)
    (f : ∀ a S' G' c' H' b, Ev G c H G' c' H' → Good K G' c' S' H' → rel G' c' b a → (match k a S' with
      | .ok ρ' S' => ∀ G2 c2 H2 σ', Ev G' c' H' G2 c2 H2 → Good K G2 c2 S' H2 → RepE K G2 c2 σ' ρ' → Q σ' H2
      | _ => False) → P b H') : Wants K Z σ rel G c H r P := by
  cases r with
  | ok a S =>
    intro G' c' H' b e g q
    refine f a S G' c' H' b e g q ?_
    revert h
    show (match k a S with
      | .ok ρ' S' => ∀ G' c' H' σ', Ev G c H G' c' H' → Good K G' c' S' H' → RepE K G' c' σ' ρ' → Q σ' H'
      | _ => False) → _
    cases k a S with
    | ok a2 S2 => exact fun h G2 c2 H2 s2 e2 => h G2 c2 H2 s2 (e.trans e2)
    | ex x S2 => exact fun h => h
    | no => exact fun h => h
  | ex x S => exact h.elim
  | no => exact h.elim
/-- the write, in the heap -/
def rSetA : TSet := fun o i v H Q => rSetL o i v H Q ∨ ∃ a H', o = .ref a ∧ DPut H a i v H' ∧ Q H'
theorem set_all (hu : X.A.units + 100 < cLine) : PSet X rSetA := by
  intro pins s σ H o i v ov iv u Q I ro ri rv h
  rcases h with h | ⟨a, H', rfl, h, q⟩
  · exact set_list pins s σ H o i v ov iv u Q I ro ri rv h
  · cases ro
    exact d_setItem (by omega) I h ri rv fun s' I' => ⟨H', I', q⟩
theorem keys_any {K : Fg} {ks : List D} {kvs : List (Key × V)} {x : D} {k : Key} (hx : dkey x = some k) (hk : ks.map dkey = kvs.map fun p => some p.1) : (kvs.any fun kv => decide (kv.1 = k)) = ks.any fun y => keq y x := by
  induction ks generalizing kvs with
  | nil =>
    have : kvs = [] := by simpa using hk.symm
    subst this; rfl
  | cons y ks ih =>
    cases kvs with
    | nil => simp at hk
    | cons p kvs =>
      simp only [List.map_cons, List.cons.injEq] at hk
      rw [List.any_cons, List.any_cons, ih hk.2]
      have e : keq y x = decide (p.1 = k) := by unfold keq; rw [hk.1, hx]
      rw [e]
theorem put_rep {K : Fg} {G : Hp} {ks vs : List D} {kvs : List (Key × V)} {x y : D} {k : Key} {u : V} (hx : dkey x = some k) (hk : ks.map dkey = kvs.map fun p => some p.1) (r : Reps K G (kvs.map (·.2)) vs) (ry : Rep K G u y) {x' : V} (kr : Reps K G (kvs.map fun p => kV p.1) ks) (rx : Rep K G x' x) :
    (putDk ks x).map dkey = ((putK kvs k u).map fun p => some p.1) ∧ Reps K G ((putK kvs k u).map (·.2)) (putDv ks vs x y) ∧ Reps K G ((putK kvs k u).map fun p => kV p.1) (putDk ks x) := by
  unfold putDk putDv putK
  rw [keys_any (K := K) hx hk]
  by_cases h : (ks.any fun k => keq k x) = true
  · rw [if_pos h, if_pos h, if_pos h]
    refine ⟨?_, ?_, ?_⟩
    · rw [hk, List.map_map]
      apply List.map_congr_left
      intro p _
      by_cases hp : p.1 = k
      · simp [hp]
      · simp [hp]
    · clear h
      induction ks generalizing kvs vs with
      | nil =>
        have : kvs = [] := by simpa using hk.symm
        subst this
        cases r
        exact .nil
      | cons z ks ih =>
        cases kvs with
        | nil => simp at hk
        | cons p kvs =>
          simp only [List.map_cons, List.cons.injEq] at hk
          cases r with
          | cons rv rr =>
            rw [List.map_cons, List.map_cons, List.zipWith_cons_cons]
            refine .cons ?_ (ih hk.2 rr (by cases kr with | cons _ t => exact t))
            have e : keq z x = decide (p.1 = k) := by unfold keq; rw [hk.1, hx]
            rw [e]
            by_cases hp : p.1 = k
            · rw [if_pos hp, decide_eq_true hp, if_pos rfl]; exact ry
            · rw [if_neg hp, decide_eq_false hp]; exact rv
    · have e : ((kvs.map fun kv => if kv.1 = k then (kv.1, u) else kv).map fun p => kV p.1) = kvs.map fun p => kV p.1 := by
        rw [List.map_map]
        apply List.map_congr_left
        intro p _
        by_cases hp : p.1 = k
        · simp [hp]
        · simp [hp]
      rw [e]
      exact kr
  · rw [if_neg h, if_neg h, if_neg h]
    rw [List.map_append, List.map_append, List.map_append, List.map_append, hk]
    refine ⟨by simp [hx], r.append (.cons ry .nil), kr.append (.cons ?_ .nil)⟩
    show Rep K G (kV k) x
    rw [← dkey_rep rx hx]
    exact rx
theorem putDk_len (ks : List D) (x : D) : (putDk ks x).length ≤ ks.length + 1 := by
  unfold putDk
  split
  · omega
  · simp
theorem ixN_lt {n : Nat} {k : Int} {j : Nat} (h : ixN n k = some j) : j < n := by
  unfold ixN at h
  split at h
  · split at h
    · cases h; omega
    · cases h
  · split at h
    · cases h; omega
    · cases h
theorem wrIx_ok {K : Fg} {G c S H} {x y z : V} {w i v : W} {S3 : Store} {Q : Hp → Prop} (g : Good K G c S H) (r1 : RepW K G c x w) (r2 : RepW K G c y i) (r3 : RepW K G c z v) (h : wrIx w i v S = some S3)
    (q : ∀ H', Ev G c H G c H' → Good K G c S3 H' → Q H') : rSetA x y z H Q := by
  unfold wrIx at h
  split at h
  · rename_i n di dv
    cases r1 with | @loc n a hn =>
    cases r2 with | d r2 =>
    cases r3 with | d r3 =>
    obtain ⟨ga, cx, hx, ca⟩ := g.cell _ _ hn
    unfold wrIxD at h
    rw [hx] at h
    cases ca with
    | @lst vs ds h1 rr zz =>
      dsimp only at h
      split at h
      · rename_i k
        cases r2 with | int =>
        rw [Option.map_eq_some_iff] at h
        obtain ⟨j, hj, rfl⟩ := h
        have hj' : ixN vs.length k = some j := by rw [rr.length]; exact hj
        have e := g.write hn (o := .lst (vs.set j z)) (.lst upd_same (Reps.set r3 j rr) (by rw [List.length_set]; exact zz))
        exact .inl ⟨a, vs, k, j, rfl, rfl, h1, hj', q _ e.2 e.1⟩
      · cases h
    | @dct kvs ks vs h1 hk rr zz kr =>
      dsimp only at h
      by_cases hc : ((dkey di).isSome && lenOk (ks.length + 1)) = true
      · rw [if_pos hc] at h
        cases h
        rw [Bool.and_eq_true] at hc
        obtain ⟨k, ek⟩ := Option.isSome_iff_exists.mp hc.1
        have hz : ks.length + 1 ≤ sizeLine := of_decide_eq_true hc.2
        have hl : kvs.length = ks.length := by
          have := congrArg List.length hk
          simpa using this.symm
        obtain ⟨p1, p2, p3⟩ := put_rep ek hk rr r3 kr r2
        have e := g.write hn (o := .dK (putK kvs k z)) (.dct upd_same p1 p2 (Nat.le_trans (putDk_len ..) hz) p3)
        exact .inr ⟨a, _, rfl, .inl ⟨kvs, k, h1, dkey_rep r2 ek, by omega, rfl⟩, q _ e.2 e.1⟩
      · rw [if_neg hc] at h; cases h
    | ins h1 hm rr zz => cases h
    | tab h1 t k e0 => cases h
  · cases h
theorem dg_ix (hu : X.A.units + 100 < cLine) (ho : DE X Z o fo) (hi : DE X Z i fi)
    (ha : ∀ v, assign (.Subscript o i pos) X.env v = (do
      let ov ← holding [v] (eval o X.env)
      let iv ← holding [v, ov] (eval i X.env)
      standAt pos
      holding [v, ov, iv] (setItem ov iv v)
      release [v, ov, iv] []) := by intro _; rfl) : DG X Z (.Subscript o i pos) (gIxS fo fi) := by
  obtain ⟨_, p1, q1⟩ := ho
  obtain ⟨_, p2, q2⟩ := hi
  refine ⟨_, pg_sub p1 p2 (set_all hu) ha, fun w v ρ S σ H G c Q gd re r h => ?_⟩
  refine q1 ρ S σ H G c _ gd re (Wants.stepG h fun a S1 G1 c1 H1 u e1 g1 rx h1 => ?_)
  refine q2 ρ S1 σ H1 G1 c1 _ g1 (re.ev e1.gg e1.cc) (Wants.stepG h1 fun b S2 G2 c2 H2 y e2 g2 ry h2 => ?_)
  cases ew : wrIx a b w S2 with
  | none => rw [ew] at h2; exact h2.elim
  | some S3 =>
    rw [ew] at h2
    exact wrIx_ok g2 (rx.ev e2.gg e2.cc) ry ((r.ev e1.gg e1.cc).ev e2.gg e2.cc) ew fun H' ev' g' => h2 G2 c2 H' σ ev' g' ((re.ev e1.gg e1.cc).ev e2.gg e2.cc)
/-! ### o.f = v -/
def putN (f : Str) : List Str → List Str
  | [] => [f]
  | g :: r => if g = f then g :: r else g :: putN f r
def putNv (f : Str) (y : D) : List Str → List D → List D
  | [], _ => [y]
  | g :: r, v :: vs => if g = f then y :: vs else v :: putNv f y r vs
  | _, [] => []
theorem putF_rep {K : Fg} {G : Hp} {f : Str} {u : V} {y : D} (ry : Rep K G u y) : ∀ {fs : List (Str × V)} {ns : List Str} {vs : List D}, fs.map (·.1) = ns → Reps K G (fs.map (·.2)) vs → (putF f u fs).map (·.1) = putN f ns ∧ Reps K G ((putF f u fs).map (·.2)) (putNv f y ns vs)
  | [], ns, vs, hn, r => by
    have : ns = [] := by simpa using hn.symm
    subst this
    exact ⟨rfl, .cons ry .nil⟩
  | p :: fs, ns, vs, hn, r => by
    subst hn
    cases r with
    | cons h t =>
      have ih := putF_rep (f := f) ry (fs := fs) rfl t
      simp only [List.map_cons, putF, putN, putNv]
      by_cases e : p.1 = f
      · rw [if_pos e, if_pos e, if_pos e]
        exact ⟨rfl, .cons ry t⟩
      · rw [if_neg e, if_neg e, if_neg e]
        exact ⟨by rw [List.map_cons, ih.1], .cons h ih.2⟩
theorem putN_len (f : Str) : ∀ ns : List Str, (putN f ns).length ≤ ns.length + 1
  | [] => by simp [putN]
  | g :: r => by
    unfold putN
    have := putN_len f r
    split
    · simp
    · simp only [List.length_cons]; omega
def wrFld (cn f : Str) (w v : W) (S : Store) : Option Store := match w, v with
  | .loc n, .d v => (match S[n]? with
    | some (.ins c ns vs) => if c = cn ∧ ns.length < 99 then some (S.set n (.ins c (putN f ns) (putNv f v ns vs))) else none
    | _ => none)
  | _, _ => none
def fSetF (cn f : Str) (fo fv : FE) : FS := fun ρ S => thenS ρ (fv ρ S) fun v S1 => thenS ρ (fo ρ S1) fun w S2 => match wrFld cn f w v S2 with
  | some S3 => .nx ρ S3
  | none => .no
theorem ds_setF {cn f : Str} (hc : Cls X.K (He.ga X.K cn)) (hn : NoAttr X.K (He.ga X.K cn) f) (ho : DE X Z o fo) (hv : DE X Z value fv) (hs : swapsWith value (some (.Attribute o f pos')) pos.line X.env = pure false := by rfl) :
    DS X Z (.Assign [.Attribute o f pos'] value pos) (fSetF cn f fo fv) := by
  obtain ⟨_, p1, q1⟩ := ho
  obtain ⟨_, p2, q2⟩ := hv
  refine ⟨_, ps_fld p1 p2 hs, fun ρ S σ H G c D gd re h => ?_⟩
  refine q2 ρ S σ H G c _ gd re (Wants.stepS re h fun v S1 G1 c1 H1 u e1 g1 ru h1 => ?_)
  have re1 := re.ev e1.gg e1.cc
  refine q1 ρ S1 σ H1 G1 c1 _ g1 re1 (Wants.stepS re1 h1 fun w S2 G2 c2 H2 y e2 g2 ry h2 => ?_)
  cases ew : wrFld cn f w v S2 with
  | none => rw [ew] at h2; exact h2.elim
  | some S3 =>
    rw [ew] at h2
    unfold wrFld at ew
    split at ew
    · rename_i n dv
      cases ry with | @loc n a hn' =>
      cases (ru.ev e2.gg e2.cc) with | d rv =>
      obtain ⟨ga, cx, hx, ca⟩ := g2.cell _ _ hn'
      rw [hx] at ew
      cases ca with
      | lst h1 rr zz => cases ew
      | dct h1 hk rr zz kr => cases ew
      | tab h1 t k e0 => cases ew
      | @ins dx c' ns fs vs hA hm rr zz =>
        dsimp only at ew h2
        by_cases hcc : c' = cn ∧ ns.length < 99
        · rw [if_pos hcc] at ew
          cases ew
          obtain ⟨rfl, hl⟩ := hcc
          have hlf : fs.length = ns.length := by rw [← hm, List.length_map]
          obtain ⟨p3, p4⟩ := putF_rep (f := f) rv hm rr
          have e := g2.write hn' (o := .ins (He.ga X.K c') dx (putF f u fs)) (.ins upd_same p3 p4 (Nat.lt_of_le_of_lt (putN_len ..) (by omega)))
          exact ⟨a, _, dx, fs, rfl, hA, hc, hn, by omega, h2 G2 c2 _ σ e.2 e.1 (re1.ev e2.gg e2.cc)⟩
        · rw [if_neg hcc] at ew; cases ew
    · cases ew
/-! ### new cells -/
def fLstC (fs : FL) : FE := fun ρ S => (fs ρ S).bind fun ws S1 => match pures ws with
  | some ds => if lenOk ds.length then .ok (.loc S1.length) (S1 ++ [.lst ds]) else .no
  | none => .no
theorem Wants.retCell {σ : L2.St} {K : Fg} {G c S H} {p : Addr} {o : HO} {cx : Cell} {Q : VK} (g : Good K G c S H) (h : Wants K Z σ (RepW K) G c H (.ok (.loc S.length) (S ++ [cx])) Q) (hp : H p = none) (ca : CellAt K G c (upd H p o) p cx) : Q (.ref p) (upd H p o) := by
  obtain ⟨g1, e1⟩ := g.alloc (H' := upd H p o) (x := cx) (fun a u e => by rw [upd_ne (ne_of_none e hp)]; exact e) hp ca
  exact h G (c ++ [p]) _ _ e1 g1 (.loc g.at_new)
theorem de_lstC (h : DA X Z es fs) : DE X Z (.List es pos) (fLstC fs) := by
  obtain ⟨t, p, q⟩ := h
  refine ⟨_, pe_lst p, fun ρ S σ H G c Q gd re h => ?_⟩
  refine q ρ S σ H G c _ gd re (Wants.step h fun ws S1 G1 c1 H1 vs e1 g1 rx h1 => ?_)
  cases e : pures ws with
  | none => rw [e] at h1; exact h1.elim
  | some ds =>
    rw [e] at h1
    dsimp only at h1
    split at h1
    · rename_i hz
      have hz' := of_decide_eq_true hz
      have r := pures_rep rx e
      exact ⟨by rw [r.length]; exact hz', fun p hp => h1.retCell g1 hp (.lst upd_same r hz')⟩
    · exact h1.elim
def fDctC : FE := fun ρ S => .ok (.loc S.length) (S ++ [.dct [] []])
theorem de_dctC : DE X Z (.Dict [] [] pos) fDctC :=
  ⟨_, pe_dnewK, fun ρ S σ H G c Q g re h p hp => h.retCell g hp (.dct upd_same rfl .nil (Nat.zero_le _) .nil)⟩
/-! ### what the language has to call -/
def CalRef (K : Fg) (Z : WX) (r : List V → Hp → VK → Prop) (g : FF) : Prop := ∀ σ G c S H vs ws Q, Good K G c S H → RepWs K G c vs ws → Wants K Z σ (RepW K) G c H (g ws S) Q → r vs H Q
theorem CallR.or {f : Value} {r r' : List V → Hp → VK → Prop} (h : CallR X f r) (h' : CallR X f r') : CallR X f (fun xs H Q => r xs H Q ∨ r' xs H Q) := fun pins s σ H xs us Q I v q => q.elim (h pins s σ H xs us Q I v) (h' pins s σ H xs us Q I v)
theorem ref_cb {K : Fg} {t : TA} {r : List V → Hp → VK → Prop} {g : FF} (hg : CalRef K Z r g) (h : RefL K Z t fs) : Ref K Z (tCB r t) (fCall g fs) := by
  intro ρ S σ H G c Q gd re q
  exact h ρ S σ H G c _ gd re (Wants.step q fun ws S1 G1 c1 H1 vs e1 g1 rx h1 => hg σ G1 c1 S1 H1 vs ws Q g1 rx h1)
theorem de_cb {r : List V → Hp → VK → Prop} {g : FF} {id : String} (hc : CallR X (.builtin id) r) (hr : CalRef X.K Z r g) (hm : X.mg x = none) (ha : DA X Z (e :: es) fs) (hv : bootBuiltins x = some (.builtin id) := by rfl) (hg : Gl X x := by rfl) (hn : x ≠ "__name__" := by decide) (hdb : (x == ("__debug__" : Str)) = false := by decide)
    (he : starEach (e :: es) X.env = (false, eval e X.env) :: starEach es X.env := by rfl) (hpl : (backTo pos (starEach es X.env)).any (·.1) = false := by rfl) : DE X Z (.Call (.Name x p) (e :: es) [] pos) (fCall g fs) :=
  let ⟨_, q1, q2⟩ := ha; ⟨_, pe_callB hc hg hm hv q1 hn hdb he hpl, ref_cb hr q2⟩
theorem de_ct {r : List V → Hp → VK → Prop} {g : FF} {T : String} (hc : CallR X (.type T) r) (hr : CalRef X.K Z r g) (hm : X.mg x = none) (ha : DA X Z (e :: es) fs) (hv : bootBuiltins x = some (.type T) := by rfl) (hg : Gl X x := by rfl) (hn : x ≠ "__name__" := by decide) (hdb : (x == ("__debug__" : Str)) = false := by decide)
    (he : starEach (e :: es) X.env = (false, eval e X.env) :: starEach es X.env := by rfl) (hpl : (backTo pos (starEach es X.env)).any (·.1) = false := by rfl) : DE X Z (.Call (.Name x p) (e :: es) [] pos) (fCall g fs) :=
  let ⟨_, q1, q2⟩ := ha; ⟨_, pe_callTy hc hg hm hv q1 hn hdb he hpl, ref_cb hr q2⟩
/-- o.m(..), o of a built-in type -/
def MtRef (K : Fg) (Z : WX) (r : V → List V → Hp → VK → Prop) (g : FF) : Prop := ∀ σ G c S H v w vs ws Q, Good K G c S H → RepW K G c v w → RepWs K G c vs ws → Wants K Z σ (RepW K) G c H (g (w :: ws) S) Q → r v vs H Q
def tyW (T : String) (w : W) (S : Store) : Bool := match val w S with
  | some (.str _) => T == "str"
  | some (.lst _) => T == "list"
  | some (.scr _) => T == "list"
  | _ => false
theorem tyW_ok {K : Fg} {G c S H} {v : V} {w : W} {T : String} (g : Good K G c S H) (r : RepW K G c v w) (h : tyW T w S = true) : tyV K T v H := by
  unfold tyW at h
  cases ev : val w S with
  | none => rw [ev] at h; cases h
  | some d =>
    rw [ev] at h
    have r := val_rep g r ev
    cases d with
    | str l => cases r with | of r => cases r; exact (beq_iff_eq.mp h)
    | lst ds =>
      obtain ⟨a, vs, rfl, h1, _, _⟩ := r.lst' g.sub
      exact .inl ⟨beq_iff_eq.mp h, vs, .of h1⟩
    | scr ns =>
      cases r with | of r => cases r with | scr h1 z1 => exact .inl ⟨beq_iff_eq.mp h, _, sqL_sub g.sub h1⟩
    | _ => cases h
def fBM (T : String) (g : FF) (fo : FE) (fs : FL) : FE := fun ρ S => (fo ρ S).bind fun w S1 => if tyW T w S1 = true then (fs ρ S1).bind fun ws S2 => g (w :: ws) S2 else .no
theorem ref_bm {K : Fg} {to : TE} {t : TA} {r : V → List V → Hp → VK → Prop} {g : FF} {T : String} (hg : MtRef K Z r g) (h0 : Ref K Z to fo) (h : RefL K Z t fs) : Ref K Z (tBM K T r to t) (fBM T g fo fs) := by
  intro ρ S σ H G c Q gd re q
  refine h0 ρ S σ H G c _ gd re (Wants.step q fun w S1 G1 c1 H1 v e1 g1 rv h1 => ?_)
  by_cases ht : tyW T w S1 = true
  · rw [if_pos ht] at h1
    refine ⟨tyW_ok g1 rv ht, h ρ S1 σ H1 G1 c1 _ g1 (re.ev e1.gg e1.cc) (Wants.step h1 fun ws S2 G2 c2 H2 vs e2 g2 rx h2 => ?_)⟩
    exact hg σ G2 c2 S2 H2 v w vs ws Q g2 (rv.ev e2.gg e2.cc) rx h2
  · rw [if_neg ht] at h1; exact h1.elim
theorem de_bm {r : V → List V → Hp → VK → Prop} {g : FF} {T id : String} {name : Str} (hm : MtR X id r) (hr : MtRef X.K Z r g) (pa : PlainAttrs T) (slot : Slot T name id) (hty : typeOf (.builtin id) = pure (.type "method_descriptor")) (ho : DE X Z o fo) (ha : DA X Z (e :: es) fs)
    (hbase : attributeBase o name X.env (eval o X.env) = eval o X.env := by rfl)
    (hfew : ((backTo cpos (starEach (e :: es) X.env)).all (fun x => !x.1) && (backToKw cpos (keywordEach [] X.env)).all (fun x => x.1.isSome)
      && decide ((e :: es).length + ([] : List Keyword).length + (if ([] : List Keyword).isEmpty then 0 else 1) < 30)) = true := by rfl)
    (hline : (apos.endLine == cpos.line) = true := by rfl) (hs : starEach (e :: es) X.env = (false, eval e X.env) :: starEach es X.env := by rfl) (hplain : (backTo cpos (starEach es X.env)).any (·.1) = false := by rfl) :
    DE X Z (.Call (.Attribute o name apos) (e :: es) [] cpos) (fBM T g fo fs) :=
  let ⟨_, p0, q0⟩ := ho; let ⟨_, p1, q1⟩ := ha; ⟨_, pe_bm pa slot hty hm p0 p1 hbase hfew hline hs hplain, ref_bm hr q0 q1⟩
theorem de_bm0 {r : V → List V → Hp → VK → Prop} {g : FF} {T id : String} {name : Str} (hm : MtR X id r) (hr : MtRef X.K Z r g) (pa : PlainAttrs T) (slot : Slot T name id) (hty : typeOf (.builtin id) = pure (.type "method_descriptor")) (ho : DE X Z o fo)
    (hbase : attributeBase o name X.env (eval o X.env) = eval o X.env := by rfl) (hline : (apos.endLine == cpos.line) = true := by rfl) : DE X Z (.Call (.Attribute o name apos) [] [] cpos) (fBM T g fo fNil) := by
  obtain ⟨_, p0, q0⟩ := ho
  refine ⟨_, pe_bm0 pa slot hty hm p0 hbase hline, fun ρ S σ H G c Q gd re q => ?_⟩
  refine q0 ρ S σ H G c _ gd re (Wants.step q fun w S1 G1 c1 H1 v e1 g1 rv h1 => ?_)
  by_cases ht : tyW T w S1 = true
  · rw [if_pos ht] at h1
    exact ⟨tyW_ok g1 rv ht, hr σ G1 c1 S1 H1 v w [] [] Q g1 rv .nil h1⟩
  · rw [if_neg ht] at h1; exact h1.elim
end
end DL
end
section
/-! DL, 12: the built-in functions and types that are called -/
namespace DL
open PySem PySem.Spec PyProof.Rows L2
section
variable {X : Cx} {Z : WX} {K : Fg}
theorem w1 {G : Hp} {c : List Addr} {vs : List V} {w : W} (r : RepWs K G c vs [w]) : ∃ v, vs = [v] ∧ RepW K G c v w := by
  cases r with | cons a t => cases t; exact ⟨_, rfl, a⟩
theorem w2 {G : Hp} {c : List Addr} {vs : List V} {w u : W} (r : RepWs K G c vs [w, u]) : ∃ v x, vs = [v, x] ∧ RepW K G c v w ∧ RepW K G c x u := by
  cases r with | cons a t => cases t with | cons b t => cases t; exact ⟨_, _, rfl, a, b⟩
/-! ### len -/
def lenD : D → Option Nat
  | .str l => some l.length
  | .lst ds => some ds.length
  | .tup ds => some ds.length
  | .scr ns => some ns.length
  | .dct ks _ => some ks.length
  | _ => none
def gLen : FF := fun ws S => match ws with
  | [w] => (match val w S with
    | some d => (match lenD d with
      | some n => .ok (.d (.int n)) S
      | none => .no)
    | none => .no)
  | _ => .no
def rLenRd : List V → Hp → VK → Prop := fun xs H Q => ∃ a kvs, xs = [V.ref a] ∧ Rd H a (.dK kvs) ∧ Q (.int kvs.length) H
theorem call_lenRd : CallR X (.builtin "len") rLenRd := by
  intro pins s σ H xs us Q I r h
  obtain ⟨a, kvs, rfl, e, q⟩ := h
  obtain ⟨u, rfl, rx⟩ := vals1 r
  cases rx
  exact d_len I e fun t s' I' => ⟨.int kvs.length, H, I', ⟨_, rfl⟩, q⟩
def rLenA (K : Fg) : List V → Hp → VK → Prop := fun xs H Q => rLen K xs H Q ∨ rLenRd xs H Q
theorem call_lenA : CallR X (.builtin "len") (rLenA X.K) := CallR.or call_len call_lenRd
theorem cal_len : CalRef K Z (rLenA K) gLen := by
  intro σ G c S H vs ws Q g r h
  unfold gLen at h
  split at h
  · obtain ⟨v, rfl, rv⟩ := w1 r
    split at h
    · rename_i d ev
      have rd := val_rep g rv ev
      split at h
      · rename_i n en
        cases d <;> simp only [lenD, Option.some.injEq, reduceCtorEq] at en <;> subst en
        · cases rd with | of rd => cases rd with | str h1 h2 => exact .inl ⟨_, _, rfl, ⟨by show _ ≤ sizeLine; simpa [PySem.Str.length] using h1, by simp [PySem.Str.length]⟩, h.ret g (.d (.int _))⟩
        · cases rd with | of rd => cases rd with | tup h1 q z => exact .inl ⟨_, _, rfl, .inr ⟨_, g.seqT h1, q.length.symm⟩, h.ret g (.d (.int _))⟩
        · obtain ⟨a, vs, rfl, h1, q, z⟩ := rd.lst' g.sub
          exact .inl ⟨_, _, rfl, .inl ⟨_, .of h1, q.length.symm⟩, h.ret g (.d (.int _))⟩
        · obtain ⟨a, kvs, rfl, h1, hk, q, z⟩ := rd.dct' g.sub
          have e := congrArg List.length hk
          rw [List.length_map, List.length_map] at e
          refine .inr ⟨a, kvs, rfl, h1, ?_⟩
          rw [← e]
          exact h.ret g (.d (.int _))
        · cases rd with | of rd => cases rd with | scr h1 z => exact .inl ⟨_, _, rfl, .inl ⟨_, sqL_sub g.sub h1, by simp⟩, h.ret g (.d (.int _))⟩
      · exact h.elim
    · exact h.elim
  · exact h.elim
/-! ### int, abs, max, min -/
def gInt : FF := fun ws S => match ws with
  | [.d (.int i)] => .ok (.d (.int i)) S
  | [.d (.bl b)] => .ok (.d (.int (if b then 1 else 0))) S
  | _ => .no
theorem cal_int : CalRef K Z (fun xs H Q => (∃ i, xs = [.int i] ∧ Q (.int i) H) ∨ ∃ k, xs = [.bl k] ∧ Q (.int (if k then 1 else 0)) H) gInt := by
  intro σ G c S H vs ws Q g r h
  unfold gInt at h
  split at h
  · obtain ⟨v, rfl, rv⟩ := w1 r
    cases rv with | d rv => cases rv; exact .inl ⟨_, rfl, h.ret g (.d (.int _))⟩
  · obtain ⟨v, rfl, rv⟩ := w1 r
    cases rv with | d rv => cases rv; exact .inr ⟨_, rfl, h.ret g (.d (.int _))⟩
  · exact h.elim
def gAbs : FF := fun ws S => match ws with
  | [.d (.int i)] => .ok (.d (.int (if i < 0 then -i else i))) S
  | _ => .no
theorem cal_abs : CalRef K Z (fun xs H Q => ∃ i, xs = [.int i] ∧ Q (.int (if i < 0 then -i else i)) H) gAbs := by
  intro σ G c S H vs ws Q g r h
  unfold gAbs at h
  split at h
  · obtain ⟨v, rfl, rv⟩ := w1 r
    cases rv with | d rv => cases rv; exact ⟨_, rfl, h.ret g (.d (.int _))⟩
  · exact h.elim
def gMax2 : FF := fun ws S => match ws with
  | [.d (.int i), .d (.int j)] => .ok (.d (.int (if j > i then j else i))) S
  | _ => .no
def gMin2 : FF := fun ws S => match ws with
  | [.d (.int i), .d (.int j)] => .ok (.d (.int (if j < i then j else i))) S
  | _ => .no
theorem cal_max2 : CalRef K Z (fun xs H Q => ∃ i j, xs = [.int i, .int j] ∧ Q (.int (if j > i then j else i)) H) gMax2 := by
  intro σ G c S H vs ws Q g r h
  unfold gMax2 at h
  split at h
  · obtain ⟨v, x, rfl, rv, rx⟩ := w2 r
    cases rv with | d rv => cases rx with | d rx => cases rv; cases rx; exact ⟨_, _, rfl, h.ret g (.d (.int _))⟩
  · exact h.elim
theorem cal_min2 : CalRef K Z (fun xs H Q => ∃ i j, xs = [.int i, .int j] ∧ Q (.int (if j < i then j else i)) H) gMin2 := by
  intro σ G c S H vs ws Q g r h
  unfold gMin2 at h
  split at h
  · obtain ⟨v, x, rfl, rv, rx⟩ := w2 r
    cases rv with | d rv => cases rx with | d rx => cases rv; cases rx; exact ⟨_, _, rfl, h.ret g (.d (.int _))⟩
  · exact h.elim
/-! ### all, any -/
def blsOf : List D → Option (List Bool)
  | [] => some []
  | .bl b :: ds => (blsOf ds).map (b :: ·)
  | _ :: _ => none
theorem bls_rep {G : Hp} : ∀ {vs : List V} {ds : List D} {bs : List Bool}, Reps K G vs ds → blsOf ds = some bs → vs = bs.map V.bl
  | _, _, _, .nil, h => by cases h; rfl
  | _, _, _, .cons (d := d) (ds := ds) r t, h => by
    cases d with
    | bl b =>
      rw [blsOf, Option.map_eq_some_iff] at h
      obtain ⟨bs, h1, rfl⟩ := h
      cases r
      rw [List.map_cons, bls_rep t h1]
    | _ => cases h
def gAA (f : List Bool → Bool) : FF := fun ws S => match ws with
  | [w] => (match val w S with
    | some (.lst ds) => (match blsOf ds with
      | some bs => .ok (.d (.bl (f bs))) S
      | none => .no)
    | _ => .no)
  | _ => .no
def gAll : FF := gAA fun bs => bs.all id
def gAny : FF := gAA fun bs => bs.any id
theorem cal_aa {f : List Bool → Bool} : CalRef K Z (fun vs H Q => ∃ (a : Addr) (bs : List Bool), vs = [V.ref a] ∧ SqL K H a (bs.map V.bl) ∧ Q (.bl (f bs)) H) (gAA f) := by
  intro σ G c S H vs ws Q g r h
  unfold gAA at h
  split at h
  · obtain ⟨v, rfl, rv⟩ := w1 r
    split at h
    · rename_i ds ev
      obtain ⟨a, vs, rfl, h1, q, z⟩ := (val_rep g rv ev).lst' g.sub
      split at h
      · rename_i bs eb
        have e := bls_rep q eb
        subst e
        exact ⟨a, bs, rfl, .of h1, h.ret g (.d (.bl _))⟩
      · exact h.elim
    · exact h.elim
  · exact h.elim
/-! ### list, tuple -/
/-- what a list or tuple is made of -/
def seqD : D → Option (List D)
  | .str l => some (l.map fun c => .str [c])
  | .lst ds => some ds
  | .tup ds => some ds
  | .scr ns => some (ns.map D.int)
  | _ => none
def gList : FF := fun ws S => match ws with
  | [w] => (match val w S with
    | some d => (match seqD d with
      | some ds => .ok (.d (.lst ds)) S
      | none => .no)
    | none => .no)
  | _ => .no
def gListC : FF := fun ws S => match ws with
  | [w] => (match val w S with
    | some d => (match seqD d with
      | some ds => .ok (.loc S.length) (S ++ [.lst ds])
      | none => .no)
    | none => .no)
  | _ => .no
def rListA (K : Fg) : List V → Hp → VK → Prop := fun xs H Q => (∃ p ys, xs = [.ref p] ∧ (SqL K H p ys ∨ SqT K H p ys) ∧ ∀ l, H l = none → Q (.ref l) (upd H l (.lst ys))) ∨
  ∃ z, xs = [.str z] ∧ z.length ≤ sizeLine ∧ ∀ l, H l = none → Q (.ref l) (upd H l (.lst (z.cps.toList.map fun c => V.str ⟨#[c]⟩)))
theorem call_listS (hc : X.calm = true) : CallR X (.type "list") (fun xs H Q => ∃ z, xs = [.str z] ∧ z.length ≤ sizeLine ∧ ∀ l, H l = none → Q (.ref l) (upd H l (.lst (z.cps.toList.map fun c => V.str ⟨#[c]⟩)))) := by
  intro pins s σ H xs us Q I r h
  obtain ⟨z, rfl, hz, q⟩ := h
  obtain ⟨u, rfl, rx⟩ := vals1 r
  obtain ⟨t, rfl⟩ := rx
  refine call_list_str (I.ok.hd hc) z t (fun h' tk acc c' hk e hi => ?_) hz
  have hn : (z.cps.toList.map fun c => V.str ⟨#[c]⟩).length ≤ sizeLine := by rw [List.length_map, Array.length_toList]; exact hz
  refine ⟨.ref s.heap.objs.size, upd H s.heap.objs.size (.lst (z.cps.toList.map fun c => V.str ⟨#[c]⟩)), I.laid hk (Nat.le_refl _) ⟨hn, acc.toList, c', ?_, by rw [Array.toArray_toList]; exact e⟩, rfl, q _ (I.hok.fresh (Nat.le_refl _))⟩
  refine vals_of_idx _ _ (by simpa using hi.1) fun j u hj => ?_
  obtain ⟨c, t', hc, rfl⟩ := hi.2 j u (by rw [← Array.getElem?_toList]; exact hj)
  exact ⟨.str ⟨#[c]⟩, by simp [hc], ⟨_, rfl⟩⟩
theorem call_listA (hc : X.calm = true) : CallR X (.type "list") (rListA X.K) := CallR.or call_list_of (call_listS hc)
theorem chars_rep {G : Hp} {l : List Nat} (q1 : ∀ c ∈ l, c < 1114112) : Reps K G (l.map fun c => V.str ⟨#[c]⟩) (l.map fun c => D.str [c]) := by
  induction l with
  | nil => exact .nil
  | cons a l ih => exact .cons (.str (l := [a]) (by show 1 ≤ sizeLine; decide) fun c hc => q1 c (by rw [List.mem_singleton.mp hc]; exact List.mem_cons_self)) (ih fun c hc => q1 c (List.mem_cons_of_mem _ hc))
/-- what a list is made of, in the heap -/
theorem seq_rep {G c S H} {v : V} {w : W} {d : D} {ds : List D} {Q : VK} (g : Good K G c S H) (r : RepW K G c v w) (hv : val w S = some d) (hs : seqD d = some ds) (q : ∀ ys p, H p = none → Reps K G ys ds → ds.length ≤ sizeLine → Q (.ref p) (upd H p (.lst ys))) : rListA K [v] H Q := by
  have rd := val_rep g r hv
  cases d <;> simp only [seqD, Option.some.injEq, reduceCtorEq] at hs <;> subst hs
  · cases rd with | of rd => cases rd with | @str l h1 h2 =>
    exact .inr ⟨_, rfl, by show _ ≤ sizeLine; simpa [PySem.Str.length] using h1, fun p hp => q _ p hp (chars_rep h2) (by simpa using h1)⟩
  · cases rd with | of rd => cases rd with | tup h1 qq z => exact .inl ⟨_, _, rfl, .inr (g.seqT h1), fun p hp => q _ p hp qq z⟩
  · obtain ⟨a, vs, rfl, h1, qq, z⟩ := rd.lst' g.sub
    exact .inl ⟨_, _, rfl, .inl (.of h1), fun p hp => q _ p hp qq z⟩
  · cases rd with | of rd => cases rd with | scr h1 z => exact .inl ⟨_, _, rfl, .inl (sqL_sub g.sub h1), fun p hp => q _ p hp (ints_rep _) (by rw [List.length_map]; exact Nat.le_trans z (by decide))⟩
theorem cal_list : CalRef K Z (rListA K) gList := by
  intro σ G c S H vs ws Q g r h
  unfold gList at h
  split at h
  · obtain ⟨v, rfl, rv⟩ := w1 r
    split at h
    · rename_i d ev
      split at h
      · rename_i ds es
        exact seq_rep g rv ev es fun ys p hp q z => h.retNew g hp (.d (.lst upd_same (Reps.sub (Sub.upd (g.free hp)) _ _ q) z))
      · exact h.elim
    · exact h.elim
  · exact h.elim
theorem cal_listC : CalRef K Z (rListA K) gListC := by
  intro σ G c S H vs ws Q g r h
  unfold gListC at h
  split at h
  · obtain ⟨v, rfl, rv⟩ := w1 r
    split at h
    · rename_i d ev
      split at h
      · rename_i ds es
        exact seq_rep g rv ev es fun ys p hp q z => h.retCell g hp (.lst upd_same q z)
      · exact h.elim
    · exact h.elim
  · exact h.elim
def gTuple : FF := fun ws S => match ws with
  | [w] => (match val w S with
    | some (.lst ds) => .ok (.d (.tup ds)) S
    | some (.tup ds) => .ok (.d (.tup ds)) S
    | some (.scr ns) => .ok (.d (.tup (ns.map D.int))) S
    | _ => .no)
  | _ => .no
theorem cal_tuple : CalRef K Z (fun xs H Q => ∃ p ys, xs = [.ref p] ∧ ((SqL K H p ys ∧ ∀ l, H l = none → Q (.ref l) (upd H l (.tup ys))) ∨ (SqT K H p ys ∧ Q (.ref p) H))) gTuple := by
  intro σ G c S H vs ws Q g r h
  unfold gTuple at h
  split at h
  · obtain ⟨v, rfl, rv⟩ := w1 r
    split at h
    · rename_i ds ev
      obtain ⟨a, vs, rfl, h1, q, z⟩ := (val_rep g rv ev).lst' g.sub
      exact ⟨a, vs, rfl, .inl ⟨.of h1, fun p hp => h.retNew g hp (.d (.tup (.of upd_same) (Reps.sub (Sub.upd (g.free hp)) _ _ q) z))⟩⟩
    · rename_i ds ev
      cases val_rep g rv ev with | of rd => cases rd with | tup h1 q z => exact ⟨_, _, rfl, .inr ⟨g.seqT h1, h.ret g (.d (.tup h1 q z))⟩⟩
    · rename_i ns ev
      cases val_rep g rv ev with | of rd => cases rd with | scr h1 z => exact ⟨_, _, rfl, .inl ⟨sqL_sub g.sub h1, fun p hp => h.retNew g hp (.d (.tup (.of upd_same) (ints_rep _) (by rw [List.length_map]; exact Nat.le_trans z (by decide))))⟩⟩
    · exact h.elim
  · exact h.elim
end
end DL
end
section
/-! DL, 13: texts, lists: their methods; sorted; isinstance -/
namespace DL
open PySem PySem.Spec PyProof.Rows L2
section
variable {X : Cx} {Z : WX} {K : Fg}
/-! ### texts in a list -/
def strsOf : List D → Option (List (List Nat))
  | [] => some []
  | .str l :: ds => (strsOf ds).map (l :: ·)
  | _ :: _ => none
theorem strs_rep {G : Hp} : ∀ {vs : List V} {ds : List D} {ys : List (List Nat)}, Reps K G vs ds → strsOf ds = some ys → vs = (ys.map SX.S).map V.str ∧ (∀ y ∈ ys, y.length ≤ sizeLine ∧ ∀ c ∈ y, c < 1114112) ∧ ds = ys.map D.str
  | _, _, _, .nil, h => by cases h; exact ⟨rfl, by simp, rfl⟩
  | _, _, _, .cons (d := d) (ds := ds) r t, h => by
    cases d with
    | str l =>
      rw [strsOf, Option.map_eq_some_iff] at h
      obtain ⟨ys, h1, rfl⟩ := h
      obtain ⟨a, b, c⟩ := strs_rep t h1
      cases r with
      | str q1 q2 =>
        refine ⟨by rw [List.map_cons, List.map_cons, a], fun y hy => ?_, by rw [List.map_cons, c]⟩
        rcases List.mem_cons.mp hy with e | hy
        · rw [e]; exact ⟨q1, q2⟩
        · exact b y hy
    | _ => cases h
theorem reps_strs {G : Hp} : ∀ {ys : List (List Nat)}, (∀ y ∈ ys, y.length ≤ sizeLine ∧ ∀ c ∈ y, c < 1114112) → Reps K G ((ys.map SX.S).map V.str) (ys.map D.str)
  | [], _ => .nil
  | y :: ys, h => .cons (.str (h y List.mem_cons_self).1 (h y List.mem_cons_self).2) (reps_strs fun z hz => h z (List.mem_cons_of_mem _ hz))
theorem strsOf_map : ∀ ys : List (List Nat), strsOf (ys.map D.str) = some ys
  | [] => rfl
  | y :: ys => by rw [List.map_cons, strsOf, strsOf_map ys]; rfl
/-! ### sep.join(texts) -/
theorem join_mem {a : List Nat} {c : Nat} : ∀ {ys : List (List Nat)}, c ∈ TL.joinL a ys → c ∈ a ∨ ∃ y ∈ ys, c ∈ y
  | [], h => by simp [TL.joinL] at h
  | [y], h => .inr ⟨y, List.mem_cons_self, by simpa [TL.joinL] using h⟩
  | y :: z :: ys, h => by
    have h' : c ∈ y ++ a ++ TL.joinL a (z :: ys) := by simpa [TL.joinL] using h
    rcases List.mem_append.mp h' with h1 | h1
    · rcases List.mem_append.mp h1 with h2 | h2
      · exact .inr ⟨y, List.mem_cons_self, h2⟩
      · exact .inl h2
    · rcases join_mem h1 with h2 | ⟨u, hu, h2⟩
      · exact .inl h2
      · exact .inr ⟨u, List.mem_cons_of_mem _ hu, h2⟩
theorem join_len {a : List Nat} : ∀ {ys : List (List Nat)}, (TL.joinL a ys).length ≤ (ys.map (·.length)).sum + ys.length * a.length
  | [] => by simp [TL.joinL]
  | [y] => by simp [TL.joinL]
  | y :: z :: ys => by
    have ih := join_len (a := a) (ys := z :: ys)
    have e : TL.joinL a (y :: z :: ys) = y ++ a ++ TL.joinL a (z :: ys) := by simp [TL.joinL]
    rw [e, List.length_append, List.length_append, List.map_cons, List.sum_cons, List.length_cons, Nat.succ_mul]
    omega
def gJoin : FF := fun ws S => match ws with
  | [.d (.str a), w] => (match val w S with
    | some (.lst ds) => (match strsOf ds with
      | some ys => if (ys.map (·.length)).sum + ys.length * a.length ≤ 16777216 then .ok (.d (.str (TL.joinL a ys))) S else .no
      | none => .no)
    | some (.tup ds) => (match strsOf ds with
      | some ys => if (ys.map (·.length)).sum + ys.length * a.length ≤ 16777216 then .ok (.d (.str (TL.joinL a ys))) S else .no
      | none => .no)
    | _ => .no)
  | _ => .no
def rJoinA (K : Fg) : V → List V → Hp → VK → Prop := fun x xs H Q => ∃ a p, ∃ ys : List Str, x = .str a ∧ xs = [.ref p] ∧ (SqL K H p (ys.map V.str) ∨ SqT K H p (ys.map V.str)) ∧
  (ys.map (·.length)).sum + ys.length * a.length ≤ 16777216 ∧ Q (.str (Txt.join a ys)) H
theorem join_ok {G : Hp} {a : List Nat} {ys : List (List Nat)} (ha : ∀ c ∈ a, c < 1114112) (hy : ∀ y ∈ ys, y.length ≤ sizeLine ∧ ∀ c ∈ y, c < 1114112) (hz : (ys.map (·.length)).sum + ys.length * a.length ≤ 16777216) : Rep K G (.str (Txt.join (SX.S a) (ys.map SX.S))) (.str (TL.joinL a ys)) := by
  rw [SX.join_S]
  refine .str (Nat.le_trans join_len (by rw [sizeLine_eq]; exact hz)) fun c hc => ?_
  rcases join_mem hc with h | ⟨y, h1, h2⟩
  · exact ha c h
  · exact (hy y h1).2 c h2
theorem mt_joinR : MtRef K Z (rJoinA K) gJoin := by
  intro σ G c S H v w vs ws Q g rv r h
  unfold gJoin at h
  split at h
  · rename_i a u e
    cases e
    cases rv with | d rv => cases rv with | str h1 h2 =>
    obtain ⟨x, rfl, rx⟩ := w1 r
    split at h
    · rename_i ds ev
      obtain ⟨p, us, rfl, hp, q, z⟩ := (val_rep g rx ev).lst' g.sub
      split at h
      · rename_i ys es
        obtain ⟨e1, e2, e3⟩ := strs_rep q es
        subst e1
        split at h
        · rename_i hz
          refine ⟨_, p, ys.map SX.S, rfl, rfl, .inl (.of hp), ?_, ?_⟩
          · rw [SX.lens, List.length_map]; simpa [SX.S_len, PySem.Str.length] using hz
          · exact h.ret g (.d (join_ok h2 e2 hz))
        · exact h.elim
      · exact h.elim
    · rename_i ds ev
      cases val_rep g rx ev with | of rd => cases rd with | tup hp q z =>
      split at h
      · rename_i ys es
        obtain ⟨e1, e2, e3⟩ := strs_rep q es
        subst e1
        split at h
        · rename_i hz
          refine ⟨_, _, ys.map SX.S, rfl, rfl, .inr (g.seqT hp), ?_, ?_⟩
          · rw [SX.lens, List.length_map]; simpa [SX.S_len, PySem.Str.length] using hz
          · exact h.ret g (.d (join_ok h2 e2 hz))
        · exact h.elim
      · exact h.elim
    · exact h.elim
  · exact h.elim
/-! ### text.split(sep), text.index(sign) -/
theorem spl_mem {b : List Nat} {c : Nat} : ∀ {l : List Nat} {n : Nat} {acc : List Nat} {p : List Nat}, p ∈ TL.spl b n acc l → c ∈ p → c ∈ acc ∨ c ∈ l
  | [], n, acc, p, h, hc => by
    cases n <;> (simp [TL.spl] at h; subst h; exact .inl (by simpa using hc))
  | x :: l, 0, acc, p, h, hc => by
    rw [TL.spl] at h
    split at h
    · rcases List.mem_cons.mp h with e | h
      · subst e; exact .inl (by simpa using hc)
      · rcases spl_mem h hc with q | q
        · cases q
        · exact .inr (List.mem_cons_of_mem _ q)
    · rcases spl_mem h hc with q | q
      · rcases List.mem_append.mp q with q | q
        · exact .inl q
        · rw [List.mem_singleton] at q; exact .inr (by rw [q]; exact List.mem_cons_self)
      · exact .inr (List.mem_cons_of_mem _ q)
  | x :: l, n + 1, acc, p, h, hc => by
    rw [TL.spl] at h
    rcases spl_mem h hc with q | q
    · exact .inl q
    · exact .inr (List.mem_cons_of_mem _ q)
theorem spl_len {b : List Nat} : ∀ {l : List Nat} {n : Nat} {acc : List Nat}, (TL.spl b n acc l).length ≤ l.length + 1 ∧ ∀ p ∈ TL.spl b n acc l, p.length ≤ acc.length + l.length
  | [], n, acc => by
    cases n <;> simp [TL.spl]
  | x :: l, 0, acc => by
    rw [TL.spl]
    split
    · obtain ⟨h1, h2⟩ := spl_len (b := b) (l := l) (n := b.length - 1) (acc := [])
      refine ⟨by simp only [List.length_cons]; omega, fun p hp => ?_⟩
      rcases List.mem_cons.mp hp with e | hp
      · rw [e]; omega
      · have := h2 p hp; simp only [List.length_cons, List.length_nil] at *; omega
    · obtain ⟨h1, h2⟩ := spl_len (b := b) (l := l) (n := 0) (acc := acc ++ [x])
      refine ⟨by simp only [List.length_cons]; omega, fun p hp => ?_⟩
      have := h2 p hp; simp only [List.length_cons, List.length_append, List.length_nil] at *; omega
  | x :: l, n + 1, acc => by
    rw [TL.spl]
    obtain ⟨h1, h2⟩ := spl_len (b := b) (l := l) (n := n) (acc := acc)
    refine ⟨by simp only [List.length_cons]; omega, fun p hp => ?_⟩
    have := h2 p hp; simp only [List.length_cons] at *; omega
/-- a.split(b), b one sign or more, none of them beyond 255 -/
def gSplit : FF := fun ws S => match ws with
  | [.d (.str a), .d (.str b)] => if (!b.isEmpty && (b.all (· < 256) && lenOk (a.length + 2))) = true then .ok (.d (.lst ((TL.spl b 0 [] a).map D.str))) S else .no
  | _ => .no
def rSplitA : V → List V → Hp → VK → Prop := fun x xs H Q => ∃ a b, x = .str a ∧ xs = [.str b] ∧ (b.length == 0) = false ∧ a.length + 2 ≤ sizeLine ∧ rNewStrs (Txt.split a b) H Q
theorem mt_splitR : MtRef K Z rSplitA gSplit := by
  intro σ G c S H v w vs ws Q g rv r h
  unfold gSplit at h
  split at h
  · rename_i a b e
    cases e
    cases rv with | d rv => cases rv with | str h1 h2 =>
    obtain ⟨x, rfl, rx⟩ := w1 r
    cases rx with | d rx => cases rx with | str h3 h4 =>
    split at h
    · rename_i hk
      rw [Bool.and_eq_true, Bool.and_eq_true] at hk
      obtain ⟨k1, k2, k3⟩ := hk
      have k3 : a.length + 2 ≤ sizeLine := of_decide_eq_true k3
      have hb : b ≠ [] := by intro z; rw [z] at k1; cases k1
      refine ⟨_, _, rfl, rfl, ?_, by show a.toArray.size + 2 ≤ sizeLine; simpa using k3, fun p hp => ?_⟩
      · have : b.length ≠ 0 := by intro z; exact hb (List.eq_nil_of_length_eq_zero z)
        simpa [PySem.Str.length] using this
      · rw [show Txt.split ⟨a.toArray⟩ ⟨b.toArray⟩ = _ from SX.split_S hb k2]
        obtain ⟨l1, l2⟩ := spl_len (b := b) (l := a) (n := 0) (acc := [])
        refine h.retNew g hp (.d (.lst upd_same (reps_strs fun y hy => ⟨?_, fun c hc => ?_⟩) (by rw [List.length_map]; omega)))
        · have := l2 y hy; simp only [List.length_nil] at this; omega
        · rcases spl_mem hy hc with q | q
          · cases q
          · exact h2 c q
    · exact h.elim
  · exact h.elim
theorem occ_idx {a : List Nat} {c : Nat} (h : c ∈ a) : ∃ rest, Builtin.Str.occurrences (SX.S a) (SX.S [c]) 0 (SX.S a).length 1 = a.idxOf c :: rest := by
  have at_iff : ∀ i, StrLaws.At (SX.S a) ⟨#[c]⟩ (SX.S a).length i ↔ a[i]? = some c := fun i => StrLaws.subAt_one (SX.S a) c i
  rcases StrLaws.occ_head (SX.S a) ⟨#[c]⟩ 1 (Nat.le_refl 1) with ⟨_, hn⟩ | ⟨i, r, h0, hi, hn⟩
  · exfalso
    obtain ⟨i, hi⟩ := List.mem_iff_getElem?.mp h
    exact hn i ((at_iff i).mpr hi)
  · refine ⟨r, ?_⟩
    rw [show Builtin.Str.occurrences (SX.S a) (SX.S [c]) 0 (SX.S a).length 1 = i :: r from h0]
    congr 1
    have hi' := (at_iff i).mp hi
    have h1 : i ≤ a.idxOf c := by
      refine Nat.not_lt.mp fun hlt => hn _ hlt ((at_iff _).mpr ?_)
      have hl : a.idxOf c < a.length := List.idxOf_lt_length_iff.mpr h
      rw [List.getElem?_eq_getElem hl, List.getElem_idxOf]
    have h2 : a.idxOf c ≤ i := by
      have hl : i < a.length := (List.getElem?_eq_some_iff.mp hi').1
      have e : a[i] = c := by rw [List.getElem?_eq_getElem hl] at hi'; exact Option.some.inj hi'
      refine Nat.not_lt.mp fun hlt => ?_
      exact absurd e (by simpa using List.not_of_lt_findIdx hlt)
    omega
/-- a.index(c), one sign, there -/
def gSIndex : FF := fun ws S => match ws with
  | [.d (.str a), .d (.str [c])] => if c ∈ a then .ok (.d (.int (a.idxOf c : Nat))) S else .no
  | _ => .no
def rSIndexA : V → List V → Hp → VK → Prop := fun x xs H Q => ∃ a b i rest, x = .str a ∧ xs = [.str b] ∧ Builtin.Str.occurrences a b 0 a.length 1 = i :: rest ∧ Q (.int (i : Nat)) H
theorem mt_sindexR : MtRef K Z rSIndexA gSIndex := by
  intro σ G c S H v w vs ws Q g rv r h
  unfold gSIndex at h
  split at h
  · rename_i a b e
    cases e
    cases rv with | d rv => cases rv with | str h1 h2 =>
    obtain ⟨x, rfl, rx⟩ := w1 r
    cases rx with | d rx => cases rx with | str h3 h4 =>
    split at h
    · rename_i hk
      obtain ⟨rest, e⟩ := occ_idx hk
      exact ⟨_, _, _, rest, rfl, rfl, e, h.ret g (.d (.int _))⟩
    · exact h.elim
  · exact h.elim
/-! ### lists that change -/
def gAppend : FF := fun ws S => match ws with
  | [.loc n, .d y] => (match S[n]? with
    | some (.lst ds) => if lenOk (ds.length + 1) then .ok (.d .non) (S.set n (.lst (ds ++ [y]))) else .no
    | _ => .no)
  | _ => .no
theorem mt_appendR : MtRef K Z rAppend gAppend := by
  intro σ G c S H v w vs ws Q g rv r h
  unfold gAppend at h
  split at h
  · rename_i n y e
    cases e
    obtain ⟨x, rfl, rx⟩ := w1 r
    cases rv with | @loc n a hn =>
    cases rx with | d rx =>
    obtain ⟨ga, cx, hx, ca⟩ := g.cell _ _ hn
    rw [hx] at h
    cases ca with
    | @lst us ds h1 q z =>
      dsimp only at h
      split at h
      · rename_i hz
        have hz' : ds.length + 1 ≤ sizeLine := of_decide_eq_true hz
        have e := g.write hn (o := .lst (us ++ [x])) (.lst upd_same (q.append (.cons rx .nil)) (by rw [List.length_append]; exact hz'))
        exact ⟨a, us, x, rfl, rfl, h1, by rw [q.length]; omega, h G c _ _ e.2 e.1 (.d .non)⟩
      · exact h.elim
    | dct h1 hk q z kr => exact h.elim
    | ins h1 hm q z => exact h.elim
    | tab h1 t k e0 => exact h.elim
  · exact h.elim
def gPop : FF := fun ws S => match ws with
  | [.loc n] => (match S[n]? with
    | some (.lst ds) => (match ds[ds.length - 1]? with
      | some y => .ok (.d y) (S.set n (.lst ds.dropLast))
      | none => .no)
    | _ => .no)
  | _ => .no
theorem Reps.dropLast {G : Hp} {vs : List V} {ds : List D} (r : Reps K G vs ds) : Reps K G vs.dropLast ds.dropLast := by
  rw [List.dropLast_eq_take, List.dropLast_eq_take, r.length]
  exact r.take _
theorem mt_popR : MtRef K Z rPop gPop := by
  intro σ G c S H v w vs ws Q g rv r h
  unfold gPop at h
  split at h
  · rename_i n e
    cases e
    cases r
    cases rv with | @loc n a hn =>
    obtain ⟨ga, cx, hx, ca⟩ := g.cell _ _ hn
    rw [hx] at h
    cases ca with
    | @lst us ds h1 q z =>
      dsimp only at h
      split at h
      · rename_i y hy
        obtain ⟨x, ex, rx⟩ := q.get hy
        have e := g.write hn (o := .lst us.dropLast) (.lst upd_same q.dropLast (Nat.le_trans (by simp) z))
        exact ⟨a, us, x, rfl, rfl, h1, by rw [q.length]; exact ex, h G c _ _ e.2 e.1 (.d rx)⟩
      · exact h.elim
    | dct h1 hk q z kr => exact h.elim
    | ins h1 hm q z => exact h.elim
    | tab h1 t k e0 => exact h.elim
  · exact h.elim
theorem Reps.eraseIdx {G : Hp} : ∀ {vs : List V} {ds : List D} (n : Nat), Reps K G vs ds → Reps K G (vs.eraseIdx n) (ds.eraseIdx n)
  | _, _, _, .nil => .nil
  | _, _, 0, .cons h t => t
  | _, _, n + 1, .cons h t => .cons h (Reps.eraseIdx n t)
def gPopAt : FF := fun ws S => match ws with
  | [.loc n, .d (.int i)] => (match S[n]? with
    | some (.lst ds) => (match seqIndex? i ds.length with
      | some k => (match ds[k]? with
        | some y => if small62 i then .ok (.d y) (S.set n (.lst (ds.eraseIdx k))) else .no
        | none => .no)
      | none => .no)
    | _ => .no)
  | _ => .no
theorem mt_popAtR : MtRef K Z rPopAt gPopAt := by
  intro σ G c S H v w vs ws Q g rv r h
  unfold gPopAt at h
  split at h
  · rename_i n i e
    cases e
    obtain ⟨x, rfl, rx⟩ := w1 r
    cases rv with | @loc n a hn =>
    cases rx with | d rx => cases rx with | int =>
    obtain ⟨ga, cx, hx, ca⟩ := g.cell _ _ hn
    rw [hx] at h
    cases ca with
    | @lst us ds h1 q z =>
      dsimp only at h
      split at h
      · rename_i k hk
        split at h
        · rename_i y hy
          split at h
          · rename_i hs
            have hs := small62_ok hs
            obtain ⟨x, ex, rx⟩ := q.get hy
            have e := g.write hn (o := .lst (us.eraseIdx k)) (.lst upd_same (q.eraseIdx k) (Nat.le_trans (List.length_eraseIdx_le ..) z))
            exact ⟨a, us, i, k, x, rfl, rfl, h1, by omega, by omega, by rw [q.length]; exact hk, ex, h G c _ _ e.2 e.1 (.d rx)⟩
          · exact h.elim
        · exact h.elim
      · exact h.elim
    | dct h1 hk q z kr => exact h.elim
    | ins h1 hm q z => exact h.elim
    | tab h1 t k e0 => exact h.elim
  · exact h.elim
/-! ### sorted, of texts -/
def insS (x : List Nat) : List (List Nat) → List (List Nat)
  | [] => [x]
  | y :: ys => if ltCps y x = true then y :: insS x ys else x :: y :: ys
def sortL : List (List Nat) → List (List Nat)
  | [] => []
  | x :: xs => insS x (sortL xs)
theorem ltCps_irr : ∀ a, ltCps a a = false
  | [] => rfl
  | a :: r => by simp [ltCps, ltCps_irr r]
theorem ltCps_tri : ∀ a b, ltCps a b = false → ltCps b a = false → a = b
  | [], [], _, _ => rfl
  | [], _ :: _, h, _ => by simp [ltCps] at h
  | _ :: _, [], _, h => by simp [ltCps] at h
  | a :: r, b :: t, h1, h2 => by
    simp only [ltCps, Bool.or_eq_false_iff, decide_eq_false_iff_not, Bool.and_eq_false_iff, beq_eq_false_iff_ne] at h1 h2
    have e : a = b := by omega
    subst e
    have h3 := h1.2.resolve_left (fun z => z rfl)
    have h4 := h2.2.resolve_left (fun z => z rfl)
    rw [ltCps_tri r t h3 h4]
theorem ltCps_trans : ∀ a b c, ltCps b a = false → ltCps c b = false → ltCps c a = false
  | [], b, c, h1, h2 => by
    cases c with
    | nil => rfl
    | cons => rfl
  | a :: r, [], c, h1, h2 => by simp [ltCps] at h1
  | a :: r, b :: t, [], h1, h2 => by simp [ltCps] at h2
  | a :: r, b :: t, c :: u, h1, h2 => by
    simp only [ltCps, Bool.or_eq_false_iff, decide_eq_false_iff_not, Bool.and_eq_false_iff, beq_eq_false_iff_ne] at h1 h2 ⊢
    refine ⟨by omega, ?_⟩
    by_cases e : c = a
    · have e1 : b = a := by omega
      have e2 : c = b := by omega
      exact .inr (ltCps_trans r t u (h1.2.resolve_left (fun z => z e1)) (h2.2.resolve_left (fun z => z e2)))
    · exact .inl e
abbrev LeS (a b : List Nat) : Prop := ltCps b a = false
theorem insS_perm (x : List Nat) : ∀ ys, (insS x ys).Perm (x :: ys)
  | [] => .refl _
  | y :: ys => by
    unfold insS
    split
    · exact ((insS_perm x ys).cons y).trans (.swap ..)
    · exact .refl _
theorem sortL_perm : ∀ xs, (sortL xs).Perm xs
  | [] => .refl _
  | x :: xs => (insS_perm x _).trans ((sortL_perm xs).cons x)
theorem ltCps_asym {a b : List Nat} (h : ltCps a b = true) : ltCps b a = false := by
  cases e : ltCps b a with
  | false => rfl
  | true =>
    exfalso
    have : ∀ a b, ltCps a b = true → ltCps b a = true → False := by
      intro a
      induction a with
      | nil => intro b h1 h2; cases b <;> simp [ltCps] at h1 h2
      | cons a r ih =>
        intro b h1 h2
        cases b with
        | nil => simp [ltCps] at h1
        | cons b t =>
          simp only [ltCps, Bool.or_eq_true, decide_eq_true_eq, Bool.and_eq_true, beq_iff_eq] at h1 h2
          rcases h1 with h1 | ⟨e1, h1⟩
          · rcases h2 with h2 | ⟨e2, h2⟩ <;> omega
          · rcases h2 with h2 | ⟨e2, h2⟩
            · omega
            · exact ih t h1 h2
    exact this a b h e
theorem insS_sorted (x : List Nat) : ∀ ys, ys.Pairwise LeS → (insS x ys).Pairwise LeS
  | [], _ => by simp [insS]
  | y :: ys, h => by
    unfold insS
    rw [List.pairwise_cons] at h
    split
    · rename_i hlt
      rw [List.pairwise_cons]
      refine ⟨fun z hz => ?_, insS_sorted x ys h.2⟩
      rcases List.mem_cons.mp ((insS_perm x ys).mem_iff.mp hz) with e | hz
      · rw [e]; exact ltCps_asym hlt
      · exact h.1 z hz
    · rename_i hlt
      have hlt' : ltCps y x = false := by simpa using hlt
      rw [List.pairwise_cons]
      refine ⟨fun z hz => ?_, List.pairwise_cons.mpr h⟩
      rcases List.mem_cons.mp hz with e | hz
      · rw [e]; exact hlt'
      · exact ltCps_trans _ _ _ hlt' (h.1 z hz)
theorem sortL_sorted : ∀ xs, (sortL xs).Pairwise LeS
  | [] => .nil
  | x :: xs => insS_sorted x _ (sortL_sorted xs)
theorem sortL_eq {xs ys : List (List Nat)} (h1 : ys.Perm xs) (h2 : ys.Pairwise LeS) : ys = sortL xs :=
  List.Perm.eq_of_pairwise (fun a b _ _ h1 h2 => ltCps_tri a b h2 h1) h2 (sortL_sorted xs) (h1.trans (sortL_perm xs).symm)
theorem rising_pw : ∀ (p : Str) (l : List Str), risingS p l = true → ((p :: l).map fun s => s.cps.toList).Pairwise LeS
  | p, [], _ => by simp
  | p, x :: r, h => by
    have h' : (!ltCps x.cps.toList p.cps.toList && risingS x r) = true := h
    rw [Bool.and_eq_true, Bool.not_eq_true'] at h'
    have ih := rising_pw x r h'.2
    rw [List.map_cons, List.pairwise_cons]
    refine ⟨fun z hz => ?_, ih⟩
    rw [List.map_cons] at hz
    rcases List.mem_cons.mp hz with e | hz
    · rw [e]; exact h'.1
    · rw [List.map_cons, List.pairwise_cons] at ih
      exact ltCps_trans _ _ _ h'.1 (ih.1 z hz)
theorem sortedS_pw : ∀ l : List Str, sortedS l = true → (l.map fun s => s.cps.toList).Pairwise LeS
  | [], _ => .nil
  | x :: r, h => rising_pw x r h
theorem sorted_strs_eq {xs : List (List Nat)} {ys : List Str} (h1 : ys.Perm (xs.map SX.S)) (h2 : sortedS ys = true) : ys = (sortL xs).map SX.S := by
  have e : (ys.map fun s => s.cps.toList) = sortL xs := by
    refine sortL_eq ?_ (sortedS_pw ys h2)
    have := h1.map fun s : Str => s.cps.toList
    rwa [List.map_map, show (fun s : Str => s.cps.toList) ∘ SX.S = id from rfl, List.map_id] at this
  rw [← e, List.map_map]
  exact (List.map_id ys).symm
def gSortS : FF := fun ws S => match ws with
  | [w] => (match val w S with
    | some (.lst ds) => (match strsOf ds with
      | some xs => if xs.length < 4000 then .ok (.d (.lst ((sortL xs).map D.str))) S else .no
      | none => .no)
    | _ => .no)
  | _ => .no
theorem small4k {n : Nat} (h : n < 4000) : n ≤ sizeLine := by rw [sizeLine_eq]; omega
/-- sorted(a list of texts), of any length -/
def rSorted4 (K : PySem.W.Frag) : List V → Hp → VK → Prop := fun vs H Q => ∃ (a : Addr) (xs : List Str), vs = [V.ref a] ∧ SqL K H a (xs.map V.str) ∧ xs.length < 4000 ∧
  ∀ (ys : List Str) (p : Addr), ys.Perm xs → sortedS ys = true → H p = none → Q (.ref p) (upd H p (.lst (ys.map V.str)))
theorem cr_sorted4 {X : Cx} : CallR X (.builtin "sorted") (rSorted4 X.K) := by
  intro pins s σ H vs us Q I r h
  obtain ⟨a, xs, rfl, hs, h64, q⟩ := h
  obtain ⟨its, rv, hl, _⟩ := I.list hs
  rw [Vals.ref1 r]
  have hlen0 := rv.length
  rw [List.length_map] at hlen0
  refine PyProof.Rows.sorted_strsAny hl.isList rv.strs (by rw [← hlen0]; exact small4k h64) fun out ys h1 h2 h3 => ?_
  obtain ⟨ep, he'⟩ := PyProof.Rows.sortedAll_at s.heap its out
  have hlen : (ys.map V.str).length ≤ sizeLine := by rw [List.length_map, h2.length_eq]; exact small4k h64
  exact ⟨.ref _, upd H (s.heap.objs.size + 1) (.lst (ys.map V.str)), I.laid (t' := s.toks) (fun _ _ => PyProof.Rows.sortedAll_old) (Nat.le_succ _) ⟨hlen, out.toList, ep, vals_of_strs h1, he'⟩, rfl, q ys _ h2 h3 (I.hok.fresh (Nat.le_succ _))⟩
theorem cal_sortS : CalRef K Z (rSorted4 K) gSortS := by
  intro σ G c S H vs ws Q g r h
  unfold gSortS at h
  split at h
  · obtain ⟨v, rfl, rv⟩ := w1 r
    split at h
    · rename_i ds ev
      obtain ⟨a, us, rfl, h1, q, z⟩ := (val_rep g rv ev).lst' g.sub
      split at h
      · rename_i xs es
        obtain ⟨e1, e2, e3⟩ := strs_rep q es
        subst e1
        split at h
        · rename_i h64
          refine ⟨a, xs.map SX.S, rfl, .of h1, by rw [List.length_map]; exact h64, fun ys p hp hs hn => ?_⟩
          rw [sorted_strs_eq hp hs]
          have hl : (sortL xs).length = xs.length := (sortL_perm xs).length_eq
          exact h.retNew g hn (.d (.lst upd_same (reps_strs fun y hy => e2 y ((sortL_perm xs).mem_iff.mp hy)) (by rw [List.length_map, hl]; exact small4k h64)))
        · exact h.elim
      · exact h.elim
    · exact h.elim
  · exact h.elim
end
end DL
end
section
/-! DL, 14: isinstance; own objects' in -/
namespace DL
open PySem PySem.Spec PyProof.Rows L2
section
variable {X : Cx} {Z : WX} {K : Fg}
/-- the type of a value: a built-in one, an own class -/
def kindW (w : W) (S : Store) : Option (String ⊕ Str) := match w with
  | .d .non => some (.inl "NoneType")
  | .d (.bl _) => some (.inl "bool")
  | .d (.int _) => some (.inl "int")
  | .d (.str _) => some (.inl "str")
  | .d (.tup _) => some (.inl "tuple")
  | .d (.lst _) => some (.inl "list")
  | .d (.dct _ _) => some (.inl "dict")
  | .d (.scr _) => some (.inl "list")
  | .d (.ins c _ _) => some (.inr c)
  | .loc n => (match S[n]? with
    | some (.lst _) => some (.inl "list")
    | some (.dct _ _) => some (.inl "dict")
    | some (.ins c _ _) => some (.inr c)
    | _ => none)
  | _ => none
/-- an own class whose instances can be asked -/
structure IsiO (K : Fg) (c : Str) : Prop where
  cl : Cls K (He.ga K c)
  ha : PySem.W.findIn K (.ref (He.ga K c)) "__class__" = some (some (.builtin "object.__class__"))
  hn : PySem.W.specialIn K (.builtin "object.__class__") "__get__" = some (some (.builtin "getset_descriptor.__get__"))
  ht : PySem.W.takesIn K (.builtin "object.__class__") = some true
  hm : PySem.W.mroIn K (He.ga K c) (.type "object") = some true
def tyVal (K : Fg) : String ⊕ Str → Value
  | .inl t => .type t
  | .inr c => .ref (He.ga K c)
theorem kind_ok {G c S H} {v : V} {w : W} {k : String ⊕ Str} (g : Good K G c S H) (r : RepW K G c v w) (hk : kindW w S = some k) (ho : ∀ c, k = .inr c → IsiO K c) : TyX K H v (tyVal K k) := by
  have ins : ∀ {a dx : Addr} {cn : Str} {fs : List (Str × V)}, H a = some (.ins (He.ga K cn) dx fs) → IsiO K cn → TyX K H (.ref a) (.ref (He.ga K cn)) := fun e o => .base (.ins e o.cl o.ha o.hn o.ht o.hm)
  have lst : ∀ {a : Addr} {vs : List V}, SqL K H a vs → TyX K H (.ref a) (.type "list") := fun h => by
    rcases h with (h | ⟨o, h⟩) | ⟨o, its, n, h, hc, _⟩
    · exact .base (.lst h)
    · exact .base (.frz h)
    · exact .kList h hc
  have tup : ∀ {a : Addr} {vs : List V}, SqT K H a vs → TyX K H (.ref a) (.type "tuple") := fun h => by
    rcases h with (h | ⟨o, h⟩) | ⟨o, its, n, h, hc, _⟩
    · exact .base (.tup h)
    · exact .fTuple h
    · exact .kTuple h hc
  cases r with
  | d r =>
    cases r with
    | non => cases hk; exact .base .non
    | bl b => cases hk; exact .base (.bl b)
    | int i => cases hk; exact .base (.int i)
    | str h1 h2 => cases hk; exact .base (.str _)
    | tup h1 q z => cases hk; exact tup (g.seqT h1)
    | lst h1 q z => cases hk; exact .base (.lst (g.sub _ _ h1))
    | dct h1 hkk q z kr =>
      cases hk
      exact .fDict (g.sub _ _ h1)
    | ins h1 hn q => cases hk; exact ins (g.sub _ _ h1) (ho _ rfl)
    | scr h1 z => cases hk; exact lst (sqL_sub g.sub h1)
    | exn h1 hd hn q => cases hk
  | @loc n a hn =>
    obtain ⟨ga, cx, hx, ca⟩ := g.cell _ _ hn
    unfold kindW at hk
    dsimp only at hk
    rw [hx] at hk
    cases ca with
    | lst h1 q z => cases hk; exact .base (.lst h1)
    | dct h1 hkk q z kr => cases hk; exact .base (.dK h1)
    | ins h1 hm q z => cases hk; exact ins h1 (ho _ rfl)
    | tab h1 t k e0 => cases hk
  | glo => cases hk
  | ty => cases hk
def isiB (t n : String) : Bool := t == n || (t == "bool" && n == "int")
/-- own: the own classes whose instances come; sub: which class is a subclass of which -/
structure IsiK (K : Fg) (own : List Str) (sub : Str → Str → Bool) : Prop where
  o : ∀ c ∈ own, IsiO K c
  cb : ∀ c ∈ own, ∀ n ∈ askT, PySem.W.kitOne K (.ref (He.ga K c)) (.type n) = some false
  bc : ∀ t ∈ ofT, ∀ x ∈ own, PySem.W.kitOne K (.type t) (.ref (He.ga K x)) = some false
  cc : ∀ c ∈ own, ∀ x ∈ own, PySem.W.kitOne K (.ref (He.ga K c)) (.ref (He.ga K x)) = some (sub c x)
theorem kit_bb (K : Fg) : ∀ t ∈ ofT, ∀ n ∈ askT, PySem.W.kitOne K (.type t) (.type n) = some (isiB t n) := by
  have h : ∀ t ∈ ofT, ∀ n ∈ askT, (if (Value.type t == Value.type n) = true then some true else if PySem.W.kitMeta n = true then (fastBuiltinMro t).map (·.contains (.type n)) else none) = some (isiB t n) := by decide +kernel
  exact h
def gIsi (own : List Str) (sub : Str → Str → Bool) : FF := fun ws S => match ws with
  | [w, .ty n] => if askT.contains n = true then (match kindW w S with
    | some (.inl t) => if ofT.contains t = true then .ok (.d (.bl (isiB t n))) S else .no
    | some (.inr c) => if own.contains c = true then .ok (.d (.bl false)) S else .no
    | none => .no) else .no
  | [w, .glo x] => if own.contains x = true then (match kindW w S with
    | some (.inl t) => if ofT.contains t = true then .ok (.d (.bl false)) S else .no
    | some (.inr c) => if own.contains c = true then .ok (.d (.bl (sub c x))) S else .no
    | none => .no) else .no
  | _ => .no
theorem cal_isi {own : List Str} {sub : Str → Str → Bool} (ik : IsiK K own sub) : CalRef K Z (rIsi K) (gIsi own sub) := by
  intro σ G c S H vs ws Q g r h
  unfold gIsi at h
  split at h
  · rename_i w n
    obtain ⟨v, x, rfl, rv, rx⟩ := w2 r
    cases rx
    split at h
    · rename_i hn
      have hn' : n ∈ askT := by simpa using hn
      split at h
      · rename_i t ek
        split at h
        · rename_i ht
          have ht' : t ∈ ofT := by simpa using ht
          exact ⟨v, _, _, _, _, rfl, .ty n, kind_ok g rv ek (fun c e => nomatch e), kit_bb K t ht' n hn', h.ret g (.d (.bl _))⟩
        · exact h.elim
      · rename_i cn ek
        split at h
        · rename_i hc
          have hc' : cn ∈ own := by simpa using hc
          exact ⟨v, _, _, _, _, rfl, .ty n, kind_ok g rv ek (fun c e => by cases e; exact ik.o cn hc'), ik.cb cn hc' n hn', h.ret g (.d (.bl _))⟩
        · exact h.elim
      · exact h.elim
    · exact h.elim
  · rename_i w x
    obtain ⟨v, x', rfl, rv, rx⟩ := w2 r
    cases rx
    split at h
    · rename_i hx
      have hx' : x ∈ own := by simpa using hx
      split at h
      · rename_i t ek
        split at h
        · rename_i ht
          have ht' : t ∈ ofT := by simpa using ht
          exact ⟨v, _, _, _, _, rfl, .own _, kind_ok g rv ek (fun c e => nomatch e), ik.bc t ht' x hx', h.ret g (.d (.bl _))⟩
        · exact h.elim
      · rename_i cn ek
        split at h
        · rename_i hc
          have hc' : cn ∈ own := by simpa using hc
          exact ⟨v, _, _, _, _, rfl, .own _, kind_ok g rv ek (fun c e => by cases e; exact ik.o cn hc'), ik.cc cn hc' x hx', h.ret g (.d (.bl _))⟩
        · exact h.elim
      · exact h.elim
    · exact h.elim
  · exact h.elim
/-! ### x in o, o an own object -/
theorem own_contains {prog : Program} {w : World} {A : Around} {E : Value → Shared → Prop} {s : Shared} {C f x : Addr} {ox : Obj} {od : Option Obj} {v : Value} {Q : Bool → Shared → Prop} (XK : K.In s.heap) (I : PySem.W.InstAt s.heap x ox C od) (hs : PySem.W.findIn K (.ref C) "__contains__" = some (some (.ref f))) (hf : PySem.W.isFn K (.ref f) = true)
    (h : wpAny (model prog w) A (call (.ref f) [.ref x, v]) (fun r s' => wpAny (model prog w) A (truthy r) Q E s') E s) : wpAny (model prog w) A (contains (.ref x) v) Q E s := by
  unfold contains
  refine wpAny_holding (wpAny_bind (wpAny_bind (I.type.here ((PySem.W.looks_findIn XK hs).here ?_))))
  rw [if_neg (by simp)]
  exact wpAny_bind (PySem.W.unlessNone_K XK I hs hf h)
variable {k : Nat} {f : Addr} {d : He.DefD} {ps : List Str} {F : FF} {cn : Str}
/-- C has this __contains__ -/
structure Has (K : Fg) (C f : Addr) (m : Str) : Prop where
  at_ : PySem.W.findIn K (.ref C) m = some (some (.ref f))
  fn : PySem.W.isFn K (.ref f) = true
def rInO (K : Fg) (F : FF) (cn : Str) (neg : Bool) : R2 := fun y x H Q => ∃ a dx fs, x = .ref a ∧ H a = some (.ins (He.ga K cn) dx fs) ∧ dsp K F [x, y] H (fun v H' => ∃ b, v = .bl b ∧ Q (.bl (neg ^^ b)) H') fun _ _ _ => False
/-- a def is called and raises nothing -/
theorem run_quiet {A : Around} {pins : List (Addr × Obj)} {σ : L2.St} {H : Hp} {s : Shared} {Q : VK} {us : List Value} {vs : List V} {P : Value → Shared → Prop} {E : Value → Shared → Prop} (D : Def X.prog X.w X.K X.mg X.base k f d ps F) (hg : A.guards = some []) (hr : Room k A) (hf : A.frames = X.A.frames)
    (I : Inv X pins σ H s) (rv : Vals vs us) (hs : dsp X.K F vs H Q fun _ _ _ => False) (h : ∀ u s' v H', Inv X pins σ H' s' → RelV v u → Q v H' → P u s') : wpAny (model X.prog X.w) A (call (.ref f) us) P E s := by
  obtain ⟨fd, fD, ok, hb⟩ := D.ok
  have hl : us.length = ps.length := rv.length.symm.trans (dsp_len D.len hs)
  have I2 : Inv X.nox pins σ H s := I.wish _
  refine wpAny_call (codeAny_mono (run_fok (X := X.nox) (Z := Z0) (R := fun r s' => match r with | .ok (.ret u) => EP X.nox pins σ Q u s' | _ => False) ok takes0 (A := A) hg hr hf I2 (hb _ us hl) hl rv hs (fun _ _ h => h) fun _ _ h => h) fun r s' hq => ?_)
  cases r with
  | error er => exact False.elim hq
  | ok fl =>
    cases fl with
    | ret u =>
      obtain ⟨v, H', I3, rv, q⟩ := hq
      exact h u s' v H' I3.unwish rv q
    | next => exact False.elim hq
    | brk => exact False.elim hq
    | cont => exact False.elim hq
theorem ins_inst {pins : List (Addr × Obj)} {σ : L2.St} {H : Hp} {s : Shared} {a C dx : Addr} {fs : List (Str × V)} (I : Inv X pins σ H s) (ea : H a = some (.ins C dx fs)) : ∃ ox od, PySem.W.InstAt s.heap a ox C od := by
  obtain ⟨mA, O, _⟩ := ins_get I.hok ea
  obtain ⟨od, J, _⟩ := O.look
  exact ⟨_, _, J⟩
theorem o_inO (D : Def X.prog X.w X.K X.mg X.base k f d ps F) (hc : Has X.K (He.ga X.K cn) f "__contains__") (hgu : X.A.guards = some []) (hr : Room k X.A) : OpR X (compareOp .In) (rInO X.K F cn false) := by
  intro pins s σ H y x v u Q I ry rx h
  obtain ⟨a, dx, fs, rfl, ea, h⟩ := h
  cases rx
  obtain ⟨ox, od, J⟩ := ins_inst I ea
  refine wpAny_bind (own_contains I.kIn J hc.at_ hc.fn (run_quiet D hgu hr rfl I (.cons (show RelV (V.ref a) (Value.ref a) from rfl) (.cons ry .nil)) h fun u s' v H' I' rv q => ?_))
  obtain ⟨b, rfl, q⟩ := q
  obtain rfl : u = Value.bool b := rv
  rw [Bool.false_xor] at q
  exact wpAny_truthy_bool (wpAny_pure ⟨.bl b, H', I', rfl, q⟩)
theorem o_notInO (D : Def X.prog X.w X.K X.mg X.base k f d ps F) (hc : Has X.K (He.ga X.K cn) f "__contains__") (hgu : X.A.guards = some []) (hr : Room k X.A) : OpR X (compareOp .NotIn) (rInO X.K F cn true) := by
  intro pins s σ H y x v u Q I ry rx h
  obtain ⟨a, dx, fs, rfl, ea, h⟩ := h
  cases rx
  obtain ⟨ox, od, J⟩ := ins_inst I ea
  refine wpAny_bind (own_contains I.kIn J hc.at_ hc.fn (run_quiet D hgu hr rfl I (.cons (show RelV (V.ref a) (Value.ref a) from rfl) (.cons ry .nil)) h fun u s' v H' I' rv q => ?_))
  obtain ⟨b, rfl, q⟩ := q
  obtain rfl : u = Value.bool b := rv
  rw [Bool.true_xor] at q
  exact wpAny_truthy_bool (wpAny_pure ⟨.bl (!b), H', I', rfl, q⟩)
/-- y in x, x an object of the class cn -/
def gInO (F : FF) (cn : Str) (neg : Bool) : W → W → Store → R W := fun y x S => match insOf cn x S with
  | some _ => (match F [x, y] S with
    | .ok (.d (.bl b)) S' => .ok (.d (.bl (neg ^^ b))) S'
    | _ => .no)
  | none => .no
theorem opr_inO {neg : Bool} : OpRef K Z (rInO K F cn neg) (gInO F cn neg) := by
  intro σ G c S H y x w1 w2 Q g r1 r2 h
  unfold gInO at h
  split at h
  · rename_i z ei
    obtain ⟨a, dx, fs, rfl, ha, hm, r⟩ := ins_rep (ns := z.1) (vs := z.2) g r2 ei
    refine ⟨a, dx, fs, rfl, ha, G, c, S, [w2, w1], g, .cons r2 (.cons r1 .nil), ?_⟩
    revert h
    cases F [w2, w1] S with
    | no => exact fun h => h.elim
    | ex _ _ => exact fun h => h.elim
    | ok w S' =>
      intro h
      cases w with
      | d dd =>
        cases dd with
        | bl b =>
          intro G' c' H' v e' g' rv
          cases rv with | d rv => cases rv with | bl =>
          exact ⟨b, rfl, h G' c' H' _ e' g' (.d (.bl _))⟩
        | _ => exact h.elim
      | _ => exact h.elim
  · exact h.elim
/-- either an own object or what the language has -/
def gIn2 (F : FF) (cn : Str) (neg : Bool) : W → W → Store → R W := fun y x S => match kindW x S with
  | some (.inr _) => gInO F cn neg y x S
  | _ => gIn0 neg y x S
theorem opr_in2 {neg : Bool} : OpRef K Z (fun x y H Q => rIn0 K neg x y H Q ∨ rInO K F cn neg x y H Q) (gIn2 F cn neg) := by
  intro σ G c S H y x w1 w2 Q g r1 r2 h
  unfold gIn2 at h
  split at h
  · exact .inr (opr_inO σ G c S H y x w1 w2 Q g r1 r2 h)
  · exact .inl (opr_in0.w σ G c S H y x w1 w2 Q g r1 r2 h)
end
end DL
end
section
/-! DL, 15: repr compared; dicts walked; two at once; while -/
namespace DL
open PySem PySem.Spec PyProof.Rows L2
/-! ### repr(a) == repr(b): told only where both are the same -/
mutual
def same : D → D → Bool
  | .non, .non => true
  | .bl a, .bl b => a == b
  | .int i, .int j => i == j
  | .str x, .str y => x == y
  | .lst xs, .lst ys => sames xs ys
  | .tup xs, .tup ys => sames xs ys
  | _, _ => false
def sames : List D → List D → Bool
  | [], [] => true
  | x :: xs, y :: ys => same x y && sames xs ys
  | _, _ => false
end
mutual
theorem same_refl_of : ∀ (n : Nat) (d : D), plainD n d = true → same d d = true
  | _, .non, _ => rfl
  | _, .bl b, _ => by simp [same]
  | _, .int i, _ => by simp [same]
  | _, .str l, _ => by simp [same]
  | n + 1, .tup xs, h => by rw [same]; exact sames_refl_of n xs (by simpa [plainD] using h)
  | n + 1, .lst xs, h => by rw [same]; exact sames_refl_of n xs (by simpa [plainD] using h)
  | 0, .tup _, h => by simp [plainD] at h
  | 0, .lst _, h => by simp [plainD] at h
  | _, .dct _ _, h => by simp [plainD] at h
  | _, .ins _ _ _, h => by simp [plainD] at h
  | _, .scr _, h => by simp [plainD] at h
  | _, .exn _ _ _, h => by simp [plainD] at h
theorem sames_refl_of : ∀ (n : Nat) (ds : List D), plainDs n ds = true → sames ds ds = true
  | _, [], _ => rfl
  | n, d :: ds, h => by
    rw [plainDs, Bool.and_eq_true] at h
    rw [sames, same_refl_of n d h.1, sames_refl_of n ds h.2]; rfl
end
mutual
theorem same_eq : ∀ (x y : D), same x y = true → x = y
  | .non, y, h => by cases y <;> simp [same] at h; rfl
  | .bl _, y, h => by cases y <;> simp [same] at h; rw [h]
  | .int _, y, h => by cases y <;> simp [same] at h; rw [h]
  | .str _, y, h => by cases y <;> simp [same] at h; rw [h]
  | .lst xs, y, h => by
    cases y <;> simp [same] at h
    rw [sames_eq xs _ h]
  | .tup xs, y, h => by
    cases y <;> simp [same] at h
    rw [sames_eq xs _ h]
  | .dct _ _, y, h => by cases y <;> simp [same] at h
  | .ins _ _ _, y, h => by cases y <;> simp [same] at h
  | .scr _, y, h => by cases y <;> simp [same] at h
  | .exn _ _ _, y, h => by cases y <;> simp [same] at h
theorem sames_eq : ∀ (xs ys : List D), sames xs ys = true → xs = ys
  | [], [], _ => rfl
  | [], _ :: _, h => by simp [sames] at h
  | _ :: _, [], h => by simp [sames] at h
  | x :: xs, y :: ys, h => by
    rw [sames, Bool.and_eq_true] at h
    rw [same_eq x y h.1, sames_eq xs ys h.2]
end
mutual
/-- how long its text is at most; none where it cannot be shown -/
def shwLen : D → Option Nat
  | .non => some 4
  | .bl _ => some 5
  | .int i => if i.natAbs.log2 < 1920 then some 2000 else none
  | .str l => some (10 * l.length + 2)
  | .lst xs => (shwLens xs).map (· + 2)
  | .tup xs => (shwLens xs).map (· + 3)
  | _ => none
def shwLens : List D → Option Nat
  | [] => some 0
  | x :: xs => match shwLen x, shwLens xs with
    | some a, some b => some (a + 2 + b)
    | _, _ => none
end
theorem join2_len : ∀ ts : List Str, (Str.join ", " ts).length ≤ (ts.map fun t => t.length + 2).sum
  | [] => by decide
  | [x] => by show x.length ≤ _; simp
  | x :: y :: r => by
    have ih := join2_len (y :: r)
    have e : (Str.join ", " (x :: y :: r)).length = x.length + 2 + (Str.join ", " (y :: r)).length := by
      show (x ++ ", " ++ Str.join ", " (y :: r)).length = _
      rw [strLen_append, strLen_append]; rfl
    rw [e, List.map_cons, List.sum_cons]
    omega
mutual
theorem shw_ok {K : Fg} {G : Hp} : ∀ (n : Nat) (d : D) (v : V) (p : PyData) (m : Nat), plainD n d = true → Rep K G v d → toPy d = some p → shwLen d = some m → p.showable = true ∧ p.hasDict = false ∧ p.shown.length ≤ m
  | _, .non, _, _, _, _, _, h, e => by cases h; cases e; exact ⟨by simp [PyData.showable], by simp [PyData.hasDict], by rw [PyData.shown_none]; decide⟩
  | _, .bl b, _, _, _, _, _, h, e => by cases h; cases e; exact ⟨by simp [PyData.showable], by simp [PyData.hasDict], by rw [PyData.shown_bool]; cases b <;> decide⟩
  | _, .int i, _, _, _, _, _, h, e => by
    cases h
    rw [shwLen] at e
    split at e
    · rename_i hl
      cases e
      refine ⟨by simpa [PyData.showable] using hl, by simp [PyData.hasDict], ?_⟩
      rw [PyData.shown_int]
      have := int_text_length_le (a := i) (k := 1920) (by decide) hl
      rw [PySem.ofString_length]; omega
    · cases e
  | _, .str l, _, _, _, _, r, h, e => by
    cases h; cases e
    cases r with
    | str h1 h2 =>
      refine ⟨by simp [PyData.showable], by simp [PyData.hasDict], ?_⟩
      rw [PyData.shown_str]
      have := StrLaws.reprText_len ⟨l.toArray⟩ fun c hc => Nat.lt_of_lt_of_le (h2 c (by simpa using hc)) (by decide)
      simpa [PySem.Str.length] using this
  | n + 1, .lst xs, _, p, m, hp, r, h, e => by
    cases r with
    | lst h1 q z =>
      rw [toPy, Option.map_eq_some_iff] at h
      obtain ⟨ps, e1, rfl⟩ := h
      rw [shwLen, Option.map_eq_some_iff] at e
      obtain ⟨k, e2, rfl⟩ := e
      obtain ⟨a, b, c⟩ := shws_ok n xs _ ps k (by simpa [plainD] using hp) q e1 e2
      refine ⟨by simpa [PyData.showable] using a, by simpa [PyData.hasDict] using b, ?_⟩
      rw [PyData.shown_list, strLen_append, strLen_append]
      have := join2_len (PyData.shownAll ps)
      have e3 : (("[" : Str)).length = 1 := rfl
      have e4 : (("]" : Str)).length = 1 := rfl
      omega
  | n + 1, .tup xs, _, p, m, hp, r, h, e => by
    cases r with
    | tup h1 q z =>
      rw [toPy, Option.map_eq_some_iff] at h
      obtain ⟨ps, e1, rfl⟩ := h
      rw [shwLen, Option.map_eq_some_iff] at e
      obtain ⟨k, e2, rfl⟩ := e
      obtain ⟨a, b, c⟩ := shws_ok n xs _ ps k (by simpa [plainD] using hp) q e1 e2
      refine ⟨by simpa [PyData.showable] using a, by simpa [PyData.hasDict] using b, ?_⟩
      rw [PyData.shown_tuple, strLen_append, strLen_append]
      have := join2_len (PyData.shownAll ps)
      have e3 : (("(" : Str)).length = 1 := rfl
      have e4 : (((if ps.length == 1 then ",)" else ")" : String) : Str)).length ≤ 2 := by split <;> decide
      omega
  | 0, .lst _, _, _, _, hp, _, _, _ => by simp [plainD] at hp
  | 0, .tup _, _, _, _, hp, _, _, _ => by simp [plainD] at hp
  | _, .dct _ _, _, _, _, hp, _, _, _ => by simp [plainD] at hp
  | _, .ins _ _ _, _, _, _, hp, _, _, _ => by simp [plainD] at hp
  | _, .scr _, _, _, _, hp, _, _, _ => by simp [plainD] at hp
  | _, .exn _ _ _, _, _, _, hp, _, _, _ => by simp [plainD] at hp
theorem shws_ok {K : Fg} {G : Hp} : ∀ (n : Nat) (ds : List D) (vs : List V) (ps : List PyData) (m : Nat), plainDs n ds = true → Reps K G vs ds → toPys ds = some ps → shwLens ds = some m → PyData.showableAll ps = true ∧ PyData.hasDictAll ps = false ∧ ((PyData.shownAll ps).map fun t => t.length + 2).sum ≤ m
  | _, [], _, _, _, _, _, h, e => by cases h; cases e; exact ⟨by simp [PyData.showableAll], by simp [PyData.hasDictAll], by rw [PyData.shownAll_nil]; decide⟩
  | n, d :: ds, _, ps, m, hp, r, h, e => by
    rw [plainDs, Bool.and_eq_true] at hp
    cases r with
    | cons r t =>
      rw [toPys] at h
      split at h
      · rename_i _ _ p qs hp1 hq1
        cases h
        rw [shwLens] at e
        split at e
        · rename_i _ _ a b ha hb
          cases e
          obtain ⟨x1, x2, x3⟩ := shw_ok n d _ p a hp.1 r hp1 ha
          obtain ⟨y1, y2, y3⟩ := shws_ok n ds _ qs b hp.2 t hq1 hb
          refine ⟨by simp [PyData.showableAll, x1, y1], by simp [PyData.hasDictAll, x2, y2], ?_⟩
          rw [PyData.shownAll_cons, List.map_cons, List.sum_cons]
          omega
        · cases e
      · cases h
end
def reprOk (d : D) : Bool := plainD 60 d && match shwLen d with
  | some m => decide (m ≤ sizeLine)
  | none => false
section
variable {X : Cx} {Z : WX} {K : Fg}
/-- repr(x), of data -/
def rReprD (K : Fg) : List V → Hp → VK → Prop := fun xs H Q => ∃ x p, xs = [x] ∧ Dp K H x p ∧ p.showable = true ∧ p.hasDict = false ∧ p.depth ≤ 60 ∧ p.shown.length ≤ sizeLine ∧ Q (.str p.shown) H
theorem call_reprD (hg : X.A.guards = some []) (hu : X.A.units + 100 < cLine) : CallR X (.builtin "repr") (rReprD X.K) := by
  intro pins s σ H xs us Q I r h
  obtain ⟨x, p, rfl, hd, hs, hn, dp, hz, q⟩ := h
  obtain ⟨u, rfl, rx⟩ := vals1 r
  obtain ⟨as, rr⟩ := Dp.reads I p x u hd rx
  have viaRef : ∀ a, u = .ref a → wpAny (model X.prog X.w) X.A (call (.builtin "repr") [u]) (EP X pins σ Q) X.xe s := fun a e => by
    subst e
    exact repr_of_reads' rr hs (fun z => by rw [hn] at z; cases z) hg (by omega) (fun _ _ e => e) (fun h' u tk hk => ⟨.str p.shown, H, I.kept hk, ⟨_, rfl⟩, q⟩) hz
  cases rr with
  | none => exact P.repr_of_none ⟨.str "None", H, I.tok _, ⟨_, rfl⟩, by rw [PyData.shown_none] at q; exact q⟩
  | bool b => exact P.repr_of_bool ⟨.str (if b then "True" else "False" : Str), H, I.tok _, ⟨_, by cases b <;> rfl⟩, by rw [PyData.shown_bool] at q; exact q⟩
  | int i t => exact P.repr_of_int (by simpa [PyData.showable] using hs) ⟨.str (toString i : String), H, I.tok _, ⟨_, rfl⟩, by rw [PyData.shown_int] at q; exact q⟩
  | str z t => exact P.repr_of_str ⟨.str (reprText z), H, I.tok _, ⟨_, rfl⟩, by rw [PyData.shown_str] at q; exact q⟩ (by rw [PyData.shown_str] at hz; exact hz)
  | list h1 h2 h3 h4 => exact viaRef _ rfl
  | tuple h1 h2 h3 h4 => exact viaRef _ rfl
  | dict h1 h2 h3 h4 h5 => exact viaRef _ rfl
/-- repr(a) == repr(b) (k), repr(a) != repr(b) (not k) -/
def fReprC (k : Bool) (fa fb : FE) : FE := fun ρ S => (fa ρ S).bind fun a S1 => match val a S1 with
  | some x => if reprOk x = true then (fb ρ S1).bind fun b S2 => (match val b S2 with
    | some y => if same x y = true then .ok (.d (.bl k)) S2 else .no
    | none => .no) else .no
  | none => .no
theorem reprOk_dp {G H : Hp} {v : V} {d : D} (s : Sub G H) (r : RepT K G H v d) (h : reprOk d = true) : ∃ p, toPy d = some p ∧ Dp K H v p ∧ p.showable = true ∧ p.hasDict = false ∧ p.depth ≤ 60 ∧ p.shown.length ≤ sizeLine := by
  unfold reprOk at h
  rw [Bool.and_eq_true] at h
  obtain ⟨h1, h2⟩ := h
  have r := r.in s (plain_nd h1)
  obtain ⟨p, e, q, c, dp⟩ := toPy_rep 60 d v h1 r
  cases e2 : shwLen d with
  | none => rw [e2] at h2; cases h2
  | some m =>
    rw [e2] at h2
    obtain ⟨a, b, c⟩ := shw_ok 60 d v p m h1 r e e2
    exact ⟨p, e, q, a, b, dp, Nat.le_trans c (of_decide_eq_true h2)⟩
variable {a b : Expr} {fa fb : FE} {p1 p2 q1 q2 pos : Pos}
theorem da_1 (h : DE X Z a fa) (hs : starEach [a] X.env = (false, eval a X.env) :: starEach [] X.env := by rfl) : ∃ t, PE X a t ∧ Ref X.K Z t fa ∧ PA X [a] (tCons t tNil) := let ⟨t, p, q⟩ := h; ⟨t, p, q, pa_cons p pa_nil hs⟩
theorem ref_reprC {k : Bool} {r : R2} {ta tb : TE} (hr : ∀ x H (Q : VK), Q (.bl k) H → r (.str x) (.str x) H Q) (h1 : Ref K Z ta fa) (h2 : Ref K Z tb fb) : Ref K Z (tOp r (tCB (rReprD K) (tCons ta tNil)) (tCB (rReprD K) (tCons tb tNil))) (fReprC k fa fb) := by
  intro ρ S σ H G c Q gd re h
  refine h1 ρ S σ H G c _ gd re (Wants.step h fun w S1 G1 c1 H1 v e1 g1 rv h1' => ?_)
  split at h1'
  · rename_i x ex
    have rx := val_rep g1 rv ex
    by_cases hx : reprOk x = true
    · rw [if_pos hx] at h1'
      obtain ⟨p, ep, dp, a1, a2, a3, a4⟩ := reprOk_dp g1.sub rx hx
      refine ⟨v, p, rfl, dp, a1, a2, a3, a4, ?_⟩
      refine h2 ρ S1 σ H1 G1 c1 _ g1 (re.ev e1.gg e1.cc) (Wants.step h1' fun w2 S2 G2 c2 H2 v2 e2 g2 rv2 h2' => ?_)
      split at h2'
      · rename_i y ey
        have ry := val_rep g2 rv2 ey
        split at h2'
        · rename_i hs
          have exy := same_eq x y hs
          subst exy
          obtain ⟨p', ep', dp', b1, b2, b3, b4⟩ := reprOk_dp g2.sub ry hx
          rw [ep] at ep'
          cases ep'
          exact ⟨v2, p, rfl, dp', b1, b2, b3, b4, hr _ _ _ (h2'.ret g2 (.d (.bl k)))⟩
        · exact h2'.elim
      · exact h2'.elim
    · rw [if_neg hx] at h1'; exact h1'.elim
  · exact h1'.elim
theorem de_reprEq (hg : X.A.guards = some []) (hu : X.A.units + 100 < cLine) (hm : X.mg "repr" = none) (ha : DE X Z a fa) (hb : DE X Z b fb) (hgl : Gl X "repr" := by rfl) (hmk : behindInMarks .Eq (.Call (.Name "repr" q1) [b] [] q2) = false := by rfl) (hs1 : starEach [a] X.env = (false, eval a X.env) :: starEach [] X.env := by rfl) (hs2 : starEach [b] X.env = (false, eval b X.env) :: starEach [] X.env := by rfl) :
    DE X Z (.Compare (.Call (.Name "repr" p1) [a] [] p2) [.Eq] [.Call (.Name "repr" q1) [b] [] q2] pos) (fReprC true fa fb) := by
  obtain ⟨ta, pa, qa⟩ := ha
  obtain ⟨tb, pb, qb⟩ := hb
  exact ⟨_, pe_cmpR op_eq (pe_callB (call_reprD hg hu) hgl hm (by rfl) (pa_cons pa pa_nil hs1) (he := hs1)) (pe_callB (call_reprD hg hu) hgl hm (by rfl) (pa_cons pb pa_nil hs2) (he := hs2)) hmk, ref_reprC (fun x H Q q => ⟨rfl, by rw [decide_eq_true rfl]; exact q⟩) qa qb⟩
theorem de_reprNe (hg : X.A.guards = some []) (hu : X.A.units + 100 < cLine) (hm : X.mg "repr" = none) (ha : DE X Z a fa) (hb : DE X Z b fb) (hgl : Gl X "repr" := by rfl) (hmk : behindInMarks .NotEq (.Call (.Name "repr" q1) [b] [] q2) = false := by rfl) (hs1 : starEach [a] X.env = (false, eval a X.env) :: starEach [] X.env := by rfl) (hs2 : starEach [b] X.env = (false, eval b X.env) :: starEach [] X.env := by rfl) :
    DE X Z (.Compare (.Call (.Name "repr" p1) [a] [] p2) [.NotEq] [.Call (.Name "repr" q1) [b] [] q2] pos) (fReprC false fa fb) := by
  obtain ⟨ta, pa, qa⟩ := ha
  obtain ⟨tb, pb, qb⟩ := hb
  exact ⟨_, pe_cmpR op_ne (pe_callB (call_reprD hg hu) hgl hm (by rfl) (pa_cons pa pa_nil hs1) (he := hs1)) (pe_callB (call_reprD hg hu) hgl hm (by rfl) (pa_cons pb pa_nil hs2) (he := hs2)) hmk, ref_reprC (fun x H Q q => ⟨rfl, by rw [decide_eq_true rfl]; exact q⟩) qa qb⟩
/-- the same, as a test -/
theorem dt_reprEq (hg : X.A.guards = some []) (hu : X.A.units + 100 < cLine) (hm : X.mg "repr" = none) (ha : DE X Z a fa) (hb : DE X Z b fb) (hgl : Gl X "repr" := by rfl) (hmk : behindInMarks .Eq (.Call (.Name "repr" q1) [b] [] q2) = false := by rfl) (hs1 : starEach [a] X.env = (false, eval a X.env) :: starEach [] X.env := by rfl) (hs2 : starEach [b] X.env = (false, eval b X.env) :: starEach [] X.env := by rfl) :
    DT X Z (.Compare (.Call (.Name "repr" p1) [a] [] p2) [.Eq] [.Call (.Name "repr" q1) [b] [] q2] pos) (toB (fReprC true fa fb)) := by
  obtain ⟨ta, pa, qa⟩ := ha
  obtain ⟨tb, pb, qb⟩ := hb
  exact ⟨_, pt_cmpR op_eq (pe_callB (call_reprD hg hu) hgl hm (by rfl) (pa_cons pa pa_nil hs1) (he := hs1)) (pe_callB (call_reprD hg hu) hgl hm (by rfl) (pa_cons pb pa_nil hs2) (he := hs2)) hmk, refb_of (ref_reprC (fun x H Q q => ⟨rfl, by rw [decide_eq_true rfl]; exact q⟩) qa qb)⟩
theorem dt_reprNe (hg : X.A.guards = some []) (hu : X.A.units + 100 < cLine) (hm : X.mg "repr" = none) (ha : DE X Z a fa) (hb : DE X Z b fb) (hgl : Gl X "repr" := by rfl) (hmk : behindInMarks .NotEq (.Call (.Name "repr" q1) [b] [] q2) = false := by rfl) (hs1 : starEach [a] X.env = (false, eval a X.env) :: starEach [] X.env := by rfl) (hs2 : starEach [b] X.env = (false, eval b X.env) :: starEach [] X.env := by rfl) :
    DT X Z (.Compare (.Call (.Name "repr" p1) [a] [] p2) [.NotEq] [.Call (.Name "repr" q1) [b] [] q2] pos) (toB (fReprC false fa fb)) := by
  obtain ⟨ta, pa, qa⟩ := ha
  obtain ⟨tb, pb, qb⟩ := hb
  exact ⟨_, pt_cmpR op_ne (pe_callB (call_reprD hg hu) hgl hm (by rfl) (pa_cons pa pa_nil hs1) (he := hs1)) (pe_callB (call_reprD hg hu) hgl hm (by rfl) (pa_cons pb pa_nil hs2) (he := hs2)) hmk, refb_of (ref_reprC (fun x H Q q => ⟨rfl, by rw [decide_eq_true rfl]; exact q⟩) qa qb)⟩
/-! ### for k in d -/
def itemsW2 (w : W) (S : Store) : R Src := match w with
  | .d (.dct ks _) => .ok (.fix ks) S
  | w => itemsW w S
def fItemsK (f : FE) : FI := fun ρ S => (f ρ S).bind fun w S1 => itemsW2 w S1
theorem turns_keys {G : Hp} {c : List Addr} {d : Addr} {o : Obj} {kvs : List (Key × V)} {ks : List D} (h : G d = some (.frz o (.dK kvs))) (kr : Reps K G (kvs.map fun p => kV p.1) ks) : Turns K G c (Itk d o kvs) (.fix ks) := by
  have w := walk_keys (d := d) (o := o) (kvs := kvs)
  have e : kvs.length = ks.length := by have := kr.length; simpa using this
  rw [e] at w
  refine ⟨_, _, w, fun G' c' S H g s => g.sub _ _ (s _ _ h), fun G2 c2 S2 H2 i x H' g2 s2 y => ?_⟩
  obtain ⟨rfl, k, v, e1, rfl⟩ := y
  obtain ⟨d, e2, r⟩ := kr.getV (i := i) (v := kV k) (by rw [List.getElem?_map, e1]; rfl)
  exact ⟨d, G2, e2, .refl .., g2, Rep.sub s2 _ _ r⟩
theorem refi_itemsK {te : TE} {f : FE} (h : Ref K Z te f) : RefI K Z (fun σ H Q => (iList K te σ H Q ∨ iTup K te σ H Q ∨ iStr te σ H Q) ∨ iKeys te σ H Q) (fItemsK f) := by
  intro ρ S σ H G c Q gd re q
  have base := fun P => h ρ S σ H G c P gd re
  have all := refi_items h ρ S σ H G c Q gd re
  unfold fItemsK at q
  unfold fItems at all
  revert base q all
  cases f ρ S with
  | no => exact fun q _ _ => q.elim
  | ex x S1 => exact fun q _ all => .inl (all q)
  | ok w S1 =>
    intro q0 base all
    have q : Wants K Z σ (fun G c J s => Turns K G c J s) G c H (itemsW2 w S1) Q := q0
    have all : Wants K Z σ (fun G c J s => Turns K G c J s) G c H (itemsW w S1) Q → _ := all
    clear q0
    unfold itemsW2 at q
    split at q
    · rename_i ks vs
      refine .inr (base _ fun G1 c1 H1 v e1 g1 r1 => ?_)
      cases r1 with | d r1 => cases r1 with | dct h1 hk q1 z1 kr =>
      exact ⟨_, _, rfl, .inl ⟨_, g1.sub _ _ h1, q G1 c1 H1 _ e1 g1 (turns_keys h1 kr)⟩⟩
    · exact .inl (all q)
theorem di_itemsK {tg e : Expr} {f : FE} (h : DE X Z e f) : DI X Z tg e (fItemsK f) :=
  let ⟨_, p, q⟩ := h; ⟨_, pi_or (pi_or (pi_list p) (pi_or (pi_tup p) (pi_str p))) (pi_keys p), refi_itemsK q⟩
/-! ### x, y = e1, e2, with no tuple made -/
theorem ds_par {i j : Nat} {x y : Str} {fs : FL} {px py pt : Pos} {kt k2 pt2} (hN : X.N.Nodup) (ha : DA X Z [a, b] fs) (hi : X.N[i]? = some x := by rfl) (hj : X.N[j]? = some y := by rfl) (hij : i ≠ j := by decide) (hc : X.calm = true := by rfl)
    (hx : X.env.scope.names.lookup x = some .local := by rfl) (hy : X.env.scope.names.lookup y = some .local := by rfl)
    (hw : swappedStores [.Tuple [.Name x px, .Name y py] kt pt] (.Tuple [a, b] k2 pt2) X.env = pure (some [x, y]) := by rfl)
    (hs : swapsWithSole [.Tuple [.Name x px, .Name y py] kt pt] (.Tuple [a, b] k2 pt2) pos.line X.env = pure false := by rfl) :
    DS X Z (.Assign [.Tuple [.Name x px, .Name y py] kt pt] (.Tuple [a, b] k2 pt2) pos) (fPar i j fs) :=
  let ⟨_, p, q⟩ := ha; ⟨_, ps_par hc hN hi hj hij hx hy p hw hs, refs_par q⟩
/-! ### while -/
/-- n turns at most -/
def whileF (t : FB) (b : FS) : Nat → Env → Store → Fl
  | 0, _, _ => .no
  | n + 1, ρ, S => thenS ρ (t ρ S) fun k S1 => if k = true then (match b ρ S1 with
    | .nx ρ2 S2 => whileF t b n ρ2 S2
    | .ct ρ2 S2 => whileF t b n ρ2 S2
    | .bk ρ2 S2 => .nx ρ2 S2
    | r => r) else .nx ρ S1
def fWhile (t : FB) (b : FS) (n : Nat) : FS := fun ρ S => whileF t b n ρ S
theorem refs_while {tc : TT} {tb : TS} {t : FB} {f : FS} {n : Nat} (hc : RefB K Z tc t) (hb : RefS K Z tb f) : RefS K Z (tWhile tc tb) (fWhile t f n) := by
  intro ρ S σ H G c D gd re h
  refine ⟨fun m σ' H' => ∃ ρ' S' G' c', Good K G' c' S' H' ∧ RepE K G' c' σ' ρ' ∧ WantsS K Z G' c' H' (whileF t f m ρ' S') D, ⟨n, ρ, S, G, c, gd, re, h⟩, ?_⟩
  rintro m σ' H' ⟨ρ', S', G', c', g', r', h'⟩
  cases m with
  | zero => exact h'.elim
  | succ m =>
    refine hc ρ' S' σ' H' G' c' _ g' r' (Wants.stepS r' h' fun k S1 G1 c1 H1 b e1 g1 eb h1 => ?_)
    subst eb
    have r1 := r'.ev e1.gg e1.cc
    cases b with
    | false => exact iteF (h1 G1 c1 H1 σ' (.refl ..) g1 r1)
    | true =>
      refine iteT ⟨fun σ3 H3 => ∃ ρ3 S3 G3 c3, Good K G3 c3 S3 H3 ∧ RepE K G3 c3 σ3 ρ3 ∧ WantsS K Z G3 c3 H3 (whileF t f m ρ3 S3) D, fun σ3 H3 q => ⟨m, Nat.lt_succ_self _, q⟩, hb ρ' S1 σ' H1 G1 c1 _ g1 r1 ?_⟩
      have h1 : WantsS K Z G1 c1 H1 (match f ρ' S1 with
        | .nx ρ2 S2 => whileF t f m ρ2 S2
        | .ct ρ2 S2 => whileF t f m ρ2 S2
        | .bk ρ2 S2 => .nx ρ2 S2
        | r => r) D := h1
      revert h1
      cases f ρ' S1 with
      | no => exact fun h => h
      | nx ρ2 S2 => exact fun h G2 c2 H2 σ2 e2 g2 r2 => ⟨ρ2, S2, G2, c2, g2, r2, WantsS.ev e2 h⟩
      | ct ρ2 S2 => exact fun h G2 c2 H2 σ2 e2 g2 r2 => ⟨ρ2, S2, G2, c2, g2, r2, WantsS.ev e2 h⟩
      | bk ρ2 S2 => exact fun h G2 c2 H2 σ2 e2 g2 r2 => h G2 c2 H2 σ2 e2 g2 r2
      | rt w S2 => exact fun h G2 c2 H2 σ2 e2 g2 r2 => h G2 c2 H2 σ2 e2 g2 r2
      | ex w S2 x2 => exact fun h G2 c2 H2 σ2 cls dx e2 g2 r2 => h G2 c2 H2 σ2 cls dx e2 g2 r2
theorem ds_while {cnd : Expr} {body : List Stmt} {t : FB} {f : FS} (n : Nat) (hp : PassesOwn (model X.prog X.w) X.A X.env X.xe) (hc : DT X Z cnd t) (hb : DSs X Z body f) : DS X Z (.While cnd body [] pos) (fWhile t f n) :=
  let ⟨_, p1, q1⟩ := hc; let ⟨_, p2, q2⟩ := hb; ⟨_, ps_while hp p1 p2, refs_while q1 q2⟩
end
end DL
end
end
section
section
/-! DL, 16: sorted(set(..)) of texts -/
namespace DLS
open PySem PySem.Spec PyProof.Rows L2 PySem.Froz
section
variable {P : Program} {w : World} {A : Around} {E : Value → Shared → Prop} {s : Shared}
/-- the payload's values are these texts, in some order -/
def TxV (D : SD) (l : List Str) : Prop := ∃ vs, (D.1.toList.map (·.2)).Perm vs ∧ StrsAre vs l
/-- a set of the texts l -/
structure TxSet (P : Program) (w : World) (h : Heap) (a : Addr) (l : List Str) : Prop where
  ex : ∃ D : SD, h.get? a = some (sObj "set" D) ∧ TxOk P w D l ∧ TxV D l ∧ Ris D.2.2.place.toList ∧ (w.params.followText "set-order" = true ∨ D.2.2.led = true)
  nd : l.Nodup
theorem TxSet.keep {h h' : Heap} {a : Addr} {l : List Str} (R : TxSet P w h a l) (k : ∀ o, h.get? a = some o → h'.get? a = some o) : TxSet P w h' a l := by
  obtain ⟨D, h1, r⟩ := R.ex
  exact ⟨⟨D, k _ h1, r⟩, R.nd⟩
theorem txset_fresh {h : Heap} {a : Addr} (ho : h.get? a = some { cls := .type "set", dict := none, data := .set #[] 0 (.fresh 0 0 (!w.params.followText "set-order")) }) : TxSet P w h a [] where
  ex := ⟨(#[], 0, .fresh 0 0 (!w.params.followText "set-order")), ho, TxOk.nil rfl, ⟨[], .refl _, .nil⟩, List.Pairwise.nil, by
    show _ ∨ (!w.params.followText "set-order") = true
    cases w.params.followText "set-order"
    · exact .inr rfl
    · exact .inl rfl⟩
  nd := .nil
theorem tailTx_ok {ep : Nat} {es1 : Array (Int × Value)} {t2 : SetTable} {wasDummy : Bool} {l : List Str} (hv : TxV (es1, ep, t2) l) (hr : Ris t2.place.toList) (hl : w.params.followText "set-order" = true ∨ t2.led = true) :
    TxV (tailTx ep es1 t2 wasDummy) l ∧ Ris (tailTx ep es1 t2 wasDummy).2.2.place.toList ∧ (w.params.followText "set-order" = true ∨ (tailTx ep es1 t2 wasDummy).2.2.led = true) := by
  unfold tailTx
  by_cases c : (!wasDummy && t2.tooFull) = true
  · rw [if_pos c]
    obtain ⟨vs, p, q⟩ := hv
    exact ⟨⟨vs, ((relayAll_perm t2 es1 _).map _).trans p, q⟩, relayAll_ris t2 es1 _, hl.imp id fun z => by rw [relayAll_led]; exact z⟩
  · rw [if_neg c]
    exact ⟨hv, hr, hl⟩
theorem addTx_ok {D : SD} {l : List Str} {k : Str} {u : Tok} (hv : TxV D l) (hr : Ris D.2.2.place.toList) (hl : w.params.followText "set-order" = true ∨ D.2.2.led = true) :
    TxV (addTx (hashStr w k) (.str k u) D) (k :: l) ∧ Ris (addTx (hashStr w k) (.str k u) D).2.2.place.toList ∧ (w.params.followText "set-order" = true ∨ (addTx (hashStr w k) (.str k u) D).2.2.led = true) := by
  obtain ⟨es, ep, t⟩ := D
  have hp := layNew_perm t es (hashStr w k) (.str k u)
  have hr1 := layNew_ris t es (hashStr w k) (.str k u) hr
  have hl1 := layNew_led t es (hashStr w k) (.str k u)
  unfold addTx
  refine tailTx_ok ?_ ?_ ?_
  · obtain ⟨vs, p, q⟩ := hv
    refine ⟨.str k u :: vs, ?_, .cons k u q⟩
    have h1 := hp.map (·.2)
    rw [Array.toList_push, List.map_append] at h1
    exact h1.trans ((List.perm_append_singleton _ _).trans (p.cons _))
  · by_cases c : (layNew t es (hashStr w k) (.str k u)).2.1.plain = true
    · rw [if_pos c]; exact hr1
    · rw [if_neg c]; exact hr1
  · refine hl.imp id fun z => ?_
    by_cases c : (layNew t es (hashStr w k) (.str k u)).2.1.plain = true
    · rw [if_pos c]; exact hl1.trans z
    · rw [if_neg c]; exact hl1.trans z
/-- one text more, or none -/
theorem add_t {a : Addr} {l : List Str} {k : Str} {u : Tok} {Q : Bool → Shared → Prop} (R : TxSet P w s.heap a l) (hb : l.length + 1 < scanBound)
    (h : ∀ b h', Heap.SameBut a s.heap h' → TxSet P w h' a (if k ∈ l then l else k :: l) → Q b { s with heap := h' }) : wpAny (model P w) A (setAddHashed a (.str k u) (hashStr w k)) Q E s := by
  obtain ⟨D, ho, F, hv, hr, hl⟩ := R.ex
  by_cases hk : k ∈ l
  · have h2 := h false s.heap (Heap.SameBut.refl a s.heap) (by rw [if_pos hk]; exact R)
    obtain ⟨es, ep, t⟩ := D
    have hd : (sObj "set" (es, ep, t)).data = .set es ep t := rfl
    have hf : t.fits es.size = true := F.fit
    have hel : ElemsOf (PySem.strKind P w) es.toList := F.el
    have hsz : es.size = l.length := F.sz
    have hb0 : es.size < scanBound := by omega
    have hkey : (PySem.strKind P w).is k (.str k u) = true := is_str k u
    unfold setAddHashed setAddHashedIn
    refine wpAny_holding (wpAny_bind (wpAny_setState_of ho hd hf ?_))
    dsimp only
    rw [byScan_of rfl hb0 hel]
    simp only [↓reduceIte]
    unfold setAddByScan
    refine wpAny_bind ?_
    refine wpAny_bind (wpAny_rule ?_)
    refine wpAny_bind (wpAny_setScan_of (knd := PySem.strKind P w) (k := k) hkey ho hd hf hel ?_)
    cases hfi : List.findIdx? (fun e => (PySem.strKind P w).is k e.2) es.toList with
    | some j =>
      dsimp only
      exact wpAny_pure (wpAny_pure h2)
    | none =>
      exfalso
      obtain ⟨e, he, q⟩ := (F.mem k).mp hk
      have c := List.findIdx?_eq_none_iff.mp hfi e he
      rw [q] at c
      cases c
  · refine add_x ho F hk hb (h true _ (Heap.SameBut.update s.heap a _) ?_)
    rw [if_neg hk]
    obtain ⟨a1, a2, a3⟩ := addTx_ok (k := k) (u := u) hv hr hl
    exact ⟨⟨_, get_upd _ ho rfl, add_ok u F, a1, a2, a3⟩, List.nodup_cons.mpr ⟨hk, R.nd⟩⟩
/-- the texts of a list, each once -/
def onceS : List Str → List Str → List Str
  | l, [] => l
  | l, x :: xs => onceS (if x ∈ l then l else x :: l) xs
theorem stepS_len (l : List Str) (x : Str) : (if x ∈ l then l else x :: l).length ≤ l.length + 1 := by
  split
  · omega
  · simp
theorem onceS_len : ∀ (xs l : List Str), (onceS l xs).length ≤ l.length + xs.length
  | [], l => by simp [onceS]
  | x :: xs, l => by
    rw [onceS, List.length_cons]
    have h1 := onceS_len xs (if x ∈ l then l else x :: l)
    have h2 := stepS_len l x
    omega
/-- set.update's loop -/
theorem set_update_txts {I : Addr} {fp wr : List Addr} {G : Array GenState → Array GenState → Prop} {n : Nat} {Pv : Nat → Value → Prop} {St : Nat → Shared → Prop} {R : Result → Shared → Prop}
    (W : WalksS P w A.in1 I fp wr G n Pv St) (S : Addr) (hSf : S ∉ fp) (xs : List Str) (hn : n = xs.length) (hval : ∀ i v, Pv i v → ∃ k t, xs[i]? = some k ∧ v = .str k t) (hb : xs.length + 1 < scanBound) :
    ∀ (m i : Nat) (s : Shared) (l : List Str), n - i = m → i ≤ n → l.length ≤ i → St i s → TxSet P w s.heap S l →
      (∀ s', Moved (S :: wr) G s s' → TxSet P w s'.heap S (onceS l (xs.drop i)) → R (.ok (.ret .none)) s') →
      codeAny (model P w) A (.builtin "set.update.loop" ⟨[.ref S, .ref I], []⟩) R s := by
  have hSw : S ∉ wr := fun h => hSf (W.sub _ h)
  have hsub : ∀ b ∈ wr, b ∈ S :: wr := fun b hb => List.mem_cons_of_mem _ hb
  intro m
  induction m with
  | zero =>
    intro i s l hk' hi hl hst hS hR
    have hin : i = n := by omega
    subst hin
    refine codeAny_builtin F.entry_set_update_loop ?_
    rw [Around.under_plainId F.plain_set_update_loop _]
    show wpAny _ A.in1 (pyNext (.ref I) >>= _) _ _ s
    refine wpAny_bind (W.done s _ _ hst fun s' hm => ?_)
    show wpAny _ A.in1 (ret Value.none) _ _ s'
    refine wpAny_pure (hR s' (hm.mono hsub) ?_)
    rw [hn, List.drop_length]
    exact hS.keep fun o e => hm.heap S o hSw e
  | succ m ih =>
    intro i s l hk' hi hl hst hS hR
    have hlt : i < n := by omega
    refine codeAny_builtin F.entry_set_update_loop ?_
    rw [Around.under_plainId F.plain_set_update_loop _]
    show wpAny _ A.in1 (pyNext (.ref I) >>= _) _ _ s
    refine wpAny_bind (W.item i s _ _ hlt hst fun v s' hP hst' hm => ?_)
    obtain ⟨k, t, hk, rfl⟩ := hval i v hP
    have hS' : TxSet P w s'.heap S l := hS.keep fun o e => hm.heap S o hSw e
    show wpAny _ A.in1 (holding [Value.str k t] (setAdd S (.str k t)) >>= _) _ _ s'
    refine wpAny_bind (wpAny_holding ?_)
    unfold setAdd
    refine wpAny_holding ?_
    refine wpAny_bind ((PySem.strKind P w).pyHash (k := k) (is_str k t) ?_)
    refine add_t (s := { s' with toks := s'.toks + 1 }) hS' (by omega) fun b h' hsb hS2 => ?_
    have hd : xs.drop i = k :: xs.drop (i + 1) := by
      have hl2 : i < xs.length := by omega
      rw [List.drop_eq_getElem_cons hl2]
      rw [List.getElem?_eq_getElem hl2] at hk
      rw [Option.some.inj hk]
    refine wpAny_pure ⟨plainId_quiet F.plain_set_update_loop _, ih (i + 1) _ _ (by omega) hlt (by have := stepS_len l k; omega) (W.frame _ s' _ _ hst' (Nat.le_add_right _ _) fun b hb o e => ?_) hS2 fun s'' hm'' hS'' => ?_⟩
    · rw [hsb.2 b (fun h : b = S => hSf (by rw [← h]; exact hb))]; exact e
    · refine hR s'' (Moved.trans W.gtrans ((hm.mono hsub).then_heap (Nat.le_add_right _ _) fun b o hb e => ?_) hm'') (by rw [hd, onceS]; exact hS'')
      rw [hsb.2 b (fun h : b = S => hb (by rw [h]; exact List.mem_cons_self))]; exact e
/-- set(xs), xs a list of texts -/
theorem call_set_txts {l : Addr} {items : Array Value} (xs : List Str) {Q : Value → Shared → Prop} (hh : A.handled = none) (hl : s.heap.IsList l items) (hit : StrsAre items.toList xs) (hb : xs.length + 1 < scanBound)
    (h : ∀ (h' : Heap) (tk : Nat), TxSet P w h' s.heap.objs.size (onceS [] xs) → (∀ b o, s.heap.get? b = some o → h'.get? b = some o) → Q (.ref s.heap.objs.size) { s with heap := h', toks := tk }) :
    wpAny (model P w) A (call (.type "set") [.ref l]) Q E s := by
  have hisz : items.size = xs.length := by
    have q := StrsAre.len_eq hit
    rw [Array.length_toList] at q
    exact q
  obtain ⟨c, tl, hmro⟩ := F.called_set.mro
  have hmade := F.called_set.made
  have hsub := F.called_set.sub
  refine wpAny_call (codeAny_of_tree ?_)
  show wpAny _ _ (callAny (.type "set") _) _ _ _
  refine wpAny_pure ⟨Code.quiet_builtin _ (by decide +kernel), codeAny_builtin F.entry_type_call ?_⟩
  rw [Around.under_plain (weight_type_call_type "set" [.ref l] []) rfl]
  have h1 := F.called_set.notType
  have h2 := F.called_set.canCreate
  have hct := F.typeCall_set_1 (.ref l)
  repeat (any_goals (first | assumption | wp_step))

  refine codeAny_mono (code_set_led1 (.ref l) (E := E) (Q₁ := fun obj s₁ => obj = .ref s.heap.objs.size ∧ s₁ = { s with heap := s.heap.push { cls := .type "set", dict := none, data := .set #[] 0 (.fresh 0 0 (!w.params.followText "set-order")) } }) ⟨rfl, rfl⟩) fun r s₁ hr => ?_
  cases r with
  | error e => exact hr
  | ok fl =>
    cases fl with
    | ret obj =>
      obtain ⟨rfl, rfl⟩ := hr
      have hS : (s.heap.push { cls := .type "set", dict := none, data := .set #[] 0 (.fresh 0 0 (!w.params.followText "set-order")) }).get? s.heap.objs.size = some { cls := .type "set", dict := none, data := .set #[] 0 (.fresh 0 0 (!w.params.followText "set-order")) } := Heap.get?_push_size _ rfl
      have hT : Shared.TypeIs { s with heap := s.heap.push { cls := .type "set", dict := none, data := .set #[] 0 (.fresh 0 0 (!w.params.followText "set-order")) } } (.ref s.heap.objs.size) "set" := ⟨_, hS, rfl⟩
      have hli := F.called_set.init.lookup
      have hbi := F.called_set.init.bind (.ref s.heap.objs.size)
      repeat (any_goals (first | assumption | wp_step))

      refine codeAny_mono (codeAny_call_builtin (R := wants (fun r s₂ => r = .none ∧ ∃ h' tk, s₂ = { s with heap := h', toks := tk } ∧ TxSet P w h' s.heap.objs.size (onceS [] xs) ∧
          (∀ b o, s.heap.get? b = some o → h'.get? b = some o)) E) F.called_set.init.plain F.entry_set_init (check_set_init_1 hT ?_)) fun r₂ s₂ hr₂ => ?_
      · obtain ⟨ol, hol, hcl, nl, hdl⟩ := hl
        obtain ⟨ocls, odict, odata, oslots⟩ := ol
        simp only at hcl hdl
        subst hcl; subst hdl
        have hol' : (s.heap.push { cls := .type "set", dict := none, data := .set #[] 0 (.fresh 0 0 (!w.params.followText "set-order")) }).get? l = some { cls := .type "list", dict := odict, data := .seq items nl, slots := oslots } := Heap.get?_push_of_some _ hol
        have hsls := F.sub_list_set
        have hslf := F.sub_list_frozenset
        have hne : (Value.type "list" == Value.type "dict") = false := by decide
        have hl1 : (s.heap.push { cls := .type "set", dict := none, data := .set #[] 0 (.fresh 0 0 (!w.params.followText "set-order")) }).IsList l items := ⟨_, hol', rfl, nl, rfl⟩
        unfold Builtin.«set.__init__» noKeywords Builtin.Frozenset.updateFrom
        generalize hPI : pyIter = PI
        wp_walk
        subst hPI

        refine wpAny_pyIter_list hl1 ?_
        refine wpAny_bind (wpAny_runValue ?_)
        have hlS : l < s.heap.objs.size := Heap.lt_size hol
        have hh3 : A.in1.in1.in1.handled = none := by simp [hh]
        have hneI : l ≠ (s.heap.push { cls := .type "set", dict := none, data := .set #[] 0 (.fresh 0 0 (!w.params.followText "set-order")) }).objs.size := by
          rw [Heap.size_push]; exact Nat.ne_of_lt (Nat.lt_succ_of_lt hlS)
        have hSf : s.heap.objs.size ∉ [(s.heap.push { cls := .type "set", dict := none, data := .set #[] 0 (.fresh 0 0 (!w.params.followText "set-order")) }).objs.size, l] := by
          rw [Heap.size_push]; simp only [List.mem_cons, List.mem_singleton, List.not_mem_nil, or_false, not_or]
          exact ⟨Nat.ne_of_lt (Nat.lt_succ_self _), Nat.ne_of_gt hlS⟩
        have hval : ∀ (i : Nat) (v : Value), items[i]? = some v → ∃ k t, xs[i]? = some k ∧ v = .str k t := fun i v hv => by
          obtain ⟨y, t, e1, e2⟩ := StrsAre.item hit i v (by rw [Array.getElem?_toList]; exact hv)
          exact ⟨y, t, e2, e1⟩
        refine set_update_txts ((Walks.list hh3 _ l hneI items).toS) s.heap.objs.size
          hSf xs hisz hval hb (items.size - 0) 0 _ [] (by omega) (Nat.zero_le _) (Nat.le_refl _)
          ⟨⟨_, Heap.get?_push_size _ rfl, rfl, rfl⟩, (hl1.push _)⟩ ?hS0 ?hR
        case hS0 =>
          have hget : ((s.heap.push { cls := .type "set", dict := none, data := .set #[] 0 (.fresh 0 0 (!w.params.followText "set-order")) }).push { cls := .type "list_iterator", data := .fields #[.ref l, .int 0 0] }).get? s.heap.objs.size
              = some { cls := .type "set", dict := none, data := .set #[] 0 (.fresh 0 0 (!w.params.followText "set-order")) } := Heap.get?_push_of_some _ hS
          exact txset_fresh hget
        case hR =>
          intro s' hm hS'
          obtain ⟨h', g2, d', tk', os'⟩ := s'
          have eg : g2 = s.gens := hm.gens
          have ed : d' = s.drawn := hm.drawn
          have eo : os' = s.os := hm.os
          subst eg; subst ed; subst eo
          show wpAny _ _ _ _ _ _
          refine wpAny_pure ?_
          show wpAny _ _ (ret Value.none) _ _ _
          refine wpAny_pure ⟨rfl, h', tk', rfl, by rw [List.drop_zero] at hS'; exact hS', fun b o e => ?_⟩
          have hb0 : b < s.heap.objs.size := Heap.lt_size e
          have hb1 : b ≠ s.heap.objs.size := Nat.ne_of_lt hb0
          have hb2 : b ≠ (s.heap.push { cls := .type "set", dict := none, data := .set #[] 0 (.fresh 0 0 (!w.params.followText "set-order")) }).objs.size := by
            rw [Heap.size_push]; exact Nat.ne_of_lt (Nat.lt_succ_of_lt hb0)
          exact hm.heap b o (by simp only [List.mem_cons, List.mem_singleton, List.not_mem_nil, or_false, not_or]; exact ⟨hb1, hb2⟩) (Heap.get?_push_of_some _ (Heap.get?_push_of_some _ e))

      · cases r₂ with
        | error e => exact hr₂
        | ok fl₂ =>
          cases fl₂ with
          | ret r =>
            obtain ⟨rfl, h', tk, rfl, hS', hk'⟩ := hr₂
            repeat (any_goals (first | assumption | wp_step))
            exact h _ _ hS' hk'
          | _ => exact hr₂.elim
    | _ => exact hr.elim
end
end DLS
end
section
/-! DL, 16b: set(a text) -/
namespace DLS
open PySem PySem.Spec PyProof.Rows L2 PySem.Froz
section
variable {P : Program} {w : World} {A : Around} {E : Value → Shared → Prop} {s : Shared}
theorem call_set_str {x : Str} {t : Tok} {Q : Value → Shared → Prop} (hh : A.handled = none) (hb : x.cps.size + 1 < scanBound)
    (h : ∀ (h' : Heap) (tk : Nat), TxSet P w h' s.heap.objs.size (onceS [] (x.cps.toList.map fun c => (⟨#[c]⟩ : Str))) → (∀ b o, s.heap.get? b = some o → h'.get? b = some o) → Q (.ref s.heap.objs.size) { s with heap := h', toks := tk }) :
    wpAny (model P w) A (call (.type "set") [.str x t]) Q E s := by
  have hxl : (x.cps.toList.map fun c => (⟨#[c]⟩ : Str)).length = x.cps.size := by rw [List.length_map, Array.length_toList]
  obtain ⟨c, tl, hmro⟩ := F.called_set.mro
  have hmade := F.called_set.made
  have hsub := F.called_set.sub
  refine wpAny_call (codeAny_of_tree ?_)
  show wpAny _ _ (callAny (.type "set") _) _ _ _
  refine wpAny_pure ⟨Code.quiet_builtin _ (by decide +kernel), codeAny_builtin F.entry_type_call ?_⟩
  rw [Around.under_plain (weight_type_call_type "set" [.str x t] []) rfl]
  have h1 := F.called_set.notType
  have h2 := F.called_set.canCreate
  have hct := F.typeCall_set_1 (.str x t)
  repeat (any_goals (first | assumption | wp_step))

  refine codeAny_mono (code_set_led1 (.str x t) (E := E) (Q₁ := fun obj s₁ => obj = .ref s.heap.objs.size ∧ s₁ = { s with heap := s.heap.push { cls := .type "set", dict := none, data := .set #[] 0 (.fresh 0 0 (!w.params.followText "set-order")) } }) ⟨rfl, rfl⟩) fun r s₁ hr => ?_
  cases r with
  | error e => exact hr
  | ok fl =>
    cases fl with
    | ret obj =>
      obtain ⟨rfl, rfl⟩ := hr
      have hS : (s.heap.push { cls := .type "set", dict := none, data := .set #[] 0 (.fresh 0 0 (!w.params.followText "set-order")) }).get? s.heap.objs.size = some { cls := .type "set", dict := none, data := .set #[] 0 (.fresh 0 0 (!w.params.followText "set-order")) } := Heap.get?_push_size _ rfl
      have hT : Shared.TypeIs { s with heap := s.heap.push { cls := .type "set", dict := none, data := .set #[] 0 (.fresh 0 0 (!w.params.followText "set-order")) } } (.ref s.heap.objs.size) "set" := ⟨_, hS, rfl⟩
      have hli := F.called_set.init.lookup
      have hbi := F.called_set.init.bind (.ref s.heap.objs.size)
      repeat (any_goals (first | assumption | wp_step))

      refine codeAny_mono (codeAny_call_builtin (R := wants (fun r s₂ => r = .none ∧ ∃ h' tk, s₂ = { s with heap := h', toks := tk } ∧ TxSet P w h' s.heap.objs.size (onceS [] (x.cps.toList.map fun c => (⟨#[c]⟩ : Str))) ∧
          (∀ b o, s.heap.get? b = some o → h'.get? b = some o)) E) F.called_set.init.plain F.entry_set_init (check_set_init_1 hT ?_)) fun r₂ s₂ hr₂ => ?_
      · have hsls : isSubtype (.type "str") (.type "set") = pure false := by rw [isSubtype_type]; kernel_rfl
        have hslf : isSubtype (.type "str") (.type "frozenset") = pure false := by rw [isSubtype_type]; kernel_rfl
        have hne : (Value.type "str" == Value.type "dict") = false := by decide
        unfold Builtin.«set.__init__» noKeywords Builtin.Frozenset.updateFrom
        generalize hPI : pyIter = PI
        wp_walk
        subst hPI
        refine wpAny_pyIter_str fun o St W hst => ?_
        refine wpAny_bind (wpAny_runValue ?_)
        have hh3 : A.in1.in1.in1.handled = none := by simp [hh]
        have hSf : s.heap.objs.size ∉ [(s.heap.push { cls := .type "set", dict := none, data := .set #[] 0 (.fresh 0 0 (!w.params.followText "set-order")) }).objs.size] := by
          rw [Heap.size_push]; simp only [List.mem_singleton]
          exact Nat.ne_of_lt (Nat.lt_succ_self _)
        have hval : ∀ (i : Nat) (v : Value), SignAt x i v → ∃ k t, (x.cps.toList.map fun c => (⟨#[c]⟩ : Str))[i]? = some k ∧ v = .str k t := fun i v hv => by
          obtain ⟨c, t', hc, rfl⟩ := hv
          exact ⟨⟨#[c]⟩, t', by rw [List.getElem?_map, Array.getElem?_toList, hc]; rfl, rfl⟩
        refine set_update_txts ((W _ hh3).toS) s.heap.objs.size
          hSf (x.cps.toList.map fun c => (⟨#[c]⟩ : Str)) hxl.symm hval (by rw [hxl]; exact hb) (x.cps.size - 0) 0 _ [] (by omega) (Nat.zero_le _) (Nat.le_refl _)
          hst ?hS0 ?hR
        case hS0 =>
          have hget : ((s.heap.push { cls := .type "set", dict := none, data := .set #[] 0 (.fresh 0 0 (!w.params.followText "set-order")) }).push o).get? s.heap.objs.size
              = some { cls := .type "set", dict := none, data := .set #[] 0 (.fresh 0 0 (!w.params.followText "set-order")) } := Heap.get?_push_of_some _ hS
          exact txset_fresh hget
        case hR =>
          intro s' hm hS'
          obtain ⟨h', g2, d', tk', os'⟩ := s'
          have eg : g2 = s.gens := hm.gens
          have ed : d' = s.drawn := hm.drawn
          have eo : os' = s.os := hm.os
          subst eg; subst ed; subst eo
          show wpAny _ _ _ _ _ _
          refine wpAny_pure ?_
          show wpAny _ _ (ret Value.none) _ _ _
          refine wpAny_pure ⟨rfl, h', tk', rfl, by rw [List.drop_zero] at hS'; exact hS', fun b o e => ?_⟩
          have hb0 : b < s.heap.objs.size := Heap.lt_size e
          have hb1 : b ≠ s.heap.objs.size := Nat.ne_of_lt hb0
          have hb2 : b ≠ (s.heap.push { cls := .type "set", dict := none, data := .set #[] 0 (.fresh 0 0 (!w.params.followText "set-order")) }).objs.size := by
            rw [Heap.size_push]; exact Nat.ne_of_lt (Nat.lt_succ_of_lt hb0)
          exact hm.heap b o (by simp only [List.mem_cons, List.mem_singleton, List.not_mem_nil, or_false, not_or]; exact ⟨hb1, hb2⟩) (Heap.get?_push_of_some _ (Heap.get?_push_of_some _ e))

      · cases r₂ with
        | error e => exact hr₂
        | ok fl₂ =>
          cases fl₂ with
          | ret r =>
            obtain ⟨rfl, h', tk, rfl, hS', hk'⟩ := hr₂
            repeat (any_goals (first | assumption | wp_step))
            exact h _ _ hS' hk'
          | _ => exact hr₂.elim
    | _ => exact hr.elim
/-- set(xs), xs a tuple of texts -/
theorem call_set_tup {l : Addr} {items : Array Value} (xs : List Str) {Q : Value → Shared → Prop} (hh : A.handled = none) (hl : s.heap.IsTuple l items) (hit : StrsAre items.toList xs) (hb : xs.length + 1 < scanBound)
    (h : ∀ (h' : Heap) (tk : Nat), TxSet P w h' s.heap.objs.size (onceS [] xs) → (∀ b o, s.heap.get? b = some o → h'.get? b = some o) → Q (.ref s.heap.objs.size) { s with heap := h', toks := tk }) :
    wpAny (model P w) A (call (.type "set") [.ref l]) Q E s := by
  have hisz : items.size = xs.length := by
    have q := StrsAre.len_eq hit
    rw [Array.length_toList] at q
    exact q
  obtain ⟨c, tl, hmro⟩ := F.called_set.mro
  have hmade := F.called_set.made
  have hsub := F.called_set.sub
  refine wpAny_call (codeAny_of_tree ?_)
  show wpAny _ _ (callAny (.type "set") _) _ _ _
  refine wpAny_pure ⟨Code.quiet_builtin _ (by decide +kernel), codeAny_builtin F.entry_type_call ?_⟩
  rw [Around.under_plain (weight_type_call_type "set" [.ref l] []) rfl]
  have h1 := F.called_set.notType
  have h2 := F.called_set.canCreate
  have hct := F.typeCall_set_1 (.ref l)
  repeat (any_goals (first | assumption | wp_step))

  refine codeAny_mono (code_set_led1 (.ref l) (E := E) (Q₁ := fun obj s₁ => obj = .ref s.heap.objs.size ∧ s₁ = { s with heap := s.heap.push { cls := .type "set", dict := none, data := .set #[] 0 (.fresh 0 0 (!w.params.followText "set-order")) } }) ⟨rfl, rfl⟩) fun r s₁ hr => ?_
  cases r with
  | error e => exact hr
  | ok fl =>
    cases fl with
    | ret obj =>
      obtain ⟨rfl, rfl⟩ := hr
      have hS : (s.heap.push { cls := .type "set", dict := none, data := .set #[] 0 (.fresh 0 0 (!w.params.followText "set-order")) }).get? s.heap.objs.size = some { cls := .type "set", dict := none, data := .set #[] 0 (.fresh 0 0 (!w.params.followText "set-order")) } := Heap.get?_push_size _ rfl
      have hT : Shared.TypeIs { s with heap := s.heap.push { cls := .type "set", dict := none, data := .set #[] 0 (.fresh 0 0 (!w.params.followText "set-order")) } } (.ref s.heap.objs.size) "set" := ⟨_, hS, rfl⟩
      have hli := F.called_set.init.lookup
      have hbi := F.called_set.init.bind (.ref s.heap.objs.size)
      repeat (any_goals (first | assumption | wp_step))

      refine codeAny_mono (codeAny_call_builtin (R := wants (fun r s₂ => r = .none ∧ ∃ h' tk, s₂ = { s with heap := h', toks := tk } ∧ TxSet P w h' s.heap.objs.size (onceS [] xs) ∧
          (∀ b o, s.heap.get? b = some o → h'.get? b = some o)) E) F.called_set.init.plain F.entry_set_init (check_set_init_1 hT ?_)) fun r₂ s₂ hr₂ => ?_
      · obtain ⟨ol, hol, hcl, nl, hdl⟩ := hl
        obtain ⟨ocls, odict, odata, oslots⟩ := ol
        simp only at hcl hdl
        subst hcl; subst hdl
        have hol' : (s.heap.push { cls := .type "set", dict := none, data := .set #[] 0 (.fresh 0 0 (!w.params.followText "set-order")) }).get? l = some { cls := .type "tuple", dict := odict, data := .seq items nl, slots := oslots } := Heap.get?_push_of_some _ hol
        have hsls := F.sub_tuple_set
        have hslf := F.sub_tuple_frozenset
        have hne : (Value.type "tuple" == Value.type "dict") = false := by decide
        have hl1 : (s.heap.push { cls := .type "set", dict := none, data := .set #[] 0 (.fresh 0 0 (!w.params.followText "set-order")) }).IsTuple l items := ⟨_, hol', rfl, nl, rfl⟩
        unfold Builtin.«set.__init__» noKeywords Builtin.Frozenset.updateFrom
        generalize hPI : pyIter = PI
        wp_walk
        subst hPI

        refine wpAny_pyIter_tuple hl1 ?_
        refine wpAny_bind (wpAny_runValue ?_)
        have hlS : l < s.heap.objs.size := Heap.lt_size hol
        have hh3 : A.in1.in1.in1.handled = none := by simp [hh]
        have hneI : l ≠ (s.heap.push { cls := .type "set", dict := none, data := .set #[] 0 (.fresh 0 0 (!w.params.followText "set-order")) }).objs.size := by
          rw [Heap.size_push]; exact Nat.ne_of_lt (Nat.lt_succ_of_lt hlS)
        have hSf : s.heap.objs.size ∉ [(s.heap.push { cls := .type "set", dict := none, data := .set #[] 0 (.fresh 0 0 (!w.params.followText "set-order")) }).objs.size, l] := by
          rw [Heap.size_push]; simp only [List.mem_cons, List.mem_singleton, List.not_mem_nil, or_false, not_or]
          exact ⟨Nat.ne_of_lt (Nat.lt_succ_self _), Nat.ne_of_gt hlS⟩
        have hval : ∀ (i : Nat) (v : Value), items[i]? = some v → ∃ k t, xs[i]? = some k ∧ v = .str k t := fun i v hv => by
          obtain ⟨y, t, e1, e2⟩ := StrsAre.item hit i v (by rw [Array.getElem?_toList]; exact hv)
          exact ⟨y, t, e2, e1⟩
        refine set_update_txts ((Walks.tuple hh3 _ l hneI items).toS) s.heap.objs.size
          hSf xs hisz hval hb (items.size - 0) 0 _ [] (by omega) (Nat.zero_le _) (Nat.le_refl _)
          ⟨⟨_, Heap.get?_push_size _ rfl, rfl, rfl⟩, (hl1.push _)⟩ ?hS0 ?hR
        case hS0 =>
          have hget : ((s.heap.push { cls := .type "set", dict := none, data := .set #[] 0 (.fresh 0 0 (!w.params.followText "set-order")) }).push { cls := .type "tuple_iterator", data := .fields #[.ref l, .int 0 0] }).get? s.heap.objs.size
              = some { cls := .type "set", dict := none, data := .set #[] 0 (.fresh 0 0 (!w.params.followText "set-order")) } := Heap.get?_push_of_some _ hS
          exact txset_fresh hget
        case hR =>
          intro s' hm hS'
          obtain ⟨h', g2, d', tk', os'⟩ := s'
          have eg : g2 = s.gens := hm.gens
          have ed : d' = s.drawn := hm.drawn
          have eo : os' = s.os := hm.os
          subst eg; subst ed; subst eo
          show wpAny _ _ _ _ _ _
          refine wpAny_pure ?_
          show wpAny _ _ (ret Value.none) _ _ _
          refine wpAny_pure ⟨rfl, h', tk', rfl, by rw [List.drop_zero] at hS'; exact hS', fun b o e => ?_⟩
          have hb0 : b < s.heap.objs.size := Heap.lt_size e
          have hb1 : b ≠ s.heap.objs.size := Nat.ne_of_lt hb0
          have hb2 : b ≠ (s.heap.push { cls := .type "set", dict := none, data := .set #[] 0 (.fresh 0 0 (!w.params.followText "set-order")) }).objs.size := by
            rw [Heap.size_push]; exact Nat.ne_of_lt (Nat.lt_succ_of_lt hb0)
          exact hm.heap b o (by simp only [List.mem_cons, List.mem_singleton, List.not_mem_nil, or_false, not_or]; exact ⟨hb1, hb2⟩) (Heap.get?_push_of_some _ (Heap.get?_push_of_some _ e))

      · cases r₂ with
        | error e => exact hr₂
        | ok fl₂ =>
          cases fl₂ with
          | ret r =>
            obtain ⟨rfl, h', tk, rfl, hS', hk'⟩ := hr₂
            repeat (any_goals (first | assumption | wp_step))
            exact h _ _ hS' hk'
          | _ => exact hr₂.elim
    | _ => exact hr.elim
end
end DLS
end
end
section
section
/-! DL, 17: sorted(set(..)) of texts, the rule -/
namespace DLS
open PySem PySem.Spec PyProof.Rows L2 PySem.Froz
section
variable {P : Program} {w : World} {A : Around} {E : Value → Shared → Prop} {s : Shared}
theorem strsAre_perm {vs us : List Value} {l : List Str} (h : StrsAre us l) (p : vs.Perm us) : ∃ l', StrsAre vs l' ∧ l'.Perm l := by
  induction p generalizing l with
  | nil => cases h; exact ⟨[], .nil, .refl _⟩
  | cons x p ih =>
    cases h with
    | cons y t h =>
      obtain ⟨l', a, b⟩ := ih h
      exact ⟨y :: l', .cons y t a, b.cons y⟩
  | swap x y l0 =>
    cases h with
    | cons y1 t1 h => cases h with | cons y2 t2 h => exact ⟨y2 :: y1 :: _, .cons y2 t2 (.cons y1 t1 h), .swap ..⟩
  | trans p1 p2 ih1 ih2 =>
    obtain ⟨l1, a1, b1⟩ := ih2 h
    obtain ⟨l2, a2, b2⟩ := ih1 a1
    exact ⟨l2, a2, b2.trans b1⟩
theorem sorted_txts {a : Addr} {l : List Str} {Q : Value → Shared → Prop} (R : TxSet P w s.heap a l) (hh : A.handled = none) (h64 : l.length < 4000)
    (hQ : ∀ s' p (out : Array Value) (c : Nat) (ys : List Str), (∀ b o, s.heap.get? b = some o → s'.heap.get? b = some o) → s'.gens = s.gens → s'.os = s.os → s.heap.objs.size ≤ p →
      s'.heap.get? p = some (seqObj "list" out c) → StrsAre out.toList ys → ys.Perm l → sortedS ys = true → Q (.ref p) s') :
    wpAny (model P w) A (call (.builtin "sorted") [.ref a]) Q E s := by
  obtain ⟨D, ho, F, ⟨us, pu, hu⟩, hr, hl⟩ := R.ex
  obtain ⟨es, ep, t⟩ := D
  have hf : t.fits es.size = true := F.fit
  have hsz : es.size = l.length := F.sz
  refine Calls.call_function_entry kind_sorted plain_sorted entry_sorted (args_sorted1 _) ?_
  unfold Builtin.«sorted»
  refine wpAny_bind (m := checkCount "sorted" 1 1 _) (wpAny_pure ?_)
  refine wpAny_bind (collect_set (A := A.in1) hh ⟨_, ho, rfl, rfl⟩ hf (by rw [hsz]; unfold scanBound; omega) hr hl fun s1 vs k1 hz g1 o1 pm => ?_)
  have pv : vs.Perm us := pm.trans pu
  obtain ⟨l', hS, pl⟩ := strsAre_perm hu pv
  have hvl : vs.length = l.length := by rw [StrsAre.len_eq hS, pl.length_eq]
  refine wpAny_bind (wpAny_newList ?_ (by rw [hvl, sizeLine_eq]; omega))
  have hoL : (s1.heap.push (seqObj "list" vs.toArray 0)).get? s1.heap.objs.size = some (seqObj "list" vs.toArray 0) := Heap.get?_push_size _ rfl
  refine wpAny_bind (wpAny_holding (wpAny_call_entry slot_list_sort ⟨_, hoL, rfl⟩ entry_list_sort (list_sort_treeKAny strKind_oneLt hoL hS.keysOf (fun v₁ v₂ rest e => keyKind_strs (by rw [← e]; exact hS)) (by rw [hvl, sizeLine_eq]; omega) fun st' hp hs => ⟨_, rfl, ?_⟩) (args_list_sort _)))
  obtain ⟨ys, a1, a2, a3⟩ := sorted_out_str hS hp hs
  obtain ⟨c, hc⟩ := sortedHeap_at (vs := vs) (out := (arrOf st').map (·.2)) hoL
  refine wpAny_pure ⟨_, rfl, hQ _ s1.heap.objs.size ((arrOf st').map (·.2)) c ys (fun b u e => ?_) g1 o1 hz hc a1 (a2.trans pl) a3⟩
  have q := k1 b u e
  have hlt := Heap.lt_size q
  show (sortedHeap (s1.heap.push (seqObj "list" vs.toArray 0)) s1.heap.objs.size vs ((arrOf st').map (·.2))).get? b = some u
  rw [sortedHeap_old (Nat.ne_of_lt hlt) (by rw [size_push']; exact Nat.lt_succ_of_lt hlt)]
  exact Heap.get?_push_of_some _ q
end
/-- the set of the texts l at a -/
def SetX (P : Program) (w : World) (a : Addr) (l : List Str) : HO := .ext fun h => TxSet P w h a l
theorem setX_new {w : World} {P : Program} {H : Hp} {h : Heap} {a : Addr} {l : List Str} (R : TxSet P w h a l) : ObjOk P w H h a (SetX P w a l) := by
  have ⟨D, ho, _⟩ := R.ex
  exact ⟨R, ⟨_, ho⟩, fun h1 h2 p k => TxSet.keep p k⟩
section
variable {X : Cx}
theorem setX_get {pins : List (Addr × Obj)} {σ : L2.St} {H : Hp} {s : Shared} {a : Addr} {l : List Str} (I : Inv X pins σ H s) (ha : H a = some (SetX X.prog X.w a l)) : TxSet X.prog X.w s.heap a l := (I.hok a _ ha).1
def rSetT (K : PySem.W.Frag) (P : Program) (w : World) : List V → Hp → VK → Prop := fun vs H Q => ∃ (a : Addr) (xs : List Str), vs = [V.ref a] ∧ SqL K H a (xs.map V.str) ∧ xs.length + 1 < scanBound ∧ ∀ p, H p = none → Q (.ref p) (upd H p (SetX P w p (onceS [] xs)))
theorem cr_setT (hc : X.calm = true) : CallR X (.type "set") (rSetT X.K X.prog X.w) := by
  intro pins s σ H vs us Q I r h
  obtain ⟨a, xs, rfl, hs, hb, q⟩ := h
  obtain ⟨its, rv, hl, _⟩ := I.list hs
  rw [Vals.ref1 r]
  refine call_set_txts xs (I.ok.hd hc) hl.isList rv.strs hb fun h' tk R k => ?_
  exact ⟨.ref s.heap.objs.size, _, I.laid (t' := tk) k (Nat.le_refl _) (setX_new R), rfl, q _ (I.hok.fresh (Nat.le_refl _))⟩
def rSetC (P : Program) (w : World) : List V → Hp → VK → Prop := fun vs H Q => ∃ x : Str, vs = [V.str x] ∧ x.cps.size + 1 < scanBound ∧ ∀ p, H p = none → Q (.ref p) (upd H p (SetX P w p (onceS [] (x.cps.toList.map fun c => (⟨#[c]⟩ : Str)))))
theorem cr_setC (hc : X.calm = true) : CallR X (.type "set") (rSetC X.prog X.w) := by
  intro pins s σ H vs us Q I r h
  obtain ⟨x, rfl, hb, q⟩ := h
  obtain ⟨u, rfl, rx⟩ := vals1 r
  obtain ⟨t, rfl⟩ := rx
  refine call_set_str (I.ok.hd hc) hb fun h' tk R k => ?_
  exact ⟨.ref s.heap.objs.size, _, I.laid (t' := tk) k (Nat.le_refl _) (setX_new R), rfl, q _ (I.hok.fresh (Nat.le_refl _))⟩
def rSetU (K : PySem.W.Frag) (P : Program) (w : World) : List V → Hp → VK → Prop := fun vs H Q => ∃ (a : Addr) (xs : List Str), vs = [V.ref a] ∧ SqT K H a (xs.map V.str) ∧ xs.length + 1 < scanBound ∧ ∀ p, H p = none → Q (.ref p) (upd H p (SetX P w p (onceS [] xs)))
theorem cr_setU (hc : X.calm = true) : CallR X (.type "set") (rSetU X.K X.prog X.w) := by
  intro pins s σ H vs us Q I r h
  obtain ⟨a, xs, rfl, hs, hb, q⟩ := h
  obtain ⟨its, rv, hl, _⟩ := I.tuple hs
  rw [Vals.ref1 r]
  refine call_set_tup xs (I.ok.hd hc) hl rv.strs hb fun h' tk R k => ?_
  exact ⟨.ref s.heap.objs.size, _, I.laid (t' := tk) k (Nat.le_refl _) (setX_new R), rfl, q _ (I.hok.fresh (Nat.le_refl _))⟩
def rSetA (K : PySem.W.Frag) (P : Program) (w : World) : List V → Hp → VK → Prop := fun xs H Q => rSetT K P w xs H Q ∨ (rSetC P w xs H Q ∨ rSetU K P w xs H Q)
theorem cr_setA (hc : X.calm = true) : CallR X (.type "set") (rSetA X.K X.prog X.w) := CallR.or (cr_setT hc) (CallR.or (cr_setC hc) (cr_setU hc))
def rSortedX (P : Program) (w : World) : List V → Hp → VK → Prop := fun vs H Q => ∃ (a : Addr) (l : List Str), vs = [V.ref a] ∧ H a = some (SetX P w a l) ∧ l.length < 4000 ∧ ∀ (ys : List Str) (p : Addr), ys.Perm l → sortedS ys = true → H p = none → Q (.ref p) (upd H p (.lst (ys.map V.str)))
theorem cr_sortedX (hc : X.calm = true) : CallR X (.builtin "sorted") (rSortedX X.prog X.w) := by
  intro pins s σ H vs us Q I r h
  obtain ⟨a, l, rfl, ha, h64, q⟩ := h
  rw [Vals.ref1 r]
  refine sorted_txts (setX_get I ha) (I.ok.hd hc) h64 fun s' p out c ys k g o hp hg hi hm hs => ?_
  have hlen : (ys.map V.str).length ≤ sizeLine := by rw [List.length_map, hm.length_eq]; exact DL.small4k h64
  have hn : H p = none := I.hok.fresh hp
  have J : Inv X pins σ (upd H p (.lst (ys.map V.str))) { s with heap := s'.heap, gens := s'.gens, drawn := s'.drawn, toks := s'.toks } :=
    I.call (ch := []) (Un.laid k hp hn) (I.hok.laid k hp ⟨hlen, out.toList, c, vals_of_strs hi, hg⟩) (by rw [g]; exact I.bare) (fun _ z => nomatch z)
  have e : s' = { s with heap := s'.heap, gens := s'.gens, drawn := s'.drawn, toks := s'.toks } := by
    cases s'
    cases s
    cases o
    rfl
  rw [e]
  exact ⟨.ref p, _, J, rfl, q ys p hm hs hn⟩
end
end DLS
namespace DL
open PySem PySem.Spec PyProof.Rows L2
/-- each once -/
def onceN : List (List Nat) → List (List Nat) → List (List Nat)
  | l, [] => l
  | l, x :: xs => onceN (if x ∈ l then l else x :: l) xs
theorem onceN_S : ∀ (xs l : List (List Nat)), DLS.onceS (l.map SX.S) (xs.map SX.S) = (onceN l xs).map SX.S
  | [], l => rfl
  | x :: xs, l => by
    rw [List.map_cons, DLS.onceS, onceN]
    have e : (SX.S x ∈ l.map SX.S) ↔ x ∈ l := by
      rw [List.mem_map]
      exact ⟨fun ⟨y, h1, h2⟩ => SX.S_inj h2 ▸ h1, fun h => ⟨x, h, rfl⟩⟩
    by_cases h : x ∈ l
    · rw [if_pos h, if_pos (e.mpr h)]; exact onceN_S xs l
    · rw [if_neg h, if_neg (fun z => h (e.mp z)), ← List.map_cons]; exact onceN_S xs (x :: l)
theorem onceN_mem : ∀ (xs l : List (List Nat)) (y : List Nat), y ∈ onceN l xs ↔ y ∈ l ∨ y ∈ xs
  | [], l, y => by simp [onceN]
  | x :: xs, l, y => by
    rw [onceN, onceN_mem xs, List.mem_cons]
    by_cases h : x ∈ l
    · rw [if_pos h]
      constructor
      · rintro (a | a)
        · exact .inl a
        · exact .inr (.inr a)
      · rintro (a | a | a)
        · exact .inl a
        · exact .inl (a ▸ h)
        · exact .inr a
    · rw [if_neg h, List.mem_cons]
      constructor
      · rintro ((a | a) | a)
        · exact .inr (.inl a)
        · exact .inl a
        · exact .inr (.inr a)
      · rintro (a | a | a)
        · exact .inl (.inr a)
        · exact .inl (.inl a)
        · exact .inr a
theorem onceN_len (xs l : List (List Nat)) : (onceN l xs).length ≤ l.length + xs.length := by
  have := DLS.onceS_len (xs.map SX.S) (l.map SX.S)
  rw [onceN_S, List.length_map, List.length_map, List.length_map] at this
  exact this
def gSortSet : FF := fun ws S => match ws with
  | [w] => (match val w S with
    | some (.lst ds) => (match strsOf ds with
      | some xs => if xs.length < 4000 then .ok (.d (.lst ((sortL (onceN [] xs)).map D.str))) S else .no
      | none => .no)
    | some (.tup ds) => (match strsOf ds with
      | some xs => if xs.length < 4000 then .ok (.d (.lst ((sortL (onceN [] xs)).map D.str))) S else .no
      | none => .no)
    | some (.str l) => if l.length < 4000 then .ok (.d (.lst ((sortL (onceN [] (l.map fun c => [c]))).map D.str))) S else .no
    | _ => .no)
  | _ => .no
section
variable {X : Cx} {Z : WX} {e : Expr} {fe : FE} {fs : FL} {p1 p2 p3 pos : Pos} {t : TA}
theorem sortSet_fin {σ : L2.St} {G1 : Hp} {c1 : List Addr} {S1 : Store} {H1 : Hp} {xs : List (List Nat)} {Q : VK} {p : Addr} (g1 : Good X.K G1 c1 S1 H1) (h64 : xs.length < 4000) (e4 : ∀ y ∈ xs, y.length ≤ sizeLine ∧ ∀ c ∈ y, c < 1114112)
    (h1 : Wants X.K Z σ (RepW X.K) G1 c1 H1 (.ok (.d (.lst ((sortL (onceN [] xs)).map D.str))) S1) Q) (hp : H1 p = none) : DLS.rSortedX X.prog X.w [.ref p] (upd H1 p (DLS.SetX X.prog X.w p (DLS.onceS [] (xs.map SX.S)))) Q := by
  have hle : (onceN [] xs).length ≤ xs.length := by have := onceN_len xs []; simpa using this
  have g2 : Good X.K G1 c1 S1 (upd H1 p (DLS.SetX X.prog X.w p (DLS.onceS [] (xs.map SX.S)))) := g1.setD (g1.free hp) (fun z => by
    obtain ⟨n, hn, e'⟩ := List.mem_iff_getElem.mp z
    obtain ⟨_, x, _, ca⟩ := g1.cell n p (by rw [List.getElem?_eq_getElem hn, e'])
    obtain ⟨o, ho⟩ := ca.some
    rw [hp] at ho; cases ho) _
  have ev2 : Ev G1 c1 H1 G1 c1 (upd H1 p (DLS.SetX X.prog X.w p (DLS.onceS [] (xs.map SX.S)))) := (Ev.refl ..).setD hp _
  refine ⟨p, DLS.onceS [] (xs.map SX.S), rfl, upd_same, ?_, fun ys p2 hp1 hs hn => ?_⟩
  · have e6 := onceN_S xs []
    rw [List.map_nil] at e6
    rw [e6, List.length_map]; omega
  · have e6 := onceN_S xs []
    rw [List.map_nil] at e6
    rw [e6] at hp1
    rw [sorted_strs_eq hp1 hs]
    obtain ⟨ev3, g3⟩ := g2.new hn (.lst (((sortL (onceN [] xs)).map SX.S).map V.str))
    refine h1 _ _ _ _ (ev2.trans ev3) g3 (.d (.lst upd_same (reps_strs fun y hy => ?_) ?_))
    · have := (onceN_mem xs [] y).mp ((sortL_perm _).mem_iff.mp hy)
      exact e4 y (this.resolve_left (by simp))
    · rw [List.length_map, (sortL_perm _).length_eq]; exact DL.small4k (by omega)
theorem ref_sortSet (h : RefL X.K Z t fs) : Ref X.K Z (tCB (DLS.rSortedX X.prog X.w) (tCons (tCB (DLS.rSetA X.K X.prog X.w) t) tNil)) (fCall gSortSet fs) := by
  intro ρ S σ H G c Q gd re q
  refine h ρ S σ H G c _ gd re (Wants.step q fun ws S1 G1 c1 H1 vs e1 g1 rx h1 => ?_)
  unfold gSortSet at h1
  split at h1
  · obtain ⟨v, rfl, rv⟩ := w1 rx
    split at h1
    · rename_i ds ev
      obtain ⟨a, us, rfl, ha, q, z⟩ := (val_rep g1 rv ev).lst' g1.sub
      split at h1
      · rename_i xs es
        obtain ⟨e3, e4, e5⟩ := strs_rep q es
        subst e3
        split at h1
        · rename_i h64
          exact .inl ⟨a, xs.map SX.S, rfl, .of ha, by rw [List.length_map]; unfold scanBound; omega, fun p hp => sortSet_fin g1 h64 e4 h1 hp⟩
        · exact h1.elim
      · exact h1.elim
    · rename_i ds ev
      have rt := val_rep g1 rv ev
      cases rt with | of rt => cases rt with | tup ha q z =>
      split at h1
      · rename_i xs es
        obtain ⟨e3, e4, e5⟩ := strs_rep q es
        subst e3
        split at h1
        · rename_i h64
          exact .inr (.inr ⟨_, xs.map SX.S, rfl, g1.seqT ha, by rw [List.length_map]; unfold scanBound; omega, fun p hp => sortSet_fin g1 h64 e4 h1 hp⟩)
        · exact h1.elim
      · exact h1.elim
    · rename_i l ev
      split at h1
      · rename_i h64
        have rt := val_rep g1 rv ev
        cases rt with | of rt => cases rt with | str z1 z2 =>
        have em : (l.toArray.toList.map fun c => (⟨#[c]⟩ : Str)) = (l.map fun c => [c]).map SX.S := by rw [List.map_map]; rfl
        refine .inr (.inl ⟨_, rfl, ?_, fun p hp => ?_⟩)
        · show l.toArray.size + 1 < scanBound
          unfold scanBound
          rw [List.size_toArray]; omega
        · have := sortSet_fin (xs := l.map fun c => [c]) g1 (by rw [List.length_map]; exact h64) (fun y hy => by
            obtain ⟨c, hc, rfl⟩ := List.mem_map.mp hy
            exact ⟨by show 1 ≤ sizeLine; decide, fun c' hc' => z2 c' (by rw [List.mem_singleton.mp hc']; exact hc)⟩) h1 hp
          rw [← em] at this
          exact this
      · exact h1.elim
    · exact h1.elim
  · exact h1.elim
theorem de_sortSet (hm1 : X.mg "sorted" = none) (hm2 : X.mg "set" = none) (ha : DA X Z [e] fs) (hc : X.calm = true := by rfl) (hg1 : Gl X "sorted" := by rfl) (hg2 : Gl X "set" := by rfl)
    (hs : starEach [e] X.env = (false, eval e X.env) :: starEach [] X.env := by rfl)
    (hs2 : starEach [(.Call (.Name "set" p1) [e] [] p2 : Expr)] X.env = (false, eval (.Call (.Name "set" p1) [e] [] p2) X.env) :: starEach [] X.env := by rfl) :
    DE X Z (.Call (.Name "sorted" p3) [.Call (.Name "set" p1) [e] [] p2] [] pos) (fCall gSortSet fs) :=
  let ⟨_, p, q⟩ := ha
  ⟨_, pe_callB (DLS.cr_sortedX hc) hg1 hm1 (by rfl) (pa_cons (pe_callTy (DLS.cr_setA hc) hg2 hm2 (by rfl) p (he := hs)) pa_nil hs2) (he := hs2), ref_sortSet q⟩
end
end DL
end
section
/-! DL, 18: the head: what is seen of the module behind its top; the law's end -/
namespace DL
open PySem PySem.Spec PyProof.Rows L2
/-! ### where things stand -/
theorem propB_ok {K : Fg} {x f : Str} (h : propB K x f = true) : PropOf K (He.ga K x) f (propA K x f) (getA x f K) := by
  unfold propB at h
  rw [Bool.and_eq_true, Bool.and_eq_true, Bool.and_eq_true] at h
  obtain ⟨h1, h2, h3, h4⟩ := h
  refine ⟨He.eqO_ok h1, He.eqO_ok h2, of_decide_eq_true h3, ?_⟩
  split at h4
  · rename_i g rest e
    have := of_decide_eq_true h4
    exact ⟨rest, by rw [e, this]⟩
  · cases h4
theorem hasB_ok {K : Fg} {x m : Str} (h : hasB K x m = true) : Has K (He.ga K x) (He.ma K (He.ga K x) m) m := by
  unfold hasB at h
  rw [Bool.and_eq_true] at h
  exact ⟨He.eqO_ok h.1, h.2⟩
theorem isiB'_ok {K : Fg} {own : List Str} {sub : Str → Str → Bool} (h : isiB' K own sub = true) : IsiK K own sub := by
  unfold isiB' at h
  rw [Bool.and_eq_true, Bool.and_eq_true, Bool.and_eq_true] at h
  obtain ⟨h1, h2, h3, h4⟩ := h
  refine ⟨fun c hc => ?_, fun c hc n hn => of_decide_eq_true (List.all_eq_true.mp (List.all_eq_true.mp h2 c hc) n hn), fun t ht x hx => of_decide_eq_true (List.all_eq_true.mp (List.all_eq_true.mp h3 t ht) x hx), fun c hc x hx => of_decide_eq_true (List.all_eq_true.mp (List.all_eq_true.mp h4 c hc) x hx)⟩
  have h := List.all_eq_true.mp h1 c hc
  rw [Bool.and_eq_true, Bool.and_eq_true, Bool.and_eq_true, Bool.and_eq_true] at h
  obtain ⟨a1, a2, a3, a4, a5⟩ := h
  exact ⟨He.cls_ok a1, He.eqO_ok a2, He.eqO_ok a3, of_decide_eq_true a4, of_decide_eq_true a5⟩
/-! ### the Hook -/
theorem funA {K : Fg} {x : DefA} (e : fnA K x = x.d.val) (c : okA K x = true) : ∃ fd, FunD K x.d.name x.d.qual x.d.params x.d.body x.d.scope [] [] (x.ad K) fd := by
  obtain ⟨kp, c2⟩ := He.ba c
  unfold fnA at e
  cases q : K.lookup (x.ad K) with
  | none =>
    rw [q] at c2
    cases c2
  | some o =>
    obtain ⟨oc, od, dt, osl⟩ := o
    rw [q] at c2 e
    cases dt with
    | func fd =>
      obtain ⟨n1, n2, n3, n4, n5, n6, n7, n8, n9, n10, n11, n12, n13, n14, n15⟩ := fd
      have e2 : (some (n1, n2, n3, n4, n5, n6, n7, n15) : He.FnW) = some (x.d.name, x.d.qual, x.d.params, .stmts x.d.body, x.d.scope, mainGlobals, [], builtinsNs) := e
      simp only [Option.some.injEq, Prod.mk.injEq] at e2
      obtain ⟨h1, h2, h3, h4, h5, h6, h7, h8⟩ := e2
      subst h1 h2 h3 h4 h5 h6 h7 h8
      have c3 : (PySem.W.codeIn K n13 x.d.qual && (He.dflB K n8 [] && He.kwdB K n9 [])) = true := c2
      obtain ⟨k1, k2⟩ := He.ba c3
      obtain ⟨k3, k4⟩ := He.ba k2
      exact ⟨_, ⟨oc, od, n8, n9, n10, n11, n12, n13, n14, osl, rfl, q, k1, He.dflB_ok k3, He.kwdB_ok k4⟩, kp⟩
    | _ => cases c2
section
variable {fs : List (Fg → Bool)} {fn : List DefA} {K : Fg}
theorem SaysX.fact (c : SaysX fs fn K) (i : Nat) {f : Fg → Bool} (h : fs[i]? = some f := by rfl) : f K = true := by
  have c1 := (He.ba (show ((fs.all fun f => f K) && fn.all fun d => okA K d) = true from congrArg (fun z : He.AlD => z.1) c)).1
  exact List.all_eq_true.mp c1 f (List.mem_of_getElem? h)
theorem SaysX.def_ (c : SaysX fs fn K) (i : Nat) {d : DefA} (h : fn[i]? = some d := by rfl) : ∃ fd, FunD K d.d.name d.d.qual d.d.params d.d.body d.d.scope [] [] (d.ad K) fd := by
  have c2 := (He.ba (show ((fs.all fun f => f K) && fn.all fun d => okA K d) = true from congrArg (fun z : He.AlD => z.1) c)).2
  have e : fn.map (fun d => fnA K d) = fn.map fun x => x.d.val := congrArg (fun z : He.AlD => z.2) c
  have e2 : (fn.map fun d => fnA K d)[i]? = (fn.map fun x => x.d.val)[i]? := by rw [e]
  rw [List.getElem?_map, List.getElem?_map, h] at e2
  exact funA (Option.some.inj e2) (List.all_eq_true.mp c2 d (List.mem_of_getElem? h))
end
/-! ### the law's end -/
theorem law_callD {P : Program} {w : World} {K : Fg} {mg mb : Str → Option Value} {k : Nat} {fa a : Addr} {fd : FuncData} {x : Str} {F : FF} {s₁ : Shared} {vs : List Value} {ns : List Int}
    (KX : K.In s₁.heap) (hns : s₁.heap.Ns mainGlobals mg) (hb : s₁.heap.Ns builtinsNs mb) (hbb : ∀ x : Str, x ≠ "__name__" → mb x = bootBuiltins x) (hlim : s₁.heap.NoLimit) (hg : s₁.gens = #[])
    (ha : s₁.heap.get? a = some { cls := .type "list", data := .seq vs.toArray }) (hi : IntsAre vs ns) (hl : ns.length ≤ 63) (hr : Room k callerA)
    (hF : ∀ base : Heap, K.In base → base.Ns mainGlobals mg → FOk P w K mg base k fa fd [x] F) (hbind : ∀ (s : Shared) (u : Value), BindsTo s fd ⟨[u], []⟩ [(x, u)])
    (hlaw : ∃ S, F [.d (.scr ns)] [] = .ok (.d (.bl true)) S) :
    codeAny (model P w) callerA (.call (.ref fa) ⟨[.ref a], []⟩) (fun r s' => r = .ok (.ret (.bool true)) ∧ OldK s₁.heap s'.heap ∧ s'.os = s₁.os ∧ AllBare s'.gens) s₁ := by
  have rv := vals_ints hi
  have lenV := hi.length
  have hsp : ∀ H : Hp, SqL K H a (ns.map V.int) → dsp K F [.ref a] H (fun v _ => v = .bl true) fun _ _ _ => False := fun H hS => by
    refine ⟨H, [], [], [.d (.scr ns)], ⟨.refl _, rfl, .nil, fun n b e => by simp at e⟩, .cons (.d (.scr hS hl)) .nil, ?_⟩
    obtain ⟨S, e⟩ := hlaw
    rw [e]
    intro G' c' H' b _ _ r
    cases r with | d r => cases r; rfl
  have core : ∀ H : Hp, Only H → SqL K H a (ns.map V.int) → HOk P w H s₁.heap → (∀ b, H b ≠ none → b = a) → (H a ≠ none → K.lookup a = none) →
      codeAny (model P w) callerA (.call (.ref fa) ⟨[.ref a], []⟩) (fun r s' => r = .ok (.ret (.bool true)) ∧ OldK s₁.heap s'.heap ∧ s'.os = s₁.os ∧ AllBare s'.gens) s₁ := by
    intro H hO hS hok hA hK
    have base_of : ∀ {b : Addr} {o : Obj}, s₁.heap.get? b = some o → H b = none → (hidT s₁.heap H).get? b = some o := fun e n => hidT_get e n
    have noA : ∀ {b : Addr} {o : Obj} {es : Array DictEntry} {ep : Nat}, s₁.heap.get? b = some o → o.data = .dict es ep → H b = none := fun {b o es ep} e d => by
      cases q : H b with
      | none => rfl
      | some u =>
        have e' : b = a := hA b (by rw [q]; simp)
        subst e'
        rw [ha] at e; cases e
        have d' : Data.seq vs.toArray _ = Data.dict es ep := d
        cases d'
    have nsK : ∀ {b : Addr} {m : Str → Option Value}, s₁.heap.Ns b m → (hidT s₁.heap H).Ns b m := fun {b m} ⟨o, es, ep, e, d, r⟩ => ⟨o, es, ep, base_of e (noA e d), d, r⟩
    have hKb : K.In (hidT s₁.heap H) := fun b o e => base_of (KX b o e) (by
      cases q : H b with
      | none => rfl
      | some u =>
        have e' : b = a := hA b (by rw [q]; simp)
        subst e'
        rw [hK (by rw [q]; simp)] at e; cases e)
    have hM : Mod K mg (hidT s₁.heap H) := ⟨hKb, nsK hns, ⟨mb, nsK hb, hbb⟩, let ⟨mc, h1, h2⟩ := hlim; ⟨mc, nsK h1, h2⟩⟩
    have e0 : Env0 P w K mg (hidT s₁.heap H) callerA [] s₁ H := ⟨rfl, hM, fun b o e => of_hidT e, Nat.le_of_eq (hidT_size _ _), trivial, fun b hb => absurd (show b ∈ ([] : List Addr) from hb) (by simp), hok, .of_eq hg⟩
    refine codeAny_mono ((hF _ hKb (nsK hns)).run callerA [] s₁ H ⟨[.ref a], []⟩ [.ref a] [.ref a] _ _ rfl hr e0 (hbind s₁ (.ref a)) rfl (.cons rfl .nil) (hsp H hS)) fun r s' h => ?_
    cases r with
    | error e =>
      obtain ⟨_, _, _, _, _, _, _, _, _, _, _, _, z⟩ := h
      exact z.elim
    | ok fl =>
      cases fl with
      | next => exact False.elim h
      | brk => exact False.elim h
      | cont => exact False.elim h
      | ret u =>
        obtain ⟨v, H', os, bare, un, hok', r', q⟩ := h
        have q' : v = .bl true := q
        subst q'
        obtain rfl : u = Value.bool true := r'
        refine ⟨rfl, OldK.of_keep fun b o e => ?_, os, bare⟩
        cases q : H b with
        | none => exact un.keep b o e q (by intro z; exact absurd (show b ∈ ([] : List Addr) from z) (by simp)) (by simp)
        | some u =>
          rcases hO b with z | ⟨ob, xs, z⟩
          · rw [q] at z; cases z
          · have z2 := un.frzs b ob _ z
            obtain ⟨e1, _⟩ := hok b _ z
            obtain ⟨e2, _⟩ := hok' b _ z2
            rw [e] at e1; cases e1
            exact e2
  have hl2 : ns.length ≤ sizeLine := Nat.le_trans hl (by decide)
  cases hk : K.lookup a with
  | some o =>
    have e := KX a o hk
    rw [ha] at e
    cases e
    refine core (fun _ => none) (fun _ => .inl rfl) (.inr ⟨_, vs.toArray, _, hk, rfl, rfl, rfl, by rw [List.size_toArray, lenV]; exact hl2, by simpa using rv⟩) (fun b u z => by have z' : (none : Option HO) = some u := z; cases z') (fun b z => absurd rfl z) fun z => absurd rfl z
  | none =>
    refine core (fun b => if b = a then some (.frz { cls := .type "list", data := .seq vs.toArray } (.lst (ns.map V.int))) else none) (fun b => ?_) (.inl (.inr ⟨{ cls := .type "list", data := .seq vs.toArray }, if_pos rfl⟩)) (fun b u z => ?_) (fun b z => ?_) fun _ => hk
    · by_cases hb : b = a
      · exact .inr ⟨_, _, if_pos hb⟩
      · exact .inl (if_neg hb)
    · by_cases hb : b = a
      · have z' := (if_pos hb).symm.trans z
        cases z'
        subst hb
        exact ⟨ha, by rw [List.length_map]; exact hl2, vs, _, rv, ha⟩
      · have z' := (if_neg hb).symm.trans z
        cases z'
    · by_cases hb : b = a
      · exact hb
      · exact absurd (if_neg hb) z
/-- a law: what the head tells gives the written part; its def; its meaning -/
theorem walk_ofD {l : PySem.W.OpenLaw} {k : Nat} {q : Program} {loose : List Str} {XP : (Str → Option Value) → Heap → Prop} {YP : World → Heap → Prop} {d : DefRec} {x : Str}
    (hn : l.most = some 63) (hdf : d.params.defaults = []) (hr : Room k callerA)
    (F : ∀ (w : World) (mg : Str → Option Value) (fa : Addr) (h : Heap), YP w h → h.Ns mainGlobals mg → mg d.name = some (.ref fa) →
      ∃ (K : Fg) (fd : FuncData) (F : FF), K.In h ∧ (∀ (s : Shared) (u : Value), BindsTo s fd ⟨[u], []⟩ [(x, u)]) ∧
        (∀ (ns : List Int), ns.length ≤ 63 → (∀ z ∈ ns, Builtin.Int.intBits z ≤ 1048576) → ∃ S, F [.d (.scr ns)] [] = .ok (.d (.bl true)) S) ∧
        ∀ base : Heap, K.In base → base.Ns mainGlobals mg → FOk l.prog w K mg base k fa fd [x] F) :
    PySem.W.WalkO q loose XP YP l.row.toRowW d [] (fun f vs => PySem.call f vs) := by
  refine Att.attach_callB hn hdf fun w s₀ s₁ mg mb fa o pm cd doc a vs ns G Y ho hd hcd hmg hobj hints hlen hbits hg => ?_
  obtain ⟨K, fd, F, KX, hb, hlaw, hF⟩ := F w mg fa _ Y G.T.g hmg
  exact law_callD KX G.T.g G.T.b G.T.builtins G.T.nolimit hg hobj hints hlen hr hF hb (hlaw ns hlen hbits)
end DL
end
section
/-! DL, 19: what the printed walks lean on -/
namespace DL
open PySem PySem.Spec PyProof.Rows L2
section
variable {X : Cx} {Z : WX} {a b e : Expr} {fa fb fe : FE} {pos : Pos}
def gNeg : W → Store → R W := fun w S => match w with
  | .d (.int i) => .ok (.d (.int (-i))) S
  | _ => .no
def fUn (g : W → Store → R W) (fa : FE) : FE := fun ρ S => (fa ρ S).bind g
theorem de_neg (ha : DE X Z a fa) : DE X Z (.UnaryOp .USub a pos) (fUn gNeg fa) := by
  obtain ⟨_, p, q⟩ := ha
  refine ⟨_, pe_un un_neg p, fun ρ S σ H G c Q gd re h => ?_⟩
  refine q ρ S σ H G c _ gd re (Wants.step h fun w S1 G1 c1 H1 v e1 g1 rv h1 => ?_)
  unfold gNeg at h1
  split at h1
  · cases rv with | d rv => cases rv; exact ⟨_, rfl, h1.ret g1 (.d (.int _))⟩
  · exact h1.elim
theorem o_eq (hu : X.A.units + 100 < cLine) : OpR X (compareOp .Eq) (rEqD X.K) := op_eqD (by omega)
theorem o_ne (hu : X.A.units + 100 < cLine) : OpR X (compareOp .NotEq) (rNeD X.K) := op_neD (by omega)
/-- a comprehension's target, a name -/
theorem pgn {i : Nat} {x : Str} {pos : Pos} (hN : X.N.Nodup) (hi : X.N[i]? = some x := by rfl) (hx : Loc X.env.scope x := by first | exact Or.inl rfl | exact Or.inr rfl) (hf : X.fn x = true ∨ X.env.scope.names.lookup x = some .local := by first | exact .inl rfl | exact .inr rfl | assumption) : PG X (.Name x pos) (gName i) := pg_name hN hi hx hf
end
theorem Def.runPn {X : Cx} {Z : WX} {k n : Nat} {f : Addr} {d : He.DefD} {ps : List Str} {F : FF} (D : Def X.prog X.w X.K X.mg X.base k f d ps F) (tk : Takes X Z) (hgu : X.A.guards = some []) (hr : Room k X.A) (hn : ps.length = n) : RunC X Z (.ref f) n [] F := hn ▸ D.runP tk hgu hr
/-- what the head tells, at a base -/
structure Ct (fs : List (Fg → Bool)) (fn : List DefA) (K : Fg) (mg : Str → Option Value) (base : Heap) : Prop where
  s : SaysX fs fn K
  x : K.In base
  g : base.Ns mainGlobals mg
section
variable {fs : List (Fg → Bool)} {fn : List DefA} {K : Fg} {mg : Str → Option Value} {base : Heap}
theorem Ct.glo (c : Ct fs fn K mg base) (i : Nat) {x : Str} (h : fs[i]? = some (fun K => (He.Fa.glo x).ok K) := by rfl) : mg x = some (.ref (He.ga K x)) := He.glo_ok c.x c.g (c.s.fact i h)
theorem Ct.free (c : Ct fs fn K mg base) (i : Nat) {x : Str} (h : fs[i]? = some (fun K => (He.Fa.free x).ok K) := by rfl) : mg x = none := He.free_ok c.x c.g (c.s.fact i h)
theorem Ct.int (c : Ct fs fn K mg base) (i : Nat) {x : Str} {z : Int} (h : fs[i]? = some (fun K => (He.Fa.int x z).ok K) := by rfl) : ∃ t, mg x = some (.int z t) := He.int_ok c.x c.g (c.s.fact i h)
theorem Ct.str (c : Ct fs fn K mg base) (i : Nat) {x z : Str} (h : fs[i]? = some (fun K => (He.Fa.str x z).ok K) := by rfl) : ∃ t, mg x = some (.str z t) := He.str_ok c.x c.g (c.s.fact i h)
theorem Ct.cls (c : Ct fs fn K mg base) (i : Nat) {x : Str} (h : fs[i]? = some (fun K => (He.Fa.cls x).ok K) := by rfl) : Cls K (He.ga K x) := He.cls_ok (c.s.fact i h)
theorem Ct.noat (c : Ct fs fn K mg base) (i : Nat) {x f : Str} (h : fs[i]? = some (fun K => (He.Fa.noat x f).ok K) := by rfl) : NoAttr K (He.ga K x) f := He.noat_ok (c.s.fact i h)
theorem Ct.meth (c : Ct fs fn K mg base) (i : Nat) {x m : Str} (h : fs[i]? = some (fun K => (He.Fa.meth x m).ok K) := by rfl) : Meth K (He.ga K x) m (He.ma K (He.ga K x) m) := He.meth_ok (c.s.fact i h)
theorem Ct.mkr (c : Ct fs fn K mg base) (i : Nat) {x : Str} (h : fs[i]? = some (fun K => (He.Fa.mkr x).ok K) := by rfl) : Mk K (He.ga K x) (He.ma K (He.ga K x) "__init__") := He.mkr_ok (c.s.fact i h)
theorem Ct.prop (c : Ct fs fn K mg base) (i : Nat) {x f : Str} (h : fs[i]? = some (fun K => propB K x f) := by rfl) : PropOf K (He.ga K x) f (propA K x f) (getA x f K) := propB_ok (c.s.fact i h)
theorem Ct.has (c : Ct fs fn K mg base) (i : Nat) {x m : Str} (h : fs[i]? = some (fun K => hasB K x m) := by rfl) : Has K (He.ga K x) (He.ma K (He.ga K x) m) m := hasB_ok (c.s.fact i h)
theorem Ct.isi (c : Ct fs fn K mg base) (i : Nat) {own : List Str} {sub : Str → Str → Bool} (h : fs[i]? = some (fun K => isiB' K own sub) := by rfl) : IsiK K own sub := isiB'_ok (c.s.fact i h)
end
/-- a def, from its body -/
theorem def_of {P : Program} {w : World} {K : Fg} {mg : Str → Option Value} {base : Heap} {fs : List (Fg → Bool)} {fn : List DefA} (c : Ct fs fn K mg base) {N ps : List Str} {g : FS} (k : Nat) (x : DefA) (kp : Bool) (n : Nat) (i : Nat) (hi : fn[i]? = some x) (Sc : FnScope N ps x.d.scope) (hn : N.length = n)
    (hb : ∀ (kV doc pm : Value) (an : Option Addr) (cdv ct : Value) (us : List Value), us.length = ps.length → bindArgs (PySem.W.fnOf x.d.name x.d.qual x.d.params x.d.body x.d.scope .none kV doc pm an cdv ct) ⟨us, []⟩ = pure (ps.zip us))
    (body : ∀ (cdv : Value) (A : Around) (outer : List PySem.Env) (s : Shared) (H : Hp) (E : XK), (A.deeper (envOfC x.d.qual x.d.scope s.heap.objs.size (x.ad K) cdv)).guards = some [] → Room k (A.deeper (envOfC x.d.qual x.d.scope s.heap.objs.size (x.ad K) cdv)) →
      Takes (cxOf (L2.CX P w) P w K mg base N x.d.qual x.d.scope (x.ad K) cdv A outer s H E) (fun cls d _ H => E cls d H) →
      PassesOwn (model P w) (A.deeper (envOfC x.d.qual x.d.scope s.heap.objs.size (x.ad K) cdv)) (envOfC x.d.qual x.d.scope s.heap.objs.size (x.ad K) cdv) (cxOf (L2.CX P w) P w K mg base N x.d.qual x.d.scope (x.ad K) cdv A outer s H E).xe →
      DSs (cxOf (L2.CX P w) P w K mg base N x.d.qual x.d.scope (x.ad K) cdv A outer s H E) (fun cls d _ H => E cls d H) x.d.body g) : Def P w K mg base (k + 1) (x.ad K) x.d ps (fnK kp ps.length n g) := by
  obtain ⟨fd, F⟩ := c.s.def_ i hi
  exact ⟨⟨fd, F, fok_of kp F Sc hn fun cdv A outer s H E hgu hr => body cdv A outer s H E hgu hr (takes_of rfl rfl rfl rfl) (passes_of rfl), fun s us hl => FunD.bindsA F hb s us hl⟩, fnK_len⟩
theorem funD_inj {K : Fg} {x qual x' qual' : Str} {params params' : Arguments} {body body' : List Stmt} {scope scope' : Scope} {dvs dvs' : List V} {kws kws' : List (Str × V)} {f : Addr} {fd fd' : FuncData} (F : FunD K x qual params body scope dvs kws f fd) (F' : FunD K x' qual' params' body' scope' dvs' kws' f fd') : fd' = fd := by
  obtain ⟨oc, od, dV, kV, doc, pm, an, cdv, ct, osl, rfl, lk, _⟩ := F.ex
  obtain ⟨oc', od', dV', kV', doc', pm', an', cdv', ct', osl', rfl, lk', _⟩ := F'.ex
  rw [lk] at lk'
  injection lk' with e
  injection e with _ _ e _
  injection e with e
  exact e.symm
/-- the bindings by place, with keywords -/
theorem kbind_of {d : He.DefD} {ps ks : List Str} {n : Nat} {ix : List Nat}
    (h : ∀ (kV doc pm : Value) (an : Option Addr) (cdv ct : Value) (us ws : List Value), us.length = n → ws.length = ks.length → bindArgs (PySem.W.fnOf d.name d.qual d.params d.body d.scope .none kV doc pm an cdv ct) ⟨us, ks.zip ws⟩ = pure (ps.zip (perm ix (us ++ ws))) ∧ (perm ix (us ++ ws)).length = ps.length) : KBind d ps ks n ix := h
end DL
end
section
/-! DL, 20: sorted of a text, of a dict's keys -/
namespace DLS
open PySem PySem.Spec PySem.Calls PyProof.Rows L2
section
variable {P : Program} {w : World} {A : Around} {E : Value → Shared → Prop} {s : Shared}
theorem sorted_chars {x : Str} {t : Tok} {Q : Value → Shared → Prop} (hh : A.handled = none) (h64 : x.cps.size < 64)
    (hQ : ∀ s' p (out : Array Value) (c : Nat) (ys : List Str), (∀ b o, s.heap.get? b = some o → s'.heap.get? b = some o) → s'.gens = s.gens → s'.os = s.os → s.heap.get? p = none →
      s'.heap.get? p = some (seqObj "list" out c) → StrsAre out.toList ys → ys.Perm (x.cps.toList.map fun c => (⟨#[c]⟩ : Str)) → sortedS ys = true → Q (.ref p) s') :
    wpAny (model P w) A (call (.builtin "sorted") [.str x t]) Q E s := by
  refine Calls.call_function_entry kind_sorted plain_sorted entry_sorted (args_sorted1 _) ?_
  unfold Builtin.«sorted»
  refine wpAny_bind (m := checkCount "sorted" 1 1 _) (wpAny_pure ?_)
  refine wpAny_bind (wpAny_collect_str (A := A.in1) hh x t (fun s1 acc k1 g1 d1 o1 hi => ?_) (by rw [sizeLine_eq]; omega))
  have hvl : acc.toList.length = (x.cps.toList.map fun c => (⟨#[c]⟩ : Str)).length := by rw [List.length_map, Array.length_toList, Array.length_toList]; exact hi.1
  have hS : StrsAre acc.toList (x.cps.toList.map fun c => (⟨#[c]⟩ : Str)) := L2.strs_at hvl fun j v e => by
    obtain ⟨c, t', hc, rfl⟩ := hi.2 j v (by rw [← Array.getElem?_toList]; exact e)
    exact ⟨⟨#[c]⟩, t', by rw [List.getElem?_map, Array.getElem?_toList, hc]; rfl, rfl⟩
  have hl : acc.toList.length < 64 := by rw [hvl, List.length_map, Array.length_toList]; exact h64
  have hz : s.heap.get? s1.heap.objs.size = none := by
    cases e : s.heap.get? s1.heap.objs.size with
    | none => rfl
    | some u => exact absurd (Heap.lt_size (k1 _ _ e)) (Nat.lt_irrefl _)
  refine wpAny_bind (wpAny_newList ?_ (by rw [sizeLine_eq]; omega))
  have hoL : (s1.heap.push (seqObj "list" acc.toList.toArray 0)).get? s1.heap.objs.size = some (seqObj "list" acc.toList.toArray 0) := Heap.get?_push_size _ rfl
  refine wpAny_bind (wpAny_holding (wpAny_call_entry slot_list_sort ⟨_, hoL, rfl⟩ entry_list_sort (list_sort_treeK strKind_oneLt hoL hS.keysOf (fun v₁ v₂ rest e => keyKind_strs (by rw [← e]; exact hS)) hl fun st' hp hs => ⟨_, rfl, ?_⟩) (args_list_sort _)))
  obtain ⟨ys, a1, a2, a3⟩ := sorted_out_str hS hp hs
  obtain ⟨c, hc⟩ := sortedHeap_at (vs := acc.toList) (out := (arrOf st').map (·.2)) hoL
  refine wpAny_pure ⟨_, rfl, hQ _ s1.heap.objs.size ((arrOf st').map (·.2)) c ys (fun b u e => ?_) g1 o1 hz hc a1 a2 a3⟩
  have q := k1 b u e
  have hlt := Heap.lt_size q
  show (sortedHeap (s1.heap.push (seqObj "list" acc.toList.toArray 0)) s1.heap.objs.size acc.toList ((arrOf st').map (·.2))).get? b = some u
  rw [sortedHeap_old (Nat.ne_of_lt hlt) (by rw [size_push']; exact Nat.lt_succ_of_lt hlt)]
  exact Heap.get?_push_of_some _ q
end
section
variable {X : Cx}
def rSortedC : List V → Hp → VK → Prop := fun vs H Q => ∃ x : Str, vs = [V.str x] ∧ x.cps.size < 64 ∧ ∀ (ys : List Str) (p : Addr), ys.Perm (x.cps.toList.map fun c => (⟨#[c]⟩ : Str)) → sortedS ys = true → H p = none → Q (.ref p) (upd H p (.lst (ys.map V.str)))
theorem cr_sortedC (hc : X.calm = true) : CallR X (.builtin "sorted") rSortedC := by
  intro pins s σ H vs us Q I r h
  obtain ⟨x, rfl, h64, q⟩ := h
  obtain ⟨u, rfl, rx⟩ := vals1 r
  obtain ⟨t, rfl⟩ := rx
  refine sorted_chars (I.ok.hd hc) h64 fun s' p out c ys k g o hp hg hi hm hs => ?_
  have hlen : (ys.map V.str).length ≤ sizeLine := by rw [List.length_map, hm.length_eq, List.length_map, Array.length_toList]; exact small64 h64
  have hn : H p = none := HOk.gone I.hok hp
  have J : Inv X pins σ (upd H p (.lst (ys.map V.str))) { s with heap := s'.heap, gens := s'.gens, drawn := s'.drawn, toks := s'.toks } :=
    I.call (ch := []) (Un.laidN k hp hn) (I.hok.laidN k hn ⟨hlen, out.toList, c, vals_of_strs hi, hg⟩) (by rw [g]; exact I.bare) (fun _ z => nomatch z)
  have e : s' = { s with heap := s'.heap, gens := s'.gens, drawn := s'.drawn, toks := s'.toks } := by
    cases s'
    cases s
    cases o
    rfl
  rw [e]
  exact ⟨.ref p, _, J, rfl, q ys p hm hs hn⟩
def rSortedD : List V → Hp → VK → Prop := fun xs H Q => ∃ (a : Addr) (kvs : List (Key × V)) (ks : List Str), xs = [.ref a] ∧ Rd H a (.dK kvs) ∧ kvs.map (·.1) = ks.map Sum.inr ∧ ks.length < 64 ∧
    ∀ ys p, ys.Perm ks → sortedS ys = true → H p = none → Q (.ref p) (upd H p (.lst (ys.map V.str)))
def rSortedA (K : PySem.W.Frag) : List V → Hp → VK → Prop := fun xs H Q => rSortedS K xs H Q ∨ (rSortedC xs H Q ∨ rSortedD xs H Q)
theorem cr_sortedA (hc : X.calm = true) : CallR X (.builtin "sorted") (rSortedA X.K) := CallR.or cr_sortedS (CallR.or (cr_sortedC hc) (call_sortedD hc))
end
end DLS
namespace DL
open PySem PySem.Spec PyProof.Rows L2
theorem RepT.dctK {K : Fg} {G H : Hp} {v : V} {ks vs : List D} (s : Sub G H) (h : RepT K G H v (.dct ks vs)) : ∃ a kvs, v = .ref a ∧ Rd H a (.dK kvs) ∧ ks.map dkey = (kvs.map fun p => some p.1) ∧ Reps K G (kvs.map fun p => kV p.1) ks ∧ ks.length ≤ sizeLine := by
  cases h with
  | of h => cases h with | dct h hk r z kr => exact ⟨_, _, rfl, .inr ⟨_, s _ _ h⟩, hk, kr, z⟩
  | dct h hk r z kr => exact ⟨_, _, rfl, .inl h, hk, kr, z⟩
/-- the texts that are sorted -/
def txtsOf : D → Option (List (List Nat))
  | .lst ds => strsOf ds
  | .str l => some (l.map fun c => [c])
  | .dct ks _ => strsOf ks
  | _ => none
def gSortA : FF := fun ws S => match ws with
  | [w] => (match val w S with
    | some d => (match txtsOf d with
      | some xs => if xs.length < 64 then .ok (.d (.lst ((sortL xs).map D.str))) S else .no
      | none => .no)
    | none => .no)
  | _ => .no
theorem some_map_inj {α β : Type} {f : α → β} : ∀ {l : List α} {m : List β}, (l.map fun x => some (f x)) = m.map some → l.map f = m
  | [], [], _ => rfl
  | [], _ :: _, h => by simp at h
  | _ :: _, [], h => by simp at h
  | x :: l, y :: m, h => by
    simp only [List.map_cons, List.cons.injEq, Option.some.injEq] at h ⊢
    exact ⟨h.1, some_map_inj h.2⟩
section
variable {K : Fg} {Z : WX}
theorem cal_sortA : CalRef K Z (DLS.rSortedA K) gSortA := by
  intro σ G c S H vs ws Q g r h
  unfold gSortA at h
  split at h
  · obtain ⟨v, rfl, rv⟩ := w1 r
    split at h
    · rename_i d ev
      have rd := val_rep g rv ev
      split at h
      · rename_i xs es
        split at h
        · rename_i h64
          have hl : (sortL xs).length = xs.length := (sortL_perm xs).length_eq
          have fin : (∀ y ∈ xs, y.length ≤ sizeLine ∧ ∀ c ∈ y, c < 1114112) → ∀ p, H p = none → Q (.ref p) (upd H p (.lst (((sortL xs).map SX.S).map V.str))) := fun e2 p hn =>
            h.retNew g hn (.d (.lst upd_same (reps_strs fun y hy => e2 y ((sortL_perm xs).mem_iff.mp hy)) (by rw [List.length_map, hl]; exact small64 h64)))
          cases d <;> simp only [txtsOf, reduceCtorEq] at es
          · simp only [Option.some.injEq] at es
            cases rd with | of rd => cases rd with | @str l h1 h2 =>
              refine .inr (.inl ⟨_, rfl, ?_, fun ys p hp hs hn => ?_⟩)
              · rw [← es, List.length_map] at h64
                simpa using h64
              · have hp' : ys.Perm (xs.map SX.S) := by
                  rw [← es, List.map_map]
                  exact hp
                rw [sorted_strs_eq hp' hs]
                refine fin (fun y hy => ?_) p hn
                rw [← es] at hy
                obtain ⟨c, hc, rfl⟩ := List.mem_map.mp hy
                exact ⟨by show 1 ≤ sizeLine; decide, fun c' hc' => h2 c' (by rw [List.mem_singleton.mp hc']; exact hc)⟩
          · obtain ⟨a, us, rfl, h1, q, z⟩ := rd.lst' g.sub
            obtain ⟨e1, e2, e3⟩ := strs_rep q es
            subst e1
            refine .inl ⟨a, xs.map SX.S, rfl, .of h1, by rw [List.length_map]; exact h64, fun ys p hp hs hn => ?_⟩
            rw [sorted_strs_eq hp hs]
            exact fin e2 p hn
          · obtain ⟨a, kvs, rfl, h1, hk, q, z⟩ := RepT.dctK g.sub rd
            obtain ⟨e1, e2, e3⟩ := strs_rep q es
            refine .inr (.inr ⟨a, kvs, xs.map SX.S, rfl, h1, ?_, by rw [List.length_map]; exact h64, fun ys p hp hs hn => ?_⟩)
            · rw [e3, List.map_map] at hk
              have e5 : (xs.map fun x => some (Sum.inr (SX.S x) : Key)) = (kvs.map (·.1)).map some := by
                rw [List.map_map]; exact hk
              rw [List.map_map]
              exact (some_map_inj e5).symm
            · rw [sorted_strs_eq hp hs]
              exact fin e2 p hn
        · exact h.elim
      · exact h.elim
    · exact h.elim
  · exact h.elim
end
end DL
end
section
/-! DL, 21: a comprehension whose list is written at later; is with truths -/
namespace DL
open PySem PySem.Spec PyProof.Rows L2
def fLcC (fi : FI) (t : Tgt) (tt : FB) (f : FE) (vs : List Nat) : FE := fun ρ S => (fi ρ S).bind fun s S1 => (compS t tt f s (wipeE ρ vs) S1).bind fun r S2 => .ok (.loc S2.length) (S2 ++ [.lst r])
section
variable {K : Fg} {Z : WX}
theorem Acc.doneC {σ σ0 : L2.St} {ρ : Env} {G1 c1 H1 D G c H S acc ds} {Q : VK} (a : Acc K σ ρ G1 c1 H1 D G c H S acc ds) (hD : H1 D = none) (hz : ds.length ≤ sizeLine) (h : Wants K Z σ0 (RepW K) G1 c1 H1 (.ok (.loc S.length) (S ++ [.lst ds])) Q) : Q (.ref D) H := by
  refine h G (c ++ [D]) H _ ⟨a.ev.gg, a.ev.cc.trans (List.prefix_append _ _), a.ev.fr, a.ev.nw, fun b hb => ?_, a.ev.th⟩ ⟨a.gd.sub, by simp [a.gd.len], List.nodup_append.mpr ⟨a.gd.nd, by simp, fun x hx y hy => by
    rw [List.mem_singleton.mp hy]; exact fun z => a.cD (z ▸ hx)⟩, fun n b e => ?_⟩ (.loc a.gd.at_new)
  · rcases List.mem_append.mp hb with q | q
    · exact a.ev.nc b q
    · rw [List.mem_singleton.mp q]; exact .inr hD
  · by_cases hn : n < c.length
    · rw [List.getElem?_append_left hn] at e
      obtain ⟨ga, y, hy, cy⟩ := a.gd.cell n b e
      exact ⟨ga, y, by rw [List.getElem?_append_left (by rw [← a.gd.len]; exact hn)]; exact hy, cy.ev (.refl _) (List.prefix_append _ _) rfl⟩
    · rw [List.getElem?_append_right (by omega)] at e
      have h0 : n - c.length = 0 := by
        have := (List.getElem?_eq_some_iff.mp e).1
        simpa using this
      rw [h0] at e
      have e' : D = b := by simpa using e
      subst e'
      refine ⟨a.gD, .lst ds, ?_, .lst a.at_ a.r hz⟩
      rw [List.getElem?_append_right (by rw [← a.gd.len]; omega), ← a.gd.len, h0]; rfl
/-- what is wanted of the rest, at the start of the whole -/
def RestC (K : Fg) (Z : WX) (σ0 : L2.St) (G1 : Hp) (c1 : List Addr) (H1 : Hp) (ds : List DL.D) (r : R (List DL.D)) (Q : VK) : Prop := Wants K Z σ0 (RepW K) G1 c1 H1 (r.bind fun l S2 => .ok (.loc S2.length) (S2 ++ [.lst (ds ++ l)])) Q
theorem lc_turnC {t : Tgt} {tt : FB} {f : FE} {vs : List Nat} {σ σ0 : L2.St} {ρ : Env} {G1 c1 H1 D G c H S acc ds} {Q : VK} {x : V} {d : DL.D} {k : Store → R (List DL.D)} {N : Hp → Prop}
    (hsl : ∀ i ∈ t.slots, i ∈ vs) (a : Acc K (wipe σ vs) ρ G1 c1 H1 D G c H S acc ds) (hD : H1 D = none) (hz : ds.length < sizeLine) (r : Rep K G x d)
    (h : RestC K Z σ0 G1 c1 H1 ds ((compT t tt f d ρ S).bind fun o S1 => (k S1).bind fun r S2 => .ok (consO o r) S2) Q)
    (hN : ∀ G2 c2 H2 S2 acc2 ds2, Acc K (wipe σ vs) ρ G1 c1 H1 D G2 c2 H2 S2 acc2 ds2 → ds2.length ≤ ds.length + 1 → RestC K Z σ0 G1 c1 H1 ds2 (k S2) Q → N H2) :
    t.tg K x (wipe σ vs) H fun σ2 H2 => wipe σ2 vs = wipe σ vs ∧ canB K Z0 tt σ2 H2 fun b H3 => if b = true then canE K Z0 f σ2 H3 fun y H4 => ∃ acc, H4 D = some (.lst acc) ∧ acc.length < sizeLine ∧ N (upd H4 D (.lst (acc ++ [y]))) else N H3 := by
  unfold compT at h
  cases et : t.fg d ρ with
  | none => rw [et] at h; exact h.elim
  | some ρ1 =>
    rw [et] at h
    dsimp only at h
    refine tgt_ok a.gd hsl a.re r et fun σ2 hw re2 => ⟨hw.trans (wipe_wipe σ vs), ρ1, S, G, c, a.gd, re2, ?_⟩
    revert h
    cases tt ρ1 S with
    | no => exact fun h => h
    | ex _ _ => exact fun h => h.elim
    | ok b S2 =>
      cases b with
      | false =>
        intro h G2 c2 H2 b e2 g2 eb
        subst eb
        refine iteF (hN G2 c2 H2 S2 acc ds (a.ext e2 g2) (Nat.le_succ _) ?_)
        have h : RestC K Z σ0 G1 c1 H1 ds ((k S2).bind fun r S3 => .ok (consO none r) S3) Q := h
        unfold RestC at h ⊢
        revert h
        cases k S2 with
        | no => exact fun h => h
        | ex _ _ => exact fun h => h
        | ok l S3 => exact fun h => h
      | true =>
        intro h G2 c2 H2 b e2 g2 eb
        subst eb
        refine iteT ⟨ρ1, S2, G2, c2, g2, re2.ev e2.gg e2.cc, ?_⟩
        dsimp only at h
        revert h
        cases f ρ1 S2 with
        | no => exact fun h => h
        | ex _ _ => exact fun h => h.elim
        | ok w S3 =>
          cases w with
          | loc n => exact fun h => h.elim
          | glo x => exact fun h => h.elim
          | ty x => exact fun h => h.elim
          | d dx =>
            intro h G3 c3 H3 y e3 g3 ry
            cases ry with | d ry =>
            have a3 := (a.ext e2 g2).ext e3 g3
            refine ⟨acc, a3.at_, by rw [a3.r.length]; exact hz, hN G3 c3 _ S3 _ _ (a3.push hD ry) (by simp) ?_⟩
            have h : RestC K Z σ0 G1 c1 H1 ds ((k S3).bind fun r S4 => .ok (consO (some dx) r) S4) Q := h
            unfold RestC at h ⊢
            revert h
            cases k S3 with
            | no => exact fun h => h
            | ex _ _ => exact fun h => h
            | ok l S4 =>
              intro h
              show Wants K Z σ0 (RepW K) G1 c1 H1 (.ok (.loc S4.length) (S4 ++ [.lst ((ds ++ [dx]) ++ l)])) Q
              rw [List.append_assoc]
              exact h
theorem rest_bindC {σ0 : L2.St} {G1 c1 H1} {r : R (List DL.D)} {Q : VK} (h : Wants K Z σ0 (RepW K) G1 c1 H1 (r.bind fun l S2 => .ok (.loc S2.length) (S2 ++ [.lst l])) Q) : RestC K Z σ0 G1 c1 H1 [] r Q := h
theorem lc_turnsC {t : Tgt} {tt : FB} {f : FE} {vs : List Nat} {σ : L2.St} {ρ : Env} {G1 c1 H1 S1} {Q : VK} {J : It} {s : Src} {D : Addr} (hsl : ∀ i ∈ t.slots, i ∈ vs) (gd : Good K G1 c1 S1 H1) (re : RepE K G1 c1 σ ρ) (T : Turns K G1 c1 J s) (hD : H1 D = none)
    (h : Wants K Z σ (RepW K) G1 c1 H1 ((compS t tt f s (wipeE ρ vs) S1).bind fun l S2 => .ok (.loc S2.length) (S2 ++ [.lst l])) Q) :
    ∃ W : Nat → Nat → Hp → Prop, (∃ m, W 0 m (upd H1 D (.lst []))) ∧ ∀ i m H, W i m H →
      (J.stop i H ∧ Q (.ref D) H) ∨ (J.go i H ∧ ∃ Nx : Hp → Prop, (∀ H', Nx H' → ∃ m', m' < m ∧ W (i + 1) m' H') ∧ ∀ x H', J.yld i H x H' → t.tg K x (wipe σ vs) H' fun σ2 H2 => wipe σ2 vs = wipe σ vs ∧ canB K Z0 tt σ2 H2 fun b H3 =>
        if b = true then canE K Z0 f σ2 H3 fun y H4 => ∃ acc, H4 D = some (.lst acc) ∧ acc.length < sizeLine ∧ Nx (upd H4 D (.lst (acc ++ [y]))) else Nx H3) := by
  have start : Acc K (wipe σ vs) (wipeE ρ vs) G1 c1 H1 D G1 c1 (upd H1 D (.lst [])) S1 [] [] :=
    ⟨(Ev.refl ..).setD hD _, gd.setD (gd.free hD) (fun z => by
      obtain ⟨n, hn, e⟩ := List.mem_iff_getElem.mp z
      obtain ⟨_, x, _, ca⟩ := gd.cell n D (by rw [List.getElem?_eq_getElem hn, e])
      obtain ⟨o, ho⟩ := ca.some
      rw [hD] at ho; cases ho) _, re.wipe vs, upd_same, gd.free hD, (fun z => by
      obtain ⟨n, hn, e⟩ := List.mem_iff_getElem.mp z
      obtain ⟨_, x, _, ca⟩ := gd.cell n D (by rw [List.getElem?_eq_getElem hn, e])
      obtain ⟨o, ho⟩ := ca.some
      rw [hD] at ho; cases ho), .nil⟩
  cases s with
  | fix items =>
    obtain ⟨P, Y, w, hP, hY⟩ := T
    unfold compS at h
    dsimp only at h
    by_cases hz : lenOk items.length = true
    · rw [if_pos hz] at h
      have hz' : items.length ≤ sizeLine := of_decide_eq_true hz
      refine lc_it w (fun i H => ∃ G c S acc ds, Acc K (wipe σ vs) (wipeE ρ vs) G1 c1 H1 D G c H S acc ds ∧ ds.length ≤ i ∧ RestC K Z σ G1 c1 H1 ds (compD t tt f (wipeE ρ vs) (items.drop i) S) Q)
        ⟨G1, c1, S1, [], [], start, Nat.le_refl _, h⟩ (fun i H _ ⟨G, c, S, acc, ds, a, _, _⟩ => hP G c S H a.gd a.ev.gg) ?_ ?_
      · rintro i x H H' hi ⟨G, c, S, acc, ds, a, hl, h'⟩ y
        obtain ⟨d, G2, ed, ev2, g2, rd⟩ := hY G c S H i x H' a.gd a.ev.gg y
        have hlt : i < items.length := hi
        rw [List.drop_eq_getElem_cons hlt] at h'
        have ed' : items[i] = d := by
          rw [List.getElem?_eq_getElem hlt] at ed
          exact Option.some.inj ed
        rw [ed'] at h'
        exact lc_turnC hsl (a.ext ev2 g2) hD (by omega) rd (k := compD t tt f (wipeE ρ vs) (items.drop (i + 1))) h' fun G3 c3 H3 S3 acc3 ds3 a3 hl3 h3 => ⟨G3, c3, S3, acc3, ds3, a3, by omega, h3⟩
      · rintro H ⟨G, c, S, acc, ds, a, hl, h'⟩
        rw [List.drop_length] at h'
        refine a.doneC (Z := Z) (σ0 := σ) hD (by omega) ?_
        have h' : Wants K Z σ (RepW K) G1 c1 H1 (.ok (.loc S.length) (S ++ [.lst (ds ++ [])])) Q := h'
        rw [List.append_nil] at h'
        exact h'
    · rw [if_neg hz] at h; exact h.elim
  | cell n =>
    obtain ⟨a, ha, rfl⟩ := T
    obtain ⟨ga, x, hx, ca⟩ := gd.cell _ _ ha
    unfold compS at h
    dsimp only at h
    rw [hx] at h
    cases ca with
    | dct => exact h.elim
    | ins => exact h.elim
    | tab => exact h.elim
    | @lst vs1 its h1 q1 z1 =>
      dsimp only at h
      refine ⟨fun i m H => i + m = its.length ∧ ∃ G c S acc ds, Acc K (wipe σ vs) (wipeE ρ vs) G1 c1 H1 D G c H S acc ds ∧ ds.length ≤ i ∧ RestC K Z σ G1 c1 H1 ds (compC t tt f (wipeE ρ vs) n its.length m S) Q,
        ⟨its.length, by omega, G1, c1, S1, [], [], start, Nat.le_refl _, h⟩, ?_⟩
      rintro i m H ⟨him, G, c, S, acc, ds, ac, hl, h'⟩
      have ha' := pre_get ac.ev.cc ha
      obtain ⟨ga', x', hx', ca'⟩ := ac.gd.cell _ _ ha'
      cases m with
      | zero =>
        unfold compC at h'
        rw [hx'] at h'
        cases ca' with
        | dct => exact h'.elim
        | ins => exact h'.elim
        | tab => exact h'.elim
        | @lst vs' ds' h1' q1' z1' =>
          dsimp only at h'
          by_cases hll : ds'.length = its.length
          · rw [if_pos hll] at h'
            refine .inl ⟨⟨vs', .of h1', by rw [q1'.length, hll]; omega⟩, ac.doneC (Z := Z) (σ0 := σ) hD (by omega) ?_⟩
            have h' : Wants K Z σ (RepW K) G1 c1 H1 (.ok (.loc S.length) (S ++ [.lst (ds ++ [])])) Q := h'
            rw [List.append_nil] at h'
            exact h'
          · rw [if_neg hll] at h'; exact h'.elim
      | succ m =>
        unfold compC at h'
        rw [hx'] at h'
        cases ca' with
        | dct => exact h'.elim
        | ins => exact h'.elim
        | tab => exact h'.elim
        | @lst vs' ds' h1' q1' z1' =>
          dsimp only at h'
          have ei : its.length - (m + 1) = i := by omega
          rw [ei] at h'
          cases ed : ds'[i]? with
          | none => rw [ed] at h'; exact h'.elim
          | some d =>
            rw [ed] at h'
            dsimp only at h'
            obtain ⟨v, ev, rv⟩ := q1'.get ed
            refine .inr ⟨⟨vs', v, .of h1', ev⟩, fun H3 => ∃ G c S acc ds, Acc K (wipe σ vs) (wipeE ρ vs) G1 c1 H1 D G c H3 S acc ds ∧ ds.length ≤ i + 1 ∧ RestC K Z σ G1 c1 H1 ds (compC t tt f (wipeE ρ vs) n its.length m S) Q,
              fun H3 q => ⟨m, Nat.lt_succ_self _, by omega, q⟩, fun x H'' y => ?_⟩
            obtain ⟨rfl, y⟩ := y
            have exv : x = v := by
              have := y vs' (.of h1')
              rw [ev] at this
              exact (Option.some.inj this).symm
            subst exv
            exact lc_turnC hsl ac hD (by omega) rv (k := compC t tt f (wipeE ρ vs) n its.length m) h' fun G3 c3 H3 S3 acc3 ds3 a3 hl3 h3 => ⟨G3, c3, S3, acc3, ds3, a3, by omega, h3⟩
theorem ref_lcC {wi : TI} {fi : FI} {t : Tgt} {tt : FB} {f : FE} {vs : List Nat} (hi : RefI K Z wi fi) (hsl : ∀ i ∈ t.slots, i ∈ vs) : Ref K Z (tLc wi (t.tg K) (canB K Z0 tt) (canE K Z0 f) vs) (fLcC fi t tt f vs) := by
  intro ρ S σ H G c Q gd re h
  refine hi ρ S σ H G c _ gd re (Wants.step h fun s S1 G1 c1 H1 J e1 g1 T h1 => fun D hD => ?_)
  exact lc_turnsC hsl g1 (re.ev e1.gg e1.cc) T hD h1
end
section
variable {X : Cx} {Z : WX} {elt tg iter : Expr} {ifs : List Expr} {scope : Scope} {own : List (Str × Nat)} {pos spos : Pos} {fi : FI} {t : Tgt} {tt : FB} {f : FE}
theorem de_lcC (hN : X.N.Nodup) (hi : DI X Z tg iter fi) (ok : blkC X.N X.env.scope scope own = true) (hsl : ∀ i ∈ t.slots, i ∈ own.map (·.2)) (hg : InBlk X scope fun Y => PG Y tg (t.tg Y.K)) (ht : InBlk X scope fun Y => DTs Y Z0 ifs tt) (he : InBlk X scope fun Y => DE Y Z0 elt f)
    (hc : X.calm = true := by rfl) (hs : ∀ x, foldedSetIterable iter X.env x = pure x := by intro _; rfl) : DE X Z (.ListComp elt [⟨tg, iter, ifs, 0⟩] scope pos) (fLcC fi t tt f (own.map (·.2))) := by
  obtain ⟨_, p, q⟩ := hi
  exact ⟨_, pe_lc (tt := canB X.K Z0 tt) hc hN p (blkOk_by ok) hg (fun s H C cl fp => ht s H C cl fp) (fun s H C cl fp => (he s H C cl fp).can) hs, ref_lcC q hsl⟩
theorem ds_setLcC {i : Nat} {y : Str} {py : Pos} (hN : X.N.Nodup) (hi : DI X Z tg iter fi) (ok : blkC X.N X.env.scope scope own = true) (hsl : ∀ i ∈ t.slots, i ∈ own.map (·.2)) (hg : InBlk X scope fun Y => PG Y tg (t.tg Y.K)) (ht : InBlk X scope fun Y => DTs Y Z0 ifs tt) (he : InBlk X scope fun Y => DE Y Z0 elt f)
    (hsw : swapsWith (.ListComp elt [⟨tg, iter, ifs, 0⟩] scope pos) (some (.Name y py)) spos.line X.env = pure true) (hy : X.N[i]? = some y := by rfl) (hyl : X.env.scope.names.lookup y = some .local := by rfl)
    (hc : X.calm = true := by rfl) (hs : ∀ x, foldedSetIterable iter X.env x = pure x := by intro _; rfl) : DS X Z (.Assign [.Name y py] (.ListComp elt [⟨tg, iter, ifs, 0⟩] scope pos) spos) (fAsg (fLcC fi t tt f (own.map (·.2))) (gSet i)) := by
  obtain ⟨_, p, q⟩ := hi
  exact ⟨_, L2.ps_setLc (tt := canB X.K Z0 tt) hc hN hy hyl hsw p (blkOk_by ok) hg (fun s H C cl fp => ht s H C cl fp) (fun s H C cl fp => (he s H C cl fp).can) hs, refs_asg (ref_lcC q hsl) (refg_name i)⟩
end
/-! is True, is not True -/
def gIsB (k : Bool) : W → W → Store → R W := fun x y S => match x, y with
  | .d (.bl a), .d (.bl b) => .ok (.d (.bl (if k = true then decide (a = b) else !decide (a = b)))) S
  | _, _ => .no
section
variable {K : Fg} {Z : WX}
theorem opr_isB : OpRef K Z rIsB (gIsB true) := by
  intro σ G c S H x y w1 w2 Q g r1 r2 h
  unfold gIsB at h
  split at h
  · cases r1 with | d r1 => cases r2 with | d r2 => cases r1; cases r2; exact ⟨_, _, rfl, rfl, h.ret g (.d (.bl _))⟩
  · exact h.elim
theorem opr_notB : OpRef K Z rNotB (gIsB false) := by
  intro σ G c S H x y w1 w2 Q g r1 r2 h
  unfold gIsB at h
  split at h
  · cases r1 with | d r1 => cases r2 with | d r2 => cases r1; cases r2; exact ⟨_, _, rfl, rfl, h.ret g (.d (.bl _))⟩
  · exact h.elim
end
end DL
end
section
/-! DM, 1: what the meanings come to, by simp -/
namespace DL
open PySem PySem.Spec PyProof.Rows L2
section
variable {α β : Type} {ρ : Env} {S S' : Store}
@[simp] theorem bind_ok {a : α} {k : α → Store → R β} : R.bind (.ok a S) k = k a S := (rfl)
@[simp] theorem bind_ex {x : Ex} {k : α → Store → R β} : R.bind (.ex x S) k = .ex x S := (rfl)
@[simp] theorem bind_no {k : α → Store → R β} : R.bind .no k = .no := (rfl)
@[simp] theorem ev_fK {w : W} : fK w ρ S = .ok w S := (rfl)
theorem ev_fVar {i : Nat} : fVar i ρ S = match ρ[i]? with
  | some (some w) => .ok w S
  | _ => .no := (rfl)
@[simp] theorem ev_var {i : Nat} {w : W} (h : ρ[i]? = some (some w)) : fVar i ρ S = .ok w S := by rw [ev_fVar, h]
@[simp] theorem ev_nil : fNil ρ S = .ok [] S := (rfl)
@[simp] theorem ev_cons {f : FE} {fs : FL} : fCons f fs ρ S = (f ρ S).bind fun w S1 => (fs ρ S1).bind fun ws S2 => .ok (w :: ws) S2 := (rfl)
@[simp] theorem ev_bin {g : W → W → Store → R W} {fa fb : FE} : fBin g fa fb ρ S = (fa ρ S).bind fun a S1 => (fb ρ S1).bind fun b S2 => g a b S2 := (rfl)
@[simp] theorem ev_un {g : W → Store → R W} {fa : FE} : fUn g fa ρ S = (fa ρ S).bind g := (rfl)
@[simp] theorem ev_call {F : FF} {fs : FL} : fCall F fs ρ S = (fs ρ S).bind F := (rfl)
@[simp] theorem ev_callG {F : FF} {n m : Nat} {fs gs : FL} : fCallG F n m fs gs ρ S = (fs ρ S).bind fun ws S1 => (gs ρ S1).bind fun zs S2 => if ws.length = n then (if zs.length = m then F (ws ++ zs) S2 else .no) else .no := (rfl)
@[simp] theorem ev_seq {f g : FS} : fSeq f g ρ S = seqS (f ρ S) g := (rfl)
@[simp] theorem seq_nx {g : FS} : seqS (.nx ρ S) g = g ρ S := (rfl)
@[simp] theorem seq_rt {w : W} {g : FS} : seqS (.rt w S) g = .rt w S := (rfl)
@[simp] theorem seq_no {g : FS} : seqS .no g = .no := (rfl)
@[simp] theorem seq_ex {x : Ex} {g : FS} : seqS (.ex x ρ S) g = .ex x ρ S := (rfl)
@[simp] theorem seq_bk {g : FS} : seqS (.bk ρ S) g = .bk ρ S := (rfl)
@[simp] theorem seq_ct {g : FS} : seqS (.ct ρ S) g = .ct ρ S := (rfl)
@[simp] theorem then_ok {a : α} {k : α → Store → Fl} : thenS ρ (.ok a S) k = k a S := (rfl)
@[simp] theorem then_ex {x : Ex} {k : α → Store → Fl} : thenS ρ (.ex x S) k = .ex x ρ S := (rfl)
@[simp] theorem then_no {k : α → Store → Fl} : thenS ρ (R.no : R α) k = .no := (rfl)
@[simp] theorem ev_next : fNext ρ S = .nx ρ S := (rfl)
@[simp] theorem ev_expr {f : FE} : fExpr f ρ S = thenS ρ (f ρ S) fun _ S1 => .nx ρ S1 := (rfl)
@[simp] theorem ev_ret {f : FE} : fRet f ρ S = thenS ρ (f ρ S) fun w S1 => .rt w S1 := (rfl)
@[simp] theorem ev_retN : fRetN ρ S = .rt (.d .non) S := (rfl)
@[simp] theorem ev_ifS {t : FB} {f g : FS} : fIfS t f g ρ S = thenS ρ (t ρ S) fun b S1 => if b = true then f ρ S1 else g ρ S1 := (rfl)
@[simp] theorem ev_asg {f : FE} {g : FG} : fAsg f g ρ S = thenS ρ (f ρ S) fun w S1 => match g w ρ S1 with
  | .ok ρ2 S2 => .nx ρ2 S2
  | _ => .no := (rfl)
@[simp] theorem ev_gSet {i : Nat} {w : W} : gSet i w ρ S = .ok (ρ.set i (some w)) S := (rfl)
@[simp] theorem ev_par {i j : Nat} {fs : FL} : fPar i j fs ρ S = thenS ρ (fs ρ S) fun ws S1 => match ws with
  | [v, w] => .nx ((ρ.set i (some v)).set j (some w)) S1
  | _ => .no := (rfl)
@[simp] theorem ev_for {fi : FI} {g : FG} {b : FS} : fFor fi g b ρ S = thenS ρ (fi ρ S) fun s S1 => forS g b s ρ S1 := (rfl)
@[simp] theorem ev_forS_fix {g : FG} {b : FS} {ds : List D} : forS g b (.fix ds) ρ S = forD g b ds ρ S := (rfl)
@[simp] theorem ev_never : fNever ρ S = .no := (rfl)
/-! tests -/
@[simp] theorem ev_toB {f : FE} : toB f ρ S = (f ρ S).bind fun w S1 => match w with
  | .d (.bl b) => .ok b S1
  | _ => .no := (rfl)
@[simp] theorem ev_notB {t : FB} : fNotB t ρ S = (t ρ S).bind fun b S1 => .ok (!b) S1 := (rfl)
@[simp] theorem ev_andB {t u : FB} : fAndB t u ρ S = (t ρ S).bind fun b S1 => if b = true then u ρ S1 else .ok false S1 := (rfl)
@[simp] theorem ev_orB {t u : FB} : fOrB t u ρ S = (t ρ S).bind fun b S1 => if b = true then .ok true S1 else u ρ S1 := (rfl)
@[simp] theorem ev_andV {fa fb : FE} : fAndV fa fb ρ S = (fa ρ S).bind fun w S1 => match w with
  | .d (.bl true) => fb ρ S1
  | .d (.bl false) => .ok (.d (.bl false)) S1
  | _ => .no := (rfl)
@[simp] theorem ev_orV {fa fb : FE} : fOrV fa fb ρ S = (fa ρ S).bind fun w S1 => match w with
  | .d (.bl true) => .ok (.d (.bl true)) S1
  | .d (.bl false) => fb ρ S1
  | _ => .no := (rfl)
@[simp] theorem ev_notV {fa : FE} : fNotV fa ρ S = (fa ρ S).bind fun w S1 => match w with
  | .d (.bl b) => .ok (.d (.bl (!b))) S1
  | _ => .no := (rfl)
@[simp] theorem ev_if {t : FB} {fa fb : FE} : fIf t fa fb ρ S = (t ρ S).bind fun b S1 => if b = true then fa ρ S1 else fb ρ S1 := (rfl)
/-! values -/
@[simp] theorem val_d {x : D} : val (.d x) S = some x := (rfl)
@[simp] theorem val_loc {n : Nat} : val (.loc n) S = match S[n]? with
  | some (.lst ds) => some (.lst ds)
  | some (.dct ks vs) => some (.dct ks vs)
  | _ => none := (rfl)
@[simp] theorem ev_gV {g : D → D → Store → R W} {w1 w2 : W} : gV g w1 w2 S = match val w1 S, val w2 S with
  | some x, some y => g x y S
  | _, _ => .no := (rfl)
@[simp] theorem add_int {i j : Int} : gAddD (.int i) (.int j) S = .ok (.d (.int (i + j))) S := (rfl)
@[simp] theorem add_str {x y : List Nat} : gAddD (.str x) (.str y) S = if lenOk (x.length + y.length) then .ok (.d (.str (x ++ y))) S else .no := (rfl)
@[simp] theorem add_lst {x y : List D} : gAddD (.lst x) (.lst y) S = if lenOk (x.length + y.length) then .ok (.d (.lst (x ++ y))) S else .no := (rfl)
@[simp] theorem add_tup {x y : List D} : gAddD (.tup x) (.tup y) S = if lenOk (x.length + y.length) then .ok (.d (.tup (x ++ y))) S else .no := (rfl)
@[simp] theorem sub_int {i j : Int} : gSub (.d (.int i)) (.d (.int j)) S = .ok (.d (.int (i - j))) S := (rfl)
@[simp] theorem mul_int {i j : Int} : gMul (.d (.int i)) (.d (.int j)) S = if mulOk i j then .ok (.d (.int (i * j))) S else .no := (rfl)
@[simp] theorem div_int {i j : Int} : gDiv (.d (.int i)) (.d (.int j)) S = if (decide (0 < j) && Nat.blt j.natAbs 1073741824) = true then .ok (.d (.int (i / j))) S else .no := (rfl)
@[simp] theorem mod_int {i j : Int} : gMod (.d (.int i)) (.d (.int j)) S = if decide (0 < j) = true then .ok (.d (.int (i % j))) S else .no := (rfl)
@[simp] theorem pow_int {i j : Int} : gPow (.d (.int i)) (.d (.int j)) S = if (decide (0 ≤ j) && (decide (j ≤ 1000000) && decide (i.natAbs < 2 ^ 64))) = true then .ok (.d (.int (i ^ j.toNat))) S else .no := (rfl)
@[simp] theorem neg_int' {i : Int} : gNeg (.d (.int i)) S = .ok (.d (.int (-i))) S := (rfl)
@[simp] theorem lt_int' {i j : Int} : gLt (.d (.int i)) (.d (.int j)) S = .ok (.d (.bl (decide (i < j)))) S := (rfl)
@[simp] theorem le_int' {i j : Int} : gLe (.d (.int i)) (.d (.int j)) S = .ok (.d (.bl (decide (i ≤ j)))) S := (rfl)
@[simp] theorem gt_int' {i j : Int} : gGt (.d (.int i)) (.d (.int j)) S = .ok (.d (.bl (decide (j < i)))) S := (rfl)
@[simp] theorem ge_int' {i j : Int} : gGe (.d (.int i)) (.d (.int j)) S = .ok (.d (.bl (decide (j ≤ i)))) S := (rfl)
@[simp] theorem lt_str' {x y : List Nat} : gLt (.d (.str x)) (.d (.str y)) S = .ok (.d (.bl (decide (x < y)))) S := (rfl)
@[simp] theorem le_str' {x y : List Nat} : gLe (.d (.str x)) (.d (.str y)) S = .ok (.d (.bl (!decide (y < x)))) S := (rfl)
@[simp] theorem eq_D {x y : D} : gEqD x y S = if eqOk x y then .ok (.d (.bl (deq x y))) S else .no := (rfl)
@[simp] theorem ne_D {x y : D} : gNeD x y S = if eqOk x y then .ok (.d (.bl (!deq x y))) S else .no := (rfl)
@[simp] theorem isN_d {k : Bool} : gIsN k (.d .non) (.d .non) S = .ok (.d (.bl k)) S := (rfl)
@[simp] theorem ix_lst {xs : List D} {i : Int} : gIxD (.lst xs) (.int i) S = match ixA xs i with
  | some d => .ok (.d d) S
  | none => .no := (rfl)
@[simp] theorem ix_tup {xs : List D} {i : Int} : gIxD (.tup xs) (.int i) S = match ixA xs i with
  | some d => .ok (.d d) S
  | none => .no := (rfl)
@[simp] theorem ix_scr {xs : List Int} {i : Int} : gIxD (.scr xs) (.int i) S = match ixA xs i with
  | some n => .ok (.d (.int n)) S
  | none => .no := (rfl)
@[simp] theorem ix_str {xs : List Nat} {i : Int} : gIxD (.str xs) (.int i) S = match ixA xs i with
  | some c => .ok (.d (.str [c])) S
  | none => .no := (rfl)
@[simp] theorem ix_dct {ks vs : List D} {k : D} : gIxD (.dct ks vs) k S = if (dkey k).isSome then (match dget ks vs k with
    | some d => .ok (.d d) S
    | none => .no) else .no := by cases k <;> exact (rfl)
theorem ixA_nat {α : Type} {xs : List α} {i : Nat} : ixA xs (i : Int) = xs[i]? := by
  unfold ixA atI ixN
  by_cases h : (i : Int) < xs.length
  · rw [if_pos (by omega), if_pos h]; simp
  · rw [if_pos (by omega), if_neg h, List.getElem?_eq_none (by omega)]; rfl
theorem ixA_lit {α : Type} {xs : List α} {i : Nat} : ixA xs (OfNat.ofNat i : Int) = xs[i]? := ixA_nat
@[simp] theorem ixA_0 {α : Type} {xs : List α} : ixA xs 0 = xs[0]? := ixA_nat (i := 0)
@[simp] theorem ixA_1 {α : Type} {xs : List α} : ixA xs 1 = xs[1]? := ixA_nat (i := 1)
@[simp] theorem ixA_2 {α : Type} {xs : List α} : ixA xs 2 = xs[2]? := ixA_nat (i := 2)
@[simp] theorem ixA_3 {α : Type} {xs : List α} : ixA xs 3 = xs[3]? := ixA_nat (i := 3)
@[simp] theorem ixA_4 {α : Type} {xs : List α} : ixA xs 4 = xs[4]? := ixA_nat (i := 4)
@[simp] theorem ixA_5 {α : Type} {xs : List α} : ixA xs 5 = xs[5]? := ixA_nat (i := 5)
@[simp] theorem ixA_6 {α : Type} {xs : List α} : ixA xs 6 = xs[6]? := ixA_nat (i := 6)
theorem ixN_nat {n i : Nat} (h : i < n) : ixN n (i : Int) = some i := by
  unfold ixN
  rw [if_pos (by omega), if_pos (by omega)]; rfl
@[simp] theorem ev_gIxS {fo fi : FE} {v : W} : gIxS fo fi v ρ S = (fo ρ S).bind fun w S1 => (fi ρ S1).bind fun i S2 => match wrIx w i v S2 with
  | some S3 => .ok ρ S3
  | none => .no := (rfl)
@[simp] theorem ev_wrIx {n : Nat} {i v : D} : wrIx (.loc n) (.d i) (.d v) S = wrIxD S n i v := (rfl)
/-! calls -/
@[simp] theorem int_int {i : Int} : gInt [.d (.int i)] S = .ok (.d (.int i)) S := (rfl)
@[simp] theorem abs_int {i : Int} : gAbs [.d (.int i)] S = .ok (.d (.int (if i < 0 then -i else i))) S := (rfl)
@[simp] theorem max_int {i j : Int} : gMax2 [.d (.int i), .d (.int j)] S = .ok (.d (.int (if j > i then j else i))) S := (rfl)
@[simp] theorem min_int {i j : Int} : gMin2 [.d (.int i), .d (.int j)] S = .ok (.d (.int (if j < i then j else i))) S := (rfl)
@[simp] theorem len_w {w : W} : gLen [w] S = match val w S with
    | some d => (match lenD d with
      | some n => .ok (.d (.int n)) S
      | none => .no)
    | none => .no := (rfl)
@[simp] theorem lenD_str {l : List Nat} : lenD (.str l) = some l.length := (rfl)
@[simp] theorem lenD_lst {l : List D} : lenD (.lst l) = some l.length := (rfl)
@[simp] theorem lenD_tup {l : List D} : lenD (.tup l) = some l.length := (rfl)
@[simp] theorem lenD_scr {l : List Int} : lenD (.scr l) = some l.length := (rfl)
@[simp] theorem lenD_dct {l m : List D} : lenD (.dct l m) = some l.length := (rfl)
theorem fnK_go {kp : Bool} {P N : Nat} {g : FS} {ws : List W} (h : ws.length = P) : fnK kp P N g ws S = fnB kp S.length (g (ws.map some ++ List.replicate (N - P) none) S) := if_pos h
@[simp] theorem fnB_rt {kp : Bool} {n : Nat} {w : W} : fnB kp n (.rt w S) = finish kp n w S := (rfl)
@[simp] theorem fnB_nx {kp : Bool} {n : Nat} : fnB kp n (.nx ρ S) = .ok (.d .non) (S.take n) := (rfl)
@[simp] theorem fnB_ex {kp : Bool} {n : Nat} {x : Ex} : fnB kp n (.ex x ρ S) = .ex x (S.take n) := (rfl)
theorem small_nat {n : Nat} (h : n ≤ 4611686018427387903) : small62 (n : Int) = true := by unfold small62; rw [Int.natAbs_natCast]; exact Nat.ble_eq_true_of_le h
@[simp] theorem fin_d {kp : Bool} {n : Nat} {x : D} : finish kp n (.d x) S = .ok (.d x) (S.take n) := (rfl)
end
end DL
end
section
/-! DM, 2: loops, comprehensions -/
namespace DL
open PySem PySem.Spec PyProof.Rows L2
section
variable {ρ : Env} {S : Store}
@[simp] theorem ev_lc {fi : FI} {t : Tgt} {tt : FB} {f : FE} {vs : List Nat} : fLc fi t tt f vs ρ S = (fi ρ S).bind fun s S1 => (compS t tt f s (wipeE ρ vs) S1).bind fun r S2 => .ok (.d (.lst r)) S2 := (rfl)
@[simp] theorem compS_fix {t : Tgt} {tt : FB} {f : FE} {ds : List D} : compS t tt f (.fix ds) ρ S = if lenOk ds.length then compD t tt f ρ ds S else .no := (rfl)
@[simp] theorem compS_cell {t : Tgt} {tt : FB} {f : FE} {n : Nat} : compS t tt f (.cell n) ρ S = match S[n]? with
  | some (.lst ds) => compC t tt f ρ n ds.length ds.length S
  | _ => .no := (rfl)
@[simp] theorem wipe_nil : wipeE ρ [] = ρ := (rfl)
@[simp] theorem wipe_cons {v : Nat} {vs : List Nat} : wipeE ρ (v :: vs) = (wipeE ρ vs).set v none := (rfl)
@[simp] theorem compT_name {i : Nat} {tt : FB} {f : FE} {d : D} : compT (.name i) tt f d ρ S = match tt (ρ.set i (some (.d d))) S with
    | .ok true S2 => (match f (ρ.set i (some (.d d))) S2 with
      | .ok (.d x) S3 => .ok (some x) S3
      | _ => .no)
    | .ok false S2 => .ok none S2
    | _ => .no := (rfl)
@[simp] theorem compT_tup {is : List Nat} {tt : FB} {f : FE} {ds : List D} : compT (.tup is) tt f (.tup ds) ρ S = match (if ds.length = is.length then some (setsE is ds ρ) else none : Option Env) with
  | some ρ1 => (match tt ρ1 S with
    | .ok true S2 => (match f ρ1 S2 with
      | .ok (.d x) S3 => .ok (some x) S3
      | _ => .no)
    | .ok false S2 => .ok none S2
    | _ => .no)
  | none => .no := (rfl)
@[simp] theorem setsE_cons {i : Nat} {is : List Nat} {d : D} {ds : List D} : setsE (i :: is) (d :: ds) ρ = setsE is ds (ρ.set i (some (.d d))) := (rfl)
@[simp] theorem setsE_nil : setsE [] [] ρ = ρ := (rfl)
@[simp] theorem ev_yes : fYes ρ S = .ok true S := (rfl)
@[simp] theorem ev_itemsK {f : FE} : fItemsK f ρ S = (f ρ S).bind fun w S1 => itemsW2 w S1 := (rfl)
@[simp] theorem items_lst {ds : List D} : itemsW2 (.d (.lst ds)) S = .ok (.fix ds) S := (rfl)
@[simp] theorem items_tup {ds : List D} : itemsW2 (.d (.tup ds)) S = .ok (.fix ds) S := (rfl)
@[simp] theorem items_str {l : List Nat} : itemsW2 (.d (.str l)) S = .ok (.fix (l.map fun c => .str [c])) S := (rfl)
@[simp] theorem items_scr {l : List Int} : itemsW2 (.d (.scr l)) S = .ok (.fix (l.map .int)) S := (rfl)
@[simp] theorem items_dct {ks vs : List D} : itemsW2 (.d (.dct ks vs)) S = .ok (.fix ks) S := (rfl)
@[simp] theorem items_loc {n : Nat} : itemsW2 (.loc n) S = match S[n]? with
    | some (.lst _) => .ok (.cell n) S
    | _ => .no := (rfl)
@[simp] theorem ev_range1 {fs : FL} : fRange1 fs ρ S = (fs ρ S).bind fun ws S1 => match ws with
  | [.d (.int j)] => if small62 j then .ok (.fix (rangeD 0 j.toNat)) S1 else .no
  | _ => .no := (rfl)
@[simp] theorem ev_range2 {fs : FL} : fRange2 fs ρ S = (fs ρ S).bind fun ws S1 => match ws with
  | [.d (.int i), .d (.int j)] => if small62 i && small62 j then .ok (.fix (rangeD i (j - i).toNat)) S1 else .no
  | _ => .no := (rfl)
theorem range0 (n : Nat) : rangeD 0 n = (List.range n).map fun (k : Nat) => .int (k : Int) := by
  unfold rangeD
  apply List.map_congr_left
  intro k _
  simp
theorem range_get {n i : Nat} {d : D} (h : (rangeD 0 n)[i]? = some d) : i < n ∧ d = .int (i : Int) := by
  rw [range0, List.getElem?_map] at h
  by_cases hi : i < n
  · rw [List.getElem?_range hi] at h
    exact ⟨hi, by simpa using h.symm⟩
  · rw [List.getElem?_eq_none (by simpa using hi)] at h
    cases h
@[simp] theorem range_len {lo : Int} {n : Nat} : (rangeD lo n).length = n := by simp [rangeD]
/-- for, over a fixed list, to its end -/
theorem forD_from {g : FG} {b : FS} {all : List D} (I : Nat → Env → Store → Prop)
    (st : ∀ i d ρ S, all[i]? = some d → I i ρ S → ∃ ρ1 S1 ρ2 S2, g (.d d) ρ S = .ok ρ1 S1 ∧ (b ρ1 S1 = .nx ρ2 S2 ∨ b ρ1 S1 = .ct ρ2 S2) ∧ I (i + 1) ρ2 S2) :
    ∀ (m i : Nat) (ρ : Env) (S : Store), i + m = all.length → I i ρ S → ∃ ρ' S', forD g b (all.drop i) ρ S = .nx ρ' S' ∧ I all.length ρ' S'
  | 0, i, ρ, S, hm, h => by
    have hi : i = all.length := by omega
    subst hi
    rw [List.drop_length]
    exact ⟨ρ, S, rfl, h⟩
  | m + 1, i, ρ, S, hm, h => by
    have hi : i < all.length := by omega
    obtain ⟨ρ1, S1, ρ2, S2, e1, e2, h2⟩ := st i all[i] ρ S (List.getElem?_eq_getElem hi) h
    obtain ⟨ρ', S', e3, h3⟩ := forD_from I st m (i + 1) ρ2 S2 (by omega) h2
    refine ⟨ρ', S', ?_, h3⟩
    rw [List.drop_eq_getElem_cons hi, forD, e1]
    dsimp only
    rcases e2 with e2 | e2 <;> rw [e2] <;> exact e3
theorem forD_inv {g : FG} {b : FS} {all : List D} {ρ : Env} {S : Store} (I : Nat → Env → Store → Prop) (h0 : I 0 ρ S)
    (st : ∀ i d ρ S, all[i]? = some d → I i ρ S → ∃ ρ1 S1 ρ2 S2, g (.d d) ρ S = .ok ρ1 S1 ∧ (b ρ1 S1 = .nx ρ2 S2 ∨ b ρ1 S1 = .ct ρ2 S2) ∧ I (i + 1) ρ2 S2) : ∃ ρ' S', forD g b all ρ S = .nx ρ' S' ∧ I all.length ρ' S' :=
  forD_from I st all.length 0 ρ S (by omega) h0
/-- .. whose turns may also end the def -/
theorem forD_ends {g : FG} {b : FS} {all : List D} (I : Nat → Env → Store → Prop) (Φ : Fl → Prop) (hend : ∀ ρ S, I all.length ρ S → Φ (.nx ρ S))
    (st : ∀ i d ρ S, all[i]? = some d → I i ρ S → ∃ ρ1 S1, g (.d d) ρ S = .ok ρ1 S1 ∧ ((∃ ρ2 S2, (b ρ1 S1 = .nx ρ2 S2 ∨ b ρ1 S1 = .ct ρ2 S2) ∧ I (i + 1) ρ2 S2) ∨ (∃ ρ2 S2, b ρ1 S1 = .bk ρ2 S2 ∧ Φ (.nx ρ2 S2)) ∨ (∃ w S2, b ρ1 S1 = .rt w S2 ∧ Φ (.rt w S2)))) :
    ∀ (m i : Nat) (ρ : Env) (S : Store), i + m = all.length → I i ρ S → Φ (forD g b (all.drop i) ρ S)
  | 0, i, ρ, S, hm, h => by
    have hi : i = all.length := by omega
    subst hi
    rw [List.drop_length]
    exact hend ρ S h
  | m + 1, i, ρ, S, hm, h => by
    have hi : i < all.length := by omega
    obtain ⟨ρ1, S1, e1, e2⟩ := st i all[i] ρ S (List.getElem?_eq_getElem hi) h
    rw [List.drop_eq_getElem_cons hi, forD, e1]
    dsimp only
    rcases e2 with ⟨ρ2, S2, e2 | e2, h2⟩ | ⟨ρ2, S2, e2, h2⟩ | ⟨w, S2, e2, h2⟩
    · rw [e2]; exact forD_ends I Φ hend st m (i + 1) ρ2 S2 (by omega) h2
    · rw [e2]; exact forD_ends I Φ hend st m (i + 1) ρ2 S2 (by omega) h2
    · rw [e2]; exact h2
    · rw [e2]; exact h2
/-- a comprehension, its turns changing the store -/
theorem compD_from {t : Tgt} {tt : FB} {f : FE} {ρ : Env} {all : List D} (I : Nat → List D → Store → Prop)
    (st : ∀ i d acc S, all[i]? = some d → I i acc S → ∃ o S', compT t tt f d ρ S = .ok o S' ∧ I (i + 1) (acc ++ o.toList) S') :
    ∀ (m i : Nat) (acc : List D) (S : Store), i + m = all.length → I i acc S → ∃ r S', compD t tt f ρ (all.drop i) S = .ok r S' ∧ I all.length (acc ++ r) S'
  | 0, i, acc, S, hm, h => by
    have hi : i = all.length := by omega
    subst hi
    rw [List.drop_length]
    exact ⟨[], S, rfl, by rw [List.append_nil]; exact h⟩
  | m + 1, i, acc, S, hm, h => by
    have hi : i < all.length := by omega
    obtain ⟨o, S1, e1, h1⟩ := st i all[i] acc S (List.getElem?_eq_getElem hi) h
    obtain ⟨r, S2, e2, h2⟩ := compD_from I st m (i + 1) _ S1 (by omega) h1
    refine ⟨consO o r, S2, ?_, ?_⟩
    · rw [List.drop_eq_getElem_cons hi, compD, e1, bind_ok, e2, bind_ok]
    · rw [List.append_assoc] at h2
      have e : o.toList ++ r = consO o r := by cases o <;> rfl
      rw [e] at h2
      exact h2
theorem compD_inv {t : Tgt} {tt : FB} {f : FE} {ρ : Env} {all : List D} {S : Store} (I : Nat → List D → Store → Prop) (h0 : I 0 [] S)
    (st : ∀ i d acc S, all[i]? = some d → I i acc S → ∃ o S', compT t tt f d ρ S = .ok o S' ∧ I (i + 1) (acc ++ o.toList) S') : ∃ r S', compD t tt f ρ all S = .ok r S' ∧ I all.length r S' := by
  obtain ⟨r, S', e, h⟩ := compD_from I st all.length 0 [] S (by omega) h0
  exact ⟨r, S', e, h⟩
/-- .. changing nothing -/
theorem compD_pure {t : Tgt} {tt : FB} {f : FE} {ρ : Env} {S : Store} (o : D → Option D) : ∀ (ds : List D), (∀ d ∈ ds, compT t tt f d ρ S = .ok (o d) S) → compD t tt f ρ ds S = .ok (ds.filterMap o) S
  | [], _ => rfl
  | d :: ds, h => by
    rw [compD, h d List.mem_cons_self, bind_ok, compD_pure o ds fun d hd => h d (List.mem_cons_of_mem _ hd), bind_ok, List.filterMap_cons]
    cases o d <;> rfl
/-! methods of texts and lists -/
@[simp] theorem ev_bm {T : String} {g : FF} {fo : FE} {fs : FL} : fBM T g fo fs ρ S = (fo ρ S).bind fun w S1 => if tyW T w S1 = true then (fs ρ S1).bind fun ws S2 => g (w :: ws) S2 else .no := (rfl)
@[simp] theorem tyW_str {l : List Nat} : tyW "str" (.d (.str l)) S = true := (rfl)
@[simp] theorem tyW_lst {l : List D} : tyW "list" (.d (.lst l)) S = true := (rfl)
theorem tyW_cell {n : Nat} {ds : List D} (h : S[n]? = some (.lst ds)) : tyW "list" (.loc n) S = true := by simp [tyW, h]
@[simp] theorem strsOf_str (ys : List (List Nat)) : strsOf (ys.map D.str) = some ys := strsOf_map ys
/-- ''.join of single signs -/
theorem joinL_nil : ∀ l : List Nat, TL.joinL [] (l.map fun c => [c]) = l
  | [] => rfl
  | [c] => rfl
  | c :: d :: l => by
    have ih := joinL_nil (d :: l)
    rw [List.map_cons, List.map_cons, TL.joinL]
    rw [List.map_cons] at ih
    rw [ih]; rfl
theorem sum_ones : ∀ l : List Nat, ((l.map fun c => [c]).map (·.length)).sum = l.length
  | [] => rfl
  | c :: l => by rw [List.map_cons, List.map_cons, List.sum_cons, sum_ones l, List.length_cons]; simp; omega
theorem strsOf_ones (l : List Nat) : strsOf (l.map fun c => .str [c]) = some (l.map fun c => [c]) := by
  have := strsOf_map (l.map fun c => [c])
  rwa [List.map_map] at this
theorem join_ones {l : List Nat} (h : l.length ≤ 1000000) : gJoin [.d (.str []), .d (.lst (l.map fun c => .str [c]))] S = .ok (.d (.str l)) S := by
  simp only [gJoin, val_d, strsOf_ones, sum_ones, List.length_nil, Nat.mul_zero, Nat.add_zero, joinL_nil]
  rw [if_pos (by omega)]
@[simp] theorem lst_w {w : W} : gList [w] S = match val w S with
    | some d => (match seqD d with
      | some ds => .ok (.d (.lst ds)) S
      | none => .no)
    | none => .no := (rfl)
@[simp] theorem lstC_w {w : W} : gListC [w] S = match val w S with
    | some d => (match seqD d with
      | some ds => .ok (.loc S.length) (S ++ [.lst ds])
      | none => .no)
    | none => .no := (rfl)
@[simp] theorem seqD_str {l : List Nat} : seqD (.str l) = some (l.map fun c => .str [c]) := (rfl)
@[simp] theorem seqD_lst {l : List D} : seqD (.lst l) = some l := (rfl)
@[simp] theorem seqD_tup {l : List D} : seqD (.tup l) = some l := (rfl)
@[simp] theorem tup_w {w : W} : gTuple [w] S = match val w S with
    | some (.lst ds) => .ok (.d (.tup ds)) S
    | some (.tup ds) => .ok (.d (.tup ds)) S
    | some (.scr ns) => .ok (.d (.tup (ns.map D.int))) S
    | _ => .no := (rfl)
/-! displays -/
@[simp] theorem ev_lst {fs : FL} : fLst fs ρ S = (fs ρ S).bind fun ws S1 => match pures ws with
  | some ds => if lenOk ds.length then .ok (.d (.lst ds)) S1 else .no
  | none => .no := (rfl)
@[simp] theorem ev_tup {fs : FL} : fTup fs ρ S = (fs ρ S).bind fun ws S1 => match pures ws with
  | some ds => if lenOk ds.length then .ok (.d (.tup ds)) S1 else .no
  | none => .no := (rfl)
@[simp] theorem ev_lstC {fs : FL} : fLstC fs ρ S = (fs ρ S).bind fun ws S1 => match pures ws with
  | some ds => if lenOk ds.length then .ok (.loc S1.length) (S1 ++ [.lst ds]) else .no
  | none => .no := (rfl)
@[simp] theorem ev_dctC : fDctC ρ S = .ok (.loc S.length) (S ++ [.dct [] []]) := (rfl)
@[simp] theorem pures_nil : pures [] = some [] := (rfl)
@[simp] theorem pures_cons {x : D} {ws : List W} : pures (.d x :: ws) = (pures ws).map (x :: ·) := (rfl)
theorem lenOk_of {n : Nat} (h : n ≤ 16777216) : lenOk n = true := decide_eq_true (by rw [sizeLine_eq]; exact h)
/-! equality -/
@[simp] theorem deq_str {x y : List Nat} : deq (.str x) (.str y) = (x == y) := by simp [deq]
@[simp] theorem deq_int {x y : Int} : deq (.int x) (.int y) = (x == y) := by simp [deq]
@[simp] theorem deq_lst {x y : List D} : deq (.lst x) (.lst y) = deqs x y := by simp [deq]
@[simp] theorem deq_tup {x y : List D} : deq (.tup x) (.tup y) = deqs x y := by simp [deq]
@[simp] theorem deqs_nil : deqs [] [] = true := by simp [deqs]
@[simp] theorem deqs_cn {x : D} {xs : List D} : deqs (x :: xs) [] = false := by simp [deqs]
@[simp] theorem deqs_nc {x : D} {xs : List D} : deqs [] (x :: xs) = false := by simp [deqs]
@[simp] theorem deqs_cc {x y : D} {xs ys : List D} : deqs (x :: xs) (y :: ys) = (deq x y && deqs xs ys) := by simp [deqs]
@[simp] theorem eqOk_str {x y : List Nat} : eqOk (.str x) (.str y) = true := (rfl)
@[simp] theorem eqOk_int {x y : Int} : eqOk (.int x) (.int y) = true := (rfl)
end
end DL
end
section
/-! DM, 3: single signs sorted, slices, stores with cells behind -/
namespace DL
open PySem PySem.Spec PyProof.Rows L2
def insN (x : Nat) : List Nat → List Nat
  | [] => [x]
  | y :: ys => if y < x then y :: insN x ys else x :: y :: ys
def sortN : List Nat → List Nat
  | [] => []
  | x :: xs => insN x (sortN xs)
abbrev ones (l : List Nat) : List (List Nat) := l.map fun c => [c]
theorem ones_cons (x : Nat) (l : List Nat) : ones (x :: l) = [x] :: ones l := rfl
theorem insS_ones (x : Nat) : ∀ l : List Nat, insS [x] (ones l) = ones (insN x l)
  | [] => rfl
  | y :: ys => by
    have e : ltCps [y] [x] = decide (y < x) := by simp [ltCps]
    rw [ones_cons, insS, e, insN]
    by_cases h : y < x
    · rw [if_pos (decide_eq_true h), if_pos h, insS_ones x ys]; rfl
    · rw [if_neg (by simpa using h), if_neg h]; rfl
theorem sortL_ones : ∀ l : List Nat, sortL (ones l) = ones (sortN l)
  | [] => rfl
  | x :: xs => by rw [ones_cons, sortL, sortL_ones xs, insS_ones]; rfl
theorem insN_perm (x : Nat) : ∀ l, (insN x l).Perm (x :: l)
  | [] => .refl _
  | y :: ys => by
    unfold insN
    split
    · exact ((insN_perm x ys).cons y).trans (.swap ..)
    · exact .refl _
theorem sortN_perm : ∀ l, (sortN l).Perm l
  | [] => .refl _
  | x :: xs => (insN_perm x _).trans ((sortN_perm xs).cons x)
theorem insN_sorted (x : Nat) : ∀ l, l.Pairwise (· ≤ ·) → (insN x l).Pairwise (· ≤ ·)
  | [], _ => by simp [insN]
  | y :: ys, h => by
    unfold insN
    rw [List.pairwise_cons] at h
    split
    · rw [List.pairwise_cons]
      refine ⟨fun z hz => ?_, insN_sorted x ys h.2⟩
      rcases List.mem_cons.mp ((insN_perm x ys).mem_iff.mp hz) with e | hz
      · rw [e]; omega
      · exact h.1 z hz
    · rw [List.pairwise_cons]
      refine ⟨fun z hz => ?_, List.pairwise_cons.mpr h⟩
      rcases List.mem_cons.mp hz with e | hz
      · rw [e]; omega
      · have := h.1 z hz; omega
theorem sortN_sorted : ∀ l, (sortN l).Pairwise (· ≤ ·)
  | [] => .nil
  | x :: xs => insN_sorted x _ (sortN_sorted xs)
theorem lt_of_le_nd : ∀ {l : List Nat}, l.Pairwise (· ≤ ·) → l.Nodup → l.Pairwise (· < ·)
  | [], _, _ => .nil
  | x :: xs, h, d => by
    rw [List.pairwise_cons] at h ⊢
    rw [List.nodup_cons] at d
    refine ⟨fun y hy => ?_, lt_of_le_nd h.2 d.2⟩
    have := h.1 y hy
    have : x ≠ y := fun e => d.1 (e ▸ hy)
    omega
theorem sub_range : ∀ (n a : Nat) (l : List Nat), l.Pairwise (· < ·) → (∀ c ∈ l, a ≤ c ∧ c < a + n) → l.Sublist (List.range' a n)
  | 0, a, l, _, h => by
    cases l with
    | nil => simp
    | cons c l => have := h c List.mem_cons_self; omega
  | n + 1, a, l, p, h => by
    rw [List.range'_succ]
    cases l with
    | nil => simp
    | cons c l =>
      rw [List.pairwise_cons] at p
      by_cases e : c = a
      · subst e
        refine List.Sublist.cons_cons _ (sub_range n (c + 1) l p.2 fun d hd => ?_)
        have h1 := p.1 d hd
        have h2 := h d (List.mem_cons_of_mem _ hd)
        omega
      · refine List.Sublist.cons _ (sub_range n (a + 1) (c :: l) (List.pairwise_cons.mpr p) fun d hd => ?_)
        have h1 := h d hd
        have h2 := h c List.mem_cons_self
        rcases List.mem_cons.mp hd with e2 | e2
        · subst e2; omega
        · have := p.1 d e2; omega
/-- each once -/
def onceM : List Nat → List Nat → List Nat
  | l, [] => l
  | l, x :: xs => onceM (if x ∈ l then l else x :: l) xs
theorem onceN_ones : ∀ (xs l : List Nat), onceN (ones l) (ones xs) = ones (onceM l xs)
  | [], l => rfl
  | x :: xs, l => by
    rw [ones_cons, onceN, onceM]
    have e : ([x] ∈ ones l) ↔ x ∈ l := by
      rw [List.mem_map]
      exact ⟨fun ⟨y, h1, h2⟩ => by injection h2 with h2; exact h2 ▸ h1, fun h => ⟨x, h, rfl⟩⟩
    by_cases h : x ∈ l
    · rw [if_pos h, if_pos (e.mpr h)]; exact onceN_ones xs l
    · rw [if_neg h, if_neg (fun z => h (e.mp z)), ← ones_cons]; exact onceN_ones xs (x :: l)
theorem onceM_mem : ∀ (xs l : List Nat) (y : Nat), y ∈ onceM l xs ↔ y ∈ l ∨ y ∈ xs
  | [], l, y => by simp [onceM]
  | x :: xs, l, y => by
    rw [onceM, onceM_mem xs, List.mem_cons]
    by_cases h : x ∈ l
    · rw [if_pos h]
      constructor
      · rintro (a | a)
        · exact .inl a
        · exact .inr (.inr a)
      · rintro (a | a | a)
        · exact .inl a
        · exact .inl (a ▸ h)
        · exact .inr a
    · rw [if_neg h, List.mem_cons]
      constructor
      · rintro ((a | a) | a)
        · exact .inr (.inl a)
        · exact .inl a
        · exact .inr (.inr a)
      · rintro (a | a | a)
        · exact .inl (.inr a)
        · exact .inl (.inl a)
        · exact .inr a
theorem onceM_nd : ∀ (xs l : List Nat), l.Nodup → (onceM l xs).Nodup
  | [], l, h => h
  | x :: xs, l, h => by
    rw [onceM]
    by_cases e : x ∈ l
    · rw [if_pos e]; exact onceM_nd xs l h
    · rw [if_neg e]; exact onceM_nd xs _ (List.nodup_cons.mpr ⟨e, h⟩)
section
variable {ρ : Env} {S : Store}
theorem sortS_ones {l : List Nat} (h : l.length < 4000) : gSortS [.d (.lst (l.map fun c => .str [c]))] S = .ok (.d (.lst ((sortN l).map fun c => .str [c]))) S := by
  have e : (sortL (ones l)).map D.str = (sortN l).map fun c => D.str [c] := by rw [sortL_ones, List.map_map]; rfl
  simp only [gSortS, val_d, strsOf_ones, List.length_map]
  rw [if_pos h, e]
theorem sortSet_ones {l : List Nat} (h : l.length < 4000) : gSortSet [.d (.lst (l.map fun c => .str [c]))] S = .ok (.d (.lst ((sortN (onceM [] l)).map fun c => .str [c]))) S := by
  have e : (sortL (onceN [] (ones l))).map D.str = (sortN (onceM [] l)).map fun c => D.str [c] := by
    have : onceN [] (ones l) = ones (onceM [] l) := onceN_ones l []
    rw [this, sortL_ones, List.map_map]; rfl
  simp only [gSortSet, val_d, strsOf_ones, List.length_map]
  rw [if_pos h, e]
theorem plain_strs (n : Nat) : ∀ (l : List D), (∀ d ∈ l, ∃ s, d = .str s) → plainDs n l = true
  | [], _ => by cases n <;> rfl
  | d :: l, h => by
    obtain ⟨s, rfl⟩ := h d List.mem_cons_self
    have := plain_strs n l fun d hd => h d (List.mem_cons_of_mem _ hd)
    cases n <;> simp [plainDs, plainD, this]
/-! slices -/
@[simp] theorem ev_sl {f : FE} {l u : FO} : fSl f l u ρ S = (f ρ S).bind fun w S1 => (l ρ S1).bind fun lo S2 => (u ρ S2).bind fun hi S3 => gSl w lo hi S3 := (rfl)
@[simp] theorem ev_noO : fNoO ρ S = .ok none S := (rfl)
@[simp] theorem ev_someO {f : FE} : fSomeO f ρ S = (f ρ S).bind fun w S1 => match w with
  | .d (.int i) => .ok (some i) S1
  | _ => .no := (rfl)
@[simp] theorem sl_w {w : W} {lo hi : Option Int} : gSl w lo hi S = match val w S with
  | some d => gSlD d lo hi S
  | none => .no := (rfl)
@[simp] theorem sl_lst {l : List D} {lo hi : Option Int} : gSlD (.lst l) lo hi S = .ok (.d (.lst (cutL l lo hi))) S := (rfl)
@[simp] theorem sl_tup {l : List D} {lo hi : Option Int} : gSlD (.tup l) lo hi S = .ok (.d (.tup (cutL l lo hi))) S := (rfl)
@[simp] theorem sl_str {l : List Nat} {lo hi : Option Int} : gSlD (.str l) lo hi S = .ok (.d (.str (cutL l lo hi))) S := (rfl)
@[simp] theorem sl_scr {l : List Int} {lo hi : Option Int} : gSlD (.scr l) lo hi S = .ok (.d (.lst ((cutL l lo hi).map D.int))) S := (rfl)
/-! cells behind a store -/
theorem app_get {B cs : Store} {L i : Nat} (h : B.length = L) : (B ++ cs)[L + i]? = cs[i]? := by
  rw [List.getElem?_append_right (by omega)]
  congr 1
  omega
theorem app_get0 {B cs : Store} {L : Nat} (h : B.length = L) : (B ++ cs)[L]? = cs[0]? := app_get (i := 0) h
theorem app_set {B cs : Store} {L i : Nat} {c : Cell} (h : B.length = L) : (B ++ cs).set (L + i) c = B ++ cs.set i c := by
  rw [List.set_append_right _ _ (by omega)]
  congr 2
  omega
theorem app_set0 {B cs : Store} {L : Nat} {c : Cell} (h : B.length = L) : (B ++ cs).set L c = B ++ cs.set 0 c := app_set (i := 0) h
theorem app_take {B cs : Store} {L : Nat} (h : B.length = L) : (B ++ cs).take L = B := by
  rw [← h]; exact List.take_left
/-! methods that write -/
theorem append_at {n : Nat} {ds : List D} {d : D} (h : S[n]? = some (.lst ds)) (hl : ds.length < 1000000) : gAppend [.loc n, .d d] S = .ok (.d .non) (S.set n (.lst (ds ++ [d]))) := by
  have lo : lenOk (ds.length + 1) = true := lenOk_of (by omega)
  simp [gAppend, h, lo]
end
end DL
end
section
namespace DL
open PySem PySem.Spec PyProof.Rows L2
section
variable {ρ : Env} {S : Store}
theorem compD_fil {α : Type} {t : Tgt} {tt : FB} {f : FE} {mk r : α → D} {p : α → Bool} : ∀ (l : List α), (∀ x ∈ l, compT t tt f (mk x) ρ S = .ok (if p x then some (r x) else none) S) → compD t tt f ρ (l.map mk) S = .ok ((l.filter p).map r) S
  | [], _ => rfl
  | x :: l, h => by
    rw [List.map_cons, compD, h x List.mem_cons_self, bind_ok, compD_fil l fun d hd => h d (List.mem_cons_of_mem _ hd), bind_ok]
    by_cases hp : p x = true
    · rw [List.filter_cons_of_pos hp, if_pos hp]; rfl
    · rw [List.filter_cons_of_neg hp, if_neg hp]; rfl
theorem compD_map {α : Type} {t : Tgt} {tt : FB} {f : FE} {mk r : α → D} (l : List α) (h : ∀ x ∈ l, compT t tt f (mk x) ρ S = .ok (some (r x)) S) : compD t tt f ρ (l.map mk) S = .ok (l.map r) S := by
  have := compD_fil (p := fun _ => true) (r := r) l fun x hx => h x hx
  rw [this, List.filter_eq_self.mpr (by simp)]
theorem blsOf_map {α : Type} (g : α → Bool) : ∀ l : List α, blsOf (l.map fun x => D.bl (g x)) = some (l.map g)
  | [] => rfl
  | x :: l => by rw [List.map_cons, blsOf, blsOf_map g l]; rfl
theorem all_bl {α : Type} (g : α → Bool) (l : List α) : gAll [.d (.lst (l.map fun x => D.bl (g x)))] S = .ok (.d (.bl (l.all g))) S := by
  simp only [gAll, gAA, val_d, blsOf_map]
  rw [List.all_map]; rfl
theorem any_bl {α : Type} (g : α → Bool) (l : List α) : gAny [.d (.lst (l.map fun x => D.bl (g x)))] S = .ok (.d (.bl (l.any g))) S := by
  simp only [gAny, gAA, val_d, blsOf_map]
  rw [List.any_map]; rfl
@[simp] theorem in_ch {neg : Bool} {c : Nat} {z : List Nat} : gIn0D neg (.str [c]) (.str z) S = .ok (.d (.bl (neg ^^ decide (c ∈ z)))) S := (rfl)
theorem any_strs (c : Nat) : ∀ l : List Nat, (l.map fun x => D.str [x]).any (fun y => deq y (.str [c])) = decide (c ∈ l)
  | [] => rfl
  | x :: l => by
    rw [List.map_cons, List.any_cons, any_strs c l, deq_str]
    by_cases h : x = c
    · subst h; simp
    · have : ([x] == [c]) = false := by simp [h]
      rw [this]
      simp [Ne.symm h]
theorem in_strs {neg : Bool} {c : Nat} {l : List Nat} : gIn0D neg (.str [c]) (.lst (l.map fun x => .str [x])) S = .ok (.d (.bl (neg ^^ decide (c ∈ l)))) S := by
  have h1 : plainD 60 (.str [c]) = true := rfl
  have h2 : plainDs 60 (l.map fun x => .str [x]) = true := plain_strs 60 _ fun d hd => by obtain ⟨c, _, rfl⟩ := List.mem_map.mp hd; exact ⟨_, rfl⟩
  have : gIn0D neg (.str [c]) (.lst (l.map fun x => .str [x])) S = if plainD 60 (.str [c]) && plainDs 60 (l.map fun x => .str [x]) then .ok (.d (.bl (neg ^^ (l.map fun x => D.str [x]).any fun y => deq y (.str [c])))) S else .no := (rfl)
  rw [this, h1, h2, any_strs]; rfl
@[simp] theorem ev_fldD {cn f : Str} {fo : FE} : fFld cn f fo ρ S = (fo ρ S).bind fun w S1 => match insOf cn w S1 with
  | some (ns, vs) => (match lookN f ns vs with
    | some d => .ok (.d d) S1
    | none => .no)
  | none => .no := (rfl)
@[simp] theorem ev_prop {cn : Str} {F : FF} {fo : FE} : fProp cn F fo ρ S = (fo ρ S).bind fun w S1 => match insOf cn w S1 with
  | some _ => noEx (F [w] S1)
  | none => .no := (rfl)
@[simp] theorem noEx_ok {w : W} : noEx (R.ok w S) = .ok w S := (rfl)
@[simp] theorem ev_meth {cn mn : Str} {F : FF} {n m : Nat} {fo : FE} {fs gs : FL} : fMeth cn mn F n m fo fs gs ρ S = (fo ρ S).bind fun w S1 => match insOf cn w S1 with
  | some (ns, vs) => if (lookN mn ns vs).isSome then .no else (fs ρ S1).bind fun ws S2 => (gs ρ S2).bind fun zs S3 => if ws.length = n then (if zs.length = m then F (w :: (ws ++ zs)) S3 else .no) else .no
  | none => .no := (rfl)
end
end DL
end
section
namespace DL
open PySem PySem.Spec PyProof.Rows L2
section
variable {ρ : Env} {S : Store}
theorem keq_ch {a b : Nat} : keq (.str [a]) (.str [b]) = decide (a = b) := by
  by_cases h : a = b
  · subst h; simp [keq, dkey]
  · simp [keq, dkey, h]
theorem dget_map {α : Type} {g : α → Nat} {v : α → D} : ∀ {l : List α} {x : α}, (l.map g).Nodup → x ∈ l → dget (l.map fun p => .str [g p]) (l.map v) (.str [g x]) = some (v x)
  | [], _, _, h => nomatch h
  | y :: l, x, nd, h => by
    rw [List.map_cons, List.map_cons, dget, keq_ch]
    rw [List.map_cons, List.nodup_cons] at nd
    rcases List.mem_cons.mp h with rfl | h
    · rw [decide_eq_true rfl]; rfl
    · have : g y ≠ g x := fun e => nd.1 (by rw [e]; exact List.mem_map_of_mem h)
      rw [decide_eq_false this]
      exact dget_map nd.2 h
theorem any_keq {c : Nat} : ∀ l : List Nat, (l.map fun x => D.str [x]).any (fun k => keq k (.str [c])) = decide (c ∈ l)
  | [] => rfl
  | x :: l => by
    rw [List.map_cons, List.any_cons, any_keq l, keq_ch]
    by_cases h : x = c
    · subst h; simp
    · simp [h, Ne.symm h]
/-- a new key of a dict -/
theorem wr_new {n c : Nat} {l : List Nat} {vs : List D} {v : D} (h : S[n]? = some (.dct (l.map fun x => .str [x]) vs)) (hc : c ∉ l) (hl : l.length < 1000000) : wrIxD S n (.str [c]) v = some (S.set n (.dct ((l ++ [c]).map fun x => .str [x]) (vs ++ [v]))) := by
  have e : ((l.map fun x => D.str [x]).any fun k => keq k (.str [c])) = false := by rw [any_keq]; exact decide_eq_false hc
  have k : (dkey (.str [c])).isSome = true := rfl
  have lo : lenOk ((l.map fun x => D.str [x]).length + 1) = true := lenOk_of (by simp; omega)
  unfold wrIxD
  rw [h]
  simp only [k, lo, putDk, putDv, e]
  simp
theorem nonempty_ones {l : List Nat} : eqOk (.lst (l.map fun c => .str [c])) (.lst []) = true := by
  have : plainD 60 (.lst (l.map fun c => .str [c])) = true := by
    rw [plainD]; exact plain_strs 59 _ fun d hd => by obtain ⟨c, _, rfl⟩ := List.mem_map.mp hd; exact ⟨_, rfl⟩
  unfold eqOk
  rw [this]; rfl
theorem deq_ones {l : List Nat} : deq (.lst (l.map fun c => .str [c])) (.lst []) = l.isEmpty := by
  cases l <;> rfl
theorem filter_any {α : Type} (p : α → Bool) (l : List α) : (!(l.filter p).isEmpty) = l.any p := by
  induction l with
  | nil => rfl
  | cons x l ih =>
    by_cases h : p x = true
    · rw [List.filter_cons_of_pos h]; simp [h]
    · rw [List.filter_cons_of_neg h, ih]; simp [h]
end
end DL
end
end
section
section
/-! DL, 22: several names set at once -/
namespace DL
open PySem PySem.Spec PyProof.Rows L2
/-- t1, .. = e1, .. -/
def fParG (fs : FL) (n : Nat) (g : FGs) : FS := fun ρ S => thenS ρ (fs ρ S) fun ws S1 => if ws.length = n then (match g ws ρ S1 with
  | .ok ρ2 S2 => .nx ρ2 S2
  | _ => .no) else .no
section
variable {X : Cx} {Z : WX} {fs : FL} {es ts : List Expr} {g : FGs} {pos : Pos}
theorem ds_parG {n k1 k2 : Nat} {p1 p2 : Pos} (ha : DA X Z es fs) (h : DGs X Z ts g) (hz : n ≤ 100 := by decide) (hc : X.calm = true := by rfl) (hn : (assignEach ts X.env).length = n := by rfl) (hst : (assignEach ts X.env).findIdx? (·.1) = none := by rfl)
    (hs : swapsWithSole [.Tuple ts k1 p1] (.Tuple es k2 p2) pos.line X.env = pure false := by rfl) (hw : swappedStores [.Tuple ts k1 p1] (.Tuple es k2 p2) X.env = pure none := by rfl)
    (ht : (assignEach [.Tuple ts k1 p1] X.env).map (·.2) = [assign (.Tuple ts k1 p1) X.env] := by rfl) :
    DS X Z (.Assign [.Tuple ts k1 p1] (.Tuple es k2 p2) pos) (fParG fs n g) := by
  obtain ⟨_, pa, qa⟩ := ha
  obtain ⟨_, pg, qg⟩ := h
  refine ⟨_, ps_asg (pe_tup pa) (pg_tup hc pg hn hst) hs hw ht, fun ρ S σ H G c D gd re h => ?_⟩
  refine qa ρ S σ H G c _ gd re (Wants.stepS re h fun ws S1 G1 c1 H1 vs e1 g1 rx h1 => ?_)
  by_cases hl : ws.length = n
  · rw [if_pos hl] at h1
    have hv : vs.length = n := rx.length.trans hl
    refine ⟨by rw [hv, sizeLine_eq]; omega, fun p hp => ⟨p, vs, rfl, .of upd_same, hv, ?_⟩⟩
    have g2 : Good X.K G1 c1 S1 (upd H1 p (.tup vs)) := g1.setD (g1.free hp) (fun z => by
      obtain ⟨m, hm, e'⟩ := List.mem_iff_getElem.mp z
      obtain ⟨_, x, _, ca⟩ := g1.cell m p (by rw [List.getElem?_eq_getElem hm, e'])
      obtain ⟨o, ho⟩ := ca.some
      rw [hp] at ho; cases ho) _
    have e2 : Ev G1 c1 H1 G1 c1 (upd H1 p (.tup vs)) := (Ev.refl ..).setD hp _
    refine qg ws vs ρ S1 σ _ G1 c1 _ g2 (re.ev e1.gg e1.cc) rx ?_
    revert h1
    cases g ws ρ S1 with
    | ok ρ2 S2 => exact fun h G3 c3 H3 σ3 e3 => h G3 c3 H3 σ3 (e2.trans e3)
    | ex _ _ => exact fun h => h
    | no => exact fun h => h
  · rw [if_neg hl] at h1; exact h1.elim
theorem fPar_G {i j : Nat} : fPar i j fs = fParG fs 2 (gsCons (gSet i) (gsCons (gSet j) gsNil)) := by
  funext ρ S
  unfold fPar fParG
  congr 1
  funext ws S1
  match ws with
  | [] => rfl
  | [_] => rfl
  | [_, _] => rfl
  | _ :: _ :: _ :: _ => rfl
theorem ds_par2 {i j k1 k2 : Nat} {p1 p2 : Pos} (ha : DA X Z es fs) (h : DGs X Z ts (gsCons (gSet i) (gsCons (gSet j) gsNil))) (hc : X.calm = true := by rfl) (hn : (assignEach ts X.env).length = 2 := by rfl) (hst : (assignEach ts X.env).findIdx? (·.1) = none := by rfl)
    (hs : swapsWithSole [.Tuple ts k1 p1] (.Tuple es k2 p2) pos.line X.env = pure false := by rfl) (hw : swappedStores [.Tuple ts k1 p1] (.Tuple es k2 p2) X.env = pure none := by rfl)
    (ht : (assignEach [.Tuple ts k1 p1] X.env).map (·.2) = [assign (.Tuple ts k1 p1) X.env] := by rfl) :
    DS X Z (.Assign [.Tuple ts k1 p1] (.Tuple es k2 p2) pos) (fPar i j fs) := by
  rw [fPar_G]
  exact ds_parG ha h (by decide) hc hn hst hs hw ht
def fPar3 (i j l : Nat) (fs : FL) : FS := fun ρ S => thenS ρ (fs ρ S) fun ws S1 => match ws with
  | [u, v, w] => .nx (((ρ.set i (some u)).set j (some v)).set l (some w)) S1
  | _ => .no
theorem fPar3_G {i j l : Nat} : fPar3 i j l fs = fParG fs 3 (gsCons (gSet i) (gsCons (gSet j) (gsCons (gSet l) gsNil))) := by
  funext ρ S
  unfold fPar3 fParG
  congr 1
  funext ws S1
  match ws with
  | [] => rfl
  | [_] => rfl
  | [_, _] => rfl
  | [_, _, _] => rfl
  | _ :: _ :: _ :: _ :: _ => rfl
theorem ds_par3G {i j l k1 k2 : Nat} {p1 p2 : Pos} (ha : DA X Z es fs) (h : DGs X Z ts (gsCons (gSet i) (gsCons (gSet j) (gsCons (gSet l) gsNil)))) (hc : X.calm = true := by rfl) (hn : (assignEach ts X.env).length = 3 := by rfl) (hst : (assignEach ts X.env).findIdx? (·.1) = none := by rfl)
    (hs : swapsWithSole [.Tuple ts k1 p1] (.Tuple es k2 p2) pos.line X.env = pure false := by rfl) (hw : swappedStores [.Tuple ts k1 p1] (.Tuple es k2 p2) X.env = pure none := by rfl)
    (ht : (assignEach [.Tuple ts k1 p1] X.env).map (·.2) = [assign (.Tuple ts k1 p1) X.env] := by rfl) :
    DS X Z (.Assign [.Tuple ts k1 p1] (.Tuple es k2 p2) pos) (fPar3 i j l fs) := by
  rw [fPar3_G]
  exact ds_parG ha h (by decide) hc hn hst hs hw ht
theorem ds_par3 {i j l : Nat} {x y z : Str} {a b c : Expr} {px py pz pt : Pos} {kt k2 pt2} (hN : X.N.Nodup) (ha : DA X Z [a, b, c] fs) (hi : X.N[i]? = some x := by rfl) (hj : X.N[j]? = some y := by rfl) (hl : X.N[l]? = some z := by rfl) (hij : i ≠ j := by decide) (hil : i ≠ l := by decide) (hjl : j ≠ l := by decide) (hc : X.calm = true := by rfl)
    (hx : X.env.scope.names.lookup x = some .local := by rfl) (hy : X.env.scope.names.lookup y = some .local := by rfl) (hz : X.env.scope.names.lookup z = some .local := by rfl)
    (hw : swappedStores [.Tuple [.Name x px, .Name y py, .Name z pz] kt pt] (.Tuple [a, b, c] k2 pt2) X.env = pure (some [x, y, z]) := by rfl)
    (hs : swapsWithSole [.Tuple [.Name x px, .Name y py, .Name z pz] kt pt] (.Tuple [a, b, c] k2 pt2) pos.line X.env = pure false := by rfl) :
    DS X Z (.Assign [.Tuple [.Name x px, .Name y py, .Name z pz] kt pt] (.Tuple [a, b, c] k2 pt2) pos) (fPar3 i j l fs) := by
  obtain ⟨_, p, q⟩ := ha
  refine ⟨_, ps_par3 hc hN hi hj hl hij hil hjl hx hy hz p hw hs, fun ρ S σ H G c D gd re h => ?_⟩
  refine q ρ S σ H G c _ gd re (Wants.stepS re h fun ws S1 G1 c1 H1 vs e1 g1 rx h1 => ?_)
  split at h1
  · cases rx with | cons r1 rx => cases rx with | cons r2 rx => cases rx with | cons r3 rx => cases rx; exact ⟨_, _, _, rfl, h1 G1 c1 H1 _ (.refl ..) g1 ((((re.ev e1.gg e1.cc).set r1).set r2).set r3)⟩
  · exact h1.elim
end
end DL
end
section
namespace DL
open PySem PySem.Spec PyProof.Rows L2
section
variable {ρ : Env} {S : Store}
@[simp] theorem ev_par3 {i j l : Nat} {fs : FL} : fPar3 i j l fs ρ S = thenS ρ (fs ρ S) fun ws S1 => match ws with
  | [u, v, w] => .nx (((ρ.set i (some u)).set j (some v)).set l (some w)) S1
  | _ => .no := (rfl)
@[simp] theorem ev_parG {n : Nat} {g : FGs} {fs : FL} : fParG fs n g ρ S = thenS ρ (fs ρ S) fun ws S1 => if ws.length = n then (match g ws ρ S1 with
  | .ok ρ2 S2 => .nx ρ2 S2
  | _ => .no) else .no := (rfl)
@[simp] theorem ev_isB {k a b : Bool} : gIsB k (.d (.bl a)) (.d (.bl b)) S = .ok (.d (.bl (if k = true then decide (a = b) else !decide (a = b)))) S := (rfl)
@[simp] theorem ev_lcC {fi : FI} {t : Tgt} {tt : FB} {f : FE} {vs : List Nat} : fLcC fi t tt f vs ρ S = (fi ρ S).bind fun s S1 => (compS t tt f s (wipeE ρ vs) S1).bind fun r S2 => .ok (.loc S2.length) (S2 ++ [.lst r]) := (rfl)
@[simp] theorem ev_gsNil : gsNil [] ρ S = .ok ρ S := (rfl)
@[simp] theorem ev_gsCons {f : FG} {g : FGs} {w : W} {ws : List W} : gsCons f g (w :: ws) ρ S = match f w ρ S with
  | .ok ρ1 S1 => g ws ρ1 S1
  | _ => .no := (rfl)
@[simp] theorem ev_tupT {n : Nat} {g : FGs} {ds : List D} : gTupT n g (.d (.tup ds)) ρ S = if ds.length = n then g (ds.map W.d) ρ S else .no := (rfl)
end
end DL
end
section
/-! DL, 23: a comprehension with two sources -/
namespace DL
open PySem PySem.Spec PyProof.Rows L2
theorem walk_it {J : It} {n : Nat} {G : Hp → Prop} {Y : Nat → Hp → V → Hp → Prop} (w : Walk J n G Y) {B : V → Hp → (Hp → Prop) → Prop} {Qd : Hp → Prop} {H0 : Hp} (Pv : Nat → Hp → Prop) (h0 : Pv 0 H0) (hG : ∀ i H, i ≤ n → Pv i H → G H)
    (hs : ∀ i x H H', i < n → Pv i H → Y i H x H' → B x H' (Pv (i + 1))) (hd : ∀ H, Pv n H → Qd H) :
    ∃ W : Nat → Nat → Hp → Prop, (∃ m, W 0 m H0) ∧ ∀ i m H, W i m H → (J.stop i H ∧ Qd H) ∨ (J.go i H ∧ ∃ Nx : Hp → Prop, (∀ H', Nx H' → ∃ m', m' < m ∧ W (i + 1) m' H') ∧ ∀ x H', J.yld i H x H' → B x H' Nx) := by
  refine ⟨fun i m H => m = n - i ∧ i ≤ n ∧ Pv i H, ⟨n, by simp, Nat.zero_le _, h0⟩, ?_⟩
  rintro i m H ⟨hm, hi, p⟩
  have q := hG i H hi p
  rcases Nat.lt_or_ge i n with hlt | hge
  · exact .inr ⟨w.goes i H hlt q, Pv (i + 1), fun H' p' => ⟨n - (i + 1), by omega, rfl, hlt, p'⟩, fun x H' y => hs i x H H' hlt p (w.yields i H x H' hlt q y)⟩
  · have e : i = n := by omega
    subst e
    exact .inl ⟨w.stops H q, hd H p⟩
def turn2 (t : Tgt) (tt : FB) (fi1 : FI) (t1 : Tgt) (tt1 : FB) (f : FE) (vs1 : List Nat) (n : Nat) (d : D) (ρ : Env) (S : Store) : R (List D) := match t.fg d ρ with
  | some ρ1 => (match tt ρ1 S with
    | .ok true S2 => (match fi1 ρ1 S2 with
      | .ok (.fix ds1) S3 => if lenOk (n + ds1.length) = true then compD t1 tt1 f (wipeE ρ1 vs1) ds1 S3 else .no
      | _ => .no)
    | .ok false S2 => .ok [] S2
    | _ => .no)
  | none => .no
def comp2 (t : Tgt) (tt : FB) (fi1 : FI) (t1 : Tgt) (tt1 : FB) (f : FE) (vs1 : List Nat) (ρ : Env) : Nat → List D → Store → R (List D)
  | _, [], S => .ok [] S
  | n, d :: ds, S => (turn2 t tt fi1 t1 tt1 f vs1 n d ρ S).bind fun l S1 => (comp2 t tt fi1 t1 tt1 f vs1 ρ (n + l.length) ds S1).bind fun r S2 => .ok (l ++ r) S2
def fLc2 (fi : FI) (t : Tgt) (tt : FB) (fi1 : FI) (t1 : Tgt) (tt1 : FB) (f : FE) (vs vs1 : List Nat) : FE := fun ρ S => (fi ρ S).bind fun s S1 => match s with
  | .fix ds => (comp2 t tt fi1 t1 tt1 f vs1 (wipeE ρ vs) 0 ds S1).bind fun r S2 => .ok (.d (.lst r)) S2
  | .cell _ => .no
def canI (K : Fg) (Z : WX) (f : FI) : TI := fun σ H Q => ∃ ρ S G c, Good K G c S H ∧ RepE K G c σ ρ ∧ Wants K Z σ (fun G c J s => Turns K G c J s) G c H (f ρ S) Q
theorem DI.can {X : Cx} {Z : WX} {tg e : Expr} {f : FI} (h : DI X Z tg e f) : PI X tg e (canI X.K Z f) :=
  let ⟨_, p, q⟩ := h
  ⟨fun pins s σ H Q I ⟨ρ, S, G, c, g, r, w⟩ => p.run pins s σ H Q I (q ρ S σ H G c Q g r w)⟩
section
variable {K : Fg} {Z : WX}
/-- one turn of the inner loop -/
theorem lc_turnK {t : Tgt} {tt : FB} {f : FE} {vs : List Nat} {σ σ0 : L2.St} {ρ : Env} {G1 c1 H1 D G c H S acc ds} {Q : VK} {x : V} {d : DL.D} {k : Option DL.D → Store → R (List DL.D)} {N : Hp → Prop}
    (hsl : ∀ i ∈ t.slots, i ∈ vs) (a : Acc K (wipe σ vs) ρ G1 c1 H1 D G c H S acc ds) (hD : H1 D = none) (hz : ds.length < sizeLine) (r : Rep K G x d)
    (h : Rest K Z σ0 G1 c1 H1 ds ((compT t tt f d ρ S).bind fun o S1 => (k o S1).bind fun r S2 => .ok (consO o r) S2) Q)
    (hN : ∀ G2 c2 H2 S2 acc2 (o : Option DL.D), Sub G G2 → Acc K (wipe σ vs) ρ G1 c1 H1 D G2 c2 H2 S2 acc2 (ds ++ o.toList) → Rest K Z σ0 G1 c1 H1 (ds ++ o.toList) (k o S2) Q → N H2) :
    t.tg K x (wipe σ vs) H fun σ2 H2 => wipe σ2 vs = wipe σ vs ∧ canB K Z0 tt σ2 H2 fun b H3 => if b = true then canE K Z0 f σ2 H3 fun y H4 => ∃ acc, H4 D = some (.lst acc) ∧ acc.length < sizeLine ∧ N (upd H4 D (.lst (acc ++ [y]))) else N H3 := by
  unfold compT at h
  cases et : t.fg d ρ with
  | none => rw [et] at h; exact h.elim
  | some ρ1 =>
    rw [et] at h
    dsimp only at h
    refine tgt_ok a.gd hsl a.re r et fun σ2 hw re2 => ⟨hw.trans (wipe_wipe σ vs), ρ1, S, G, c, a.gd, re2, ?_⟩
    revert h
    cases tt ρ1 S with
    | no => exact fun h => h
    | ex _ _ => exact fun h => h.elim
    | ok b S2 =>
      cases b with
      | false =>
        intro h G2 c2 H2 b e2 g2 eb
        subst eb
        refine iteF (hN G2 c2 H2 S2 acc none e2.gg (by rw [Option.toList_none, List.append_nil]; exact a.ext e2 g2) ?_)
        have h : Rest K Z σ0 G1 c1 H1 ds ((k none S2).bind fun r S3 => .ok (consO none r) S3) Q := h
        rw [Option.toList_none, List.append_nil]
        unfold Rest at h ⊢
        revert h
        cases k none S2 with
        | no => exact fun h => h
        | ex _ _ => exact fun h => h
        | ok l S3 => exact fun h => h
      | true =>
        intro h G2 c2 H2 b e2 g2 eb
        subst eb
        refine iteT ⟨ρ1, S2, G2, c2, g2, re2.ev e2.gg e2.cc, ?_⟩
        dsimp only at h
        revert h
        cases f ρ1 S2 with
        | no => exact fun h => h
        | ex _ _ => exact fun h => h.elim
        | ok w S3 =>
          cases w with
          | loc n => exact fun h => h.elim
          | glo x => exact fun h => h.elim
          | ty x => exact fun h => h.elim
          | d dx =>
            intro h G3 c3 H3 y e3 g3 ry
            cases ry with | d ry =>
            have a3 := (a.ext e2 g2).ext e3 g3
            refine ⟨acc, a3.at_, by rw [a3.r.length]; exact hz, hN G3 c3 _ S3 _ (some dx) (e2.gg.trans e3.gg) (a3.push hD ry) ?_⟩
            have h : Rest K Z σ0 G1 c1 H1 ds ((k (some dx) S3).bind fun r S4 => .ok (consO (some dx) r) S4) Q := h
            unfold Rest at h ⊢
            revert h
            cases k (some dx) S3 with
            | no => exact fun h => h
            | ex _ _ => exact fun h => h
            | ok l S4 =>
              intro h
              show Wants K Z σ0 (RepW K) G1 c1 H1 (.ok (.d (.lst ((ds ++ [dx]) ++ l))) S4) Q
              rw [List.append_assoc]
              exact h
theorem Acc.env {σ σ' : L2.St} {ρ ρ' : Env} {G1 c1 H1 D G c H S acc ds} (a : Acc K σ ρ G1 c1 H1 D G c H S acc ds) (r : RepE K G c σ' ρ') : Acc K σ' ρ' G1 c1 H1 D G c H S acc ds := ⟨a.ev, a.gd, r, a.at_, a.gD, a.cD, a.r⟩
theorem lc_turns2 {t t1 : Tgt} {tt tt1 : FB} {fi1 : FI} {f : FE} {vs vs1 : List Nat} {σ : L2.St} {ρ : Env} {G1 c1 H1 S1} {Q : VK} {J : It} {items : List DL.D} {D : Addr} (hsl : ∀ i ∈ t.slots, i ∈ vs) (hsl1 : ∀ i ∈ t1.slots, i ∈ vs1) (gd : Good K G1 c1 S1 H1) (re : RepE K G1 c1 σ ρ) (T : Turns K G1 c1 J (.fix items)) (hD : H1 D = none)
    (h : Wants K Z σ (RepW K) G1 c1 H1 ((comp2 t tt fi1 t1 tt1 f vs1 (wipeE ρ vs) 0 items S1).bind fun l S2 => .ok (.d (.lst l)) S2) Q) :
    ∃ W : Nat → Nat → Hp → Prop, (∃ m, W 0 m (upd H1 D (.lst []))) ∧ ∀ i m H, W i m H →
      (J.stop i H ∧ Q (.ref D) H) ∨ (J.go i H ∧ ∃ Nx : Hp → Prop, (∀ H', Nx H' → ∃ m', m' < m ∧ W (i + 1) m' H') ∧ ∀ x H', J.yld i H x H' → t.tg K x (wipe σ vs) H' fun σ2 H2 => wipe σ2 vs = wipe σ vs ∧ canB K Z0 tt σ2 H2 fun b H3 =>
        if b = true then canI K Z0 fi1 σ2 H3 fun J1 H4 => ∃ W1 : Nat → Nat → Hp → Prop, (∃ m, W1 0 m H4) ∧ ∀ j k H, W1 j k H →
          (J1.stop j H ∧ Nx H) ∨ (J1.go j H ∧ ∃ Nx1 : Hp → Prop, (∀ H', Nx1 H' → ∃ k', k' < k ∧ W1 (j + 1) k' H') ∧ ∀ x H', J1.yld j H x H' → t1.tg K x (wipe σ2 vs1) H' fun σ3 H5 => wipe σ3 vs1 = wipe σ2 vs1 ∧ canB K Z0 tt1 σ3 H5 fun b H6 =>
            if b = true then canE K Z0 f σ3 H6 fun y H7 => ∃ acc, H7 D = some (.lst acc) ∧ acc.length < sizeLine ∧ Nx1 (upd H7 D (.lst (acc ++ [y]))) else Nx1 H6)
        else Nx H3) := by
  have start : Acc K (wipe σ vs) (wipeE ρ vs) G1 c1 H1 D G1 c1 (upd H1 D (.lst [])) S1 [] [] :=
    ⟨(Ev.refl ..).setD hD _, gd.setD (gd.free hD) (fun z => by
      obtain ⟨n, hn, e⟩ := List.mem_iff_getElem.mp z
      obtain ⟨_, x, _, ca⟩ := gd.cell n D (by rw [List.getElem?_eq_getElem hn, e])
      obtain ⟨o, ho⟩ := ca.some
      rw [hD] at ho; cases ho) _, re.wipe vs, upd_same, gd.free hD, (fun z => by
      obtain ⟨n, hn, e⟩ := List.mem_iff_getElem.mp z
      obtain ⟨_, x, _, ca⟩ := gd.cell n D (by rw [List.getElem?_eq_getElem hn, e])
      obtain ⟨o, ho⟩ := ca.some
      rw [hD] at ho; cases ho), .nil⟩
  obtain ⟨P, Y, w, hP, hY⟩ := T
  refine walk_it w (fun i H => ∃ G c S acc ds, Acc K (wipe σ vs) (wipeE ρ vs) G1 c1 H1 D G c H S acc ds ∧ ds.length ≤ sizeLine ∧ Rest K Z σ G1 c1 H1 ds (comp2 t tt fi1 t1 tt1 f vs1 (wipeE ρ vs) ds.length (items.drop i) S) Q)
    ⟨G1, c1, S1, [], [], start, Nat.zero_le _, h⟩ (fun i H _ ⟨G, c, S, acc, ds, a, _, _⟩ => hP G c S H a.gd a.ev.gg) ?_ ?_
  · rintro i x H H' hi ⟨G, c, S, acc, ds, a0, hl, h'⟩ y
    obtain ⟨d, G2, ed, ev2, g2, rd⟩ := hY G c S H i x H' a0.gd a0.ev.gg y
    have a := a0.ext ev2 g2
    have hlt : i < items.length := hi
    have ed' : items[i] = d := by
      rw [List.getElem?_eq_getElem hlt] at ed
      exact Option.some.inj ed
    rw [List.drop_eq_getElem_cons hlt, ed', comp2] at h'
    generalize items.drop (i + 1) = more at h' ⊢
    unfold turn2 at h'
    cases et : t.fg d (wipeE ρ vs) with
    | none => rw [et] at h'; exact h'.elim
    | some ρ1 =>
      rw [et] at h'
      dsimp only at h'
      refine tgt_ok a.gd hsl a.re rd et fun σ2 hw re2 => ⟨hw.trans (wipe_wipe σ vs), ρ1, S, G2, c, a.gd, re2, ?_⟩
      revert h'
      cases tt ρ1 S with
      | no => exact fun h => h
      | ex _ _ => exact fun h => h.elim
      | ok b S2 =>
        cases b with
        | false =>
          intro h G3 c3 H3 b e3 g3 eb
          subst eb
          refine iteF ⟨G3, c3, S2, acc, ds, a.ext e3 g3, hl, ?_⟩
          have h : Rest K Z σ G1 c1 H1 ds ((comp2 t tt fi1 t1 tt1 f vs1 (wipeE ρ vs) (ds.length + 0) more S2).bind fun r S3 => .ok ([] ++ r) S3) Q := h
          unfold Rest at h ⊢
          rw [Nat.add_zero] at h
          revert h
          cases comp2 t tt fi1 t1 tt1 f vs1 (wipeE ρ vs) ds.length more S2 with
          | no => exact fun h => h
          | ex _ _ => exact fun h => h
          | ok l S3 => exact fun h => h
        | true =>
          intro h G3 c3 H3 b e3 g3 eb
          subst eb
          refine iteT ⟨ρ1, S2, G3, c3, g3, re2.ev e3.gg e3.cc, ?_⟩
          dsimp only at h
          revert h
          cases fi1 ρ1 S2 with
          | no => exact fun h => h
          | ex _ _ => exact fun h => h.elim
          | ok s1 S3 =>
            cases s1 with
            | cell n => exact fun h => h.elim
            | fix ds1 =>
              dsimp only
              by_cases hz : lenOk (ds.length + ds1.length) = true
              · rw [if_pos hz]
                have hz' : ds.length + ds1.length ≤ sizeLine := of_decide_eq_true hz
                intro h G4 c4 H4 J1 e4 g4 T1
                obtain ⟨P1, Y1, w1, hP1, hY1⟩ := T1
                have a4 := (a.ext e3 g3).ext e4 g4
                have re4 : RepE K G4 c4 σ2 ρ1 := (re2.ev e3.gg e3.cc).ev e4.gg e4.cc
                refine walk_it w1 (fun j H => ∃ G c S acc es, Sub G4 G ∧ Acc K (wipe σ2 vs1) (wipeE ρ1 vs1) G1 c1 H1 D G c H S acc es ∧ es.length ≤ ds.length + j ∧ Rest K Z σ G1 c1 H1 es ((compD t1 tt1 f (wipeE ρ1 vs1) (ds1.drop j) S).bind fun l S2 => (comp2 t tt fi1 t1 tt1 f vs1 (wipeE ρ vs) (es.length + l.length) more S2).bind fun r S3 => .ok (l ++ r) S3) Q)
                  ⟨G4, c4, S3, acc, ds, .refl _, a4.env (re4.wipe vs1), Nat.le_refl _, h⟩ (fun j H _ ⟨G, c, S, acc, es, sb, a, _, _⟩ => hP1 G c S H a.gd sb) ?_ ?_
                · rintro j x1 H5 H6 hj ⟨G5, c5, S5, acc5, es, sb, a5, hl5, h5⟩ y1
                  obtain ⟨d1, G6, ed1, ev6, g6, rd1⟩ := hY1 G5 c5 S5 H5 j x1 H6 a5.gd sb y1
                  have hjl : j < ds1.length := hj
                  have ed1' : ds1[j] = d1 := by
                    rw [List.getElem?_eq_getElem hjl] at ed1
                    exact Option.some.inj ed1
                  rw [List.drop_eq_getElem_cons hjl, ed1', compD] at h5
                  have h6 : Rest K Z σ G1 c1 H1 es ((compT t1 tt1 f d1 (wipeE ρ1 vs1) S5).bind fun o S1 => ((compD t1 tt1 f (wipeE ρ1 vs1) (ds1.drop (j + 1)) S1).bind fun l S2 => (comp2 t tt fi1 t1 tt1 f vs1 (wipeE ρ vs) ((es ++ o.toList).length + l.length) more S2).bind fun r S3 => .ok (l ++ r) S3).bind fun r S2 => .ok (consO o r) S2) Q := by
                    revert h5
                    cases compT t1 tt1 f d1 (wipeE ρ1 vs1) S5 with
                    | no => exact fun h => h
                    | ex _ _ => exact fun h => h
                    | ok o So =>
                      show Rest K Z σ G1 c1 H1 es (R.bind (R.bind (compD t1 tt1 f (wipeE ρ1 vs1) (ds1.drop (j + 1)) So) fun r S2 => .ok (consO o r) S2) fun l S2 => (comp2 t tt fi1 t1 tt1 f vs1 (wipeE ρ vs) (es.length + l.length) more S2).bind fun r S3 => .ok (l ++ r) S3) Q → Rest K Z σ G1 c1 H1 es (R.bind (R.bind (compD t1 tt1 f (wipeE ρ1 vs1) (ds1.drop (j + 1)) So) fun l S2 => (comp2 t tt fi1 t1 tt1 f vs1 (wipeE ρ vs) ((es ++ o.toList).length + l.length) more S2).bind fun r S3 => .ok (l ++ r) S3) fun r S2 => .ok (consO o r) S2) Q
                      cases compD t1 tt1 f (wipeE ρ1 vs1) (ds1.drop (j + 1)) So with
                      | no => exact fun h => h
                      | ex _ _ => exact fun h => h
                      | ok l Sl =>
                        have en : es.length + (consO o l).length = (es ++ o.toList).length + l.length := by
                          cases o with
                          | none => simp [consO]
                          | some z => simp [consO]; omega
                        show Rest K Z σ G1 c1 H1 es (R.bind (comp2 t tt fi1 t1 tt1 f vs1 (wipeE ρ vs) (es.length + (consO o l).length) more Sl) fun r S3 => .ok (consO o l ++ r) S3) Q → Rest K Z σ G1 c1 H1 es (R.bind (R.bind (comp2 t tt fi1 t1 tt1 f vs1 (wipeE ρ vs) ((es ++ o.toList).length + l.length) more Sl) fun r S3 => .ok (l ++ r) S3) fun r S2 => .ok (consO o r) S2) Q
                        rw [en]
                        cases comp2 t tt fi1 t1 tt1 f vs1 (wipeE ρ vs) ((es ++ o.toList).length + l.length) more Sl with
                        | no => exact fun h => h
                        | ex _ _ => exact fun h => h
                        | ok r Sr => cases o with
                          | none => exact fun h => h
                          | some z => exact fun h => h
                  refine lc_turnK (k := fun o S1 => (compD t1 tt1 f (wipeE ρ1 vs1) (ds1.drop (j + 1)) S1).bind fun l S2 => (comp2 t tt fi1 t1 tt1 f vs1 (wipeE ρ vs) ((es ++ o.toList).length + l.length) more S2).bind fun r S3 => .ok (l ++ r) S3) hsl1 (a5.ext ev6 g6) hD (by omega) rd1 h6 fun G7 c7 H7 S7 acc7 o sb7 a7 h7 => ?_
                  refine ⟨G7, c7, S7, acc7, es ++ o.toList, (sb.trans ev6.gg).trans sb7, a7, ?_, h7⟩
                  cases o <;> simp <;> omega
                · rintro H5 ⟨G5, c5, S5, acc5, es, sb, a5, hl5, h5⟩
                  rw [List.drop_length] at h5
                  refine ⟨G5, c5, S5, acc5, es, a5.env ((re.wipe vs).ev a5.ev.gg a5.ev.cc), by omega, ?_⟩
                  have h5 : Rest K Z σ G1 c1 H1 es ((comp2 t tt fi1 t1 tt1 f vs1 (wipeE ρ vs) (es.length + 0) more S5).bind fun r S3 => .ok ([] ++ r) S3) Q := h5
                  unfold Rest at h5 ⊢
                  rw [Nat.add_zero] at h5
                  revert h5
                  cases comp2 t tt fi1 t1 tt1 f vs1 (wipeE ρ vs) es.length more S5 with
                  | no => exact fun h => h
                  | ex _ _ => exact fun h => h
                  | ok l S3 => exact fun h => h
              · rw [if_neg hz]; exact fun h => h.elim
  · rintro H ⟨G, c, S, acc, ds, a, hl, h'⟩
    rw [List.drop_length] at h'
    refine a.done (Z := Z) (σ0 := σ) hD hl ?_
    have h' : Wants K Z σ (RepW K) G1 c1 H1 (.ok (.d (.lst (ds ++ []))) S) Q := h'
    rw [List.append_nil] at h'
    exact h'
theorem ref_lc2 {wi : TI} {fi fi1 : FI} {t t1 : Tgt} {tt tt1 : FB} {f : FE} {vs vs1 : List Nat} (hi : RefI K Z wi fi) (hsl : ∀ i ∈ t.slots, i ∈ vs) (hsl1 : ∀ i ∈ t1.slots, i ∈ vs1) :
    Ref K Z (tLc2 wi (t.tg K) (canB K Z0 tt) (canI K Z0 fi1) (t1.tg K) (canB K Z0 tt1) (canE K Z0 f) vs vs1) (fLc2 fi t tt fi1 t1 tt1 f vs vs1) := by
  intro ρ S σ H G c Q gd re h
  refine hi ρ S σ H G c _ gd re (Wants.step h fun s S1 G1 c1 H1 J e1 g1 T h1 => fun D hD => ?_)
  cases s with
  | fix items => exact lc_turns2 hsl hsl1 g1 (re.ev e1.gg e1.cc) T hD h1
  | cell n => exact h1.elim
end
section
variable {X : Cx} {Z : WX} {elt tg iter tg1 iter1 : Expr} {ifs ifs1 : List Expr} {scope : Scope} {own : List (Str × Nat)} {pos spos : Pos} {fi fi1 : FI} {t t1 : Tgt} {tt tt1 : FB} {f : FE} {vs1 : List Nat}
theorem de_lc2 (hN : X.N.Nodup) (hi : DI X Z tg iter fi) (ok : blkC X.N X.env.scope scope own = true) (hsl : ∀ i ∈ t.slots, i ∈ own.map (·.2)) (hsl1 : ∀ i ∈ t1.slots, i ∈ vs1) (hv : ∀ i ∈ vs1, i ∈ own.map (·.2)) (hg : InBlk X scope fun Y => PG Y tg (t.tg Y.K)) (ht : InBlk X scope fun Y => DTs Y Z0 ifs tt)
    (hi1 : InBlk X scope fun Y => DI Y Z0 tg1 iter1 fi1) (hg1 : InBlk X scope fun Y => PG Y tg1 (t1.tg Y.K)) (ht1 : InBlk X scope fun Y => DTs Y Z0 ifs1 tt1) (he : InBlk X scope fun Y => DE Y Z0 elt f)
    (hc : X.calm = true := by rfl) (hs : ∀ x, foldedSetIterable iter X.env x = pure x := by intro _; rfl) (hs1 : ∀ env x, foldedSetIterable iter1 env x = pure x := by intro _ _; rfl) :
    DE X Z (.ListComp elt [⟨tg, iter, ifs, 0⟩, ⟨tg1, iter1, ifs1, 0⟩] scope pos) (fLc2 fi t tt fi1 t1 tt1 f (own.map (·.2)) vs1) := by
  obtain ⟨_, p, q⟩ := hi
  exact ⟨_, pe_lc2 (tt := canB X.K Z0 tt) (tt1 := canB X.K Z0 tt1) hc hN p (blkOk_by ok) hv hg (fun s H C cl fp => ht s H C cl fp) (fun s H C cl fp => (hi1 s H C cl fp).can) hg1 (fun s H C cl fp => ht1 s H C cl fp) (fun s H C cl fp => (he s H C cl fp).can) hs hs1, ref_lc2 q hsl hsl1⟩
end
end DL
end
section
/-! DL, 24: max, min, sum of whole numbers in a list; a list by a number; str of a whole number, of an own object; a < b < c -/
namespace DL
open PySem PySem.Spec PyProof.Rows L2
def intsOf : List D → Option (List Int)
  | [] => some []
  | .int i :: ds => (intsOf ds).map (i :: ·)
  | _ :: _ => none
theorem ints_of_rep {K : Fg} {G : Hp} : ∀ {vs : List V} {ds : List D} {ns : List Int}, Reps K G vs ds → intsOf ds = some ns → vs = ns.map V.int
  | _, [], _, .nil, e => by cases e; rfl
  | _, d :: ds, ns, .cons r t, e => by
    cases d <;> simp only [intsOf, reduceCtorEq, Option.map_eq_some_iff] at e
    obtain ⟨ms, e1, rfl⟩ := e
    cases r
    rw [ints_of_rep t e1]; rfl
theorem intsOf_map : ∀ ns : List Int, intsOf (ns.map D.int) = some ns
  | [] => rfl
  | n :: ns => by rw [List.map_cons, intsOf, intsOf_map ns]; rfl
def seqI : D → Option (List Int)
  | .lst ds => intsOf ds
  | .scr ns => some ns
  | _ => none
def gAgg (f : List Int → Option Int) : FF := fun ws S => match ws with
  | [w] => (match val w S with
    | some d => (match seqI d with
      | some ns => (match f ns with
        | some m => .ok (.d (.int m)) S
        | none => .no)
      | none => .no)
    | none => .no)
  | _ => .no
def maxI : List Int → Option Int
  | [] => none
  | x :: xs => some (xs.foldl (fun a b => if b > a then b else a) x)
def minI : List Int → Option Int
  | [] => none
  | x :: xs => some (xs.foldl (fun a b => if b < a then b else a) x)
def sumI (ns : List Int) : Option Int := some ns.sum
theorem foldmax : ∀ (xs : List Int) (x : Int), x ≤ xs.foldl (fun a b => if b > a then b else a) x ∧ (∀ y ∈ xs, y ≤ xs.foldl (fun a b => if b > a then b else a) x) ∧ (xs.foldl (fun a b => if b > a then b else a) x = x ∨ xs.foldl (fun a b => if b > a then b else a) x ∈ xs)
  | [], x => ⟨Int.le_refl _, fun _ h => (by cases h), .inl rfl⟩
  | y :: xs, x => by
    rw [List.foldl_cons]
    obtain ⟨h1, h2, h3⟩ := foldmax xs (if y > x then y else x)
    have hx : x ≤ (if y > x then y else x) := by split <;> omega
    have hy : y ≤ (if y > x then y else x) := by split <;> omega
    refine ⟨Int.le_trans hx h1, fun z hz => ?_, ?_⟩
    · rcases List.mem_cons.mp hz with rfl | hz
      · exact Int.le_trans hy h1
      · exact h2 z hz
    · rcases h3 with e | e
      · rw [e]
        split
        · exact .inr List.mem_cons_self
        · exact .inl rfl
      · exact .inr (List.mem_cons_of_mem _ e)
theorem foldmin : ∀ (xs : List Int) (x : Int), xs.foldl (fun a b => if b < a then b else a) x ≤ x ∧ (∀ y ∈ xs, xs.foldl (fun a b => if b < a then b else a) x ≤ y) ∧ (xs.foldl (fun a b => if b < a then b else a) x = x ∨ xs.foldl (fun a b => if b < a then b else a) x ∈ xs)
  | [], x => ⟨Int.le_refl _, fun _ h => (by cases h), .inl rfl⟩
  | y :: xs, x => by
    rw [List.foldl_cons]
    obtain ⟨h1, h2, h3⟩ := foldmin xs (if y < x then y else x)
    have hx : (if y < x then y else x) ≤ x := by split <;> omega
    have hy : (if y < x then y else x) ≤ y := by split <;> omega
    refine ⟨Int.le_trans h1 hx, fun z hz => ?_, ?_⟩
    · rcases List.mem_cons.mp hz with rfl | hz
      · exact Int.le_trans h1 hy
      · exact h2 z hz
    · rcases h3 with e | e
      · rw [e]
        split
        · exact .inr List.mem_cons_self
        · exact .inl rfl
      · exact .inr (List.mem_cons_of_mem _ e)
theorem maxI_iff {ns : List Int} {k m : Int} (h : maxI ns = some k) (h1 : m ∈ ns) (h2 : ∀ y ∈ ns, y ≤ m) : m = k := by
  cases ns with
  | nil => cases h1
  | cons x xs =>
    obtain ⟨a1, a2, a3⟩ := foldmax xs x
    simp only [maxI, Option.some.injEq] at h
    rw [h] at a1 a2 a3
    have hk : k ∈ x :: xs := by
      rcases a3 with e | e
      · rw [e]; exact List.mem_cons_self
      · exact List.mem_cons_of_mem _ e
    have := h2 k hk
    rcases List.mem_cons.mp h1 with rfl | h1
    · omega
    · have := a2 m h1; omega
theorem minI_iff {ns : List Int} {k m : Int} (h : minI ns = some k) (h1 : m ∈ ns) (h2 : ∀ y ∈ ns, m ≤ y) : m = k := by
  cases ns with
  | nil => cases h1
  | cons x xs =>
    obtain ⟨a1, a2, a3⟩ := foldmin xs x
    simp only [minI, Option.some.injEq] at h
    rw [h] at a1 a2 a3
    have hk : k ∈ x :: xs := by
      rcases a3 with e | e
      · rw [e]; exact List.mem_cons_self
      · exact List.mem_cons_of_mem _ e
    have := h2 k hk
    rcases List.mem_cons.mp h1 with rfl | h1
    · omega
    · have := a2 m h1; omega
section
variable {K : Fg} {Z : WX}
theorem cal_agg {r : List V → Hp → VK → Prop} {f : List Int → Option Int} (hr : ∀ (a : Addr) (ns : List Int) (m : Int) (H : Hp) (Q : VK), SqL K H a (ns.map V.int) → f ns = some m → Q (.int m) H → r [.ref a] H Q) : CalRef K Z r (gAgg f) := by
  intro σ G c S H vs ws Q g rw h
  unfold gAgg at h
  split at h
  · obtain ⟨v, rfl, rv⟩ := w1 rw
    split at h
    · rename_i d ev
      have rd := val_rep g rv ev
      split at h
      · rename_i ns es
        split at h
        · rename_i m em
          cases d <;> simp only [seqI, reduceCtorEq] at es
          · obtain ⟨a, us, rfl, h1, q, z⟩ := rd.lst' g.sub
            rw [ints_of_rep q es] at h1
            exact hr a ns m H Q (.of h1) em (h.ret g (.d (.int _)))
          · simp only [Option.some.injEq] at es
            subst es
            cases rd with | of rd => cases rd with | scr h1 z => exact hr _ _ m H Q (sqL_sub g.sub h1) em (h.ret g (.d (.int _)))
        · exact h.elim
      · exact h.elim
    · exact h.elim
  · exact h.elim
theorem cal_maxL : CalRef K Z (rMax K) (gAgg maxI) := cal_agg fun a ns m H Q h e q => ⟨a, ns, rfl, h, by cases ns with | nil => cases e | cons => simp, fun k h1 h2 => by rw [maxI_iff e h1 h2]; exact q⟩
theorem cal_minL : CalRef K Z (rMin K) (gAgg minI) := cal_agg fun a ns m H Q h e q => ⟨a, ns, rfl, h, by cases ns with | nil => cases e | cons => simp, fun k h1 h2 => by rw [minI_iff e h1 h2]; exact q⟩
theorem cal_sumL : CalRef K Z (rSum K) (gAgg sumI) := cal_agg fun a ns m H Q h e q => ⟨a, ns, rfl, h, by cases e; exact q⟩
/-! a list by a number -/
def gMulL : W → W → Store → R W := fun x y S => match x, y with
  | .d (.lst ds), .d (.int k) => if small62 k && lenOk (ds.length * k.toNat) then .ok (.d (.lst (List.replicate k.toNat ds).flatten)) S else .no
  | _, _ => .no
theorem reps_flat {G : Hp} {vs : List V} {ds : List D} (r : Reps K G vs ds) : ∀ n : Nat, Reps K G (List.replicate n vs).flatten (List.replicate n ds).flatten
  | 0 => .nil
  | n + 1 => by
    rw [List.replicate_succ, List.replicate_succ, List.flatten_cons, List.flatten_cons]
    exact r.append (reps_flat r n)
theorem opr_mulL : OpRef K Z rRep gMulL := by
  intro σ G c S H x y w1 w2 Q g r1 r2 h
  unfold gMulL at h
  split at h
  · rename_i ds k
    split at h
    · rename_i hb
      rw [Bool.and_eq_true] at hb
      cases r1 with | d r1 => cases r2 with | d r2 =>
        cases r2
        cases r1 with
        | @lst a vs ds h1 q z =>
          have hk := hb.1
          unfold small62 at hk
          have hk := Nat.le_of_ble_eq_true hk
          have hz : ds.length * k.toNat ≤ sizeLine := of_decide_eq_true hb.2
          refine ⟨a, k, vs, rfl, rfl, g.sub _ _ h1, by omega, by omega, by rw [q.length]; exact hz, fun p hp => ?_⟩
          refine h.retNew g hp (.d (.lst upd_same (Reps.sub (Sub.upd (g.free hp)) _ _ (reps_flat q _)) ?_))
          rw [List.length_flatten, List.map_replicate, List.sum_replicate_nat, Nat.mul_comm]; exact hz
    · exact h.elim
  · exact h.elim
/-! str of a whole number -/
def intTx (i : Int) : List Nat := (Str.ofString (toString i)).cps.toList
def gStrI : FF := fun ws S => match ws with
  | [.d (.int i)] => if (Nat.blt i.natAbs.log2 1920 && (lenOk (intTx i).length && (intTx i).all fun c => Nat.blt c 1114112)) = true then .ok (.d (.str (intTx i))) S else .no
  | _ => .no
theorem cal_strI : CalRef K Z (fun xs H Q => ∃ i, xs = [.int i] ∧ i.natAbs.log2 < 1920 ∧ Q (.str (toString i)) H) gStrI := by
  intro σ G c S H vs ws Q g r h
  unfold gStrI at h
  split at h
  · rename_i i
    split at h
    · rename_i hb
      rw [Bool.and_eq_true, Bool.and_eq_true] at hb
      obtain ⟨v, rfl, rv⟩ := w1 r
      cases rv with | d rv =>
      cases rv
      refine ⟨i, rfl, Nat.blt_eq.mp hb.1, h.ret g (.d ?_)⟩
      exact .str (l := intTx i) (of_decide_eq_true hb.2.1) fun c hc => Nat.blt_eq.mp (List.all_eq_true.mp hb.2.2 c hc)
    · exact h.elim
  · exact h.elim
end
/-! str of an own object -/
section
variable {X : Cx} {Z : WX} {k : Nat} {f : Addr} {d : He.DefD} {ps : List Str} {F : FF}
def rStrO (K : Fg) (F : FF) (cn : Str) : List V → Hp → VK → Prop := fun xs H Q => ∃ a dx fs, xs = [.ref a] ∧ H a = some (.ins (He.ga K cn) dx fs) ∧ dsp K F [.ref a] H (fun v H' => ∃ x, v = .str x ∧ Q (.str x) H') fun _ _ _ => False
theorem call_strO {cn : Str} (D : Def X.prog X.w X.K X.mg X.base k f d ps F) (hc : Has X.K (He.ga X.K cn) f "__str__") (hgu : X.A.guards = some []) (hr : Room (k + 2) X.A) : CallR X (.type "str") (rStrO X.K F cn) := by
  intro pins s σ H xs us Q I r h
  obtain ⟨a, dx, fs, rfl, ea, h⟩ := h
  obtain ⟨u, rfl, rx⟩ := vals1 r
  cases rx
  obtain ⟨ox, od, J⟩ := ins_inst I ea
  refine PySem.W.kso_call (by have := hr.in1.in1.un; omega) I.kIn J hc.at_ hc.fn (run_quiet (A := X.A.in1.in1) D hgu hr.in1.in1 rfl I (.cons (show RelV (V.ref a) (Value.ref a) from rfl) .nil) h fun u s' v H' I' rv q => ?_)
  obtain ⟨x, rfl, q⟩ := q
  obtain ⟨t, rfl⟩ : ∃ t, u = Value.str x t := rv
  exact ⟨.str x, H', I', ⟨t, rfl⟩, q⟩
def gStrO (F : FF) (cn : Str) : FF := fun ws S => match ws with
  | [w] => (match insOf cn w S with
    | some _ => (match F [w] S with
      | .ok (.d (.str l)) S' => .ok (.d (.str l)) S'
      | _ => .no)
    | none => .no)
  | _ => .no
end
section
variable {K : Fg} {Z : WX} {F : FF} {cn : Str}
theorem cal_strO : CalRef K Z (rStrO K F cn) (gStrO F cn) := by
  intro σ G c S H vs ws Q g r h
  unfold gStrO at h
  split at h
  · rename_i w
    obtain ⟨v, rfl, rv⟩ := w1 r
    split at h
    · rename_i z ei
      obtain ⟨a, dx, fs, rfl, ha, hm, rr⟩ := ins_rep (ns := z.1) (vs := z.2) g rv ei
      refine ⟨a, dx, fs, rfl, ha, G, c, S, [w], g, .cons rv .nil, ?_⟩
      revert h
      cases F [w] S with
      | no => exact fun h => h.elim
      | ex _ _ => exact fun h => h.elim
      | ok w S' =>
        intro h
        cases w with
        | d dd =>
          cases dd with
          | str l =>
            intro G' c' H' v e' g' rv
            cases rv with | d rv =>
            cases rv with | str h1 h2 =>
            exact ⟨_, rfl, h G' c' H' _ e' g' (.d (.str h1 h2))⟩
          | _ => exact h.elim
        | _ => exact h.elim
    · exact h.elim
  · exact h.elim
/-- str of a whole number, or of an own object -/
def gStrA (F : FF) (cn : Str) : FF := fun ws S => match ws with
  | [.d (.int i)] => gStrI [.d (.int i)] S
  | ws => gStrO F cn ws S
theorem cal_strA : CalRef K Z (fun xs H Q => (∃ i, xs = [.int i] ∧ i.natAbs.log2 < 1920 ∧ Q (.str (toString i)) H) ∨ rStrO K F cn xs H Q) (gStrA F cn) := by
  intro σ G c S H vs ws Q g r h
  unfold gStrA at h
  split at h
  · exact .inl (cal_strI (Z := Z) σ G c S H vs _ Q g r h)
  · exact .inr (cal_strO (Z := Z) σ G c S H vs _ Q g r h)
end
/-! a < b < c -/
def fChain (g g' : W → W → Store → R W) (fa fb fc : FE) : FE := fun ρ S => (fa ρ S).bind fun a S1 => (fb ρ S1).bind fun b S2 => (g a b S2).bind fun w S3 => match w with
  | .d (.bl true) => (fc ρ S3).bind fun c S4 => g' b c S4
  | .d (.bl false) => .ok (.d (.bl false)) S3
  | _ => .no
section
variable {X : Cx} {Z : WX} {fa fb fc : FE}
theorem ref_chain {K : Fg} {r r' : R2} {g g' : W → W → Store → R W} {ta tb tc : TE} (hr : OpRef K Z r g) (hr' : OpRef K Z r' g') (h1 : Ref K Z ta fa) (h2 : Ref K Z tb fb) (h3 : Ref K Z tc fc) : Ref K Z (tChain r r' ta tb tc) (fChain g g' fa fb fc) := by
  intro ρ S σ H G c Q gd re h
  refine h1 ρ S σ H G c _ gd re (Wants.step h fun a S1 G1 c1 H1 va e1 g1 ra h => ?_)
  have re1 := re.ev e1.gg e1.cc
  refine h2 ρ S1 σ H1 G1 c1 _ g1 re1 (Wants.step h fun b S2 G2 c2 H2 vb e2 g2 rb h => ?_)
  have re2 := re1.ev e2.gg e2.cc
  refine hr σ G2 c2 S2 H2 va vb a b _ g2 (ra.ev e2.gg e2.cc) rb (Wants.step h fun w S3 G3 c3 H3 vw e3 g3 rw' h => ?_)
  split at h
  · cases rw' with | d rw' =>
    cases rw'
    refine ⟨true, rfl, iteT ?_⟩
    refine h3 ρ S3 σ H3 G3 c3 _ g3 (re2.ev e3.gg e3.cc) (Wants.step h fun x S4 G4 c4 H4 vc e4 g4 rc h => ?_)
    exact hr' σ G4 c4 S4 H4 vb vc b x Q g4 ((rb.ev e3.gg e3.cc).ev e4.gg e4.cc) rc h
  · cases rw' with | d rw' =>
    cases rw'
    exact ⟨false, rfl, iteF (h.ret g3 (.d (.bl _)))⟩
  · exact h.elim
theorem de_chain {op op' : CmpOp} {r r' : R2} {g g' : W → W → Store → R W} {a b c : Expr} {pos : Pos} (ho : OpR X (compareOp op) r) (ho' : OpR X (compareOp op') r') (hr : OpRef X.K Z r g) (hr' : OpRef X.K Z r' g') (ha : DE X Z a fa) (hb : DE X Z b fb) (hc : DE X Z c fc) (hm : lastMarks [op, op'] [b, c] = false := by with_unfolding_all rfl) :
    DE X Z (.Compare a [op, op'] [b, c] pos) (fChain g g' fa fb fc) :=
  let ⟨_, p1, q1⟩ := ha; let ⟨_, p2, q2⟩ := hb; let ⟨_, p3, q3⟩ := hc; ⟨_, pe_chain ho ho' p1 p2 p3 hm, ref_chain hr hr' q1 q2 q3⟩
theorem dt_chain {op op' : CmpOp} {r r' : R2} {g g' : W → W → Store → R W} {a b c : Expr} {pos : Pos} (ho : OpR X (compareOp op) r) (ho' : OpR X (compareOp op') r') (hr : OpRef X.K Z r g) (hr' : OpRef X.K Z r' g') (ha : DE X Z a fa) (hb : DE X Z b fb) (hc : DE X Z c fc) (hm : lastMarks [op, op'] [b, c] = false := by with_unfolding_all rfl) :
    DT X Z (.Compare a [op, op'] [b, c] pos) (toB (fChain g g' fa fb fc)) :=
  let ⟨_, p1, q1⟩ := ha; let ⟨_, p2, q2⟩ := hb; let ⟨_, p3, q3⟩ := hc; ⟨_, pt_chain ho ho' p1 p2 p3 hm, refb_of (ref_chain hr hr' q1 q2 q3)⟩
end
end DL
end
section
namespace DL
open PySem PySem.Spec PyProof.Rows L2
section
variable {ρ : Env} {S : Store}
@[simp] theorem ev_lc2 {fi fi1 : FI} {t t1 : Tgt} {tt tt1 : FB} {f : FE} {vs vs1 : List Nat} : fLc2 fi t tt fi1 t1 tt1 f vs vs1 ρ S = (fi ρ S).bind fun s S1 => match s with
  | .fix ds => (comp2 t tt fi1 t1 tt1 f vs1 (wipeE ρ vs) 0 ds S1).bind fun r S2 => .ok (.d (.lst r)) S2
  | .cell _ => .no := (rfl)
/-- two sources, nothing changed -/
theorem comp2_pure {α : Type} {t t1 : Tgt} {tt tt1 : FB} {fi1 : FI} {f : FE} {vs1 : List Nat} {mk : α → D} {r : α → List D} : ∀ (l : List α) (n : Nat), (∀ x ∈ l, ∀ m, m ≤ n + (l.map fun x => (r x).length).sum → turn2 t tt fi1 t1 tt1 f vs1 m (mk x) ρ S = .ok (r x) S) → comp2 t tt fi1 t1 tt1 f vs1 ρ n (l.map mk) S = .ok (l.flatMap r) S
  | [], _, _ => rfl
  | x :: l, n, h => by
    rw [List.map_cons, comp2, h x List.mem_cons_self n (by omega), bind_ok, comp2_pure l (n + (r x).length) (fun y hy m hm => h y (List.mem_cons_of_mem _ hy) m (by
      rw [List.map_cons, List.sum_cons]; omega)), bind_ok]
    rfl
theorem turn2_go {t t1 : Tgt} {tt tt1 : FB} {fi1 : FI} {f : FE} {vs1 : List Nat} {n : Nat} {d : D} {ρ1 : Env} {ds1 r : List D} (h1 : t.fg d ρ = some ρ1) (h2 : tt ρ1 S = .ok true S) (h3 : fi1 ρ1 S = .ok (.fix ds1) S) (h4 : n + ds1.length ≤ 1000000) (h5 : compD t1 tt1 f (wipeE ρ1 vs1) ds1 S = .ok r S) : turn2 t tt fi1 t1 tt1 f vs1 n d ρ S = .ok r S := by
  have lo : lenOk (n + ds1.length) = true := lenOk_of (by omega)
  unfold turn2
  rw [h1]
  dsimp only
  rw [h2]
  dsimp only
  rw [h3]
  dsimp only
  rw [lo, if_pos rfl, h5]
theorem seqI_ints {l : List Int} : seqI (.lst (l.map D.int)) = some l := intsOf_map l
theorem agg_go {f : List Int → Option Int} {l : List Int} {m : Int} (h : f l = some m) : gAgg f [.d (.lst (l.map D.int))] S = .ok (.d (.int m)) S := by
  simp only [gAgg, val_d, seqI_ints, h]
@[simp] theorem ev_mulL {ds : List D} {k : Int} : gMulL (.d (.lst ds)) (.d (.int k)) S = if small62 k && lenOk (ds.length * k.toNat) then .ok (.d (.lst (List.replicate k.toNat ds).flatten)) S else .no := (rfl)
@[simp] theorem ev_chain {g g' : W → W → Store → R W} {fa fb fc : FE} : fChain g g' fa fb fc ρ S = (fa ρ S).bind fun a S1 => (fb ρ S1).bind fun b S2 => (g a b S2).bind fun w S3 => match w with
  | .d (.bl true) => (fc ρ S3).bind fun c S4 => g' b c S4
  | .d (.bl false) => .ok (.d (.bl false)) S3
  | _ => .no := (rfl)
theorem strO_go {F : FF} {cn : Str} {w : W} {l : List Nat} {z : List Str × List D} (h : insOf cn w S = some z) (h2 : F [w] S = .ok (.d (.str l)) S) (hi : ∀ i, w ≠ .d (.int i)) : gStrA F cn [w] S = .ok (.d (.str l)) S := by
  have : gStrA F cn [w] S = gStrO F cn [w] S := by
    unfold gStrA
    split
    · rename_i i e
      exact absurd (List.cons.inj e).1 (hi i)
    · rfl
  rw [this]
  simp only [gStrO, h, h2]
end
end DL
end
end
section
section
namespace DL
open PySem PySem.Spec PyProof.Rows L2
section
variable {ρ : Env} {S : Store}
/-- for, over a list that is kept as a cell and stays -/
theorem forC_from {g : FG} {b : FS} {all : List D} {n : Nat} (I : Nat → Env → Store → Prop) (cell : ∀ i ρ S, I i ρ S → S[n]? = some (.lst all))
    (st : ∀ i d ρ S, all[i]? = some d → I i ρ S → ∃ ρ1 S1 ρ2 S2, g (.d d) ρ S = .ok ρ1 S1 ∧ (b ρ1 S1 = .nx ρ2 S2 ∨ b ρ1 S1 = .ct ρ2 S2) ∧ I (i + 1) ρ2 S2) :
    ∀ (m i : Nat) (ρ : Env) (S : Store), i + m = all.length → I i ρ S → ∃ ρ' S', forC g b n all.length m ρ S = .nx ρ' S' ∧ I all.length ρ' S'
  | 0, i, ρ, S, hm, h => by
    have hi : i = all.length := by omega
    subst hi
    refine ⟨ρ, S, ?_, h⟩
    unfold forC
    rw [cell _ _ _ h]
    exact if_pos rfl
  | m + 1, i, ρ, S, hm, h => by
    have hi : i < all.length := by omega
    obtain ⟨ρ1, S1, ρ2, S2, e1, e2, h2⟩ := st i all[i] ρ S (List.getElem?_eq_getElem hi) h
    obtain ⟨ρ', S', e3, h3⟩ := forC_from I cell st m (i + 1) ρ2 S2 (by omega) h2
    refine ⟨ρ', S', ?_, h3⟩
    have ei : all.length - (m + 1) = i := by omega
    unfold forC
    rw [cell _ _ _ h]
    dsimp only
    rw [ei, List.getElem?_eq_getElem hi]
    dsimp only
    rw [e1]
    dsimp only
    rcases e2 with e2 | e2 <;> rw [e2] <;> exact e3
theorem forC_inv {g : FG} {b : FS} {all : List D} {n : Nat} {ρ : Env} {S : Store} (I : Nat → Env → Store → Prop) (cell : ∀ i ρ S, I i ρ S → S[n]? = some (.lst all)) (h0 : I 0 ρ S)
    (st : ∀ i d ρ S, all[i]? = some d → I i ρ S → ∃ ρ1 S1 ρ2 S2, g (.d d) ρ S = .ok ρ1 S1 ∧ (b ρ1 S1 = .nx ρ2 S2 ∨ b ρ1 S1 = .ct ρ2 S2) ∧ I (i + 1) ρ2 S2) : ∃ ρ' S', forS g b (.cell n) ρ S = .nx ρ' S' ∧ I all.length ρ' S' := by
  obtain ⟨ρ', S', e, h⟩ := forC_from I cell st all.length 0 ρ S (by omega) h0
  refine ⟨ρ', S', ?_, h⟩
  unfold forS
  dsimp only
  rw [cell _ _ _ h0]
  exact e
/-- a comprehension over such a list, nothing changed -/
theorem compC_pure {t : Tgt} {tt : FB} {f : FE} {all : List D} {n : Nat} (o : D → Option D) (hc : S[n]? = some (.lst all)) (h : ∀ d ∈ all, compT t tt f d ρ S = .ok (o d) S) : ∀ (m i : Nat), i + m = all.length → compC t tt f ρ n all.length m S = .ok ((all.drop i).filterMap o) S
  | 0, i, hm => by
    have hi : i = all.length := by omega
    subst hi
    unfold compC
    rw [hc, List.drop_length]
    exact if_pos rfl
  | m + 1, i, hm => by
    have hi : i < all.length := by omega
    have ei : all.length - (m + 1) = i := by omega
    unfold compC
    rw [hc]
    dsimp only
    rw [ei, List.getElem?_eq_getElem hi]
    dsimp only
    rw [h _ (List.getElem_mem hi), bind_ok, compC_pure o hc h m (i + 1) (by omega), bind_ok, List.drop_eq_getElem_cons hi, List.filterMap_cons]
    cases o all[i] <;> rfl
theorem compC_fil {α : Type} {t : Tgt} {tt : FB} {f : FE} {n : Nat} {mk r : α → D} {p : α → Bool} {l : List α} (hc : S[n]? = some (.lst (l.map mk))) (h : ∀ x ∈ l, compT t tt f (mk x) ρ S = .ok (if p x then some (r x) else none) S) : compC t tt f ρ n l.length l.length S = .ok ((l.filter p).map r) S := by
  have hD := compD_fil l h
  have gen : ∀ (ds : List D) (out : List D), compD t tt f ρ ds S = .ok out S → (∀ d ∈ ds, ∃ o, compT t tt f d ρ S = .ok o S) → ∀ (pre : List D), S[n]? = some (.lst (pre ++ ds)) → compC t tt f ρ n (pre ++ ds).length ds.length S = .ok out S := by
    intro ds
    induction ds with
    | nil =>
      intro out e _ pre hp
      cases e
      rw [List.length_nil]
      unfold compC
      rw [hp]
      exact if_pos rfl
    | cons d ds ih =>
      intro out e hh pre hp
      obtain ⟨o, ho⟩ := hh d List.mem_cons_self
      rw [compD, ho, bind_ok] at e
      rw [List.length_cons]
      unfold compC
      rw [hp]
      dsimp only
      have ei : (pre ++ d :: ds).length - (ds.length + 1) = pre.length := by simp
      rw [ei, List.getElem?_append_right (Nat.le_refl _), Nat.sub_self]
      show R.bind (compT t tt f d ρ S) _ = _
      rw [ho, bind_ok]
      cases e2 : compD t tt f ρ ds S with
      | ok r S' =>
        rw [e2] at e
        have e3 : R.ok (consO o r) S' = R.ok out S := e
        cases e3
        have hp2 : S[n]? = some (.lst ((pre ++ [d]) ++ ds)) := by rw [hp, List.append_assoc]; rfl
        have := ih r e2 (fun x hx => hh x (List.mem_cons_of_mem _ hx)) (pre ++ [d]) hp2
        rw [List.append_assoc] at this
        have e4 : pre ++ ([d] ++ ds) = pre ++ d :: ds := rfl
        rw [e4] at this
        rw [this]; rfl
      | ex x S' => rw [e2] at e; cases e
      | no => rw [e2] at e; cases e
  have := gen (l.map mk) _ hD (fun d hd => by obtain ⟨x, hx, rfl⟩ := List.mem_map.mp hd; exact ⟨_, h x hx⟩) [] hc
  simpa using this
@[simp] theorem ev_forS_cell {g : FG} {b : FS} {n : Nat} : forS g b (.cell n) ρ S = match S[n]? with
  | some (.lst ds) => forC g b n ds.length ds.length ρ S
  | _ => .no := (rfl)
end
end DL
end
section
namespace DL
open PySem PySem.Spec PyProof.Rows L2
section
variable {ρ : Env} {S : Store}
theorem ok2_of {i j : Int} (h : i.natAbs < 2 ^ 60) : mulOk i j = true := by
  unfold mulOk
  rw [Bool.or_eq_true]
  exact .inl (decide_eq_true h)
theorem ok2_of' {i j : Int} (h : j.natAbs < 2 ^ 60) : mulOk i j = true := by
  unfold mulOk
  rw [Bool.or_eq_true]
  exact .inr (decide_eq_true h)
/-- a loop that keeps a state -/
theorem forD_fold {α β : Type} {g : FG} {b : FS} {mk : α → D} (l : List α) (env : β → Option W → Env) (sto : β → Store) (step : β → α → β) (P : Nat → β → Prop) (s0 : β) (w0 : Option W) (h0 : P 0 s0)
    (hg : ∀ s d w, g (.d d) (env s w) (sto s) = .ok (env s (some (.d d))) (sto s))
    (hb : ∀ i x s, l[i]? = some x → P i s → (b (env s (some (.d (mk x)))) (sto s) = .nx (env (step s x) (some (.d (mk x)))) (sto (step s x)) ∨ b (env s (some (.d (mk x)))) (sto s) = .ct (env (step s x) (some (.d (mk x)))) (sto (step s x))) ∧ P (i + 1) (step s x)) :
    ∃ w, forD g b (l.map mk) (env s0 w0) (sto s0) = .nx (env (l.foldl step s0) w) (sto (l.foldl step s0)) ∧ P l.length (l.foldl step s0) := by
  suffices h : ∀ (m pre : List α) (s : β) (w : Option W), l = pre ++ m → P pre.length s → ∃ w', forD g b (m.map mk) (env s w) (sto s) = .nx (env (m.foldl step s) w') (sto (m.foldl step s)) ∧ P l.length (m.foldl step s) from h l [] s0 w0 rfl h0
  intro m
  induction m with
  | nil => intro pre s w e hp; rw [List.append_nil] at e; subst e; exact ⟨w, rfl, hp⟩
  | cons x m ih =>
    intro pre s w e hp
    obtain ⟨e1, p1⟩ := hb pre.length x s (by rw [e]; simp) hp
    obtain ⟨w', e2, p2⟩ := ih (pre ++ [x]) (step s x) (some (.d (mk x))) (by rw [e]; simp) (by rw [List.length_append]; exact p1)
    refine ⟨w', ?_, p2⟩
    rw [List.map_cons, forD, hg]
    dsimp only
    rcases e1 with e1 | e1 <;> rw [e1] <;> exact e2
/-- a loop that looks for the first one -/
theorem forD_find {α : Type} {g : FG} {b : FS} {mk : α → D} (q : α → Bool) (v : α → W) (env : Option W → Env) : ∀ (l : List α) (w0 : Option W),
    (∀ d w, g (.d d) (env w) S = .ok (env (some (.d d))) S) →
    (∀ x ∈ l, b (env (some (.d (mk x)))) S = if q x = true then .rt (v x) S else .nx (env (some (.d (mk x)))) S) →
    ∃ w, forD g b (l.map mk) (env w0) S = match l.find? q with
      | some x => .rt (v x) S
      | none => .nx (env w) S
  | [], w0, _, _ => ⟨w0, rfl⟩
  | x :: l, w0, hg, hb => by
    have e1 := hb x List.mem_cons_self
    obtain ⟨w, e2⟩ := forD_find q v env l (some (.d (mk x))) hg fun y hy => hb y (List.mem_cons_of_mem _ hy)
    refine ⟨w, ?_⟩
    rw [List.map_cons, forD, hg]
    dsimp only
    rw [e1, List.find?_cons]
    cases q x with
    | true => rfl
    | false => exact e2
/-- .. over the numbers of a range -/
theorem rangeD_map (lo : Int) (n : Nat) : rangeD lo n = (List.range n).map fun (k : Nat) => D.int (lo + (k : Int)) := by
  unfold rangeD
  rfl
theorem deq_refl_of : ∀ (n : Nat) (d : D), plainD n d = true → same d d = true := same_refl_of
/-- repr(x) == repr(y), both the same -/
theorem reprC_same {k : Bool} {fa fb : FE} {S1 S2 : Store} {w1 w2 : W} {d : D} (h1 : fa ρ S = .ok w1 S1) (v1 : val w1 S1 = some d) (ok : reprOk d = true) (h2 : fb ρ S1 = .ok w2 S2) (v2 : val w2 S2 = some d) : fReprC k fa fb ρ S = .ok (.d (.bl k)) S2 := by
  have s : same d d = true := by
    unfold reprOk at ok
    rw [Bool.and_eq_true] at ok
    exact same_refl_of 60 d ok.1
  unfold fReprC
  rw [h1, bind_ok, v1]
  dsimp only
  rw [if_pos ok, h2, bind_ok, v2]
  dsimp only
  rw [if_pos s]
end
end DL
end
section
namespace DL
open PySem PySem.Spec PyProof.Rows L2
/-- data nested at most n deep whose text has at most m signs -/
def Sho (n m : Nat) (d : D) : Prop := plainD n d = true ∧ ∃ k, shwLen d = some k ∧ k ≤ m
mutual
theorem plain_mono : ∀ {n n' : Nat} (d : D), n ≤ n' → plainD n d = true → plainD n' d = true
  | n, n', .non, _, _ => by cases n' <;> rfl
  | n, n', .bl _, _, _ => by cases n' <;> rfl
  | n, n', .int _, _, _ => by cases n' <;> rfl
  | n, n', .str _, _, _ => by cases n' <;> rfl
  | 0, _, .tup _, _, h => by simp [plainD] at h
  | 0, _, .lst _, _, h => by simp [plainD] at h
  | n + 1, 0, .tup _, h, _ => by omega
  | n + 1, 0, .lst _, h, _ => by omega
  | n + 1, n' + 1, .tup xs, h, hp => by rw [plainD] at hp ⊢; exact plains_mono xs (by omega) hp
  | n + 1, n' + 1, .lst xs, h, hp => by rw [plainD] at hp ⊢; exact plains_mono xs (by omega) hp
  | n, _, .dct _ _, _, h => by cases n <;> simp [plainD] at h
  | n, _, .ins _ _ _, _, h => by cases n <;> simp [plainD] at h
  | n, _, .scr _, _, h => by cases n <;> simp [plainD] at h
  | n, _, .exn _ _ _, _, h => by cases n <;> simp [plainD] at h
theorem plains_mono : ∀ {n n' : Nat} (ds : List D), n ≤ n' → plainDs n ds = true → plainDs n' ds = true
  | n, n', [], _, _ => by cases n' <;> rfl
  | n, n', d :: ds, h, hp => by
    rw [plainDs, Bool.and_eq_true] at hp ⊢
    exact ⟨plain_mono d h hp.1, plains_mono ds h hp.2⟩
end
theorem Sho.mono {n m n' m' : Nat} {d : D} (h : Sho n m d) (a : n ≤ n') (b : m ≤ m') : Sho n' m' d := ⟨plain_mono d a h.1, let ⟨k, e, l⟩ := h.2; ⟨k, e, Nat.le_trans l b⟩⟩
theorem sho_non : Sho 0 4 .non := ⟨rfl, 4, rfl, Nat.le_refl _⟩
theorem sho_bl {b : Bool} : Sho 0 5 (.bl b) := ⟨rfl, 5, rfl, Nat.le_refl _⟩
theorem sho_int {i : Int} (h : i.natAbs < 2 ^ 200) : Sho 0 2000 (.int i) := by
  refine ⟨rfl, 2000, ?_, Nat.le_refl _⟩
  rw [shwLen, if_pos]
  by_cases e : i.natAbs = 0
  · rw [e]; decide
  · exact Nat.lt_of_lt_of_le ((Nat.log2_lt e).mpr h) (by decide)
theorem sho_str {l : List Nat} {m : Nat} (h : 10 * l.length + 2 ≤ m) : Sho 0 m (.str l) := ⟨rfl, _, rfl, h⟩
theorem shos {n m : Nat} : ∀ {ds : List D}, (∀ d ∈ ds, Sho n m d) → plainDs n ds = true ∧ ∃ k, shwLens ds = some k ∧ k ≤ (m + 2) * ds.length
  | [], _ => ⟨by cases n <;> rfl, 0, rfl, Nat.zero_le _⟩
  | d :: ds, h => by
    obtain ⟨p1, k1, e1, l1⟩ := h d List.mem_cons_self
    obtain ⟨p2, k2, e2, l2⟩ := shos fun d hd => h d (List.mem_cons_of_mem _ hd)
    refine ⟨by rw [plainDs, p1, p2]; rfl, k1 + 2 + k2, by rw [shwLens, e1, e2], ?_⟩
    rw [List.length_cons, Nat.mul_succ]
    omega
theorem sho_lst {n m k : Nat} {ds : List D} (h : ∀ d ∈ ds, Sho n m d) (hk : (m + 2) * ds.length + 3 ≤ k) : Sho (n + 1) k (.lst ds) := by
  obtain ⟨p, j, e, l⟩ := shos h
  exact ⟨by rw [plainD]; exact p, j + 2, by rw [shwLen, e]; rfl, by omega⟩
theorem sho_tup {n m k : Nat} {ds : List D} (h : ∀ d ∈ ds, Sho n m d) (hk : (m + 2) * ds.length + 3 ≤ k) : Sho (n + 1) k (.tup ds) := by
  obtain ⟨p, j, e, l⟩ := shos h
  exact ⟨by rw [plainD]; exact p, j + 3, by rw [shwLen, e]; rfl, by omega⟩
/-- texts of at most a signs, at most b of them -/
theorem sho_strs {a b : Nat} {l : List (List Nat)} (h : ∀ x ∈ l, x.length ≤ a) (hb : l.length ≤ b) : Sho 1 ((10 * a + 4) * b + 3) (.lst (l.map D.str)) ∧ Sho 1 ((10 * a + 4) * b + 3) (.tup (l.map D.str)) := by
  have q : ∀ d ∈ l.map D.str, Sho 0 (10 * a + 2) d := fun d hd => by
    obtain ⟨x, hx, rfl⟩ := List.mem_map.mp hd
    exact sho_str (by have := h x hx; omega)
  have z : (10 * a + 2 + 2) * (l.map D.str).length + 3 ≤ (10 * a + 4) * b + 3 := by
    have e : 10 * a + 2 + 2 = 10 * a + 4 := by omega
    rw [List.length_map, e]
    have := Nat.mul_le_mul_left (10 * a + 4) hb
    omega
  exact ⟨sho_lst q z, sho_tup q z⟩
theorem Sho.ok {n m : Nat} {d : D} (h : Sho n m d) (a : n ≤ 60) (b : m ≤ 16777216) : reprOk d = true := by
  obtain ⟨p, k, e, l⟩ := h.mono a b
  unfold reprOk
  rw [p, e, sizeLine_eq]
  exact decide_eq_true l
theorem Sho.eqOk {n m n' m' : Nat} {d d' : D} (h : Sho n m d) (h' : Sho n' m' d') (a : n ≤ 60) (b : n' ≤ 60) : eqOk d d' = true := by
  unfold DL.eqOk
  rw [plain_mono d a h.1, plain_mono d' b h'.1]; rfl
@[simp] theorem deq_non : deq .non .non = true := by simp [deq]
@[simp] theorem deq_bl {a b : Bool} : deq (.bl a) (.bl b) = (a == b) := by simp [deq]
mutual
/-- == of data that has no truths -/
theorem deq_refl : ∀ (n : Nat) (d : D), plainD n d = true → deq d d = true
  | _, .non, _ => by simp
  | _, .bl b, _ => by simp
  | _, .int i, _ => by simp
  | _, .str l, _ => by simp
  | n + 1, .tup xs, h => by rw [deq_tup]; exact deqs_refl n xs (by simpa [plainD] using h)
  | n + 1, .lst xs, h => by rw [deq_lst]; exact deqs_refl n xs (by simpa [plainD] using h)
  | 0, .tup _, h => by simp [plainD] at h
  | 0, .lst _, h => by simp [plainD] at h
  | n, .dct _ _, h => by cases n <;> simp [plainD] at h
  | n, .ins _ _ _, h => by cases n <;> simp [plainD] at h
  | n, .scr _, h => by cases n <;> simp [plainD] at h
  | n, .exn _ _ _, h => by cases n <;> simp [plainD] at h
theorem deqs_refl : ∀ (n : Nat) (ds : List D), plainDs n ds = true → deqs ds ds = true
  | _, [], _ => by simp
  | n, d :: ds, h => by
    rw [plainDs, Bool.and_eq_true] at h
    rw [deqs_cc, deq_refl n d h.1, deqs_refl n ds h.2]; rfl
end
end DL
end
section
namespace DL
open PySem PySem.Spec PyProof.Rows L2
section
variable {S : Store}
/-- a loop that may return early and changes no cell; what the other names hold is told by P -/
theorem forD_some {α : Type} {g : FG} {b : FS} {mk : α → D} (q : α → Option W) (P : Env → Prop) : ∀ (l : List α) (ρ0 : Env), P ρ0 →
    (∀ x ∈ l, ∀ ρ, P ρ → ∃ ρ1, g (.d (mk x)) ρ S = .ok ρ1 S ∧ (∀ w, q x = some w → b ρ1 S = .rt w S) ∧ (q x = none → ∃ ρ2, b ρ1 S = .nx ρ2 S ∧ P ρ2)) →
    (∀ w, l.findSome? q = some w → forD g b (l.map mk) ρ0 S = .rt w S) ∧ (l.findSome? q = none → ∃ ρ', forD g b (l.map mk) ρ0 S = .nx ρ' S ∧ P ρ')
  | [], ρ0, h0, _ => ⟨fun w e => by simp at e, fun _ => ⟨ρ0, rfl, h0⟩⟩
  | x :: l, ρ0, h0, h => by
    obtain ⟨ρ1, e1, e2, e3⟩ := h x List.mem_cons_self ρ0 h0
    cases hq : q x with
    | some w0 =>
      refine ⟨fun w e => ?_, fun e => ?_⟩
      · rw [List.findSome?_cons, hq] at e
        cases e
        rw [List.map_cons, forD, e1]
        dsimp only
        rw [e2 _ hq]
      · rw [List.findSome?_cons, hq] at e; cases e
    | none =>
      obtain ⟨ρ2, e4, p2⟩ := e3 hq
      obtain ⟨f1, f2⟩ := forD_some q P l ρ2 p2 fun y hy => h y (List.mem_cons_of_mem _ hy)
      have st : forD g b ((x :: l).map mk) ρ0 S = forD g b (l.map mk) ρ2 S := by
        rw [List.map_cons, forD, e1]
        dsimp only
        rw [e4]
      rw [List.findSome?_cons, hq, st]
      exact ⟨f1, f2⟩
theorem onceN_nd : ∀ (xs l : List (List Nat)), l.Nodup → (onceN l xs).Nodup
  | [], l, h => h
  | x :: xs, l, h => by
    rw [onceN]
    by_cases e : x ∈ l
    · rw [if_pos e]; exact onceN_nd xs l h
    · rw [if_neg e]; exact onceN_nd xs _ (List.nodup_cons.mpr ⟨e, h⟩)
/-- a sorted list without a thing twice is its own sorted set -/
theorem sortL_once {v : List (List Nat)} (hs : v.Pairwise LeS) (nd : v.Nodup) : sortL (onceN [] v) = v := by
  refine (sortL_eq ?_ hs).symm
  refine (List.perm_ext_iff_of_nodup nd (onceN_nd v [] .nil)).mpr fun a => ?_
  rw [onceN_mem]; simp
theorem sortL_sub {f v : List (List Nat)} (h : v.Sublist (sortL f)) : v.Pairwise LeS := List.Pairwise.sublist h (sortL_sorted f)
theorem sortL_nd {f : List (List Nat)} (h : f.Nodup) : (sortL f).Nodup := (sortL_perm f).nodup_iff.mpr h
end
end DL
end
section
/-! DL, 25: len of an own object -/
namespace DLS
open PySem PySem.Spec PySem.W PySem.Calls PyProof.Rows L2
section
variable {prog : Program} {w : World} {A : Around} {E : Value → Shared → Prop} {s : Shared} {K : Frag} {x C f : Addr} {ox : Obj} {od : Option Obj}
theorem len_own {Q : Value → Shared → Prop} (X : K.In s.heap) (I : InstAt s.heap x ox C od) (hs : findIn K (.ref C) "__len__" = some (some (.ref f))) (hf : isFn K (.ref f) = true)
    (h : wpAny (model prog w) A.in1 (call (.ref f) [.ref x]) (fun r s' => ∃ n t, r = .int n t ∧ 0 ≤ n ∧ n < 2 ^ 63 ∧ Q (.int n s'.toks) { s' with toks := s'.toks + 1 }) E s) : wpAny (model prog w) A (call (.builtin "len") [.ref x]) Q E s := by
  refine Calls.call_function_entry kind_len plain_len entry_len (args_len1 _) ?_
  unfold Builtin.«len»
  refine wpAny_bind (m := oneArg "len" _) (wpAny_pure ?_)
  refine wpAny_bind (m := callSpecial? (.ref x) (Str.ofString "__len__")) (special_fn X I hs (beq_iff_eq.mp hf) (wpAny_mono h (fun r s' hr => ?_) fun _ _ y => y))
  obtain ⟨n, t, rfl, h0, h1, q⟩ := hr
  refine wpAny_bind (wpAny_holding (wpAny_pure ?_))
  refine wpAny_bind (wpAny_letGo ?_)
  show wpAny _ _ (if n < 0 then _ else _) _ _ _
  rw [if_neg (by omega)]
  show wpAny _ _ (if n ≥ 2 ^ 63 then _ else _) _ _ _
  rw [if_neg (by omega)]
  exact wpAny_bind (wpAny_mkInt (wpAny_pure ⟨_, rfl, q⟩))
end
end DLS
namespace DL
open PySem PySem.Spec PyProof.Rows L2
section
variable {X : Cx} {Z : WX} {k : Nat} {f : Addr} {d : He.DefD} {ps : List Str} {F : FF}
def rLenO (K : Fg) (F : FF) (cn : Str) : List V → Hp → VK → Prop := fun xs H Q => ∃ a dx fs, xs = [.ref a] ∧ H a = some (.ins (He.ga K cn) dx fs) ∧ dsp K F [.ref a] H (fun v H' => ∃ n : Int, v = .int n ∧ 0 ≤ n ∧ n < 2 ^ 63 ∧ Q (.int n) H') fun _ _ _ => False
theorem call_lenO {cn : Str} (D : Def X.prog X.w X.K X.mg X.base k f d ps F) (hc : Has X.K (He.ga X.K cn) f "__len__") (hgu : X.A.guards = some []) (hr : Room (k + 1) X.A) : CallR X (.builtin "len") (rLenO X.K F cn) := by
  intro pins s σ H xs us Q I r h
  obtain ⟨a, dx, fs, rfl, ea, h⟩ := h
  obtain ⟨u, rfl, rx⟩ := vals1 r
  cases rx
  obtain ⟨ox, od, J⟩ := ins_inst I ea
  refine DLS.len_own I.kIn J hc.at_ hc.fn (run_quiet (A := X.A.in1) D hgu hr.in1 rfl I (.cons (show RelV (V.ref a) (Value.ref a) from rfl) .nil) h fun u s' v H' I' rv q => ?_)
  obtain ⟨n, rfl, h0, h1, q⟩ := q
  obtain ⟨t, rfl⟩ : ∃ t, u = Value.int n t := rv
  exact ⟨n, t, rfl, h0, h1, ⟨.int n, H', I'.tok _, ⟨_, rfl⟩, q⟩⟩
def gLenO (F : FF) (cn : Str) : FF := fun ws S => match ws with
  | [w] => (match insOf cn w S with
    | some _ => (match F [w] S with
      | .ok (.d (.int n)) S' => if (decide (0 ≤ n) && decide (n < 2 ^ 62)) = true then .ok (.d (.int n)) S' else .no
      | _ => .no)
    | none => .no)
  | _ => .no
end
section
variable {K : Fg} {Z : WX} {F : FF} {cn : Str}
theorem cal_lenO : CalRef K Z (rLenO K F cn) (gLenO F cn) := by
  intro σ G c S H vs ws Q g r h
  unfold gLenO at h
  split at h
  · rename_i w
    obtain ⟨v, rfl, rv⟩ := w1 r
    split at h
    · rename_i z ei
      obtain ⟨a, dx, fs, rfl, ha, hm, rr⟩ := ins_rep (ns := z.1) (vs := z.2) g rv ei
      refine ⟨a, dx, fs, rfl, ha, G, c, S, [w], g, .cons rv .nil, ?_⟩
      revert h
      cases F [w] S with
      | no => exact fun h => h.elim
      | ex _ _ => exact fun h => h.elim
      | ok w S' =>
        intro h
        cases w with
        | d dd =>
          cases dd with
          | int n =>
            intro G' c' H' v e' g' rv
            dsimp only at h
            split at h
            · rename_i hk
              rw [Bool.and_eq_true] at hk
              have h0 := of_decide_eq_true hk.1
              have h1 := of_decide_eq_true hk.2
              cases rv with | d rv =>
              cases rv
              exact ⟨_, rfl, h0, by omega, h G' c' H' _ e' g' (.d (.int _))⟩
            · exact h.elim
          | _ => exact h.elim
        | _ => exact h.elim
    · exact h.elim
  · exact h.elim
theorem lenO_go {S : Store} {w : W} {n : Nat} {z : List Str × List D} (h : insOf cn w S = some z) (h2 : F [w] S = .ok (.d (.int (n : Int))) S) (hn : n ≤ 1000000) : gLenO F cn [w] S = .ok (.d (.int (n : Int))) S := by
  have hk : (decide (0 ≤ (n : Int)) && decide ((n : Int) < 2 ^ 62)) = true := by
    rw [Bool.and_eq_true]
    exact ⟨decide_eq_true (by omega), decide_eq_true (by omega)⟩
  simp only [gLenO, h, h2]
  rw [if_pos hk]
end
end DL
/-! dict(a list of pairs), all keys unlike: a cell -/
namespace DL
open PySem PySem.Spec PyProof.Rows L2
def prsOf : List D → Option (List D × List D)
  | [] => some ([], [])
  | .tup [k, v] :: r => if (dkey k).isSome then (match prsOf r with
    | some (ks, vs) => some (k :: ks, v :: vs)
    | none => none) else none
  | _ => none
def dnd : List D → Bool
  | [] => true
  | k :: ks => !(ks.any fun x => keq x k) && dnd ks
def gDictP : FF := fun ws S => match ws with
  | [w] => (match val w S with
    | some (.lst ds) => (match prsOf ds with
      | some (ks, vs) => if (dnd ks && lenOk ks.length) = true then .ok (.loc S.length) (S ++ [.dct ks vs]) else .no
      | none => .no)
    | _ => .no)
  | _ => .no
section
variable {K : Fg} {G H : Hp} {Z : WX}
theorem prs_rep (s : Sub G H) : ∀ {ds : List D} {us : List V} {ks vs : List D}, Reps K G us ds → prsOf ds = some (ks, vs) →
    ∃ (ps : List Addr) (kvs : List (Key × V)), us = ps.map V.ref ∧ Paired (fun p kv => SqT K H p [kV kv.1, kv.2]) ps kvs ∧ ks.map dkey = (kvs.map fun p => some p.1) ∧ Reps K G (kvs.map (·.2)) vs ∧ Reps K G (kvs.map fun p => kV p.1) ks
  | [], us, ks, vs, r, e => by
    cases r
    simp only [prsOf, Option.some.injEq, Prod.mk.injEq] at e
    obtain ⟨rfl, rfl⟩ := e
    exact ⟨[], [], rfl, .nil, rfl, .nil, .nil⟩
  | d :: ds, us, ks, vs, r, e => by
    unfold prsOf at e
    split at e
    · rename_i e0; cases e0
    · rename_i k v r' e0
      cases e0
      split at e
      · rename_i hk
        cases q : prsOf ds with
        | none => rw [q] at e; cases e
        | some z =>
          obtain ⟨ks', vs'⟩ := z
          rw [q] at e
          simp only [Option.some.injEq, Prod.mk.injEq] at e
          obtain ⟨rfl, rfl⟩ := e
          cases r with
          | cons r0 rt =>
            cases r0 with
            | @tup a us2 _ h1 r1 z1 =>
              cases r1 with
              | @cons vk _ _ _ rk r2 => cases r2 with
                | @cons vv _ _ _ rv r3 =>
                  cases r3
                  obtain ⟨key, ek⟩ := Option.isSome_iff_exists.mp hk
                  have e1 := dkey_rep rk ek
                  subst e1
                  obtain ⟨ps, kvs, p1, p2, p3, p4, p5⟩ := prs_rep s rt q
                  refine ⟨a :: ps, (key, vv) :: kvs, by rw [p1]; rfl, .cons (sqT_sub s h1) p2, by rw [List.map_cons, List.map_cons, ek, p3], .cons rv p4, .cons rk p5⟩
      · cases e
    · cases e
theorem putK_new {kvs : List (Key × V)} {k : Key} {v : V} (h : ∀ p ∈ kvs, p.1 ≠ k) : putK kvs k v = kvs ++ [(k, v)] := by
  unfold putK
  rw [if_neg]
  rw [List.any_eq_true]
  rintro ⟨p, hp, e⟩
  exact h p hp (of_decide_eq_true e)
theorem merge_nd : ∀ (kvs acc : List (Key × V)), (acc ++ kvs).Pairwise (fun p q => p.1 ≠ q.1) → mergeK acc kvs = acc ++ kvs
  | [], acc, _ => by rw [List.append_nil]; rfl
  | p :: kvs, acc, h => by
    have e : acc ++ p :: kvs = (acc ++ [p]) ++ kvs := by simp
    have hn : ∀ q ∈ acc, q.1 ≠ p.1 := fun q hq => (List.pairwise_append.mp h).2.2 q hq p List.mem_cons_self
    have := merge_nd kvs (acc ++ [p]) (by rw [← e]; exact h)
    unfold mergeK at this ⊢
    rw [List.foldl_cons, putK_new hn, this, e]
theorem dnd_pw : ∀ {ks : List D} {kvs : List (Key × V)}, ks.map dkey = (kvs.map fun p => some p.1) → dnd ks = true → kvs.Pairwise (fun p q => p.1 ≠ q.1)
  | [], [], _, _ => .nil
  | [], _ :: _, h, _ => by simp at h
  | _ :: _, [], h, _ => by simp at h
  | k :: ks, p :: kvs, h, hd => by
    rw [List.map_cons, List.map_cons, List.cons.injEq] at h
    rw [dnd, Bool.and_eq_true, Bool.not_eq_true', List.any_eq_false] at hd
    refine List.pairwise_cons.mpr ⟨fun q hq e => ?_, dnd_pw h.2 hd.2⟩
    have : some q.1 ∈ ks.map dkey := by rw [h.2]; exact List.mem_map.mpr ⟨q, hq, rfl⟩
    obtain ⟨x, hx, ex⟩ := List.mem_map.mp this
    refine hd.1 x hx ?_
    unfold keq
    rw [ex, h.1]
    exact decide_eq_true e.symm
theorem cal_dictP : CalRef K Z (fun xs H Q => ∃ (a : Addr) (ps : List Addr) (kvs : List (Key × V)), xs = [.ref a] ∧ SqL K H a (ps.map V.ref) ∧ Paired (fun p kv => SqT K H p [kV kv.1, kv.2]) ps kvs ∧
    ∀ p, H p = none → Q (.ref p) (upd H p (.dK (mergeK [] kvs)))) gDictP := by
  intro σ G c S H vs ws Q g r h
  unfold gDictP at h
  split at h
  · obtain ⟨v, rfl, rv⟩ := w1 r
    split at h
    · rename_i ds ev
      obtain ⟨a, us, rfl, ha, q, z⟩ := (val_rep g rv ev).lst' g.sub
      split at h
      · rename_i ks vs' ep
        split at h
        · rename_i hk
          rw [Bool.and_eq_true] at hk
          obtain ⟨ps, kvs, rfl, p2, p3, p4, p5⟩ := prs_rep (H := H) g.sub q ep
          have em : mergeK [] kvs = kvs := by
            have := merge_nd kvs [] (by rw [List.nil_append]; exact dnd_pw p3 hk.1)
            rwa [List.nil_append] at this
          refine ⟨a, ps, kvs, rfl, .of ha, p2, fun p hp => ?_⟩
          rw [em]
          exact h.retCell g hp (.dct upd_same p3 p4 (of_decide_eq_true hk.2) p5)
        · exact h.elim
      · exact h.elim
    · exact h.elim
  · exact h.elim
end
end DL
end
end
section
section
/-! DL, 26: len(set(..)) of texts -/
namespace DLS
open PySem PySem.Spec PyProof.Rows L2 PySem.Froz
section
variable {X : Cx}
def rLenX (P : Program) (w : World) : List V → Hp → VK → Prop := fun vs H Q => ∃ (a : Addr) (l : List Str), vs = [V.ref a] ∧ H a = some (SetX P w a l) ∧ l.length < 4000 ∧ Q (.int (l.length : Int)) H
theorem cr_lenX : CallR X (.builtin "len") (rLenX X.prog X.w) := by
  intro pins s σ H vs us Q I r h
  obtain ⟨a, l, rfl, ha, h64, q⟩ := h
  rw [Vals.ref1 r]
  obtain ⟨D, ho, F, _⟩ := (setX_get I ha).ex
  obtain ⟨es, ep, t⟩ := D
  have hf : t.fits es.size = true := F.fit
  have hsz : es.size = l.length := F.sz
  refine PySem.call_len_set ho ⟨rfl, rfl, rfl⟩ rfl hf (by rw [hsz]; omega) ?_
  rw [hsz]
  exact ⟨.int (l.length : Int), H, I.tok _, ⟨_, rfl⟩, q⟩
end
end DLS
namespace DL
open PySem PySem.Spec PyProof.Rows L2
def gLenSet : FF := fun ws S => match ws with
  | [w] => (match val w S with
    | some (.lst ds) => (match strsOf ds with
      | some xs => if xs.length < 4000 then .ok (.d (.int ((onceN [] xs).length : Int))) S else .no
      | none => .no)
    | some (.tup ds) => (match strsOf ds with
      | some xs => if xs.length < 4000 then .ok (.d (.int ((onceN [] xs).length : Int))) S else .no
      | none => .no)
    | some (.str l) => if l.length < 4000 then .ok (.d (.int ((onceN [] (l.map fun c => [c])).length : Int))) S else .no
    | _ => .no)
  | _ => .no
section
variable {X : Cx} {Z : WX} {e : Expr} {fe : FE} {fs : FL} {p1 p2 p3 pos : Pos} {t : TA}
theorem lenSet_fin {σ : L2.St} {G1 : Hp} {c1 : List Addr} {S1 : Store} {H1 : Hp} {xs : List (List Nat)} {Q : VK} {p : Addr} (g1 : Good X.K G1 c1 S1 H1) (h64 : xs.length < 4000)
    (h1 : Wants X.K Z σ (RepW X.K) G1 c1 H1 (.ok (.d (.int ((onceN [] xs).length : Int))) S1) Q) (hp : H1 p = none) : DLS.rLenX X.prog X.w [.ref p] (upd H1 p (DLS.SetX X.prog X.w p (DLS.onceS [] (xs.map SX.S)))) Q := by
  have hle : (onceN [] xs).length ≤ xs.length := by have := onceN_len xs []; simpa using this
  have e6 := onceN_S xs []
  rw [List.map_nil] at e6
  have g2 : Good X.K G1 c1 S1 (upd H1 p (DLS.SetX X.prog X.w p (DLS.onceS [] (xs.map SX.S)))) := g1.setD (g1.free hp) (fun z => by
    obtain ⟨n, hn, e'⟩ := List.mem_iff_getElem.mp z
    obtain ⟨_, x, _, ca⟩ := g1.cell n p (by rw [List.getElem?_eq_getElem hn, e'])
    obtain ⟨o, ho⟩ := ca.some
    rw [hp] at ho; cases ho) _
  have ev2 : Ev G1 c1 H1 G1 c1 (upd H1 p (DLS.SetX X.prog X.w p (DLS.onceS [] (xs.map SX.S)))) := (Ev.refl ..).setD hp _
  have hl : (DLS.onceS [] (xs.map SX.S)).length = (onceN [] xs).length := by rw [e6, List.length_map]
  refine ⟨p, DLS.onceS [] (xs.map SX.S), rfl, upd_same, by rw [hl]; omega, ?_⟩
  rw [hl]
  exact h1 _ _ _ _ ev2 g2 (.d (.int _))
theorem ref_lenSet (h : RefL X.K Z t fs) : Ref X.K Z (tCB (DLS.rLenX X.prog X.w) (tCons (tCB (DLS.rSetA X.K X.prog X.w) t) tNil)) (fCall gLenSet fs) := by
  intro ρ S σ H G c Q gd re q
  refine h ρ S σ H G c _ gd re (Wants.step q fun ws S1 G1 c1 H1 vs e1 g1 rx h1 => ?_)
  unfold gLenSet at h1
  split at h1
  · obtain ⟨v, rfl, rv⟩ := w1 rx
    split at h1
    · rename_i ds ev
      obtain ⟨a, us, rfl, ha, q, z⟩ := (val_rep g1 rv ev).lst' g1.sub
      split at h1
      · rename_i xs es
        obtain ⟨e3, e4, e5⟩ := strs_rep q es
        subst e3
        split at h1
        · rename_i h64
          exact .inl ⟨a, xs.map SX.S, rfl, .of ha, by rw [List.length_map]; unfold scanBound; omega, fun p hp => lenSet_fin g1 h64 h1 hp⟩
        · exact h1.elim
      · exact h1.elim
    · rename_i ds ev
      have rt := val_rep g1 rv ev
      cases rt with | of rt => cases rt with | tup ha q z =>
      split at h1
      · rename_i xs es
        obtain ⟨e3, e4, e5⟩ := strs_rep q es
        subst e3
        split at h1
        · rename_i h64
          exact .inr (.inr ⟨_, xs.map SX.S, rfl, g1.seqT ha, by rw [List.length_map]; unfold scanBound; omega, fun p hp => lenSet_fin g1 h64 h1 hp⟩)
        · exact h1.elim
      · exact h1.elim
    · rename_i l ev
      split at h1
      · rename_i h64
        have rt := val_rep g1 rv ev
        cases rt with | of rt => cases rt with | str z1 z2 =>
        have em : (l.toArray.toList.map fun c => (⟨#[c]⟩ : Str)) = (l.map fun c => [c]).map SX.S := by rw [List.map_map]; rfl
        refine .inr (.inl ⟨_, rfl, ?_, fun p hp => ?_⟩)
        · show l.toArray.size + 1 < scanBound
          unfold scanBound
          rw [List.size_toArray]; omega
        · have := lenSet_fin (xs := l.map fun c => [c]) g1 (by rw [List.length_map]; exact h64) h1 hp
          rw [← em] at this
          exact this
      · exact h1.elim
    · exact h1.elim
  · exact h1.elim
theorem de_lenSet (hm1 : X.mg "len" = none) (hm2 : X.mg "set" = none) (ha : DA X Z [e] fs) (hc : X.calm = true := by rfl) (hg1 : Gl X "len" := by rfl) (hg2 : Gl X "set" := by rfl)
    (hs : starEach [e] X.env = (false, eval e X.env) :: starEach [] X.env := by rfl)
    (hs2 : starEach [(.Call (.Name "set" p1) [e] [] p2 : Expr)] X.env = (false, eval (.Call (.Name "set" p1) [e] [] p2) X.env) :: starEach [] X.env := by rfl) :
    DE X Z (.Call (.Name "len" p3) [.Call (.Name "set" p1) [e] [] p2] [] pos) (fCall gLenSet fs) :=
  let ⟨_, p, q⟩ := ha
  ⟨_, pe_callB DLS.cr_lenX hg1 hm1 (by rfl) (pa_cons (pe_callTy (DLS.cr_setA hc) hg2 hm2 (by rfl) p (he := hs)) pa_nil hs2) (he := hs2), ref_lenSet q⟩
theorem lenSet_str {S : Store} {l : List Nat} (h : l.length < 4000) : gLenSet [.d (.str l)] S = .ok (.d (.int ((onceM [] l).length : Int))) S := by
  have := onceN_ones l []
  unfold ones at this
  simp only [List.map_nil] at this
  simp only [gLenSet, val_d]
  rw [if_pos h, this, List.length_map]
end
end DL
namespace DL
open PySem PySem.Spec PyProof.Rows L2
section
variable {X : Cx} {Z : WX} {elt tg iter tg1 iter1 : Expr} {ifs ifs1 : List Expr} {scope : Scope} {own : List (Str × Nat)} {pos spos : Pos} {fi fi1 : FI} {t t1 : Tgt} {tt tt1 : FB} {f : FE} {vs1 : List Nat}
/-- y = [.. for .. in .. for .. in ..] -/
theorem ds_setLc2 {i : Nat} {y : Str} {py : Pos} (hN : X.N.Nodup) (hi : DI X Z tg iter fi) (ok : blkC X.N X.env.scope scope own = true) (hsl : ∀ i ∈ t.slots, i ∈ own.map (·.2)) (hsl1 : ∀ i ∈ t1.slots, i ∈ vs1) (hv : ∀ i ∈ vs1, i ∈ own.map (·.2)) (hg : InBlk X scope fun Y => PG Y tg (t.tg Y.K)) (ht : InBlk X scope fun Y => DTs Y Z0 ifs tt)
    (hi1 : InBlk X scope fun Y => DI Y Z0 tg1 iter1 fi1) (hg1 : InBlk X scope fun Y => PG Y tg1 (t1.tg Y.K)) (ht1 : InBlk X scope fun Y => DTs Y Z0 ifs1 tt1) (he : InBlk X scope fun Y => DE Y Z0 elt f)
    (hsw : swapsWith (.ListComp elt [⟨tg, iter, ifs, 0⟩, ⟨tg1, iter1, ifs1, 0⟩] scope pos) (some (.Name y py)) spos.line X.env = pure true) (hy : X.N[i]? = some y := by rfl) (hyl : X.env.scope.names.lookup y = some .local := by rfl)
    (hc : X.calm = true := by rfl) (hs : ∀ x, foldedSetIterable iter X.env x = pure x := by intro _; rfl) (hs1 : ∀ env x, foldedSetIterable iter1 env x = pure x := by intro _ _; rfl) :
    DS X Z (.Assign [.Name y py] (.ListComp elt [⟨tg, iter, ifs, 0⟩, ⟨tg1, iter1, ifs1, 0⟩] scope pos) spos) (fAsg (fLc2 fi t tt fi1 t1 tt1 f (own.map (·.2)) vs1) (gSet i)) := by
  obtain ⟨_, p, q⟩ := hi
  exact ⟨_, L2.ps_setLc2 (tt := canB X.K Z0 tt) (tt1 := canB X.K Z0 tt1) hc hN hy hyl hsw p (blkOk_by ok) hv hg (fun s H C cl fp => ht s H C cl fp) (fun s H C cl fp => (hi1 s H C cl fp).can) hg1 (fun s H C cl fp => ht1 s H C cl fp) (fun s H C cl fp => (he s H C cl fp).can) hs hs1, refs_asg (ref_lc2 q hsl hsl1) (refg_name i)⟩
end
end DL
end
end
section
section
/-! DL, 27: xs[::-1] of lists and tuples, dict displays as values, len(set(..)) of whole numbers -/
namespace DLS
open PySem PySem.Spec PyProof.Rows L2
section
variable {prog : Program} {w : World} {A : Around} {E : Value → Shared → Prop} {s : Shared}
theorem fm_congr {α β : Type} {f g : α → Option β} : ∀ {l : List α}, (∀ a ∈ l, f a = g a) → l.filterMap f = l.filterMap g
  | [], _ => rfl
  | a :: l, h => by
    rw [List.filterMap_cons, List.filterMap_cons, h a List.mem_cons_self, fm_congr fun b hb => h b (List.mem_cons_of_mem _ hb)]
theorem places_rev (n : Nat) : Builtin.Slice.slicePlaces ((n : Int) - 1) (-1) (-1) = n := by
  unfold Builtin.Slice.slicePlaces
  have h1 : ¬ ((-1 : Int) > 0) := by decide
  have h2 : (-(-1) : Int) = 1 := by decide
  simp only [h1, if_false, h2, Int.ediv_one]
  split <;> omega
theorem pick_rev (xs : Array Value) : ((List.range xs.size).filterMap fun (m : Nat) => xs[(((xs.size : Int) - 1) + (m : Int) * (-1)).toNat]?).toArray = xs.toList.reverse.toArray := by
  have e : ((List.range xs.size).filterMap fun (m : Nat) => xs[(((xs.size : Int) - 1) + (m : Int) * (-1)).toNat]?) = ((List.range xs.size).map fun k => xs.size - 1 - k).filterMap (xs[·]?) := by
    rw [List.filterMap_map]
    refine fm_congr fun m hm => ?_
    have := List.mem_range.mp hm
    have e : ((xs.size : Int) - 1 + (m : Int) * (-1)).toNat = xs.size - 1 - m := by omega
    rw [e]; rfl
  rw [e, PySem.W.krv_range, List.filterMap_reverse, PySem.W.krv_all]
theorem sliceApplied_rev {sl : Addr} {u : Tok} {n : Nat} {Q : Int × Int × Nat → Shared → Prop} (hs : s.heap.IsSliceOf sl .none .none (.int (-1) u))
    (h : Q ((n : Int) - 1, -1, n) s) : wpAny (model prog w) A (Builtin.Slice.sliceApplied (.ref sl) (pure (n : Int))) Q E s := by
  obtain ⟨os, hos, hcs, hds⟩ := id hs
  unfold Builtin.Slice.sliceApplied Builtin.Slice.sliceFields
  refine wpAny_bind (wpAny_bind (wpAny_field hos hds (x := .none) rfl (wpAny_bind (wpAny_field hos hds (x := .none) rfl (wpAny_bind (wpAny_field hos hds (x := .int (-1) u) rfl (wpAny_pure ?_)))))))
  refine wpAny_bind (slicePart_int ?_)
  show wpAny _ _ (if ((-1 : Int) == 0) = true then _ else _) _ _ s
  rw [if_neg (by decide)]
  refine wpAny_bind (slicePart_none (wpAny_bind (slicePart_none (wpAny_bind (wpAny_pure ?_)))))
  show wpAny _ _ (pure ((n : Int) - 1, (-1 : Int), Builtin.Slice.slicePlaces ((n : Int) - 1) (-1) (-1))) _ _ s
  rw [places_rev]
  exact wpAny_pure h
theorem getItem_tuple_rev {t sl : Addr} {items : Array Value} {u : Tok} {Q : Value → Shared → Prop} (ht : IsTup s.heap t items) (hs : s.heap.IsSliceOf sl .none .none (.int (-1) u))
    (h : Q (.ref s.heap.objs.size) { s with heap := s.heap.push { cls := .type "tuple", data := .seq items.toList.reverse.toArray } })
    (hsz : items.size ≤ sizeLine) : wpAny (model prog w) A (getItem (.ref t) (.ref sl)) Q E s := by
  have htake : sizeOk (.seq items.toList.reverse.toArray) := by
    show items.toList.reverse.toArray.size ≤ sizeLine
    rw [List.size_toArray, List.length_reverse, Array.length_toList]
    omega
  obtain ⟨os, hos, hcs, hds⟩ := id hs
  have hTs : s.TypeIs (.ref sl) "slice" := ⟨os, hos, hcs⟩
  unfold getItem
  try with_reducible refine wpAny_holding ?_
  first | refine wpAny_bind (wpAny_pure ?_) | skip
  refine wpAny_bind (wpAny_sequenceKey ht.typeIs (by decide) ?_)
  refine wpAny_bind (wpAny_callSpecial?_slot (name := Str.ofString "__getitem__") ht.typeIs PyProof.Rows.slot_tuple_getitem
    (wpAny_call_entry PyProof.Rows.slot_tuple_getitem ht.typeIs entry_tuple_getitem ?_ (args_tuple_getitem _ _)))
  show wpAny _ _ (Builtin.Tuple.tupleItemsOf (.ref t) >>= _) _ _ s
  refine wpAny_bind (tupleItemsOf_ ht ?_)
  refine wpAny_bind (wpAny_typeOf hTs ?_)
  rw [if_pos (by decide)]
  refine wpAny_bind (sliceApplied_rev hs ?_)
  have hno : ¬ ((((items.size : Int) - 1) == 0 && (-1 : Int) == 1 && items.size == items.size) = true) := by
    intro q
    rw [Bool.and_eq_true, Bool.and_eq_true] at q
    exact absurd (eq_of_beq q.1.2) (by decide)
  show wpAny _ _ (if (((items.size : Int) - 1) == 0 && (-1 : Int) == 1 && items.size == items.size) = true then _ else _) _ _ s
  rw [if_neg hno, pick_rev]
  first
    | exact wpAny_bind (m := Builtin.Tuple.tupleExact _) (wpAny_newObj_type (wpAny_pure ⟨_, rfl, wpAny_pure h⟩) htake)
    | exact wpAny_bind (m := Builtin.Tuple.tupleExact _) (wpAny_newObj_type (wpAny_bind (wpAny_pure (wpAny_pure ⟨_, rfl, wpAny_pure h⟩))) htake)
    | exact wpAny_bind (wpAny_bind (m := Builtin.Tuple.tupleExact _) (wpAny_newObj_type (wpAny_pure (wpAny_pure ⟨_, rfl, wpAny_pure h⟩)) htake))
    | exact wpAny_bind (wpAny_bind (m := Builtin.Tuple.tupleExact _) (wpAny_newObj_type (wpAny_pure ⟨_, rfl, wpAny_pure h⟩) htake))
end
section
variable {X : Cx}
def tRevX (K : PySem.W.Frag) (te : TE) : TE := fun σ H Q => te σ H fun x H1 => ∃ a xs, x = .ref a ∧ ((SqL K H1 a xs ∧ ∀ p, H1 p = none → Q (.ref p) (upd H1 p (.lst xs.reverse))) ∨ (SqT K H1 a xs ∧ ∀ p, H1 p = none → Q (.ref p) (upd H1 p (.tup xs.reverse))))
theorem pe_revX {e : Expr} {te : TE} {k : Nat} {p1 p2 p3 pos : Pos} (he : PE X e te) : PE X (.Subscript e (.Slice none none (some (.UnaryOp .USub (.Constant (.int 1) k p1) p2)) p3) pos) (tRevX X.K te) := by
  refine ⟨fun pins s σ H Q I h => ?_⟩
  refine Subscript_ (thn (he.run pins s σ H _ I h) fun v s1 ⟨x, H1, I1, r1, q1⟩ => ?_)
  obtain ⟨a, xs, ex, hx⟩ := q1
  subst ex
  cases r1
  have hst : PO X (some (.UnaryOp .USub (.Constant (.int 1) k p1) p2)) (tPart (tUn (rU fun i => .int (-i)) (tC (.int 1)))) := po_some (pe_un un_neg pe_int)
  refine wpAny_Slice (thn (po_none.run pins s1 σ H1 (fun o H2 => o = none ∧ H2 = H1) I1 ⟨rfl, rfl⟩) fun vl s2 ⟨l, H2, I2, pl, el, e2⟩ => ?_)
  subst el e2
  refine thn (po_none.run pins s2 σ H2 (fun o H3 => o = none ∧ H3 = H2) I2 ⟨rfl, rfl⟩) fun vu s3 ⟨u, H3, I3, pu, eu, e3⟩ => ?_
  subst eu e3
  refine thn (hst.run pins s3 σ H3 (fun o H4 => o = some (-1) ∧ H4 = H3) I3 ⟨1, rfl, -1, rfl, rfl, rfl⟩) fun vs s4 ⟨o, H4, I4, ps, eo, e4⟩ => ?_
  subst eo e4
  have I5 : Inv X pins σ H4 { s4 with heap := s4.heap.push { cls := .type "slice", data := .fields #[vl, vu, vs] } } := I4.kept (t' := s4.toks) fun b ob q => Heap.get?_push_of_some _ q
  show wpAny (model X.prog X.w) X.A (subscriptTail e (.Slice none none (some (.UnaryOp .USub (.Constant (.int 1) k p1) p2)) p3) (.ref a) (.ref s4.heap.objs.size)) (EP X pins σ Q) X.xe { s4 with heap := s4.heap.push { cls := .type "slice", data := .fields #[vl, vu, vs] } }
  rcases hx with ⟨hx, q⟩ | ⟨hx, q⟩
  · obtain ⟨its, r, ht, hz⟩ := I5.list hx
    have hlen := r.length
    refine tail_any (ops := [.ref a, .ref s4.heap.objs.size]) ht.isList.typeIs (PySem.slot_list_getitem.lookup) ?_ (by with_unfolding_all rfl)
    refine wpAny_getItem_list_slice ht.isList (Heap.IsSliceOf.new _ vl vu vs) pl pu ps (by decide) ?_ (by rw [List.size_toArray]; omega)
    rw [PySem.W.krv_pick]
    refine ⟨.ref _, _, I5.laid (t' := s4.toks) (o := .lst xs.reverse) (fun b ob q => Heap.get?_push_of_some _ q) (Nat.le_refl _) ?_, rfl, q _ (I5.hok.fresh (Nat.le_refl _))⟩
    exact ⟨by rw [List.length_reverse]; exact hz, _, 0, r.reverse, Heap.get?_push_size _ rfl⟩
  · obtain ⟨its, r, ht, hz⟩ := I5.tuple hx
    have hlen := r.length
    cases pl
    cases pu
    cases ps
    refine tail_any (ops := [.ref a, .ref s4.heap.objs.size]) ht.typeIs (PyProof.Rows.slot_tuple_getitem.lookup) ?_ (by with_unfolding_all rfl)
    refine getItem_tuple_rev ht (Heap.IsSliceOf.new _ _ _ _) ?_ (by rw [List.size_toArray]; omega)
    refine ⟨.ref _, _, I5.laid (t' := s4.toks) (o := .tup xs.reverse) (fun b ob q => Heap.get?_push_of_some _ q) (Nat.le_refl _) ?_, rfl, q _ (I5.hok.fresh (Nat.le_refl _))⟩
    exact ⟨by rw [List.length_reverse]; exact hz, _, r.reverse, IsTup.new _ _⟩
/-- a thing just made is known from now on -/
def tLock (t : TE) : TE := fun σ H Q => t σ H fun x H1 => ∃ a u, x = .ref a ∧ H1 a = some u ∧ Mut (some u) ∧ ∀ od, Q x (upd H1 a (.frz od u))
theorem pe_lock {e : Expr} {t : TE} (h : PE X e t) : PE X e (tLock t) := ⟨fun pins s σ H Q I q => by
  refine wpAny_mono (h.run pins s σ H _ I q) (fun v s1 ⟨x, H1, I1, r1, a, u, ex, ha, m, q1⟩ => ?_) fun e s' hs => hs
  subst ex
  obtain ⟨od, I2⟩ := I1.lock ha m
  exact ⟨.ref a, _, I2, r1, q1 od⟩⟩
def tLenSetJ (K : PySem.W.Frag) (ta : TE) : TE := fun σ H Q => ta σ H fun x H1 => ∃ (l : Addr) (ns : List Int), x = .ref l ∧ SqL K H1 l (ns.map V.int) ∧ ns.length ≤ 4000 ∧ Q (.int ((firstMet (fun i => ns.getD i 0) ns.length).length : Nat)) H1
theorem pe_lenSetJ {a : Expr} {ta : TE} {p p2 q pos : Pos} (hg : Gl X "len") (hm : X.mg "len" = none) (hg2 : Gl X "set") (hm2 : X.mg "set" = none) (ha : PE X a ta) (hc : X.calm = true := by rfl)
    (na : starEach [a] X.env = (false, eval a X.env) :: starEach [] X.env := by rfl) : PE X (.Call (.Name "len" p) [.Call (.Name "set" p2) [a] [] q] [] pos) (tLenSetJ X.K ta) := by
  refine ⟨fun pins s σ H Q I h => ?_⟩
  refine Call_ (ld_blt I hg hm boot_len ?_)
  refine PyProof.Rows.callWith_builtin1 (PyProof.Rows.args_cons ?_ rfl) rfl rfl
  refine Call_ (ld_blt I hg2 hm2 boot_set ?_)
  refine PyProof.Rows.callWith_type1 (PyProof.Rows.args_cons (thn (ha.run pins s σ H _ I h) fun v s1 ⟨x, H1, I1, r1, q1⟩ => PyProof.Rows.args_nil ?_) na) na rfl
  obtain ⟨l, ns, rfl, hq, hl, q1⟩ := q1
  cases r1
  obtain ⟨its, r, pl, hz⟩ := I1.list hq
  have hlen : its.toArray.size = ns.length := by rw [List.size_toArray, ← r.length, List.length_map]
  refine call_set_list (I1.ok.hd hc) pl.isList (by simpa using RZ.intsAre_vals r) (by rw [hlen]; unfold scanBound; omega) fun h' tk hS hk => ?_
  refine PyProof.Rows.args_nil ?_
  rw [hlen] at hS
  have hle := firstMet_length_le (fun i => ns.getD i 0) ns.length
  obtain ⟨o, es, ep, t, ho, hex, hd, _, _, _, hf, hn⟩ := hS
  have I2 : Inv X pins σ H1 { s1 with heap := h', toks := tk } := I1.kept fun b o e => hk b o (Heap.lt_size e) e
  exact call_len_set ho hex hd hf (by rw [hn] <;> omega) ⟨.int _, H1, I2.tok _, ⟨_, by rw [hn]⟩, q1⟩
/-! a text times a whole number -/
def rMulS : R2 := fun x y H Q => ∃ (l : List Nat) (k : Int), x = .str ⟨l.toArray⟩ ∧ y = .int k ∧ 0 ≤ k ∧ k ≤ 1000 ∧ l.length ≤ 1000 ∧ Q (.str ⟨(List.replicate k.toNat l).flatten.toArray⟩) H
theorem fold_rep (l : List Nat) : ∀ (m : Nat) (acc : List Nat), (List.replicate m l.toArray).foldl (· ++ ·) acc.toArray = (acc ++ (List.replicate m l).flatten).toArray
  | 0, acc => by simp
  | m + 1, acc => by
    rw [List.replicate_succ, List.foldl_cons, List.replicate_succ, List.flatten_cons, ← List.append_assoc]
    rw [show acc.toArray ++ l.toArray = (acc ++ l).toArray by simp]
    exact fold_rep l m _
theorem op_mulS : OpR X (binaryOp .Mult) rMulS := by
  intro pins s σ H x y v u Q I rx ry h
  obtain ⟨l, k, rfl, rfl, h0, h1, hl, q⟩ := h
  obtain ⟨t, rfl⟩ := rx
  obtain ⟨t2, rfl⟩ := ry
  have lx : (⟨l.toArray⟩ : Str).length = l.length := by show l.toArray.size = _; simp
  have pr : l.length * k.toNat ≤ 1000 * 1000 := Nat.mul_le_mul hl (by omega)
  have flen : (List.replicate k.toNat l).flatten.length ≤ 1000 * 1000 := by
    rw [List.length_flatten, List.map_replicate, List.sum_replicate_nat, Nat.mul_comm]; exact pr
  have tl : ∀ n : Nat, n ≤ 1000 * 1000 → Builtin.Str.tooLong n = false := by
    intro n hn
    unfold Builtin.Str.tooLong
    have : (sizeLine : Nat) = 16777216 := rfl
    first | (apply decide_eq_false; omega) | (simp; omega)
  refine P.mul_str ?_ (fun _ _ => ?_) (fun _ _ => ?_) ?_
  · rw [decide_eq_false (by omega), decide_eq_false (by omega)]; rfl
  · rw [lx]
    have : (l.length : Int) ≤ (2 ^ 63 - 1) / k := by
      have hk : 0 < k := by omega
      rw [Int.le_ediv_iff_mul_le hk]
      have e : ((l.length * k.toNat : Nat) : Int) = (l.length : Int) * k := by
        rw [Int.natCast_mul, Int.toNat_of_nonneg h0]
      omega
    omega
  · rw [lx]; exact tl _ pr
  · by_cases c1 : k < 1
    · rw [if_pos c1]
      have e : k.toNat = 0 := by omega
      rw [e] at q
      exact ⟨by decide, .str Str.empty, H, I.tok _, ⟨_, rfl⟩, q⟩
    · rw [if_neg c1]
      by_cases c2 : (k == 1 || (⟨l.toArray⟩ : Str).length == 0) = true
      · rw [if_pos c2]
        refine ⟨.str ⟨l.toArray⟩, H, I, ⟨_, rfl⟩, ?_⟩
        have e : (List.replicate k.toNat l).flatten = l := by
          rw [lx, Bool.or_eq_true, beq_iff_eq, beq_iff_eq] at c2
          rcases c2 with rfl | c2
          · simp
          · have : l = [] := List.eq_nil_of_length_eq_zero c2
            subst this
            rw [List.flatten_replicate_nil]
        rw [e] at q
        exact q
      · rw [if_neg c2]
        have e := fold_rep l k.toNat []
        rw [List.nil_append] at e
        show (Made.str ⟨(List.replicate k.toNat l.toArray).foldl (· ++ ·) #[]⟩).post _ s
        rw [e]
        refine ⟨?_, .str _, H, I.tok _, ⟨_, rfl⟩, q⟩
        show (List.replicate k.toNat l).flatten.toArray.size ≤ sizeLine
        have : (sizeLine : Nat) = 16777216 := rfl
        rw [List.size_toArray]; omega
end
end DLS
namespace DL
open PySem PySem.Spec PyProof.Rows L2
def fRev (f : FE) : FE := fun ρ S => (f ρ S).bind fun w S1 => match val w S1 with
  | some (.lst xs) => .ok (.d (.lst xs.reverse)) S1
  | some (.tup xs) => .ok (.d (.tup xs.reverse)) S1
  | _ => .no
def fDct0 : FE := fun _ S => .ok (.d (.dct [] [])) S
def fDct1 (l : List Nat) (i : Int) : FE := fun _ S => .ok (.d (.dct [.str l] [.int i])) S
def fLenSetI (f : FE) : FE := fun ρ S => (f ρ S).bind fun w S1 => match val w S1 with
  | some (.lst ds) => (match intsOf ds with
    | some ns => if ns.length < 4000 then .ok (.d (.int ((firstMet (fun i => ns.getD i 0) ns.length).length : Nat))) S1 else .no
    | none => .no)
  | _ => .no
section
variable {X : Cx} {Z : WX} {e : Expr} {f : FE} {p1 p2 p3 pos : Pos} {k : Nat}
theorem Reps.reverse {K : Fg} {G : Hp} : ∀ {vs : List V} {ds : List D}, Reps K G vs ds → Reps K G vs.reverse ds.reverse
  | _, _, .nil => .nil
  | _, _, .cons h t => by
    rw [List.reverse_cons, List.reverse_cons]
    exact (Reps.reverse t).append (.cons h .nil)
theorem de_rev (h : DE X Z e f) : DE X Z (.Subscript e (.Slice none none (some (.UnaryOp .USub (.Constant (.int 1) k p1) p2)) p3) pos) (fRev f) := by
  obtain ⟨_, p, q⟩ := h
  refine ⟨_, DLS.pe_revX p, fun ρ S σ H G c Q gd re h => ?_⟩
  refine q ρ S σ H G c _ gd re (Wants.step h fun w S1 G1 c1 H1 v e1 g1 rx h1 => ?_)
  split at h1
  · rename_i xs ev
    obtain ⟨a, us, rfl, ha, q, z⟩ := (val_rep g1 rx ev).lst' g1.sub
    exact ⟨a, us, rfl, .inl ⟨.of ha, fun p hp => h1.retNew g1 hp (.d (.lst upd_same (Reps.sub (Sub.upd (g1.free hp)) _ _ q.reverse) (by rw [List.length_reverse]; exact z)))⟩⟩
  · rename_i xs ev
    have rt := val_rep g1 rx ev
    cases rt with | of rt => cases rt with | tup ha q z =>
    exact ⟨_, _, rfl, .inr ⟨g1.seqT ha, fun p hp => h1.retNew g1 hp (.d (.tup (.of upd_same) (Reps.sub (Sub.upd (g1.free hp)) _ _ q.reverse) (by rw [List.length_reverse]; exact z)))⟩⟩
  · exact h1.elim
theorem de_dct0 : DE X Z (.Dict [] [] pos) fDct0 :=
  ⟨_, DLS.pe_lock pe_dnewK, fun ρ S σ H G c Q g re h p hp => ⟨p, _, rfl, upd_same, True.intro, fun od => by
    rw [upd_upd]; exact h.retNew g hp (.d (.dct upd_same rfl .nil (Nat.zero_le _) .nil))⟩⟩
theorem de_dct1 (l : List Nat) (i : Int) {x : Str} {j1 j2 : Nat} (h : strC x l = true := by decide +kernel) : DE X Z (.Dict [some (.Constant (.str x) j1 p1)] [.Constant (.int i) j2 p2] pos) (fDct1 l i) := by
  refine ⟨_, DLS.pe_lock (pe_disp (pps_cons pe_str pe_int pps_nil) rfl rfl (by simp) (by simp)), fun ρ S σ H G c Q g re q => ?_⟩
  intro p hp
  refine ⟨upd_same, [(.inr x, .int i)], rfl, by simp, p, _, rfl, upd_same, True.intro, fun od => ?_⟩
  rw [upd_upd, upd_upd]
  have r := rep_strC (K := X.K) (G := upd G p (.frz od (.dK (mergeK [] [(.inr x, .int i)])))) h
  refine q.retNew g hp (.d (.dct (kvs := [(.inr x, .int i)]) upd_same ?_ (.cons (.int i) .nil) (by show 1 ≤ sizeLine; decide) (.cons r .nil)))
  cases r
  rfl
theorem de_lenSetI (hm1 : X.mg "len" = none) (hm2 : X.mg "set" = none) (ha : DE X Z e f) (hc : X.calm = true := by rfl) (hg1 : Gl X "len" := by rfl) (hg2 : Gl X "set" := by rfl)
    (na : starEach [e] X.env = (false, eval e X.env) :: starEach [] X.env := by rfl) :
    DE X Z (.Call (.Name "len" p3) [.Call (.Name "set" p2) [e] [] p1] [] pos) (fLenSetI f) := by
  obtain ⟨_, p, q⟩ := ha
  refine ⟨_, DLS.pe_lenSetJ hg1 hm1 hg2 hm2 p hc na, fun ρ S σ H G c Q gd re h => ?_⟩
  refine q ρ S σ H G c _ gd re (Wants.step h fun w S1 G1 c1 H1 v e1 g1 rx h1 => ?_)
  split at h1
  · rename_i ds ev
    obtain ⟨a, us, rfl, ha, q, z⟩ := (val_rep g1 rx ev).lst' g1.sub
    split at h1
    · rename_i ns en
      split at h1
      · rename_i hb
        rw [ints_of_rep q en] at ha
        exact ⟨a, ns, rfl, .of ha, by omega, h1.ret g1 (.d (.int _))⟩
      · exact h1.elim
    · exact h1.elim
  · exact h1.elim
def gMulS : W → W → Store → R W := fun x y S => match x, y with
  | .d (.str l), .d (.int k) => if decide (0 ≤ k) && (decide (k ≤ 1000) && Nat.ble l.length 1000) then .ok (.d (.str (List.replicate k.toNat l).flatten)) S else .no
  | _, _ => .no
theorem opr_mulS {K : Fg} : OpRef K Z DLS.rMulS gMulS := by
  intro σ G c S H x y w1 w2 Q g r1 r2 h
  unfold gMulS at h
  split at h
  · rename_i l k
    split at h
    · rename_i hb
      rw [Bool.and_eq_true, Bool.and_eq_true] at hb
      have b1 := of_decide_eq_true hb.1
      have b2 := of_decide_eq_true hb.2.1
      have b3 := Nat.le_of_ble_eq_true hb.2.2
      cases r1 with | d r1 => cases r2 with | d r2 =>
        cases r2
        cases r1 with
        | str h1 h2 =>
          refine ⟨l, k, rfl, rfl, b1, b2, b3, h.ret g (.d (.str ?_ ?_))⟩
          · rw [List.length_flatten, List.map_replicate, List.sum_replicate_nat]
            have : k.toNat * l.length ≤ 1000 * 1000 := Nat.mul_le_mul (by omega) b3
            have e : (sizeLine : Nat) = 16777216 := rfl
            omega
          · intro c hc
            obtain ⟨m, hm, hc⟩ := List.mem_flatten.mp hc
            rw [List.eq_of_mem_replicate hm] at hc
            exact h2 c hc
    · exact h.elim
  · exact h.elim
/-- all alike: one is left -/
theorem firstMet_one (f : Nat → Int) : ∀ n : Nat, (firstMet f n).length = 1 ↔ 0 < n ∧ ∀ i, i < n → f i = f 0 := by
  have key : ∀ n : Nat, (∀ i, i < n + 1 → f i = f 0) → firstMet f (n + 1) = [f 0] := by
    intro n
    induction n with
    | zero => intro _; rfl
    | succ n ih =>
      intro h
      rw [firstMet_succ, ih fun i hi => h i (by omega), h (n + 1) (by omega)]
      unfold step_dedup
      simp
  intro n
  cases n with
  | zero => simp [firstMet_zero]
  | succ n =>
    constructor
    · intro h
      refine ⟨by omega, fun i hi => ?_⟩
      have a1 := firstMet_any f (n + 1)
      obtain ⟨z, hz⟩ := List.length_eq_one_iff.mp h
      have m : ∀ j, j < n + 1 → f j = z := by
        intro j hj
        have := a1 (f j)
        rw [hz] at this
        have t : ((List.range (n + 1)).map f).any (· == f j) = true := List.any_eq_true.mpr ⟨f j, List.mem_map.mpr ⟨j, List.mem_range.mpr hj, rfl⟩, beq_self_eq_true _⟩
        rw [t] at this
        simp at this
        exact this.symm
      rw [m i hi, m 0 (by omega)]
    · intro h
      rw [key n h.2]; rfl
end
end DL
end
end
section
section
/-! errors of one's own over any built-in error: the attribute that __init__ stores -/
namespace DLX
open PySem PySem.Spec PySem.W PySem.Calls PyProof.Rows PySem.Builtin PySem.Builtin.ObjectAttr
theorem ownT_split {T l : List Value} (h : ownT T l = true) : ∃ rs : List Addr, l = rs.map Value.ref ++ T := by
  have e : l.dropWhile isRef = T := beq_iff_eq.mp h
  clear h
  induction l with
  | nil => exact ⟨[], by simpa using e⟩
  | cons a l ih =>
    cases a with
    | ref c =>
      obtain ⟨rs, q⟩ := ih (by simpa [List.dropWhile, isRef] using e)
      exact ⟨c :: rs, by rw [q]; rfl⟩
    | _ => exact ⟨[], by simpa [List.dropWhile, isRef] using e⟩
theorem pass_T {T : List Value} {self : Value} (p : refuseLoop self "__setattr__" T = pure ()) : ∀ rs : List Addr, refuseLoop self "__setattr__" (rs.map Value.ref ++ T) = pure ()
  | [] => p
  | c :: rs => by rw [List.map_cons, List.cons_append, refuseLoop_ref]; exact pass_T p rs
theorem has_T {T : List Value} (X : String) : ∀ rs : List Addr, (rs.map Value.ref ++ T).contains (.type X) = T.contains (.type X)
  | [] => rfl
  | c :: rs => by rw [List.map_cons, List.cons_append, List.contains_cons, has_T X rs]; rfl
theorem ownT_has {T l : List Value} (h : ownT T l = true) (X : String) : l.contains (.type X) = T.contains (.type X) := by
  obtain ⟨rs, rfl⟩ := ownT_split h
  exact has_T X rs
section
variable {prog : Program} {w : World} {A : Around} {E : Value → Shared → Prop} {R : Result → Shared → Prop} {hp : Heap} {g : Array GenState} {d : Drawn} {t : Nat} {os : OsState}
theorem osa_T {K : W.Frag} {B sa owner : String} {T : List Value} {name : Str} {tk : Tok} {v : Value} {x C : Addr} {fv : Array Value} {cd : ClassData} (SF : StoreFacts B T sa owner) (ho : T.contains (.type "object") = true)
    (X : K.In hp) (hx : hp.get? x = some { cls := .ref C, data := .fields fv }) (hcd : W.clsIn K C = some cd) (hm : ownT T cd.mro = true) (hh : cd.hasDict = true) (ha : W.findIn K (.ref C) name = some none)
    (hq : ∀ h' tk' dx, (∀ b o, b ≠ x → hp.get? b = some o → h'.get? b = some o) → hp.objs.size ≤ dx → dx ≠ x → h'.get? x = some { cls := .ref C, dict := some dx, data := .fields fv } →
      h'.Ns1 dx (fun y => if y = name then some v else none) → R (.ok (.ret .none)) ⟨h', g, d, tk', os⟩) :
    codeAny (model prog w) A (.call (.builtin "object.__setattr__") ⟨[.ref x, .str name tk, v], []⟩) R ⟨hp, g, d, t, os⟩ := by
  have xs : x ≠ hp.objs.size := Nat.ne_of_lt (Heap.lt_size hx)
  have at_x : W.InstAt hp x { cls := .ref C, data := .fields fv } C none := ⟨hx, rfl, rfl, trivial⟩
  obtain ⟨rs, em⟩ := ownT_split hm
  have full : cd.mro.isEmpty = false := by
    cases e : cd.mro with
    | nil => rw [e] at hm; have : T = [] := (beq_iff_eq.mp hm).symm; rw [this] at ho; cases ho
    | cons _ _ => rfl
  have obj : cd.mro.contains (.type "object") = true := (ownT_has hm "object").trans ho
  have O := F.store_object
  have isO : W.Looks (model prog w) hp (isInstance (.ref x) (.type "object")) true :=
    at_x.type.andThen (W.looks_mroIn X (by unfold W.mroIn; rw [hcd, Option.bind_some, if_neg (by rw [full]; decide), obj]))
  have lM : W.Looks (model prog w) hp (mroOf (.ref C)) cd.mro := (W.looks_clsIn X hcd).andThen .now
  have lC : W.Looks (model prog w) hp (classData C) cd := W.looks_clsIn X hcd
  have lT : W.Looks (model prog w) hp (storeTaker? none) none := .now
  refine codeAny_call_builtin O.slot.plain O.entry (@W.check_slot (model prog w) _ _ ⟨hp, g, d, t, os⟩ "object.__setattr__" "object" "__setattr__" (.ref x) [.str name tk, v] [] _ O.kind O.split isO (O.args (.ref x) (.str name tk) v) ?_)
  rw [W.osa_eq, refuse_eq]
  refine wpAny_bind (wpAny_bind (at_x.type.at (wpAny_bind (lM.at ?_))))
  rw [em, pass_T (SF.passes (.ref x)) rs]
  refine wpAny_pure (wpAny_bind (at_x.type.at (wpAny_bind ((W.looks_findIn X ha).at (wpAny_bind (lT.at ?_))))))
  show wpAny _ _ (storeInOwnDict (.ref x) (.ref C) (.str name tk) name v false) _ _ _
  obtain ⟨nm, bs, mro, ns, qn, hd, sn, sb, ab, col, del⟩ := cd
  dsimp only at hh
  subst hh
  unfold storeInOwnDict ownDictForStores
  repeat (first | with_reducible refine HandSPX.store_in_new ?_ ?_ | with_reducible refine wpAny_loadPart_at hx ?_ | with_reducible refine lC.at ?_ | wp_step)
  · exact ⟨_, #[], _, (Heap.get?_update_ne _ _ _ _ xs.symm).trans (Heap.get?_push_at rfl rfl), rfl, fun e he => absurd he (by simp), fun _ => rfl⟩
  · intro h' tk' hn' hs
    have hx1 : (hp.push { cls := .type "dict", data := .dict #[] }).get? x = some { cls := .ref C, data := .fields fv } := Heap.get?_push_of_some _ hx
    refine hq h' tk' hp.objs.size (fun b o hb hbo => ?_) (Nat.le_refl _) xs.symm ?_ hn'
    · exact (hs.2 b (Nat.ne_of_lt (Heap.lt_size hbo))).trans ((Heap.get?_update_ne _ _ _ _ hb).trans (Heap.get?_push_of_some _ hbo))
    · exact (hs.2 x xs).trans (Heap.get?_update_self _ hx1 rfl)
end
end DLX
end
section
/-! self.f = y in an error's __init__ -/
namespace DLX
open PySem PySem.Spec PyProof.Rows L2
/-- a built-in error: its tail of classes -/
structure Tail (B newId initId : String) (T : List Value) : Prop where
  F : ExcBaseFacts B newId initId T
  S : ∃ sa owner, StoreFacts B T sa owner
  ob : T.contains (.type "object") = true
/-- what the written part says of an error class over it -/
structure Oex (K : PySem.W.Frag) (C : Addr) (T : List Value) (newId : String) : Prop where
  cls : ∃ nm q N bs bm sn sub ab col dd k0 k1 k2 k3 k5, K.lookup C = some (excClassObj nm q C N bs bm true sn sub ab col dd k0 k1 k2 k3 k5 newId) ∧ ownT T bm = true
  sa : PySem.W.findIn K (.ref C) "__setattr__" = some (some (.builtin "object.__setattr__"))
  exC : PySem.W.subIn K (.ref C) (.type "BaseException") = some true
  tyC : PySem.W.typeIn K (.ref C) = some (.type "type")
  kC : PySem.W.keepIn K (.ref C) = true
section
variable {X : Cx} {pins : List (Addr × Obj)} {σ : L2.St} {H : Hp} {s : Shared} {a C : Addr} {f : Str} {y : V} {u : Value} {Q : Unit → Shared → Prop} {E : Value → Shared → Prop} {A : Around} {B newId initId : String} {T : List Value}
theorem put_first (TL : Tail B newId initId T) (O : Oex X.K C T newId) (I : Inv X pins σ H s) (e : H a = some (exo a C none)) (hno : PySem.W.findIn X.K (.ref C) f = some none) (ry : RelV y u)
    (h : ∀ dx s', H dx = none → dx ≠ a → Inv X pins σ (upd (upd H dx (exd dx [(f, y)])) a (exo a C (some dx))) s' → Q () s') : wpAny (model X.prog X.w) A (setAttr (.ref a) f u) Q E s := by
  obtain ⟨nm, q, N, bs, bm, sn, sub, ab, col, dd, k0, k1, k2, k3, k5, hC, hbm⟩ := O.cls
  obtain ⟨sa, owner, SF⟩ := TL.S
  have hcl : PySem.W.clsIn X.K C = some { name := nm, bases := bs, mro := .ref C :: bm, ns := N, qualname := q, hasDict := true, slotNames := sn, subclasses := sub, abstract := ab, collection := col, hasDel := false } := by
    unfold PySem.W.clsIn; rw [hC] <;> rfl
  obtain ⟨t1, ho⟩ := exo_at I.hok e
  obtain ⟨hp, g, d, t, os⟩ := s
  have hm : ownT T (.ref C :: bm) = true := hbm
  refine PySem.W.set_plain I.kIn (ox := { cls := .ref C, dict := none, data := .fields #[.ref t1, .none, .none, .none, .bool false, .none] }) (od := none) ⟨ho, rfl, rfl, trivial⟩ O.sa ?_
  refine osa_T SF TL.ob I.kIn ho hcl hm rfl hno fun h' tk' dx k dn dne hx hn => ?_
  have free : H dx = none := I.hok.fresh dn
  have old : ∀ {b : Addr} {o : Obj}, hp.get? b = some o → b ≠ dx := fun {b o} q => Nat.ne_of_lt (Nat.lt_of_lt_of_le (Heap.lt_size q) dn)
  have oth : ∀ {b : Addr}, H b = none → b ≠ a := fun {b} n z => by rw [z, e] at n; cases n
  have step : Un X.fs [] H (upd (upd H dx (exd dx [(f, y)])) a (exo a C (some dx))) hp h' := by
    refine ⟨fun b o q n _ _ => k b o (oth n) q, fun b o q n _ _ => ⟨o.slots, k b o (oth n) q⟩, fun b o q n _ => ?_, fun b o q _ => ?_, fun b xs q => ?_, fun b o v q => ?_, fun b ps q => ⟨#[], ?_⟩⟩
    · rw [upd_ne (oth n), upd_ne (old q)]; exact n
    · by_cases hb : b = a
      · exact ⟨_, by rw [hb]; exact hx⟩
      · exact ⟨o, k b o hb q⟩
    · rw [upd_ne (at_ne e q exo_tup), upd_ne (ne_of_none q free)]; exact q
    · rw [upd_ne (at_ne e q exo_frz), upd_ne (ne_of_none q free)]; exact q
    · rw [upd_ne (at_ne e q exo_tbl), upd_ne (ne_of_none q free), q]; simp
  refine h dx _ free dne (I.un (t' := tk') step fun b o q => ?_)
  by_cases hb : b = a
  · subst hb
    rw [upd_same] at q; cases q
    exact exo_ok hx
  · rw [upd_ne hb] at q
    by_cases hd : b = dx
    · subst hd
      rw [upd_same] at q; cases q
      exact exd_ok hn (relO_put (fs := []) ry fun g => True.intro)
    · rw [upd_ne hd] at q
      refine (I.hok b o q).stay (fun c v hc z => k c v ?_ z) (fun c hc => by rw [upd_ne (at_ne e hc exo_own), upd_ne (ne_of_none hc free)]; exact hc) fun c xs hc => by rw [upd_ne (at_ne e hc exo_tup), upd_ne (ne_of_none hc free)]; exact hc
      rcases hc with hc | hc
      · rw [hc]; exact hb
      · exact at_ne e hc exo_own
end
/-- self.f = e -/
def tPut (C : Addr) (f : Str) (to te : TE) : TS := fun D σ H => te σ H fun y H1 => to σ H1 fun x H2 => ∃ a : Addr, x = .ref a ∧ H2 a = some (exo a C none) ∧ ∀ dx, H2 dx = none → dx ≠ a → D.nx σ (upd (upd H2 dx (exd dx [(f, y)])) a (exo a C (some dx)))
section
variable {X : Cx} {o e : Expr} {to te : TE} {f : Str} {p' pos : Pos} {C : Addr} {B newId initId : String} {T : List Value}
theorem ps_put (TL : Tail B newId initId T) (O : Oex X.K C T newId) (hno : PySem.W.findIn X.K (.ref C) f = some none) (ho : PE X o to) (he : PE X e te) (hs : swapsWith e (some (.Attribute o f p')) pos.line X.env = pure false := by rfl) : PS X (.Assign [.Attribute o f p'] e pos) (tPut C f to te) := by
  refine ⟨fun pins s σ H D I h => ?_⟩
  refine plainObj_wpAny_Assign_Attribute (thn (he.run pins s σ H _ I h) fun v s1 ⟨y, H1, I1, r1, q1⟩ => thn (ho.run pins s1 σ H1 _ I1 q1) fun u s2 ⟨x, H2, I2, r2, a, ex, ea, q⟩ => ?_) hs
  subst ex
  obtain rfl : u = Value.ref a := r2
  exact put_first TL O I2 ea hno r1 fun dx s' n ne J => ⟨σ, _, J, q dx n ne⟩
end
end DLX
end
section
/-! an error of one's own is made: raised, or given back -/
namespace DLX
open PySem PySem.Spec PyProof.Rows L2 DL
/-- what __init__ does: its one argument is kept as f -/
def spI (C : Addr) (f : Str) : Sp := fun vs H Q E => ∃ a y, vs = [V.ref a, y] ∧ H a = some (exo a C none) ∧ ∀ dx, H dx = none → dx ≠ a → Q .non (upd (upd H dx (exd dx [(f, y)])) a (exo a C (some dx)))
theorem ini_of {P : Program} {w : World} {K : Fg} {mg : Str → Option Value} {base : Heap} {k : Nat} {f C : Addr} {fd : FuncData} {x qual fld : Str} {params : Arguments} {body : List Stmt} {scope : Scope} {dvs : List V} {kws : List (Str × V)} {N ps : List Str} {t : TS}
    (F : FunD K x qual params body scope dvs kws f fd) (Sc : FnScope N ps scope) (h2 : ps.length = 2)
    (hb : ∀ (cdv : Value) (A : Around) (outer : List PySem.Env) (s : Shared) (H : Hp) (E : XK), Room k (A.deeper (envOfC qual scope s.heap.objs.size f cdv)) → PSs (cxOf (L2.CX P w) P w K mg base N qual scope f cdv A outer s H E) body t)
    (ht : ∀ (a : Addr) (y : V) (H : Hp) (D : Ends), H a = some (exo a C none) → (∀ dx, H dx = none → dx ≠ a → ∀ σ, D.nx σ (upd (upd H dx (exd dx [(fld, y)])) a (exo a C (some dx)))) → t D (L2.start N [V.ref a, y]) H) : FnOk P w K mg base (L2.CX P w) (k + 1) f fd ps (spI C fld) := by
  obtain ⟨oc, od, dV, kV, doc, pm, an, cdv, ct, osl, rfl, lk, hcd, _, _⟩ := F.ex
  refine ⟨fun vs H Q E ⟨a, y, e, _⟩ => by rw [e, h2]; rfl, fun A outer s H args us vs Q E hr e0 hbind rv hsp => ?_⟩
  obtain ⟨a, y, rfl, ha, hq⟩ := hsp
  have KX : K.In s.heap := e0.mod.kin.keeps fun b o e => (e0.bs b o e).1
  have lim : s.heap.NoLimit := e0.mod.nolimit.keeps fun b o e => (e0.bs b o e).1
  refine codeAny_call_function hr.depth (KX _ _ lk) rfl Sc.co Sc.gen rfl (PySem.W.codeRec_of KX hcd) (hbind _ _ _ _ ?_)
  refine wpAny_newFunctionEnv_cells Sc.kind (fun z hz => ?_) fun env he s1 x1 => ?_
  · obtain ⟨n1, v1⟩ := z
    rcases Sc.par n1 (List.of_mem_zip hz).1 with q | q
    · exact .inl q
    · exact .inr ⟨q, PySem.W.cellsFrom_some _ _ _ (.inl q)⟩
  subst he
  refine ⟨lim.keeps x1.toInCall.keep, codeAny_func ?_⟩
  have I : Inv (cxOf (L2.CX P w) P w K mg base N qual scope f cdv A outer s H E) [] (start N [V.ref a, y]) H s1 := inv_start Sc hr.hd e0 (by rw [h2]; rfl) rv x1
  have ready := ht a y H { nx := fun _ H' => Q .non H', rt := fun _ _ => False } ha fun dx n ne _ => hq dx n ne
  refine wpAny_mono ((hb cdv A outer s H E (hr.deeper _)).run [] s1 _ H _ I ready) (fun fl s' hs => ?_) fun e s' hs => hs
  cases fl with
  | ret u => obtain ⟨_, _, _, _, _, q⟩ := hs; exact q.elim
  | next =>
    obtain ⟨σ', H', J, q⟩ := hs
    exact ⟨.non, H', J.os, J.bare, J.base, J.hok, rfl, q⟩
  | brk => obtain ⟨_, _, _, q⟩ := hs; exact q.elim
  | cont => obtain ⟨_, _, _, q⟩ := hs; exact q.elim
end DLX
end
section
/-! C(e), C an error of one's own: as what is raised, as a value -/
namespace DLX
open PySem PySem.Spec PyProof.Rows L2 DL
section
variable {X : Cx} {pins : List (Addr × Obj)} {σ : L2.St} {H1 : Hp} {s1 : Shared} {C fI : Addr} {fld : Str} {y : V} {u : Value} {k : Nat} {fd : FuncData} {ps : List Str} {B newId initId : String} {T : List Value}
/-- at the end of __init__ -/
def Made (X : Cx) (pins : List (Addr × Obj)) (σ : L2.St) (H1 : Hp) (s1 : Shared) (C : Addr) (fld : Str) (y : V) (a : Addr) (s' : Shared) : Prop :=
  ∃ (s2 : Shared) (d : Addr), Inv X pins σ (upd H1 a (exo a C none)) s2 ∧ s1.heap.objs.size ≤ a ∧ (∀ b o, s1.heap.get? b = some o → s2.heap.get? b = some o) ∧ H1 d = none ∧ d ≠ a ∧
    s'.os = s2.os ∧ AllBare s'.gens ∧ Un (frs X.stack) [] (upd H1 a (exo a C none)) (upd (upd (upd H1 a (exo a C none)) d (exd d [(fld, y)])) a (exo a C (some d))) s2.heap s'.heap ∧
    HOk X.prog X.w (upd (upd (upd H1 a (exo a C none)) d (exd d [(fld, y)])) a (exo a C (some d))) s'.heap ∧ s2.os = s1.os
theorem call_mk (TL : Tail B newId initId T) (O : Oex X.K C T newId) (iC : PySem.W.findIn X.K (.ref C) "__init__" = some (some (.ref fI))) (tI : PySem.W.typeIn X.K (.ref fI) = some (.type "function"))
    (F1 : FnOk X.prog X.w X.K X.mg X.base (L2.CX X.prog X.w) k fI fd ps (spI C fld)) (hr : Room (k + 1) X.A) (hb : Binds X.K fd ps []) (hx : Passes (L2.CX X.prog X.w) X (fun _ _ _ => False)) (I1 : Inv X pins σ H1 s1) (ry : RelV y u)
    {R : Value → Shared → Prop} (h : ∀ a s', Made X pins σ H1 s1 C fld y a s' → R (.ref a) s') : wpAny (model X.prog X.w) X.A (call (.ref C) [u]) R X.xe s1 := by
  obtain ⟨nm, q, N, bs, bm, sn, sub, ab, col, dd, k0, k1, k2, k3, k5, hC, hbm⟩ := O.cls
  obtain ⟨hp, g, dr, tk, os⟩ := s1
  have hsz : hp.objs.size ≤ hp.objs.size + 1 := Nat.le_succ _
  have hn : H1 (hp.objs.size + 1) = none := I1.hok.fresh hsz
  have kk : ∀ b o, hp.get? b = some o → ((hp.push (PySem.W.kdv_tup [u])).push (PySem.HandSPX.excO C hp.objs.size)).get? b = some o := fun b o e => Heap.get?_push_of_some _ (Heap.get?_push_of_some _ e)
  have hget : ((hp.push (PySem.W.kdv_tup [u])).push (PySem.HandSPX.excO C hp.objs.size)).get? (hp.objs.size + 1) = some (PySem.HandSPX.excO C hp.objs.size) := by heap_get
  have I2 : Inv X pins σ (upd H1 (hp.objs.size + 1) (exo (hp.objs.size + 1) C none)) ⟨(hp.push (PySem.W.kdv_tup [u])).push (PySem.HandSPX.excO C hp.objs.size), g, dr, tk, os⟩ :=
    I1.laid (t' := tk) (a := hp.objs.size + 1) (o := exo (hp.objs.size + 1) C none) (h' := (hp.push (PySem.W.kdv_tup [u])).push (PySem.HandSPX.excO C hp.objs.size)) kk hsz (exo_ok hget)
  have r2 : Vals [V.ref (hp.objs.size + 1), y] [Value.ref (hp.objs.size + 1), u] := .cons rfl (.cons ry .nil)
  let Qi : VK := fun v H2 => v = .non ∧ ∃ d, (upd H1 (hp.objs.size + 1) (exo (hp.objs.size + 1) C none)) d = none ∧ d ≠ hp.objs.size + 1 ∧ H2 = upd (upd (upd H1 (hp.objs.size + 1) (exo (hp.objs.size + 1) C none)) d (exd d [(fld, y)])) (hp.objs.size + 1) (exo (hp.objs.size + 1) C (some d))
  have hq : spI C fld [V.ref (hp.objs.size + 1), y] (upd H1 (hp.objs.size + 1) (exo (hp.objs.size + 1) C none)) Qi (fun _ _ _ => False) := ⟨_, y, rfl, upd_same, fun d hd ne => ⟨rfl, d, hd, ne, rfl⟩⟩
  have hl : ([Value.ref (hp.objs.size + 1), u] : List Value).length = ps.length := by
    have e := r2.length
    rw [F1.len _ _ _ _ hq] at e
    exact e.symm
  refine wpAny_call (PySem.HandSPX.call_own TL.F (fun Y => ownT_has hbm Y) (I1.kIn _ _ hC) (PySem.W.looks_findIn I1.kIn iC) (fun self => PySem.W.bind_fn I1.kIn self tI) (by rw [sizeLine_eq]; simp)
    (codeAny_mono (F1.run _ X.stack _ _ ⟨[Value.ref (hp.objs.size + 1), u], []⟩ [Value.ref (hp.objs.size + 1), u] [V.ref (hp.objs.size + 1), y] Qi (fun _ _ _ => False) (hr.make C [u] []) (I2.env0.make C [u] []) (by
      have b := hb _ [Value.ref (hp.objs.size + 1), u] I2.kIn (by rw [List.append_nil]; exact hl)
      rwa [List.append_nil] at b) r2 hq) fun r s' hq' => ?_))
  cases r with
  | error er => exact hx pins σ _ _ er s' I2 hq'
  | ok fl =>
    cases fl with
    | ret v =>
      obtain ⟨v', H2, os2, bare2, un2, hok2, rv, ev, d, hd, ne, rfl⟩ := hq'
      subst ev
      have hd1 : H1 d = none := by rw [upd_ne ne] at hd; exact hd
      exact ⟨rv, h _ s' ⟨_, d, I2, hsz, kk, hd1, ne, os2, bare2, un2, hok2, rfl⟩⟩
    | next => exact False.elim hq'
    | brk => exact False.elim hq'
    | cont => exact False.elim hq'
/-- .. raised -/
theorem Made.raise {a : Addr} {s' : Shared} {Q : XK} (O : Oex X.K C T newId) (I1 : Inv X pins σ H1 s1) (m : Made X pins σ H1 s1 C fld y a s') (q : ∀ d, H1 d = none → Q (.ref C) (some d) (upd H1 d (.xd [(fld, y)]))) : MkP X pins σ Q (.ref a) s' := by
  obtain ⟨s2, d, I2, ha, kk, hd, ne, os2, b2, un, hok, os1⟩ := m
  obtain ⟨hp, g, dr, tk, os⟩ := s1
  obtain ⟨hp2, g2, dr2, tk2, os2'⟩ := s2
  obtain ⟨h', g', d', t', os'⟩ := s'
  have hn : H1 a = none := I1.hok.fresh ha
  have eH : upd (del (upd (upd (upd H1 a (exo a C none)) d (exd d [(fld, y)])) a (exo a C (some d))) a) d (.xd [(fld, y)]) = upd H1 d (.xd [(fld, y)]) := by
    funext b
    by_cases hb : b = d
    · subst hb; rw [upd_same, upd_same]
    · rw [upd_ne hb, upd_ne hb]
      by_cases hba : b = a
      · subst hba; rw [del_same, hn]
      · rw [del_ne hba, upd_ne hba, upd_ne hb, upd_ne hba]
  refine mk_end (raises_own O.exC O.tyC) I1 ha kk un hok (os2.trans os1) b2 upd_same (by rw [upd_ne ne, upd_same]) hd ?_
  rw [eH]
  exact q d hd
end
end DLX
end
section
/-! raise C(e) -/
namespace DL
open PySem PySem.Spec PyProof.Rows L2 DLX
def fRaise (cn fld : Str) (fs : FL) : FS := fun ρ S => thenS ρ (fs ρ S) fun ws S1 => match ws with
  | [.d x] => .ex ⟨cn, [fld], [x]⟩ ρ S1
  | _ => .no
/-- what an error class's making needs -/
structure MkX (X : Cx) (k : Nat) (C : Addr) (fld : Str) : Prop where
  ok : ∃ B newId initId T fI fd ps, Tail B newId initId T ∧ Oex X.K C T newId ∧ PySem.W.findIn X.K (.ref C) "__init__" = some (some (.ref fI)) ∧ PySem.W.typeIn X.K (.ref fI) = some (.type "function") ∧
    FnOk X.prog X.w X.K X.mg X.base (L2.CX X.prog X.w) k fI fd ps (spI C fld) ∧ Binds X.K fd ps []
def tRaise (C : Addr) (fld : Str) (ta : TA) : L2.St → Hp → XK → Prop := fun σ H Q => ta σ H fun vs H1 => ∃ y, vs = [y] ∧ ∀ d, H1 d = none → Q (.ref C) (some d) (upd H1 d (.xd [(fld, y)]))
section
variable {X : Cx} {Z : WX} {k : Nat} {cn fld : Str} {e : Expr} {fs : FL} {ta : TA} {p pos pos2 : Pos}
theorem pmk_x (M : MkX X k (He.ga X.K cn) fld) (tk : Takes X Z) (hr : Room (k + 1) X.A) (hm : X.mg cn = some (.ref (He.ga X.K cn))) (ha : PA X [e] ta) (hg : Gl X cn := by rfl)
    (hdb : (cn == ("__debug__" : Str)) = false := by decide) (he : starEach [e] X.env = (false, eval e X.env) :: starEach [] X.env := by rfl) (hpl : (backTo pos (starEach [] X.env)).any (·.1) = false := by rfl) :
    PMk X (.Call (.Name cn p) [e] [] pos) (tRaise (He.ga X.K cn) fld ta) := by
  intro pins s σ H Q I h
  obtain ⟨B, newId, initId, T, fI, fd, ps, TL, O, iC, tI, F1, hb⟩ := M.ok
  refine wpAny_Call_Name_kw (ld_glob I hg hm ?_ hdb)
  refine PySem.W.callWith_K (h₀ := X.base) I.ok.mod.kin O.kC (thn (ha.run pos pins s σ H _ I h) fun us s1 ⟨vs, H1, I1, r1, y, ev, q⟩ => ⟨I1.kIn, ?_⟩) he hpl
  subst ev
  obtain ⟨u, rfl, ry⟩ := vals1 r1
  exact call_mk TL O iC tI F1 hr hb (passes_call tk fun _ _ _ _ h => h.elim) I1 ry fun a s' m => m.raise O I1 fun d hd => q d hd
theorem ds_raise (M : MkX X k (He.ga X.K cn) fld) (tk : Takes X Z) (hr : Room (k + 1) X.A) (hm : X.mg cn = some (.ref (He.ga X.K cn))) (ha : DA X Z [e] fs) (hc : X.calm = true := by rfl) (hg : Gl X cn := by rfl)
    (hdb : (cn == ("__debug__" : Str)) = false := by decide) (he : starEach [e] X.env = (false, eval e X.env) :: starEach [] X.env := by rfl) (hpl : (backTo pos (starEach [] X.env)).any (·.1) = false := by rfl) :
    DS X Z (.Raise (some (.Call (.Name cn p) [e] [] pos)) none pos2) (fRaise cn fld fs) := by
  obtain ⟨ta, pa, q⟩ := ha
  refine ⟨_, ps_raise hc tk (pmk_x M tk hr hm pa hg hdb he hpl), ?_⟩
  intro ρ S σ H G c D gd re h
  refine q ρ S σ H G c _ gd re (Wants.stepS re h fun ws S1 G1 c1 H1 vs e1 g1 rx h1 => ?_)
  revert h1
  cases rx with
  | nil => exact fun h => h.elim
  | @cons v w vs' ws' rv rr =>
    cases rv with
    | @d v x rd =>
      cases rr with
      | nil =>
        intro h1
        refine ⟨v, rfl, fun d hd => ?_⟩
        obtain ⟨e2, g2⟩ := g1.new hd (.xd [(fld, v)])
        exact h1 _ _ _ _ _ _ e2 g2 (re.ev (e1.gg.trans e2.gg) (e1.cc.trans e2.cc)) ⟨rfl, [(fld, v)], .inr ⟨d, rfl, upd_same⟩, rfl, .cons (Rep.sub e2.gg _ _ rd) .nil⟩
      | cons _ _ => exact fun h => h.elim
    | loc _ => cases rr <;> exact fun h => h.elim
    | glo => cases rr <;> exact fun h => h.elim
    | ty => cases rr <;> exact fun h => h.elim
end
end DL
end
section
/-! try .. except (A, B, C) as n -/
namespace DLX
open PySem PySem.Spec PyProof.Rows L2 PySem.HandSPX
theorem fly_keeps {B h h' : Heap} {l : List Env} {e : Addr} {Z : Obj → Prop} (f : FlyingZ B l e Z h) (k : ∀ b o, h.get? b = some o → h'.get? b = some o) : FlyingZ B l e Z h' := by
  obtain ⟨f1, f2, f3, oe, vs, T, oT, ts, he, hz, hd, h1, hn, hne, hT, hdT, h3⟩ := f
  exact ⟨fun b o q => k b o (f1 b o q), f2, f3.of_keeps fun b o q _ => ⟨o, k b o q, rfl⟩, oe, vs, T, oT, ts, k _ _ he, hz, hd, h1, hn, hne, k _ _ hT, hdT, h3⟩
/-- an object that is not of the entry is tracked, without a change of the heap -/
theorem track {X : Cx} {pins : List (Addr × Obj)} {σ : L2.St} {H : Hp} {s : Shared} {a : Addr} {o : HO} (I : Inv X pins σ H s) (n0 : X.s_0.heap.get? a = none) (na : H a = none) (nL : a ≠ X.env.locals) (nc : ∀ x c, X.env.cells.lookup x = some c → c ≠ a) (np : ∀ p ∈ X.pn ++ pins, p.1 ≠ a)
    (new : ObjOk X.prog X.w (upd H a o) s.heap a o) : Inv X pins σ (upd H a o) s := by
  have old : ∀ {b : Addr} {u : Obj}, X.s_0.heap.get? b = some u → b ≠ a := fun {b u} q z => by rw [z, n0] at q; cases q
  refine ⟨I.ok, I.os, I.bare, ⟨fun b u q n f e => I.base.keep b u q n f e, fun b u q n f e => I.base.slot b u q n f e, fun b u q n e => by rw [upd_ne (old q)]; exact I.base.free b u q n e, fun b u q e => I.base.there b u q e,
    fun b xs q => by rw [upd_ne (ne_of_none (I.base.tups b xs q) na)]; exact I.base.tups b xs q, fun b u v q => by rw [upd_ne (ne_of_none (I.base.frzs b u v q) na)]; exact I.base.frzs b u v q, fun b ps q => by
      obtain ⟨m, z⟩ := I.base.tbls b ps q
      exact ⟨m, by rw [upd_ne (ne_of_none z na)]; exact z⟩⟩, I.loc, I.cell, by rw [upd_ne (Ne.symm nL)]; exact I.free, fun x c h => by rw [upd_ne (nc x c h)]; exact I.freeC x c h, fun p hp => ?_, HOk.laidN I.hok (fun _ _ z => z) na new, I.len⟩
  obtain ⟨h1, h2, h3⟩ := I.pin p hp
  exact ⟨h1, by rw [upd_ne (np p hp)]; exact h2, h3⟩
/-- .. and forgotten -/
theorem untrack {X : Cx} {pins : List (Addr × Obj)} {σ : L2.St} {H : Hp} {s : Shared} {a : Addr} {φ : Heap → Prop} (I : Inv X pins σ H s) (n0 : X.s_0.heap.get? a = none) (ha : H a = some (.ext φ)) : Inv X pins σ (delH H a) s := by
  have old : ∀ {b : Addr} {u : Obj}, X.s_0.heap.get? b = some u → b ≠ a := fun {b u} q z => by rw [z, n0] at q; cases q
  have ne : ∀ {b : Addr}, H b = none → b ≠ a := fun {b} e z => by rw [z, ha] at e; cases e
  have neT : ∀ {b : Addr} {xs : List V}, H b = some (.tup xs) → b ≠ a := fun {b xs} e z => by rw [z, ha] at e; cases e
  have neF : ∀ {b : Addr} {u : Obj} {v : HO}, H b = some (.frz u v) → b ≠ a := fun {b u v} e z => by rw [z, ha] at e; cases e
  have neB : ∀ {b : Addr} {ps : Array Value}, H b = some (.tbl ps) → b ≠ a := fun {b ps} e z => by rw [z, ha] at e; cases e
  have neO : ∀ {b c : Addr}, H b = some (.own c) → b ≠ a := fun {b c} e z => by rw [z, ha] at e; cases e
  refine ⟨I.ok, I.os, I.bare, ⟨fun b u q n f e => I.base.keep b u q n f e, fun b u q n f e => I.base.slot b u q n f e, fun b u q n e => by rw [delH_ne (old q)]; exact I.base.free b u q n e, fun b u q e => I.base.there b u q e,
    fun b xs q => by rw [delH_ne (neT (I.base.tups b xs q))]; exact I.base.tups b xs q, fun b u v q => by rw [delH_ne (neF (I.base.frzs b u v q))]; exact I.base.frzs b u v q, fun b ps q => by
      obtain ⟨m, z⟩ := I.base.tbls b ps q
      exact ⟨m, by rw [delH_ne (neB z)]; exact z⟩⟩, I.loc, I.cell, by rw [delH_ne (ne I.free)]; exact I.free, fun x c h => by rw [delH_ne (ne (I.freeC x c h))]; exact I.freeC x c h, fun p hp => ?_, fun b u e => ?_, I.len⟩
  · obtain ⟨h1, h2, h3⟩ := I.pin p hp
    exact ⟨h1, by rw [delH_ne (ne h2)]; exact h2, h3⟩
  · have hb : b ≠ a := fun z => by rw [z, delH_same] at e; cases e
    rw [delH_ne hb] at e
    exact (I.hok b u e).stay (fun c v _ q => q) (fun c q => by rw [delH_ne (neO q)]; exact q) fun c xs q => by rw [delH_ne (neT q)]; exact q
theorem exV_ok {P : Program} {w : World} {H : Hp} {h : Heap} {a : Addr} {cls : Value} {d : Option Addr} {oe : Obj} {vs : Array Value} (e : h.get? a = some oe) (z : Zc cls d oe) (hd : oe.data = .fields vs) : ObjOk P w H h a (DL.ExV a cls d) :=
  ⟨⟨oe, vs, e, z.1, z.2, hd⟩, ⟨oe, e⟩, fun h1 h2 ⟨o, v, q1, q2, q3, q4⟩ k => ⟨o, v, k o q1, q2, q3, q4⟩⟩
/-- what the clause wishes of an exception of the body -/
def wTup (K : PySem.W.Frag) (cs : List Value) (i : Nat) (ts : Addr → Value → Option Addr → TS) (Wout : WX) (D : Ends) : WX := fun cls d σ H =>
  ∃ b, PySem.W.exmAny K cls cs = some b ∧ (b = true → ∀ a, H a = none → ts a cls d { nx := fun σ' H' => H' a = some (DL.ExV a cls d) ∧ D.nx (σ'.set i none) (delH H' a), rt := fun v H' => H' a = some (DL.ExV a cls d) ∧ D.rt v (delH H' a), bk := fun σ' H' => H' a = some (DL.ExV a cls d) ∧ D.bk (σ'.set i none) (delH H' a), ct := fun σ' H' => H' a = some (DL.ExV a cls d) ∧ D.ct (σ'.set i none) (delH H' a) } (σ.set i (some (.ref a))) (upd H a (DL.ExV a cls d))) ∧
    (b = false → Wout cls d σ H)
section
variable {X : Cx} {x1 x2 x3 n : Str} {c1 c2 c3 : Value} {i kk : Nat} {body suite : List Stmt} {b₀ : Stmt} {p1 p2 p3 tp pos pos' : Pos} {tb : WX → TS} {ts : Addr → Value → Option Addr → TS} {Wout : WX}
theorem name_at {Y : Cx} {pins : List (Addr × Obj)} {σ : L2.St} {H : Hp} {s : Shared} {x : Str} {c : Value} {np : Pos} {Q E : Value → Shared → Prop} (S : Inv Y pins σ H s) (hc : Names Y x c) (q : Q c s) : wpAny (model Y.prog Y.w) Y.A (eval (.Name x np) Y.env) Q E s := by
  obtain ⟨hg, hdbg, hm | ⟨hm, hv, hnn⟩⟩ := hc
  · exact ld_glob S hg hm q hdbg
  · exact ld_blt S hg hm hv q hnn hdbg
theorem ps_try_tup (hex : X.ex = []) (hs : X.stack = X.env :: X.outer) (hf : X.env.frame = some X.env.locals) (hN : X.N.Nodup) (hi : X.N[i]? = some n) (hln : X.env.kindOf n = some .local) (n1 : Names X x1 c1) (n2 : Names X x2 c2) (n3 : Names X x3 c3) (tk : Takes X Wout)
    (hb : ∀ (W : WX) (pn : List (Addr × Obj)) (xe : Value → Shared → Prop), Takes (X.tr pn xe) W → PassesOwn (model X.prog X.w) X.A X.env xe → PSs (X.tr pn xe) body (tb W))
    (hsu : ∀ (a : Addr) (cls : Value) (d : Option Addr) (pn : List (Addr × Obj)), PSs (X.suite a pn) (b₀ :: suite) (ts a cls d)) :
    PS X (.Try body [.ExceptHandler (some (.Tuple [.Name x1 p1, .Name x2 p2, .Name x3 p3] kk tp)) (some n) (b₀ :: suite) pos'] [] [] pos) (fun D σ H => tb (wTup X.K [c1, c2, c3] i ts Wout D) D σ H) := by
  refine ⟨fun pins s σ H D I h => ?_⟩
  have ok := I.ok
  have hfr : X.A.frames = some (X.env :: X.outer) := by rw [ok.frames, hs]
  refine wpAny_Try_except ?_
  refine wpAny_mono ((hb (wTup X.K [c1, c2, c3] i ts Wout D) (X.pn ++ pins) (fun e s₁ => wpAny (model X.prog X.w) X.A (noteFrame e X.env) (fun _ s₂ => wpAny (model X.prog X.w) X.A (setFlight e none) (fun _ s₃ =>
    wpAny (model X.prog X.w) X.A (handleBy e X.env [.ExceptHandler (some (.Tuple [.Name x1 p1, .Name x2 p2, .Name x3 p3] kk tp)) (some n) (b₀ :: suite) pos']) (SP X pins D) X.xe s₃) X.xe s₂) X.xe s₁) (fun u s' xx => ?_) PassesOwn.looking).run [] s σ H D (I.toTry _) h) (fun f s1 hsp => ?_) (fun e s1 he => he)
  · obtain ⟨a, B, sI, pins', σ', H', cls, d, rfl, J', nb, up, sky, na, os, ag, b, hb1, hyes, hno⟩ := xx
    have J : Inv X pins σ' H' sI := J'.ofTry ok
    have sky' : Sky B (X.env :: X.outer) a (Zc cls d) X.env.locals s'.heap := by rw [← hs]; exact sky
    show wpAny (model X.prog X.w) X.A (noteFrame (.ref a) X.env) _ _ _
    refine Sky.land Zc.steady hfr hf sky' fun h3 fl3 up3 => ?_
    have J3 : Inv X pins σ' H' { s' with heap := h3 } := J.landed nb fl3.1 (up.trans up3) os ag
    obtain ⟨oe3, vs3, he3, hz3, hd3⟩ := fl3.there
    have nfr : a ∉ frs (X.env :: X.outer) := fun hm => by
      obtain ⟨_, o', e', hnf⟩ := fl3.2.2.1.mem hm
      rw [he3] at e'; cases e'
      exact hnf _ hd3
    have nL : a ≠ X.env.locals := fun z => nfr (List.mem_filterMap.mpr ⟨X.env, List.mem_cons_self, by rw [hf, z]⟩)
    have nF : a ∉ X.fs := fun hm => by
      obtain ⟨e, he, q⟩ := List.mem_filterMap.mp hm
      exact nfr (List.mem_filterMap.mpr ⟨e, List.mem_cons_of_mem _ he, q⟩)
    have S3 := J3.suite he3 hd3 na nL nF
    have nI : sI.heap.get? a = none := by
      cases e : sI.heap.get? a with
      | none => rfl
      | some o =>
        have z := nb a o e (fun hm => nfr (by rw [← hs]; exact hm))
        rw [fl3.2.1] at z; cases z
    have n0 : X.s_0.heap.get? a = none := by
      cases e : X.s_0.heap.get? a with
      | none => rfl
      | some o =>
        obtain ⟨o', z⟩ := J.base.there a o e (by rw [hex]; exact fun z => nomatch z)
        rw [nI] at z; cases z
    refine wpAny_handleBy_cons (codeAny_handlers_test ?_) (by intro q; cases q)
    -- the tuple of classes
    refine wpAny_Tuple ?_
    refine wpAny_items_cons (name_at (Y := X.suite a ((a, oe3) :: (X.pn ++ pins))) S3 n1 ?_)
    refine wpAny_items_cons (name_at (Y := X.suite a ((a, oe3) :: (X.pn ++ pins))) S3 n2 ?_)
    refine wpAny_items_cons (name_at (Y := X.suite a ((a, oe3) :: (X.pn ++ pins))) S3 n3 ?_)
    refine wpAny_items_nil ⟨by size_fits, ?_⟩
    have kp : ∀ q o, h3.get? q = some o → (h3.push { cls := .type "tuple", data := .seq [c1, c2, c3].toArray }).get? q = some o := fun _ _ z => Heap.get?_push_of_some _ z
    have LT : PySem.W.Looks (model X.prog X.w) h3 (typeOf (.ref a)) cls := fun A Q E s k q => wpAny_typeOf_ref (k _ _ he3) (by rw [hz3.1]; exact q)
    have fl5 := fly_keeps fl3 kp
    have up5 : h3.UpToSlots (h3.push { cls := .type "tuple", data := .seq [c1, c2, c3].toArray }) := Heap.UpToSlots.of_keeps kp
    refine (PySem.W.exm_tup3 (M := model X.prog X.w) (PySem.W.Frag.In.keeps J3.kIn kp) (LT.keeps kp) (Heap.get?_push_size h3 rfl) hb1).here ?_
    cases b with
    | true =>
      refine codeAny_handlers_suite_as ?_
      refine HandSPX.lands_againZ fl5 fun h4 fl4 up4 => ?_
      have J4 : Inv X pins σ' H' { s' with heap := h4 } := J.landed nb fl4.1 (((up.trans up3).trans up5).trans up4) os ag
      obtain ⟨oe4, vs4, he4, hz4, hd4⟩ := fl4.there
      have S4 := J4.suite he4 hd4 na nL nF
      refine store_ok (X := X.suite a ((a, oe4) :: (X.pn ++ pins))) (v := .ref a) S4 hN hi (.inl hln) rfl (fun s5 S5 => ?_) (.inr hln)
      have pinA := (S5.pin (a, oe4) (List.mem_append_left _ List.mem_cons_self)).1
      have S5u : Inv X pins (σ'.set i (some (.ref a))) H' s5 := S5.unsuite ok
      have npin : ∀ p ∈ X.pn ++ pins, p.1 ≠ a := fun p hp z => by
        have q := (J.pin p hp).1
        rw [z, nI] at q; cases q
      have ncell : ∀ x c, X.env.cells.lookup x = some c → c ≠ a := fun x c hc z => by
        obtain ⟨v, o, q, _⟩ := J.cell x c hc
        rw [z, nI] at q; cases q
      have S6 : Inv X pins (σ'.set i (some (.ref a))) (upd H' a (DL.ExV a cls d)) s5 := track S5u n0 na nL ncell npin (exV_ok pinA hz4 hd4)
      have S7 : Inv (X.suite a (X.pn ++ pins)) [] (σ'.set i (some (.ref a))) (upd H' a (DL.ExV a cls d)) s5 :=
        ⟨S6.ok.suite _ _, S6.os, S6.bare, S6.base, S6.loc, S6.cell, S6.free, S6.freeC, fun p hp => S6.pin p (by rw [List.append_nil] at hp; exact hp), S6.hok, S6.len⟩
      refine wpAny_mono ((hsu a cls d (X.pn ++ pins)).run [] s5 _ _ _ S7 (hyes rfl a na)) (fun f s6 hsp => ?_) (fun _ _ z => False.elim z)
      have fin : ∀ {σ6 : L2.St} {H6 : Hp} {Q : Shared → Prop}, Inv (X.suite a (X.pn ++ pins)) [] σ6 H6 s6 → H6 a = some (DL.ExV a cls d) → (∀ s7, Inv X pins (σ6.set i none) (delH H6 a) s7 → Q s7) →
          wpAny (model X.prog X.w) X.A (do bindName X.env n .none; unbindBehindTheSuite X.env n pos') (fun _ s7 => Q s7) X.xe s6 := fun {σ6 H6 Q} S8 ha hq => by
        have S9 : Inv X pins σ6 H6 s6 := ⟨ok, S8.os, S8.bare, S8.base, S8.loc, S8.cell, S8.free, S8.freeC, fun p hp => S8.pin p (List.mem_append_left _ hp), S8.hok, S8.len⟩
        exact gone_ok (untrack S9 n0 ha) hN hi hln hq
      cases f with
      | next => obtain ⟨σ6, H6, S6, ha, q6⟩ := hsp; exact fin S6 ha fun s7 J7 => ⟨_, _, J7, q6⟩
      | brk => obtain ⟨σ6, H6, S6, ha, q6⟩ := hsp; exact fin S6 ha fun s7 J7 => ⟨_, _, J7, q6⟩
      | cont => obtain ⟨σ6, H6, S6, ha, q6⟩ := hsp; exact fin S6 ha fun s7 J7 => ⟨_, _, J7, q6⟩
      | ret u => obtain ⟨v6, σ6, H6, S6, r6, ha, q6⟩ := hsp; exact fin S6 ha fun s7 J7 => ⟨_, _, _, J7, r6, q6⟩
    | false =>
      show wpAny _ X.A (handleBy (.ref a) X.env []) _ _ _
      refine wpAny_handleBy_nil ?_
      obtain ⟨k1, k2, k3, oe, vs, T, oT, ts', he, hz, hd, h1, hr⟩ := id fl5
      unfold PySem.passOn
      refine wpAny_bind (wpAny_field he hd h1 ?_)
      rw [if_neg (show ¬ ((Value.ref T == Value.none) = true) from by simp)]
      have out : wpAny (model X.prog X.w) X.A (setFlight (.ref a) X.env.frame) (fun _ s4 => wpAny (model X.prog X.w) X.A (throw (.ref a) : Sem Flow) (SP X pins D) X.xe s4) X.xe { s' with heap := h3.push { cls := .type "tuple", data := .seq [c1, c2, c3].toArray } } := by
        rw [hf]
        refine HandSPX.setFlight_upZ fl5 fun h4 hh4 up4 => wpAny_throw (tk _ _ ?_)
        exact ⟨a, B, sI, pins, σ', H', cls, d, rfl, J, nb, ((up.trans up3).trans up5).trans up4, .inr (.inr (by rw [hs]; exact hh4)), na, os, ag, hno rfl⟩
      first
        | exact wpAny_bind (wpAny_pure (wpAny_bind out))
        | exact wpAny_bind out
  · cases f with
    | next => obtain ⟨σ', H', J', q⟩ := hsp; exact wpAny_execs_nil ⟨σ', H', J'.ofTry ok, q⟩
    | brk => obtain ⟨σ', H', J', q⟩ := hsp; exact ⟨σ', H', J'.ofTry ok, q⟩
    | cont => obtain ⟨σ', H', J', q⟩ := hsp; exact ⟨σ', H', J'.ofTry ok, q⟩
    | ret u => obtain ⟨v, σ', H', J', r, q⟩ := hsp; exact ⟨v, σ', H', J'.ofTry ok, r, q⟩
end
end DLX
end
section
/-! the reading of try .. except (A, B, C) as n: return .. -/
namespace DL
open PySem PySem.Spec PyProof.Rows L2
mutual
/-- no error stands in it -/
def noX : D → Bool
  | .tup xs => noXs xs
  | .lst xs => noXs xs
  | .dct ks vs => noXs ks && noXs vs
  | .ins _ _ vs => noXs vs
  | .exn _ _ _ => false
  | .non | .bl _ | .int _ | .str _ | .scr _ => true
def noXs : List D → Bool
  | [] => true
  | x :: xs => noX x && noXs xs
end
def noXW : W → Bool
  | .d x => noX x
  | _ => true
def noXC : Cell → Bool
  | .lst xs => noXs xs
  | .dct ks vs => noXs ks && noXs vs
  | .ins _ _ vs => noXs vs
  | .tab _ => true
section
variable {K : Fg} {G : Hp} {a : Addr} {φ : Heap → Prop}
theorem del_at {o : HO} {b : Addr} (ha : G a = some (.ext φ)) (h : G b = some o) (n : ∀ ψ, o ≠ .ext ψ) : delH G a b = some o := by
  rw [delH_ne fun z => by rw [z, ha] at h; injection h with h; exact n _ h.symm]; exact h
theorem rd_del {u : HO} {b : Addr} (ha : G a = some (.ext φ)) (n : ∀ ψ, u ≠ .ext ψ) : Rd G b u → Rd (delH G a) b u
  | .inl h => .inl (del_at ha h n)
  | .inr ⟨o, h⟩ => .inr ⟨o, del_at ha h fun _ z => by cases z⟩
mutual
theorem Rep.del (ha : G a = some (.ext φ)) : ∀ (d : D) (v : V), noX d = true → Rep K G v d → Rep K (delH G a) v d
  | .non, _, _, h => by cases h; exact .non
  | .bl b, _, _, h => by cases h; exact .bl b
  | .int i, _, _, h => by cases h; exact .int i
  | .str l, _, _, h => by cases h with | str h h2 => exact .str h h2
  | .tup ds, _, n, h => by cases h with | tup h r z => exact .tup (h.imp (rd_del ha fun _ z => by cases z) id) (Reps.del ha ds _ (by simpa [noX] using n) r) z
  | .lst ds, _, n, h => by cases h with | lst h r z => exact .lst (del_at ha h fun _ z => by cases z) (Reps.del ha ds _ (by simpa [noX] using n) r) z
  | .dct ks vs, _, n, h => by
    rw [noX, Bool.and_eq_true] at n
    cases h with | dct h hk r z kr => exact .dct (del_at ha h fun _ z => by cases z) hk (Reps.del ha vs _ n.2 r) z (Reps.del ha ks _ n.1 kr)
  | .ins c ns vs, _, n, h => by cases h with | ins h hn r => exact .ins (del_at ha h fun _ z => by cases z) hn (Reps.del ha vs _ (by simpa [noX] using n) r)
  | .scr ns, _, _, h => by cases h with | scr h z => exact .scr (h.imp (rd_del ha fun _ z => by cases z) id) z
  | .exn c ns vs, _, n, h => by simp [noX] at n
theorem Reps.del (ha : G a = some (.ext φ)) : ∀ (ds : List D) (vs : List V), noXs ds = true → Reps K G vs ds → Reps K (delH G a) vs ds
  | [], _, _, h => by cases h; exact .nil
  | d :: ds, _, n, h => by
    rw [noXs, Bool.and_eq_true] at n
    cases h with | cons h t => exact .cons (Rep.del ha d _ n.1 h) (Reps.del ha ds _ n.2 t)
end
theorem RepW.del {c : List Addr} {v : V} {w : W} (ha : G a = some (.ext φ)) (n : noXW w = true) (h : RepW K G c v w) : RepW K (delH G a) c v w := by
  cases h with
  | d h => exact .d (Rep.del ha _ _ n h)
  | loc h => exact .loc h
  | glo => exact .glo
  | ty => exact .ty
theorem exV_code {a : Addr} {C : Value} {d : Option Addr} (q : Str) : ExV a C d ≠ LamX.CodeO a q := fun z => by
  unfold ExV LamX.CodeO at z
  injection z with z
  have e := congrFun z ({ objs := Array.replicate (a + 1) { cls := C, dict := d, data := .fields #[] } } : Heap)
  have h : ({ objs := Array.replicate (a + 1) { cls := C, dict := d, data := .fields #[] } } : Heap).get? a = some { cls := C, dict := d, data := .fields #[] } := by
    first
      | (simp [Heap.get?]; done)
      | (unfold Heap.get?; simp)
  obtain ⟨oc, vs, t, h1, h2, h3⟩ := (cast e ⟨_, #[], h, rfl, rfl, rfl⟩ : ∃ (oc : Obj) (vs : Array Value) (t : Tok), _ ∧ _ ∧ _)
  rw [h] at h1
  cases h1
  cases h2
  simp at h3
/-- the caught error is let go: nothing that stays speaks of it -/
theorem Good.del {c : List Addr} {S : Store} {H : Hp} (g : Good K G c S H) (ha : G a = some (.ext φ)) (hne : ∀ q, (.ext φ : HO) ≠ LamX.CodeO a q) (n : S.all noXC = true) : Good K (delH G a) c S (delH H a) := by
  have na : ∀ {m : Nat} {b : Addr}, c[m]? = some b → b ≠ a := fun {m b} h z => by
    have := (g.cell m b h).1
    rw [z, ha] at this; cases this
  refine ⟨fun b o h => ?_, g.len, g.nd, fun m b h => ?_⟩
  · have hb : b ≠ a := fun z => by rw [z, delH_same] at h; cases h
    rw [delH_ne hb] at h ⊢
    exact g.sub b o h
  · obtain ⟨gb, x, hx, ca⟩ := g.cell m b h
    have nx : noXC x = true := List.all_eq_true.mp n x (List.mem_of_getElem? hx)
    refine ⟨by rw [delH_ne (na h)]; exact gb, x, hx, ?_⟩
    cases ca with
    | lst h1 r z => exact .lst (by rw [delH_ne (na h)]; exact h1) (Reps.del ha _ _ nx r) z
    | dct h1 hk r z kr =>
      have nx : (noXs _ && noXs _) = true := nx
      rw [Bool.and_eq_true] at nx
      exact .dct (by rw [delH_ne (na h)]; exact h1) hk (Reps.del ha _ _ nx.2 r) z (Reps.del ha _ _ nx.1 kr)
    | ins h1 hn r z => exact .ins (by rw [delH_ne (na h)]; exact h1) hn (Reps.del ha _ _ nx r) z
    | @tab q ps h1 t k e0 =>
      refine .tab (by rw [delH_ne (na h)]; exact h1) t (fun pos cv e => ?_) e0
      obtain ⟨c1, a1, b1⟩ := k pos cv e
      refine ⟨c1, a1, ?_⟩
      rw [delH_ne (fun z => hne (lamQ q) (by subst z; rw [ha] at b1; exact Option.some.inj b1))]
      exact b1
/-- .. as seen from before it was made -/
theorem Ev.del {c c' : List Addr} {H G' H' : Hp} (e : Ev G c H (upd G' a (.ext φ)) c' H') (hH : H a = none) : True := trivial
end
end DL
end
section
namespace DL
open PySem PySem.Spec PyProof.Rows L2 DLX
section
variable {K : Fg} {G G1 G3 H H1 H3 : Hp} {c c1 c3 : List Addr} {S1 S3 : Store} {a : Addr} {o : HO}
theorem ev_del (g1 : Good K G1 c1 S1 H1) (hn : H1 a = none) (e : Ev (upd G1 a o) c1 (upd H1 a o) G3 c3 H3) : Ev G1 c1 H1 (delH G3 a) c3 (delH H3 a) := by
  have gn : G1 a = none := by
    cases q : G1 a with
    | none => rfl
    | some u => have := g1.sub a u q; rw [hn] at this; cases this
  have ne : ∀ {b : Addr} {u : HO}, H1 b = some u → b ≠ a := fun {b u} q z => by rw [z, hn] at q; cases q
  refine ⟨fun b u q => ?_, e.cc, fun b u q r => ?_, fun b u q r => ?_, fun b h => ?_, fun b u q => ?_⟩
  · have hb : b ≠ a := fun z => by rw [z, gn] at q; cases q
    rw [delH_ne hb]; exact e.gg b u (by rw [upd_ne hb]; exact q)
  · rw [delH_ne (ne q)]; exact e.fr b u (by rw [upd_ne (ne q)]; exact q) r
  · rw [delH_ne (ne q)]; exact e.nw b u (by rw [upd_ne (ne q)]; exact q) (by rw [upd_ne (ne q)]; exact r)
  · rcases e.nc b h with q | q
    · exact .inl q
    · by_cases hb : b = a
      · rw [hb, upd_same] at q; cases q
      · rw [upd_ne hb] at q; exact .inr q
  · obtain ⟨u', q'⟩ := e.th b u (by rw [upd_ne (ne q)]; exact q)
    exact ⟨u', by rw [delH_ne (ne q)]; exact q'⟩
end
theorem dss_can {X : Cx} {Z : WX} {b : List Stmt} {f : FS} (h : DSs X Z b f) : PSs X b (canS X.K Z f) := by
  obtain ⟨t, p, q⟩ := h
  exact ⟨fun pins s σ H D I ⟨ρ, S, G, c, g, r, w⟩ => p.run pins s σ H D I (q ρ S σ H G c D g r w)⟩
def fTryRet (errs : List Str) (catches : Str → Bool) (i : Nat) (fb fh : FS) : FS := fun ρ S => match fb ρ S with
  | .ex x ρ1 S1 => if errs.contains x.cls = true then (if catches x.cls = true then (match fh (ρ1.set i (some (.d (.exn x.cls x.ns x.vs)))) S1 with
    | .rt w S2 => if (noXW w && S2.all noXC) = true then .rt w S2 else .no
    | _ => .no) else .ex x ρ1 S1) else .no
  | r => r
section
variable {X : Cx} {Z : WX} {x1 x2 x3 n : Str} {c1 c2 c3 : Value} {i kk : Nat} {body suite : List Stmt} {b₀ : Stmt} {p1 p2 p3 tp pos pos' : Pos} {fb fh : FS} {errs : List Str} {catches : Str → Bool}
theorem ds_try (hs : X.stack = X.env :: X.outer) (hf : X.env.frame = some X.env.locals) (hex : X.ex = []) (hN : X.N.Nodup) (hi : X.N[i]? = some n) (hln : X.env.kindOf n = some .local) (n1 : Names X x1 c1) (n2 : Names X x2 c2) (n3 : Names X x3 c3) (tk : Takes X Z)
    (hc : ∀ x ∈ errs, PySem.W.exmAny X.K (.ref (He.ga X.K x)) [c1, c2, c3] = some (catches x))
    (hb : ∀ (W : WX) (pn : List (Addr × Obj)) (xe : Value → Shared → Prop), Takes (X.tr pn xe) W → PassesOwn (model X.prog X.w) X.A X.env xe → DSs (X.tr pn xe) W body fb)
    (hh : ∀ (a : Addr) (pn : List (Addr × Obj)), DSs (X.suite a pn) (fun _ _ _ _ => False) (b₀ :: suite) fh) :
    DS X Z (.Try body [.ExceptHandler (some (.Tuple [.Name x1 p1, .Name x2 p2, .Name x3 p3] kk tp)) (some n) (b₀ :: suite) pos'] [] [] pos) (fTryRet errs catches i fb fh) := by
  refine ⟨_, ps_try_tup (tb := fun W => canS X.K W fb) (ts := fun _ _ _ => canS X.K (fun _ _ _ _ => False) fh) hex hs hf hN hi hln n1 n2 n3 tk (fun W pn xe t p => dss_can (hb W pn xe t p)) (fun a cls d pn => dss_can (hh a pn)), ?_⟩
  intro ρ S σ H G c D gd re h
  refine ⟨ρ, S, G, c, gd, re, ?_⟩
  unfold fTryRet at h
  revert h
  cases fb ρ S with
  | no => exact fun h => h
  | nx _ _ => exact fun h => h
  | bk _ _ => exact fun h => h
  | ct _ _ => exact fun h => h
  | rt _ _ => exact fun h => h
  | ex x ρ1 S1 =>
    intro h G1 c1' H1 σ1 cls dx e1 g1 r1 rx
    dsimp only at h
    by_cases he : errs.contains x.cls = true
    · rw [if_pos he] at h
      obtain ⟨ec, fs, hd, hn, rr⟩ := id rx
      have hm := hc x.cls (by simpa using he)
      refine ⟨catches x.cls, by rw [ec]; exact hm, fun hy a ha => ?_, fun hno => ?_⟩
      · rw [if_pos hy] at h
        subst ec
        obtain ⟨e2, g2⟩ := g1.new ha (ExV a (.ref (He.ga X.K x.cls)) dx)
        have rv : RepW X.K (upd G1 a (ExV a (.ref (He.ga X.K x.cls)) dx)) c1' (.ref a) (.d (.exn x.cls x.ns x.vs)) := .d (.exn upd_same (hd.sub e2.gg) hn (Reps.sub e2.gg _ _ rr))
        refine ⟨_, S1, _, c1', g2, (r1.ev e2.gg e2.cc).set rv, ?_⟩
        revert h
        cases fh (ρ1.set i (some (.d (.exn x.cls x.ns x.vs)))) S1 with
        | no => exact fun h => h.elim
        | nx _ _ => exact fun h => h.elim
        | bk _ _ => exact fun h => h.elim
        | ct _ _ => exact fun h => h.elim
        | ex _ _ _ => exact fun h => h.elim
        | rt w S2 =>
          intro h G3 c3' H3 v e3 g3 rw'
          dsimp only at h
          by_cases hx : (noXW w && S2.all noXC) = true
          · rw [if_pos hx] at h
            rw [Bool.and_eq_true] at hx
            have ga : G3 a = some (ExV a (.ref (He.ga X.K x.cls)) dx) := e3.gg a _ upd_same
            have Ha := g3.sub a _ ga
            exact ⟨Ha, h _ _ _ _ (e1.trans (ev_del g1 ha e3)) (g3.del ga (fun q => exV_code q) hx.2) (RepW.del ga hx.1 rw')⟩
          · rw [if_neg hx] at h; exact h.elim
      · rw [if_neg (by rw [hno]; simp)] at h
        exact h _ _ _ _ _ _ e1 g1 r1 rx
    · rw [if_neg he] at h; exact h.elim
end
end DL
end
section
/-! calls from within an except suite -/
namespace DL
open PySem PySem.Spec PyProof.Rows L2 DLX
/-- the context of a def's body that runs while an error is handled -/
abbrev cxHot (CX : CXT) (P : Program) (w : World) (K : Fg) (mg : Str → Option Value) (base : Heap) (N : List Str) (qual : Str) (scope : Scope) (f : Addr) (cd : Value) (A : Around) (outer : List PySem.Env) (s : Shared) (H : Hp) (E : XK) : Cx :=
  { cxOf CX P w K mg base N qual scope f cd A outer s H E with calm := false }
structure FOkH (P : Program) (w : World) (K : Fg) (mg : Str → Option Value) (base : Heap) (k : Nat) (f : Addr) (fd : FuncData) (ps : List Str) (F : FF) : Prop where
  run : ∀ (A : Around) (outer : List PySem.Env) (s : Shared) (H : Hp) (args : Args) (us : List Value) (vs : List V) (Q : VK) (E : XK), A.guards = some [] → L2H.RoomH k A → Env0 P w K mg base A outer s H → BindsTo s fd args (ps.zip us) → us.length = ps.length → Vals vs us → dsp K F vs H Q E →
    codeAny (model P w) A (.call (.ref f) args) (CR (L2.CX P w) outer P w H s Q E) s
theorem inv_hot {CX : CXT} {P : Program} {w : World} {K : Fg} {mg : Str → Option Value} {base : Heap} {N : List Str} {qual : Str} {scope : Scope} {f : Addr} {cd : Value} {A : Around} {outer : List PySem.Env} {s s1 : Shared} {H : Hp} {E : XK} {σ : L2.St}
    (I : Inv (cxOf CX P w K mg base N qual scope f cd { A with handled := none } outer s H E) [] σ H s1) : Inv (cxHot CX P w K mg base N qual scope f cd A outer s H E) [] σ H s1 :=
  ⟨⟨I.ok.mod, I.ok.kind, I.ok.glob, I.ok.blt, I.ok.above, I.ok.inj, I.ok.has, I.ok.cab, fun z => Bool.noConfusion (show false = true from z), I.ok.frames, I.ok.stk, I.ok.exf, I.ok.bs, I.ok.bsz, I.ok.noex, I.ok.exfs, I.ok.funs, I.ok.frf⟩, I.os, I.bare, I.base, I.loc, I.cell, I.free, I.freeC, I.pin, I.hok, I.len⟩
theorem fokH_of {P : Program} {w : World} {K : Fg} {mg : Str → Option Value} {base : Heap} {k : Nat} {f : Addr} {fd : FuncData} {x qual : Str} {params : Arguments} {body : List Stmt} {scope : Scope} {dvs : List V} {kws : List (Str × V)} {N ps : List Str} {n : Nat} {g : FS} (kp : Bool)
    (F : FunD K x qual params body scope dvs kws f fd) (Sc : FnScope N ps scope) (hn : N.length = n)
    (hb : ∀ (cdv : Value) (A : Around) (outer : List PySem.Env) (s : Shared) (H : Hp) (E : XK), (A.deeper (envOfC qual scope s.heap.objs.size f cdv)).guards = some [] → L2H.RoomH k (A.deeper (envOfC qual scope s.heap.objs.size f cdv)) →
      DSs (cxHot (L2.CX P w) P w K mg base N qual scope f cdv A outer s H E) (fun cls d _ H => E cls d H) body g) : FOkH P w K mg base (k + 1) f fd ps (fnK kp ps.length n g) := by
  subst hn
  obtain ⟨oc, od, dV, kV, doc, pm, an, cdv, ct, osl, rfl, lk, hcd, _, _⟩ := F.ex
  refine ⟨fun A outer s H args us vs Q E hgu hr e0 hbind hl rv hsp => ?_⟩
  obtain ⟨G, c, S, ws, gd, rw', wants⟩ := hsp
  have KX : K.In s.heap := e0.mod.kin.keeps fun b o e => (e0.bs b o e).1
  have lim : s.heap.NoLimit := e0.mod.nolimit.keeps fun b o e => (e0.bs b o e).1
  have hlv : vs.length = ps.length := rv.length.trans hl
  refine codeAny_call_function hr.depth (KX _ _ lk) rfl Sc.co Sc.gen rfl (PySem.W.codeRec_of KX hcd) (hbind _ _ _ _ ?_)
  refine wpAny_newFunctionEnv_cells Sc.kind (fun y hy => ?_) fun env he s1 x => ?_
  · obtain ⟨n1, v1⟩ := y
    rcases Sc.par n1 (List.of_mem_zip hy).1 with q | q
    · exact .inl q
    · exact .inr ⟨q, PySem.W.cellsFrom_some _ _ _ (.inl q)⟩
  subst he
  refine ⟨lim.keeps x.toInCall.keep, codeAny_func ?_⟩
  obtain ⟨t, ht, hq⟩ := hb cdv A outer s H E hgu (hr.deeper _)
  have e1 : Env0 P w K mg base { A with handled := none } outer s H := ⟨e0.frames, e0.mod, e0.bs, e0.bsz, e0.funs, e0.frf, e0.hok, e0.bare⟩
  have I : Inv (cxHot (L2.CX P w) P w K mg base N qual scope f cdv A outer s H E) [] (start N vs) H s1 := inv_hot (inv_start (E := E) Sc rfl e1 hlv rv x)
  have hws : ws.length = ps.length := rw'.length.symm.trans hlv
  unfold fnK at wants
  rw [if_pos hws] at wants
  unfold fnB at wants
  rw [← hws] at wants
  have body : t { nx := fun _ H' => Q .non H', rt := FinQ Q } (start N vs) H := by
    refine hq _ S _ H G c _ gd (start_rep rw') ?_
    revert wants
    cases g (ws.map some ++ List.replicate (N.length - ws.length) none) S with
    | no => exact fun h => h
    | bk _ _ => exact fun h => h.elim
    | ct _ _ => exact fun h => h.elim
    | nx ρ' S' => exact fun h G' c' H' σ' e g' _ => h G' c H' _ e.back (g'.back e.cc gd.len) (.d .non)
    | rt w S' => exact fun h G' c' H' v e g' r => finish_ok gd e g' r h
    | ex x ρ' S' => exact fun h G' c' H' σ' cls dx e g' _ rx => h G' c H' cls dx e.back (g'.back e.cc gd.len) rx
  refine wpAny_mono (ht.run [] s1 (start N vs) H _ I body) (fun fl s' hs => ?_) fun e s' hs => hs
  cases fl with
  | ret u =>
    obtain ⟨v, σ', H', J, rv, q⟩ := hs
    rcases q with q | ⟨a, u0, hu, mu, q⟩
    · exact ⟨v, H', J.os, J.bare, J.base, J.hok, rv, q⟩
    · obtain ⟨od, J2⟩ := J.lock hu mu
      exact ⟨v, _, J2.os, J2.bare, J2.base, J2.hok, rv, q od⟩
  | next =>
    obtain ⟨σ', H', J, q⟩ := hs
    exact ⟨.non, H', J.os, J.bare, J.base, J.hok, rfl, q⟩
  | brk => obtain ⟨_, _, _, q⟩ := hs; exact q.elim
  | cont => obtain ⟨_, _, _, q⟩ := hs; exact q.elim
end DL
end
section
namespace DL
open PySem PySem.Spec PyProof.Rows L2 DLX
structure DefH (P : Program) (w : World) (K : Fg) (mg : Str → Option Value) (base : Heap) (k : Nat) (f : Addr) (d : He.DefD) (ps : List Str) (F : FF) : Prop where
  ok : ∃ fd, FunD K d.name d.qual d.params d.body d.scope [] [] f fd ∧ FOkH P w K mg base k f fd ps F ∧ ∀ (s : Shared) (us : List Value), us.length = ps.length → BindsTo s fd ⟨us, []⟩ (ps.zip us)
  len : ∀ ws S, ws.length ≠ ps.length → F ws S = .no
theorem DefH.kp {P w K mg base k f d ps} {F : FF} (D : DefH P w K mg base k f d ps F) : PySem.W.keepIn K (.ref f) = true := let ⟨_, h, _⟩ := D.ok; h.kp
section
variable {X : Cx} {Z : WX} {k : Nat} {f : Addr} {fd : FuncData} {d : He.DefD} {ps : List Str} {F : FF}
theorem run_fokH {A : Around} {pins : List (Addr × Obj)} {σ : L2.St} {H : Hp} {s : Shared} {Q : VK} {args : Args} {us : List Value} {vs : List V} {R : Result → Shared → Prop} (h : FOkH X.prog X.w X.K X.mg X.base k f fd ps F) (tk : Takes X Z) (hg : A.guards = some []) (hr : L2H.RoomH k A) (hf : A.frames = X.A.frames)
    (I : Inv X pins σ H s) (hb : BindsTo s fd args (ps.zip us)) (hl : us.length = ps.length) (rv : Vals vs us) (hs : dsp X.K F vs H Q (WE Z σ))
    (hR : ∀ u s', EP X pins σ Q u s' → R (.ok (.ret u)) s') (hX : ∀ e s', X.xe e s' → R (.error e) s') : codeAny (model X.prog X.w) A (.call (.ref f) args) R s := by
  have e0 := I.env0
  have e1 : Env0 X.prog X.w X.K X.mg X.base A X.stack s H := ⟨hf.trans e0.frames, e0.mod, e0.bs, e0.bsz, e0.funs, e0.frf, e0.hok, e0.bare⟩
  refine codeAny_mono (h.run A X.stack s H args us vs Q (WE Z σ) hg hr e1 hb hl rv hs) fun r s' q => ?_
  cases r with
  | error e => exact hX e s' (passAt tk σ pins H s e s' I q)
  | ok fl =>
    cases fl with
    | ret u => exact hR u s' (I.after q)
    | next => exact False.elim q
    | brk => exact False.elim q
    | cont => exact False.elim q
variable {x : Str} {p pos : Pos} {e : Expr} {es : List Expr} {fs : FL}
theorem de_callH (D : DefH X.prog X.w X.K X.mg X.base k (He.ga X.K x) d ps F) (tk : Takes X Z) (hgu : X.A.guards = some []) (hr : L2H.RoomH k X.A) (hm : X.mg x = some (.ref (He.ga X.K x))) (ha : DA X Z (e :: es) fs) (hg : Gl X x := by rfl)
    (hdb : (x == ("__debug__" : Str)) = false := by decide) (he : starEach (e :: es) X.env = (false, eval e X.env) :: starEach es X.env := by rfl) (hpl : (backTo pos (starEach es X.env)).any (·.1) = false := by rfl) :
    DE X Z (.Call (.Name x p) (e :: es) [] pos) (fCall F fs) := by
  obtain ⟨fd, _, ok, hb⟩ := D.ok
  obtain ⟨t, pa, q⟩ := ha
  refine ⟨tCallD X.K Z F t, ⟨fun pins s σ H Q I h => ?_⟩, ref_call q⟩
  refine wpAny_Call_Name_kw (ld_glob I hg hm ?_ hdb)
  refine PySem.W.callWith_K (h₀ := X.base) I.ok.mod.kin D.kp (thn (pa.run pos pins s σ H _ I h) fun us s1 ⟨vs, H1, I1, r, q⟩ => ⟨I1.kIn, ?_⟩) he hpl
  have hlu : us.length = ps.length := r.length.symm.trans (dsp_len D.len q)
  exact wpAny_call (run_fokH ok tk hgu hr rfl I1 (hb s1 us hlu) hlu r q (fun _ _ h => h) fun _ _ h => h)
end
end DL
end
section
/-! e.given, e an error that is a value -/
namespace DL
open PySem PySem.Spec PyProof.Rows L2 DLX
def nthX (n : Str) : List Str → List D → Option D
  | x :: xs, d :: ds => if n = x then some d else nthX n xs ds
  | _, _ => none
def fExA (errs : List Str) (n : Str) (fe : FE) : FE := fun ρ S => (fe ρ S).bind fun w S1 => match w with
  | .d (.exn c ns vs) => if errs.contains c = true then (match nthX n ns vs with
    | some d => .ok (.d d) S1
    | none => .no) else .no
  | _ => .no
theorem nthX_rep {K : Fg} {G : Hp} {n : Str} : ∀ {fs : List (Str × V)} {ns : List Str} {vs : List D} {d : D}, fs.map (·.1) = ns → Reps K G (fs.map (·.2)) vs → nthX n ns vs = some d → ∃ v, fs.lookup n = some v ∧ Rep K G v d
  | [], _, _, _, e, _, h => by subst e; simp [nthX] at h
  | (m, v) :: fs, _, _, _, e, r, h => by
    subst e
    rw [List.map_cons] at r
    cases r with | cons r1 rr =>
    rw [List.map_cons, nthX] at h
    rw [lookup_put]
    by_cases q : n = m
    · rw [if_pos q] at h ⊢; cases h; exact ⟨v, rfl, r1⟩
    · rw [if_neg q] at h ⊢; exact nthX_rep rfl rr h
def tExA (K : Fg) (errs : List Str) (n : Str) (te : TE) : TE := fun σ H Q => te σ H fun x H1 => ∃ a c dd fs v, x = V.ref a ∧ c ∈ errs ∧ H1 a = some (ExV a (.ref (He.ga K c)) (some dd)) ∧ H1 dd = some (.xd fs) ∧ fs.lookup n = some v ∧ Q v H1
section
variable {X : Cx} {Z : WX} {errs : List Str} {n : Str} {e : Expr} {te : TE} {fe : FE} {pos : Pos}
theorem pe_exA (T : ∀ c ∈ errs, XfC X.K (He.ga X.K c)) (hno : ∀ c ∈ errs, PySem.W.findIn X.K (.ref (He.ga X.K c)) n = some none) (he : PE X e te) (hb : attributeBase e n X.env (eval e X.env) = eval e X.env := by rfl) : PE X (.Attribute e n pos) (tExA X.K errs n te) := by
  refine ⟨fun pins s σ H Q I h => ?_⟩
  refine attr_of hb (thn (he.run pins s σ H _ I h) fun u s1 hh => ?_)
  obtain ⟨x, H1, I1, rx, a, c, dd, fs, v, ex, hc, ha, hd, l, q⟩ := hh
  subst ex
  obtain rfl : u = Value.ref a := rx
  obtain ⟨⟨oe, vs, ho, hcl, hdi, hda⟩, _⟩ := (show ObjOk X.prog X.w H1 s1.heap a (ExV a (.ref (He.ga X.K c)) (some dd)) from I1.hok a _ ha)
  have hx : ObjOk X.prog X.w H1 s1.heap dd (.xd fs) := I1.hok dd _ hd
  obtain ⟨mA, hns, hr⟩ := hx
  obtain ⟨od, hod, hl⟩ := lookIn_ns hns
  obtain ⟨u, hu, ru⟩ := RelO.some_of (v := v) (o := mA n) (by rw [← l]; exact hr n)
  have J : PySem.W.InstAt s1.heap a oe (He.ga X.K c) (some od) := ⟨ho, hcl, by unfold PySem.W.notCls; rw [hda] <;> rfl, by rw [hdi]; exact hod⟩
  have t := T c hc
  exact HandSPX.exc_get I1.kIn J t.ga t.gg t.exC (PySem.W.findObj_own t.hdC (hno c hc) rfl (by rw [hl, hu])) (handed_of ru) ⟨v, H1, I1.tok _, ru, q⟩
theorem de_exA (T : ∀ c ∈ errs, XfC X.K (He.ga X.K c)) (hno : ∀ c ∈ errs, PySem.W.findIn X.K (.ref (He.ga X.K c)) n = some none) (he : DE X Z e fe) (hb : attributeBase e n X.env (eval e X.env) = eval e X.env := by rfl) : DE X Z (.Attribute e n pos) (fExA errs n fe) := by
  obtain ⟨t, p, q⟩ := he
  refine ⟨_, pe_exA T hno p hb, ?_⟩
  intro ρ S σ H G c Q gd re h
  refine q ρ S σ H G c _ gd re (Wants.step h fun w S1 G1 c1 H1 v e1 g1 rx h1 => ?_)
  cases rx with
  | d r =>
    cases r with
    | @exn a d cn ns fs vs ha hd hn rr =>
      dsimp only at h1
      by_cases hc : errs.contains cn = true
      · rw [if_pos hc] at h1
        cases hv : nthX n ns vs with
        | none => rw [hv] at h1; exact h1.elim
        | some d' =>
          rw [hv] at h1
          dsimp only at h1
          obtain ⟨v, l, rv⟩ := nthX_rep hn rr hv
          rcases hd with ⟨_, e0⟩ | ⟨dd, e0, hdd⟩
          · subst e0; simp at l
          · subst e0
            exact ⟨a, cn, dd, fs, v, rfl, by simpa using hc, g1.sub _ _ ha, g1.sub _ _ hdd, l, h1 _ _ _ _ (.refl ..) g1 (.d rv)⟩
      · rw [if_neg hc] at h1; exact h1.elim
    | _ => exact h1.elim
  | _ => exact h1.elim
end
end DL
end
section
/-! isinstance of an error that is a value -/
namespace DLX
open PySem PySem.Spec PySem.W PySem.Calls PyProof.Rows L2 PySem.Builtin
section
variable {prog : Program} {w : World} {A : Around} {E : Value → Shared → Prop} {s : Shared} {K : Frag} {x D : Addr} {ox : Obj} {od : Option Obj}
theorem find_class (C : ExcC K D) : findObj K D od "__class__" = some (.bind (.builtin "getset_descriptor.__get__") (.builtin "object.__class__")) := by
  have hc : (clsIn K D).isSome = true := by obtain ⟨cd, hc, _⟩ := any_some C.hd; rw [hc]; rfl
  cases od with
  | none => exact findObj_dataN hc C.ha C.hn C.ht
  | some o => exact findObj_data hc C.ha C.hn C.ht
theorem class_of {Q : Option Value → Shared → Prop} (C : ExcC K D) (X : K.In s.heap) (I : InstAt s.heap x ox D od) (h : Q (some (.ref D)) { s with toks := s.toks + 1 }) : wpAny (model prog w) A (getAttr? (.ref x) "__class__") Q E s := by
  have hf := find_class (od := od) C
  obtain ⟨hp, g, d, t, os⟩ := s
  have lT := I.type (M := model prog w)
  have lA := looks_findIn (M := model prog w) X C.hg
  have lG := looks_findIn (M := model prog w) X C.hk
  have lF := looks_find (M := model prog w) X I hf
  have isB : Looks (model prog w) hp (isInstance (.ref x) (.type "BaseException")) true := lT.andThen (looks_subIn X C.hs)
  have n0 : (false && onTheHeap (Value.builtin "BaseException.__getattribute__")) = false := rfl
  have n2 : (Value.builtin "BaseException.__getattribute__" == Value.builtin "object.__getattribute__") = false := by decide +kernel
  have n1 : (onTheHeap (Value.ref D) && Value.builtin "BaseException.__getattribute__" == Value.builtin "object.__getattribute__") = false := by rw [n2]; rfl
  unfold getAttr? getAttrBy? getAttrBy
  refine wpAny_bind (wpAny_mkText (wpAny_bind (wpAny_attempt (wpAny_holding (wpAny_bind (lT.at (wpAny_bind (lA.at ?_))))))))
  show wpAny _ _ (if (onTheHeap (Value.ref D) && Value.builtin "BaseException.__getattribute__" == Value.builtin "object.__getattribute__") = true then _ else _) _ _ _
  rw [n1, if_neg Bool.false_ne_true]
  unfold getAttrByItsOwn hookBefore
  refine wpAny_bind ?_
  rw [if_pos (show onTheHeap (Value.ref D) = true from rfl)]
  refine lG.at ?_
  refine wpAny_bind (wpAny_attempt (wpAny_holding ?_))
  unfold callGetattribute
  rw [n0, if_neg Bool.false_ne_true]
  unfold boundAndCalled
  rw [PySem.F.excAttr_ValueError.ga.bind (.ref x)]
  refine wpAny_bind (wpAny_pure ?_)
  show wpAny _ _ (call (.builtin "BaseException.__getattribute__") [.ref x, .str "__class__" t]) _ _ _
  refine wpAny_call (codeAny_call_builtin PySem.F.excAttr_ValueError.ga.plain PySem.F.entry_bexc_ga ?_)
  refine @check_slot (model prog w) _ _ ⟨hp, g, d, t + 1, os⟩ "BaseException.__getattribute__" "BaseException" "__getattribute__" (.ref x) [.str "__class__" t] [] _ (by decide +kernel) (by decide +kernel) isB (PySem.F.args_bexc_ga (.ref x) (.str "__class__" t)) ?_
  unfold Builtin.«object.__getattribute__»
  refine wpAny_bind (wpAny_of_eq (a := ((Value.ref x : Value), [Value.str "__class__" t])) (by first | rfl | (simp only [slotArgs]; rfl)) ?_)
  refine wpAny_bind (wpAny_pure (wpAny_bind (lT.at (wpAny_bind (lF.at ?_)))))
  show wpAny _ _ (holding [Value.builtin "object.__class__"] (call (.builtin "getset_descriptor.__get__") [.builtin "object.__class__", .ref x, .ref D]) >>= ret) _ _ _
  refine wpAny_bind (wpAny_holding (wpAny_call (class_get (s := ⟨hp, g, d, t + 1, os⟩) (ox := ox) (od := od) X I C.hm ?_)))
  refine wpAny_pure ?_
  show wpAny _ _ (handedOut (.ref D)) _ _ _
  rw [handedOut_of (v := .ref D) rfl]
  first
    | exact wpAny_pure (wpAny_pure h)
    | exact wpAny_pure h
    | exact wpAny_pure (wpAny_bind (wpAny_pure (wpAny_pure h)))
theorem kit_exc (C : ExcC K D) : KitX K (.ref x) (.ref D) (fun h => InstAt h x ox D od) where
  ty := fun _ _ _ I => I.type
  it := fun _ _ X _ => by
    obtain ⟨cdD, hcD, _⟩ := any_some C.hd
    unfold clsIn at hcD
    split at hcD
    · rename_i c' d' cd' sl' ho
      intro A' Q' E' s' k q
      unfold isType loadHead
      exact wpAny_bind (wpAny_loadPart (k _ _ (X _ _ ho)) (wpAny_pure q))
    · cases hcD
  ne := fun h tp dd its n sl X htp => by
    obtain ⟨cdD, hcD, _⟩ := any_some C.hd
    refine Bool.eq_false_iff.mpr fun q => ?_
    have e : D = tp := Value.ref.inj (beq_iff_eq.mp q)
    subst e
    unfold clsIn at hcD
    split at hcD
    · rename_i c' d' cd' sl' ho
      have z := (X _ _ ho).symm.trans htp
      cases z
    · cases hcD
  ca := fun X I k => class_of C X I k
end
end DLX
end
section
/-! isinstance(e, C): the rule -/
namespace DL
open PySem PySem.Spec PyProof.Rows L2 DLX
/-- errs: the error classes whose instances come; xs: the classes of one's own that are asked about, ts: the built-in ones -/
structure IsxK (K : Fg) (errs xs : List Str) (ts : List String) (sub : Str → Str → Bool) (subT : Str → String → Bool) : Prop where
  e : ∀ c ∈ errs, ExcC K (He.ga K c)
  cc : ∀ c ∈ errs, ∀ x ∈ xs, PySem.W.kitOne K (.ref (He.ga K c)) (.ref (He.ga K x)) = some (sub c x)
  ct : ∀ c ∈ errs, ∀ t ∈ ts, PySem.W.kitOne K (.ref (He.ga K c)) (.type t) = some (subT c t)
def gIsx (errs xs : List Str) (ts : List String) (sub : Str → Str → Bool) (subT : Str → String → Bool) : FF := fun ws S => match ws with
  | [.d (.exn c _ _), .glo x] => if (errs.contains c && xs.contains x) = true then .ok (.d (.bl (sub c x))) S else .no
  | [.d (.exn c _ _), .ty t] => if (errs.contains c && ts.contains t) = true then .ok (.d (.bl (subT c t))) S else .no
  | _ => .no
def rIsx (K : Fg) : List V → Hp → VK → Prop := fun vs H Q => ∃ a D d y c b, vs = [V.ref a, y] ∧ H a = some (ExV a (.ref D) d) ∧ ExcC K D ∧ (∀ H' u, H' = H → RelV y u → u = c) ∧ (∃ dd, d = none ∨ d = some dd ∧ ∃ fs, H dd = some (.xd fs)) ∧ PySem.W.kitOne K (.ref D) c = some b ∧ Q (.bl b) H
section
variable {X : Cx} {Z : WX}
theorem call_isx : CallR X (.builtin "isinstance") (rIsx X.K) := by
  intro pins s σ H vs us Q I r h
  obtain ⟨a, D, d, y, c, b, rfl, ha, C, hy, hd, e, q⟩ := h
  cases r with
  | cons rx rr =>
    cases rr with
    | cons rt rr =>
      cases rr
      cases rx
      have ec := hy H _ rfl rt
      subst ec
      obtain ⟨⟨oe, vs, ho, hcl, hdi, hda⟩, _⟩ := (show ObjOk X.prog X.w H s.heap a (ExV a (.ref D) d) from I.hok a _ ha)
      obtain ⟨dd, hd | ⟨hd, fs, hx⟩⟩ := hd
      · subst hd
        have J : PySem.W.InstAt s.heap a oe D none := ⟨ho, hcl, by unfold PySem.W.notCls; rw [hda] <;> rfl, by rw [hdi]; trivial⟩
        exact PySem.W.kia_one (kit_exc C) I.kIn J e (fun z => nomatch z) fun tk => ⟨.bl b, H, I.kept (t' := tk) fun _ _ z => z, rfl, q⟩
      · subst hd
        obtain ⟨mA, hns, hr⟩ := (show ObjOk X.prog X.w H s.heap dd (.xd fs) from I.hok dd _ hx)
        obtain ⟨od, hod, hl⟩ := lookIn_ns hns
        have J : PySem.W.InstAt s.heap a oe D (some od) := ⟨ho, hcl, by unfold PySem.W.notCls; rw [hda] <;> rfl, by rw [hdi]; exact hod⟩
        exact PySem.W.kia_one (kit_exc C) I.kIn J e (fun z => nomatch z) fun tk => ⟨.bl b, H, I.kept (t' := tk) fun _ _ z => z, rfl, q⟩
end
theorem cal_isx {K : Fg} {Z : WX} {errs xs : List Str} {ts : List String} {sub : Str → Str → Bool} {subT : Str → String → Bool} (ik : IsxK K errs xs ts sub subT) : CalRef K Z (rIsx K) (gIsx errs xs ts sub subT) := by
  intro σ G c S H vs ws Q g r h
  have xd : ∀ {d : Option Addr} {fs : List (Str × V)}, ExD G d fs → ∃ dd, d = none ∨ d = some dd ∧ ∃ fs, H dd = some (.xd fs) := fun {d fs} e => by
    rcases e with ⟨e, _⟩ | ⟨dd, e, h⟩
    · exact ⟨0, .inl e⟩
    · exact ⟨dd, .inr ⟨e, fs, g.sub _ _ h⟩⟩
  unfold gIsx at h
  split at h
  · rename_i c' ns vs' x
    obtain ⟨v, y, rfl, rv, ry⟩ := w2 r
    cases rv with | d rv =>
    cases ry
    cases rv with | exn ha hd hn rr =>
    split at h
    · rename_i hk
      rw [Bool.and_eq_true] at hk
      have h1 : c' ∈ errs := by simpa using hk.1
      have h2 : x ∈ xs := by simpa using hk.2
      exact ⟨_, _, _, _, .ref (He.ga K x), _, rfl, g.sub _ _ ha, ik.e c' h1, fun _ u _ ru => ru, xd hd, ik.cc c' h1 x h2, h _ _ _ _ (.refl ..) g (.d (.bl _))⟩
    · exact h.elim
  · rename_i c' ns vs' t
    obtain ⟨v, y, rfl, rv, ry⟩ := w2 r
    cases rv with | d rv =>
    cases ry
    cases rv with | exn ha hd hn rr =>
    split at h
    · rename_i hk
      rw [Bool.and_eq_true] at hk
      have h1 : c' ∈ errs := by simpa using hk.1
      have h2 : t ∈ ts := by simpa using hk.2
      exact ⟨_, _, _, _, .type t, _, rfl, g.sub _ _ ha, ik.e c' h1, fun _ u _ ru => ru, xd hd, ik.ct c' h1 t h2, h _ _ _ _ (.refl ..) g (.d (.bl _))⟩
    · exact h.elim
  · exact h.elim
end DL
end
end
section
section
/-! DL, 28: divmod, str.count of one sign, str.upper, try .. except C, a written dict (in, [ ]) -/
namespace DLS
open PySem PySem.Spec PyProof.Rows L2
theorem occ_loop (a : List Nat) (c : Nat) : ∀ (n i : Nat) (acc : Array Nat) (free : Nat), i + n = a.length + 1 → acc.size ≤ i → free ≤ i →
    (forIn (List.range' i n) (acc, free) (StrLaws.occBody (SX.S a) ⟨#[c]⟩ (SX.S a).length ((SX.S a).length + 1))).run.fst.size = acc.size + (a.drop i).count c
  | 0, i, acc, free, hn, ha, hf => by
    have : a.drop i = [] := List.drop_eq_nil_of_le (by omega)
    rw [this]
    simp
  | n + 1, i, acc, free, hn, ha, hf => by
    have ls : (SX.S a).length = a.length := by show a.toArray.size = _; simp
    have one : (⟨#[c]⟩ : Str).length = 1 := rfl
    have at_iff : (i + (⟨#[c]⟩ : Str).length ≤ (SX.S a).length ∧ Builtin.Str.subAt (SX.S a) ⟨#[c]⟩ i = true) ↔ a[i]? = some c := StrLaws.subAt_one (SX.S a) c i
    rw [List.range'_succ, List.forIn_cons]
    unfold StrLaws.occBody
    by_cases h : a[i]? = some c
    · have h2 := at_iff.mpr h
      have hi : i < a.length := (List.getElem?_eq_some_iff.mp h).1
      have e : a[i] = c := (List.getElem?_eq_some_iff.mp h).2
      rw [if_pos ⟨⟨⟨by show acc.size < _; rw [ls]; omega, hf⟩, h2.1⟩, h2.2⟩]
      have ih := occ_loop a c n (i + 1) (acc.push i) (i + (⟨#[c]⟩ : Str).length) (by omega) (by simp; omega) (by rw [one]; exact Nat.le_refl _)
      have ed : a.drop i = c :: a.drop (i + 1) := by rw [List.drop_eq_getElem_cons hi, e]
      rw [ed, List.count_cons_self]
      have : (acc.push i).size = acc.size + 1 := by simp
      rw [this] at ih
      exact ih.trans (by omega)
    · rw [if_neg fun q => h (at_iff.mp ⟨q.1.2, q.2⟩)]
      have ih := occ_loop a c n (i + 1) acc free (by omega) (by omega) (by omega)
      refine ih.trans ?_
      by_cases hi : i < a.length
      · have ed : a.drop i = a[i] :: a.drop (i + 1) := List.drop_eq_getElem_cons hi
        have ne : a[i] ≠ c := fun e => h (by rw [List.getElem?_eq_getElem hi, e])
        rw [ed, List.count_cons_of_ne ne]
      · rw [List.drop_eq_nil_of_le (by omega), List.drop_eq_nil_of_le (by omega)]
theorem count_one (a : List Nat) (c : Nat) : Txt.count (SX.S a) ⟨#[c]⟩ = ((a.count c : Nat) : Int) := by
  have ls : (SX.S a).length = a.length := by show a.toArray.size = _; simp
  unfold Txt.count
  rw [StrLaws.occ_eq, Array.length_toList, Nat.sub_zero]
  have := occ_loop a c ((SX.S a).length + 1) 0 #[] 0 (by rw [ls]; omega) (by simp) (by simp)
  rw [this]
  simp
theorem upper_abc : ∀ a : List Nat, (∀ c ∈ a, Unicode.upperOf c = [c - 32]) → (Txt.upper ⟨a.toArray⟩).cps.toList = a.map (· - 32) := by
  intro a h
  show ((a.toArray.mapIdx fun i c => (Unicode.upperOf c).toArray).flatten).toList = _
  rw [Array.toList_flatten, Array.toList_mapIdx]
  have : (a.mapIdx fun i c => (Unicode.upperOf c).toArray) = a.map fun c => (Unicode.upperOf c).toArray := by
    apply List.ext_getElem
    · rw [List.length_mapIdx, List.length_map]
    · intro i h1 h2
      rw [List.getElem_mapIdx, List.getElem_map]
  rw [show a.toArray.toList = a from rfl, this, List.map_map]
  clear this
  induction a with
  | nil => rfl
  | cons c a ih =>
    rw [List.map_cons, List.flatten_cons, ih fun x hx => h x (List.mem_cons_of_mem _ hx), List.map_cons]
    show (Unicode.upperOf c).toArray.toList ++ _ = _
    rw [h c List.mem_cons_self]; rfl
theorem upper_low : ∀ c ∈ List.range' 97 26, Unicode.upperOf c = [c - 32] := by decide +kernel
end DLS
namespace DL
open PySem PySem.Spec PyProof.Rows L2 DLX
def gDivmod : FF := fun ws S => match ws with
  | [.d (.int i), .d (.int j)] => if (decide (0 < j) && decide (j < 1073741824)) = true then .ok (.d (.tup [.int (i / j), .int (i % j)])) S else .no
  | _ => .no
def gCount : FF := fun ws S => match ws with
  | [.d (.str a), .d (.str [c])] => .ok (.d (.int (a.count c : Nat))) S
  | _ => .no
def gUpper : FF := fun ws S => match ws with
  | [.d (.str a)] => if (Nat.ble a.length 1000 && (lenOk (Txt.upper ⟨a.toArray⟩).cps.toList.length && (Txt.upper ⟨a.toArray⟩).cps.toList.all fun c => Nat.blt c 1114112)) = true then .ok (.d (.str (Txt.upper ⟨a.toArray⟩).cps.toList)) S else .no
  | _ => .no
section
variable {K : Fg} {Z : WX}
theorem cal_divmod : CalRef K Z (fun xs H Q => ∃ i j, xs = [.int i, .int j] ∧ CDiv i j ∧ ∀ p, H p = none → Q (.ref p) (upd H p (.tup [.int (i / j), .int (i % j)]))) gDivmod := by
  intro σ G c S H vs ws Q g r h
  unfold gDivmod at h
  split at h
  · rename_i i j
    obtain ⟨v, u, rfl, rv, ru⟩ := w2 r
    cases rv with | d rv => cases ru with | d ru =>
    cases rv; cases ru
    split at h
    · rename_i hb
      rw [Bool.and_eq_true] at hb
      exact ⟨i, j, rfl, ⟨of_decide_eq_true hb.1, of_decide_eq_true hb.2⟩, fun p hp => h.retNew g hp (.d (.tup (.of upd_same) (.cons (.int _) (.cons (.int _) .nil)) (by show 2 ≤ sizeLine; decide)))⟩
    · exact h.elim
  · exact h.elim
theorem mt_countR : MtRef K Z (fun x xs H Q => ∃ a b, x = .str a ∧ xs = [.str b] ∧ Q (.int (Txt.count a b)) H) gCount := by
  intro σ G c S H v w vs ws Q g rv r h
  unfold gCount at h
  split at h
  · rename_i a b e
    cases e
    cases rv with | d rv => cases rv with | str h1 h2 =>
    obtain ⟨x, rfl, rx⟩ := w1 r
    cases rx with | d rx => cases rx with | str h3 h4 =>
    refine ⟨_, _, rfl, rfl, ?_⟩
    have e := DLS.count_one a b
    show Q (.int (Txt.count (SX.S a) ⟨#[b]⟩)) H
    rw [e]
    exact h.ret g (.d (.int _))
  · exact h.elim
theorem mt_upperR : MtRef K Z (fun x xs H Q => ∃ a, x = .str a ∧ xs = [] ∧ a.length ≤ 5592405 ∧ Q (.str (Txt.upper a)) H) gUpper := by
  intro σ G c S H v w vs ws Q g rv r h
  unfold gUpper at h
  split at h
  · rename_i a e
    cases e
    cases rv with | d rv => cases rv with | str h1 h2 =>
    cases r
    split at h
    · rename_i hb
      rw [Bool.and_eq_true, Bool.and_eq_true] at hb
      refine ⟨_, rfl, rfl, ?_, ?_⟩
      · show a.toArray.size ≤ _
        have := Nat.le_of_ble_eq_true hb.1
        rw [List.size_toArray]; omega
      · exact h.ret g (.d (.str (of_decide_eq_true hb.2.1) fun c hc => Nat.blt_eq.mp (List.all_eq_true.mp hb.2.2 c hc)))
    · exact h.elim
  · exact h.elim
end
/-! try .. except C: -/
def fTryO (errs : List Str) (catches : Str → Bool) (fb fh : FS) : FS := fun ρ S => match fb ρ S with
  | .ex x ρ1 S1 => if errs.contains x.cls = true then (if catches x.cls = true then (match fh ρ1 S1 with
    | .ex _ _ _ => .no
    | r => r) else .ex x ρ1 S1) else .no
  | r => r
section
variable {X : Cx} {Z : WX} {x1 : Str} {c1 : Value} {body suite : List Stmt} {b₀ : Stmt} {p1 pos pos' : Pos} {fb fh : FS} {errs : List Str} {catches : Str → Bool}
theorem ds_tryO (hs : X.stack = X.env :: X.outer) (hf : X.env.frame = some X.env.locals) (n1 : Names X x1 c1) (tk : Takes X Z)
    (hc : ∀ x ∈ errs, PySem.W.exmOne X.K (.ref (He.ga X.K x)) c1 = some (catches x))
    (hb : ∀ (W : WX) (pn : List (Addr × Obj)) (xe : Value → Shared → Prop), Takes (X.tr pn xe) W → PassesOwn (model X.prog X.w) X.A X.env xe → DSs (X.tr pn xe) W body fb)
    (hh : ∀ (a : Addr) (pn : List (Addr × Obj)), DSs (X.suite a pn) (fun _ _ _ _ => False) (b₀ :: suite) fh) :
    DS X Z (.Try body [.ExceptHandler (some (.Name x1 p1)) none (b₀ :: suite) pos'] [] [] pos) (fTryO errs catches fb fh) := by
  refine ⟨_, ps_try_only (tb := fun W => canS X.K W fb) (ts := fun _ _ _ => canS X.K (fun _ _ _ _ => False) fh) hs hf n1 tk (fun W pn xe t p => dss_can (hb W pn xe t p)) (fun a oe cls d pn _ _ => dss_can (hh a _)), ?_⟩
  intro ρ S σ H G c D gd re h
  refine ⟨ρ, S, G, c, gd, re, ?_⟩
  unfold fTryO at h
  revert h
  cases fb ρ S with
  | no => exact fun h => h
  | nx _ _ => exact fun h => h
  | bk _ _ => exact fun h => h
  | ct _ _ => exact fun h => h
  | rt _ _ => exact fun h => h
  | ex x ρ1 S1 =>
    intro h G1 c1' H1 σ1 cls dx e1 g1 r1 rx
    dsimp only at h
    by_cases he : errs.contains x.cls = true
    · rw [if_pos he] at h
      obtain ⟨ec, fs, hd, hn, rr⟩ := id rx
      have hm := hc x.cls (by simpa using he)
      refine ⟨catches x.cls, by rw [ec]; exact hm, fun hy a ha => ⟨ρ1, S1, G1, c1', g1, r1, ?_⟩, fun hno => ?_⟩
      · rw [if_pos hy] at h
        revert h
        cases fh ρ1 S1 with
        | no => exact fun h => h.elim
        | ex _ _ _ => exact fun h => h.elim
        | nx _ _ => exact fun h => WantsS.ev (Z := fun _ _ _ _ => False) (r := .nx _ _) e1 h
        | bk _ _ => exact fun h => WantsS.ev (Z := fun _ _ _ _ => False) (r := .bk _ _) e1 h
        | ct _ _ => exact fun h => WantsS.ev (Z := fun _ _ _ _ => False) (r := .ct _ _) e1 h
        | rt _ _ => exact fun h => WantsS.ev (Z := fun _ _ _ _ => False) (r := .rt _ _) e1 h
      · rw [if_neg (by rw [hno]; simp)] at h
        exact h _ _ _ _ _ _ e1 g1 r1 rx
    · rw [if_neg he] at h; exact h.elim
end
/-! a dict that is written at the module's top, with text keys and whole numbers -/
abbrev DctW : Type := Option (Value × Option Addr × List (Option Str × Int × Option Int) × Bool)
def strOfV : Value → Option Str
  | .str x _ => some x
  | _ => none
def intOfV : Value → Option Int
  | .int i _ => some i
  | _ => none
/-- what stands at a -/
def dictW (K : Fg) (a : Addr) : DctW := match K.lookup a with
  | some ⟨cls, dd, .dict es _, sl⟩ => some (cls, dd, es.toList.map fun e => (strOfV e.key, e.hash, intOfV e.val), sl.isEmpty && !(a == sysModules))
  | _ => none
def dictV (P : Params) (kvs : List (Str × Int)) : DctW := some (.type "dict", none, kvs.map fun p => (some p.1, PyData.keyHash P p.1, some p.2), true)
/-- the dict x has these items -/
def IsDct (K : Fg) (w : World) (x : Str) (kvs : List (Str × Int)) : Prop := dictW K (He.ga K x) = dictV w.params kvs
section
variable {K : Fg} {w : World} {x : Str} {kvs : List (Str × Int)}
def getS (kvs : List (Str × Int)) (z : Str) : Option Int := (kvs.find? fun p => p.1 == z).map (·.2)
theorem es_find {P : Params} {z : Str} : ∀ {es : List DictEntry} {kvs : List (Str × Int)}, (es.map fun e => (strOfV e.key, e.hash, intOfV e.val)) = (kvs.map fun p => (some p.1, PyData.keyHash P p.1, some p.2)) →
    PySem.W.KeysLit P es ∧ (es.any (·.refKey) = false) ∧ (match es.find? (·.key.isStr z) with
      | some e => ∃ i t, getS kvs z = some i ∧ e.val = .int i t
      | none => getS kvs z = none)
  | [], [], _ => ⟨trivial, rfl, rfl⟩
  | [], _ :: _, h => by cases h
  | _ :: _, [], h => by cases h
  | e :: es, p :: kvs, h => by
    rw [List.map_cons, List.map_cons] at h
    injection h with h1 h2
    obtain ⟨k1, k2, k3⟩ := es_find (z := z) h2
    injection h1 with a1 a2
    injection a2 with a2 a3
    obtain ⟨hs, ky, vl⟩ := e
    dsimp only at a1 a2 a3
    cases ky with
    | str y t =>
      have ey : y = p.1 := Option.some.inj a1
      subst ey
      cases vl with
      | int i t2 =>
        have ei : i = p.2 := Option.some.inj a3
        refine ⟨⟨⟨p.1, t, rfl, a2⟩, k1⟩, ?_, ?_⟩
        · rw [List.any_cons, k2]; rfl
        · rw [List.find?_cons]
          have es : (Value.str p.1 t).isStr z = (p.1 == z) := rfl
          dsimp only
          rw [es]
          unfold getS
          rw [List.find?_cons]
          by_cases q : (p.1 == z) = true
          · rw [q]
            exact ⟨p.2, t2, rfl, by rw [ei]⟩
          · have q := Bool.eq_false_iff.mpr q
            rw [q]
            exact k3
      | _ => cases a3
    | _ => cases a1
theorem IsDct.at (h : IsDct K w x kvs) : ∃ es n, K.lookup (He.ga K x) = some ⟨.type "dict", none, .dict es n, #[]⟩ ∧ PySem.W.KeysLit w.params es.toList ∧ (He.ga K x == sysModules) = false ∧ ∀ z, (∃ i t, getS kvs z = some i ∧ PySem.W.nsIn K (He.ga K x) z = some (some (.int i t))) ∨ (getS kvs z = none ∧ PySem.W.nsIn K (He.ga K x) z = some none) := by
  unfold IsDct dictW dictV at h
  split at h
  · rename_i cls dd es n sl hl
    injection h with h
    injection h with h1 h2
    injection h2 with h2 h3
    injection h3 with h3 h4
    subst h1 h2
    rw [Bool.and_eq_true] at h4
    have hsl : sl = #[] := by simpa using h4.1
    subst hsl
    refine ⟨es, n, hl, (es_find (z := x) h3).1, by simpa using h4.2, fun z => ?_⟩
    obtain ⟨k1, k2, k3⟩ := es_find (z := z) h3
    unfold PySem.W.nsIn
    rw [hl]
    dsimp only
    cases hf : es.toList.find? (·.key.isStr z) with
    | some e =>
      rw [hf] at k3
      obtain ⟨i, t, g1, g2⟩ := k3
      exact .inl ⟨i, t, g1, by dsimp only; rw [g2]⟩
    | none =>
      rw [hf] at k3
      refine .inr ⟨k3, ?_⟩
      dsimp only
      rw [k2]; rfl
  · cases h
end
section
variable {X : Cx} {Z : WX} {x : Str} {kvs : List (Str × Int)} {a b : Expr} {fa fb : FE} {pos : Pos}
def gInG (neg : Bool) (x : Str) (kvs : List (Str × Int)) : W → W → Store → R W := fun u v S => match u, v with
  | .d (.str z), .glo y => if y = x then .ok (.d (.bl (neg ^^ (getS kvs ⟨z.toArray⟩).isSome))) S else .no
  | _, _ => .no
def gIxG (x : Str) (kvs : List (Str × Int)) : W → W → Store → R W := fun u v S => match u, v with
  | .glo y, .d (.str z) => if y = x then (match getS kvs ⟨z.toArray⟩ with
    | some i => .ok (.d (.int i)) S
    | none => .no) else .no
  | _, _ => .no
def rInG (K : Fg) (d : Addr) (neg : Bool) : R2 := fun x y H Q => ∃ (z : Str) (r : Option Value), x = .str z ∧ y = .ref d ∧ PySem.W.nsIn K d z = some r ∧ Q (.bl (neg ^^ r.isSome)) H
theorem o_inG (D : IsDct X.K X.w x kvs) : OpR X (compareOp .In) (rInG X.K (He.ga X.K x) false) := by
  obtain ⟨es, n, h1, h2, h3, _⟩ := D.at
  intro pins s σ H u v p q Q I r1 r2 h
  obtain ⟨z, r, e1, e2, e3, h⟩ := h
  exact op_in_kd ⟨h1, h2, h3⟩ pins s σ H u v p q Q I r1 r2 ⟨z, r, e1, e2, e3, by rwa [Bool.false_xor] at h⟩
theorem o_notInG (D : IsDct X.K X.w x kvs) : OpR X (compareOp .NotIn) (rInG X.K (He.ga X.K x) true) := by
  obtain ⟨es, n, h1, h2, h3, _⟩ := D.at
  intro pins s σ H u v p q Q I r1 r2 h
  obtain ⟨z, r, e1, e2, e3, h⟩ := h
  exact op_notIn_kd ⟨h1, h2, h3⟩ pins s σ H u v p q Q I r1 r2 ⟨z, r, e1, e2, e3, by rwa [Bool.true_xor] at h⟩
theorem opr_inG {neg : Bool} (D : IsDct X.K X.w x kvs) : OpRef X.K Z (rInG X.K (He.ga X.K x) neg) (gInG neg x kvs) := by
  obtain ⟨es, n, h1, h2, h3, hz⟩ := D.at
  intro σ G c S H u v w1 w2 Q g r1 r2 h
  unfold gInG at h
  split at h
  · rename_i z y
    split at h
    · rename_i e
      subst e
      cases r1 with | d r1 => cases r1 with | str l1 l2 =>
      cases r2
      rcases hz ⟨z.toArray⟩ with ⟨i, t, e1, e2⟩ | ⟨e1, e2⟩
      · rw [e1] at h
        exact ⟨_, _, rfl, rfl, e2, h.ret g (.d (.bl _))⟩
      · rw [e1] at h
        exact ⟨_, _, rfl, rfl, e2, h.ret g (.d (.bl _))⟩
    · exact h.elim
  · exact h.elim
theorem de_ixG (D : IsDct X.K X.w x kvs) (ha : DE X Z a fa) (hb : DE X Z b fb) (hs : PlainIx b := by exact fun _ _ => rfl) : DE X Z (.Subscript a b pos) (fBin (gIxG x kvs) fa fb) := by
  obtain ⟨es, n, h1, h2, h3, hz⟩ := D.at
  obtain ⟨_, p1, q1⟩ := ha
  obtain ⟨_, p2, q2⟩ := hb
  refine ⟨_, pe_ix ix_kdict p1 p2 hs, ref_bin (fun σ G c S H u v w1 w2 Q g r1 r2 h => ?_) q1 q2⟩
  unfold gIxG at h
  split at h
  · rename_i y z
    split at h
    · rename_i e
      subst e
      cases r1
      cases r2 with | d r2 => cases r2 with | str l1 l2 =>
      rcases hz ⟨z.toArray⟩ with ⟨i, t, e1, e2⟩ | ⟨e1, e2⟩
      · rw [e1] at h
        exact ⟨_, _, .int i, rfl, rfl, ⟨es, n, _, h1, h2, e2, ⟨t, rfl⟩⟩, h.ret g (.d (.int _))⟩
      · rw [e1] at h; exact h.elim
    · exact h.elim
  · exact h.elim
end
/-! the head's view with written dicts -/
def obsY (fs : List (Fg → Bool)) (fn : List DefA) (ds : List Str) (K : Fg) : He.AlD × List DctW := (obsX fs fn K, ds.map fun x => dictW K (He.ga K x))
def obsYG (n : Nat) (fs : List (Fg → Bool)) (fn : List DefA) (ds : List Str) (g : Addr → Option Obj) : He.AlD × List DctW := obsY fs fn ds (He.frG g (He.asD g n))
def valY (fn : List DefA) (vs : List (List (Str × Int))) (w : World) : He.AlD × List DctW := (valX fn, vs.map fun v => dictV w.params v)
def hookY (n : Nat) (fs : List (Fg → Bool)) (fn : List DefA) (ds : List Str) (vs : List (List (Str × Int))) : PySem.W.Hook where
  α := He.AlD × List DctW
  obs := fun s => obsYG n fs fn ds s.heap.get?
  val := fun w => valY fn vs w
  says := fun w h => ∃ K : PySem.W.Frag, K.In h ∧ obsY fs fn ds K = valY fn vs w
  of := fun _ _ e => ⟨_, He.frG_in, e⟩
  keeps := fun _ _ _ ⟨K, hK, c⟩ k => ⟨K, PySem.W.Frag.In.keeps hK k, c⟩
theorem obsYG_eq {n : Nat} {fs : List (Fg → Bool)} {fn : List DefA} {ds : List Str} {vs : List (List (Str × Int))} {g : Addr → Option Obj} {s : Shared} (h : ∀ a, g a = s.heap.get? a) : obsYG n fs fn ds g = (hookY n fs fn ds vs).obs s := by
  have e : g = s.heap.get? := funext h
  rw [e] <;> rfl
theorem saysY {fs : List (Fg → Bool)} {fn : List DefA} {ds : List Str} {vs : List (List (Str × Int))} {w : World} {K : Fg} (h : obsY fs fn ds K = valY fn vs w) : SaysX fs fn K ∧ ∀ (i : Nat) (x : Str) (kvs : List (Str × Int)), ds[i]? = some x → vs[i]? = some kvs → IsDct K w x kvs := by
  have h1 : obsX fs fn K = valX fn := congrArg (·.1) h
  have h2 : (ds.map fun x => dictW K (He.ga K x)) = vs.map fun v => dictV w.params v := congrArg (·.2) h
  refine ⟨h1, fun i x kvs e1 e2 => ?_⟩
  have e3 : (ds.map fun x => dictW K (He.ga K x))[i]? = (vs.map fun v => dictV w.params v)[i]? := by rw [h2]
  rw [List.getElem?_map, List.getElem?_map, e1, e2] at e3
  exact Option.some.inj e3
end DL
end
end
section
/-! DL: a lambda without parameters, handed to a def -/
namespace DLY
open PySem PySem.Spec PyProof.Rows L2 LamX
/-- what a table of code objects tells -/
def Coded (H : Hp) (q : Str) (ps : Array Value) : Prop := TriplesOk ps.toList ∧ ∀ (pos : Pos) (cv : Value), codeAmong pos ps.toList = some cv → ∃ c1, cv = .ref c1 ∧ H c1 = some (CodeO c1 q)
/-- behind the making of a lambda: its code object c1 was there, or is new -/
def Grown (H : Hp) (P : Addr) (q : Str) (ps ps1 : Array Value) (c1 : Addr) (H1 : Hp) : Prop := TriplesOk ps1.toList ∧ (∀ (pos : Pos) (cv : Value), codeAmong pos ps1.toList = some cv → codeAmong pos ps.toList = some cv ∨ cv = .ref c1) ∧ H1 c1 = some (CodeO c1 q) ∧ ((H1 = H ∧ ps1 = ps) ∨ (H c1 = none ∧ H1 = upd (upd H P (.tbl ps1)) c1 (CodeO c1 q)))
section
variable {X : Cx} {pins : List (Addr × Obj)} {σ : L2.St} {H : Hp} {s : Shared}
abbrev lamObj (X : Cx) (params : Arguments) (body : Expr) (scope : Scope) (pm : Value) (c1 : Addr) (ctv : Value) : Obj := PySem.W.kla_obj "<lambda>" (X.env.qual ++ "<lambda>") params body scope (cloFrom X.env.cells scope.names []) pm c1 ctv
theorem lam_new {c P : Addr} {q : Str} {ps : Array Value} {params : Arguments} {body : Expr} {scope : Scope} {pos : Pos} {E Q : Value → Shared → Prop} (I : Inv X pins σ H s) (B : TabB X.base X.mg c P) (hcode : X.env.code = .ref c)
    (hq : X.env.qual ++ "<lambda>" = q) (hP : H P = some (.tbl ps)) (cd : Coded H q ps) (hdef : defaultsOf params X.env = ([], [])) (hfree : ∀ y ∈ scope.names, y.2 = .free → ∃ c, X.env.cells.lookup y.1 = some c)
    (h : ∀ (f c1 : Addr) (pm ctv : Value) (ps1 : Array Value) (H1 : Hp) (s1 : Shared), Inv X pins σ H1 s1 → Grown H P q ps ps1 c1 H1 → s1.heap.get? f = some (lamObj X params body scope pm c1 ctv) → H1 f = none → f ∉ frs X.stack → Q (.ref f) s1) :
    wpAny (model X.prog X.w) X.A (eval (.Lambda params body scope pos) X.env) Q E s := by
  subst hq
  obtain ⟨tr, al⟩ := cd
  have tb0 : s.heap.get? P = some { cls := .none, data := .fields ps } := I.hok P _ hP
  have away : ∀ f, s.heap.objs.size ≤ f → f ∉ frs X.stack := fun f hf hm => by
    rcases List.mem_cons.mp (I.stkSub _ hm) with e | e
    · have lt := I.lt
      rw [← e] at lt
      exact Nat.lt_irrefl _ (Nat.lt_of_lt_of_le lt hf)
    · exact I.nofs hf e
  refine PySem.W.kla_eval hdef ?_
  cases hc : codeAmong pos ps.toList with
  | some cv =>
    obtain ⟨c1, rfl, hk⟩ := al pos cv hc
    refine PySem.W.kla_makeFunctionHit (mg := X.mg) (P := P) (ps := ps) (closure_ok hfree) I.ok.glob (I.mod.glob.keeps I.bk) hcode (B.code.keeps I.bk) tb0 tr hc (B.bm.keeps I.bk) fun ctv h1 tk up le => ?_
    exact h h1.objs.size c1 _ ctv ps H _ (I.kept (t' := tk) fun b o e => Heap.get?_push_of_some _ (up b o e)) ⟨tr, fun _ _ z => .inl z, hk, .inl ⟨rfl, rfl⟩⟩ (Heap.get?_push_size _ rfl) (I.hok.fresh le) (away _ le)
  | none =>
    refine PySem.W.kla_makeFunction (mg := X.mg) (P := P) (ps := ps) (closure_ok hfree) I.ok.glob (I.mod.glob.keeps I.bk) hcode (B.code.keeps I.bk) tb0 tr hc B.gP (B.bm.keeps I.bk) fun c1 ctv h1 tk up le lt rec_ tb1 => ?_
    obtain ⟨c2, oc, vs, t, e2, ho, hd, hv⟩ := rec_
    cases e2
    have le2 : s.heap.objs.size ≤ h1.objs.size := Nat.le_trans le (Nat.le_of_lt lt)
    have n1 : H c1 = none := I.hok.fresh le
    have nP : P ≠ c1 := fun z => by rw [z, n1] at hP; cases hP
    have J := inv_table (t' := tk) (more := #[rawInt pos.line, rawInt pos.col, .ref c1]) (h' := h1.push (lamObj X params body scope ((X.mg "__name__").getD .none) c1 ctv)) I hP
      (fun b o hb e => Heap.get?_push_of_some _ (up b o hb e)) (Heap.get?_push_of_some _ tb1) le ⟨oc, vs, t, Heap.get?_push_of_some _ ho, hd, hv⟩
    have el : (ps ++ #[rawInt pos.line, rawInt pos.col, .ref c1]).toList = ps.toList ++ [rawInt pos.line, rawInt pos.col, .ref c1] := by simp
    refine h h1.objs.size c1 _ ctv _ _ _ J ⟨by rw [el]; exact PySem.TriplesOk_snoc _ _ _ _ tr, fun p1 cv z => ?_, upd_same, .inr ⟨n1, rfl⟩⟩ (Heap.get?_push_size _ rfl) ?_ (away _ le2)
    · rw [el] at z
      exact among_app _ tr z
    · rw [upd_ne (Nat.ne_of_gt lt), upd_ne (Nat.ne_of_gt (Nat.lt_of_lt_of_le (Heap.lt_size tb0) le2))]
      exact I.hok.fresh le2
/-- a(), in the def that got the lambda -/
theorem pe_thunk {CXg : CXT} {Eg : XK} {Ng : List Str} {qg : Str} {sg : Scope} {g f c1 : Addr} {cdg pm ctv : Value} {params : Arguments} {body : Expr} {scope : Scope} {k i : Nat} {a : Str} {pn : List (Addr × Obj)} {xe : Value → Shared → Prop} {W : WX} {E : XK} {tb : TE} {p1 p2 : Pos}
    (I : Inv X pins σ H s) (L : LamS X.env.scope scope) (hf : s.heap.get? f = some (lamObj X params body scope pm c1 ctv)) (hn : H f = none) (hr : f ∉ frs X.stack) (hgu : X.A.guards = some [])
    (hbind : bindArgs (PySem.W.kla_fn "<lambda>" (X.env.qual ++ "<lambda>") params body scope (cloFrom X.env.cells scope.names []) pm (.ref c1) ctv) ⟨[], []⟩ = pure [])
    (tk : Takes ((cxOf CXg X.prog X.w X.K X.mg X.base Ng qg sg g cdg X.A X.stack s H Eg).tr pn xe) W) (hW : ∀ cls d σ' H', E cls d H' → W cls d σ' H') (room : Room (k + 1) (X.A.deeper (envOfC qg sg s.heap.objs.size g cdg)))
    (hbody : ∀ (A : Around) (outer : List Env) (s : Shared) (H : Hp), A.guards = some [] → Room k (A.deeper (lamEnv X scope s.heap.objs.size f c1)) → PE (lamCx X A outer s H E scope f c1) body tb)
    (hN : Ng[i]? = some a) (hv : Vis sg a) (hd : (a == ("__debug__" : Str)) = false := by decide) (hcd : (a == ("__classdict__" : Str)) = false := by decide) :
    PE ((cxOf CXg X.prog X.w X.K X.mg X.base Ng qg sg g cdg X.A X.stack s H Eg).tr pn xe) (.Call (.Name a p1) [] [] p2)
      (fun σZ HZ Q => σZ[i]? = some (some (.ref f)) ∧ HZ c1 = some (CodeO c1 (X.env.qual ++ "<lambda>")) ∧ tb σ HZ Q) := by
  refine ⟨fun pinsZ sZ σZ HZ Q IZ ⟨z1, z2, z3⟩ => ?_⟩
  refine wpAny_Call_Name_kw (thn ((pe_var (pos := p1) (i := i) hN hv hd hcd).run pinsZ sZ σZ HZ (fun v H1 => v = .ref f ∧ H1 = HZ) IZ ⟨.ref f, z1, rfl, rfl⟩) fun u s1 ⟨v, H1, J, r1, ev, eH⟩ => ?_)
  subst ev eH
  obtain rfl : u = Value.ref f := r1
  have of1 : s1.heap.get? f = some (lamObj X params body scope pm c1 ctv) := J.base.keep f _ hf hn hr (fun z => nomatch (show f ∈ ([] : List Addr) from z))
  obtain ⟨⟨oc, vs, t, hoc, hdc, hvc⟩, _, _⟩ := J.hok c1 _ z2
  refine PySem.W.callWith_F0 ⟨_, _, _, _, of1⟩ ?_
  have run : codeAny (model X.prog X.w) (X.A.deeper (envOfC qg sg s.heap.objs.size g cdg)) (.call (.ref f) ⟨[], []⟩) (CR (L2.CX X.prog X.w) (envOfC qg sg s.heap.objs.size g cdg :: X.stack) X.prog X.w H1 s1 Q E) s1 := by
    refine PySem.W.kla_callFunE room.depth of1 rfl L.co L.gen rfl ⟨c1, oc, vs, t, rfl, hoc, hdc, hvc⟩ ?_
    rw [hbind]
    refine wpAny_pure (wpAny_newFunctionEnv (fun y hy => (L.own y hy).2) (fun y hy => absurd hy (by simp)) (fun h2 hns hsb => ⟨J.nolimit.fresh _ hsb, ?_⟩) L.kind)
    have kp : ∀ b o, s1.heap.get? b = some o → h2.get? b = some o := fun b o e => hsb.extBut b o (Nat.ne_of_lt (Heap.lt_size e)) (Heap.get?_push_of_some _ e)
    have JL : Inv (lamCx X (X.A.deeper (envOfC qg sg s.heap.objs.size g cdg)) (envOfC qg sg s.heap.objs.size g cdg :: X.stack) s1 H1 E scope f c1) [] σ H1 { s1 with heap := h2, toks := s1.toks + ([] : List (Str × Value)).length } :=
      lam_start2 I L J.env0 room.hd J.base hns kp
    refine PySem.W.kla_codeExpr (wpAny_mono ((hbody (X.A.deeper (envOfC qg sg s.heap.objs.size g cdg)) _ s1 H1 hgu (room.deeper _)).run [] _ _ H1 Q JL z3) (fun v s' ⟨w1, H2, J2, rv, q⟩ => ⟨w1, H2, J2.os, J2.bare, J2.base, J2.hok, rv, q⟩) fun e s' hq => hq)
  have hx : Passes (L2.CX X.prog X.w) ((cxOf CXg X.prog X.w X.K X.mg X.base Ng qg sg g cdg X.A X.stack s H Eg).tr pn xe) E := passes_call tk hW
  refine wpAny_call (codeAny_mono run fun r s' hq => ?_)
  cases r with
  | error e => exact hx pinsZ σZ H1 s1 e s' J hq
  | ok fl =>
    cases fl with
    | ret u => exact J.after hq
    | next => exact False.elim hq
    | brk => exact False.elim hq
    | cont => exact False.elim hq
def tLam3 (P : Addr) (q : Str) (TT : (XK → Hp → VK → Prop) → Hp → VK → Prop) (t : XK → TE) : TE := fun σ H Q => ∃ ps, H P = some (.tbl ps) ∧ Coded H q ps ∧ ∀ (c1 : Addr) (ps1 : Array Value) (H1 : Hp), Grown H P q ps ps1 c1 H1 → TT (fun E H' Q' => t E σ H' Q') H1 Q
/-- x(lambda: body) -/
theorem pe_lam3 {q : Str} {TT : (XK → Hp → VK → Prop) → Hp → VK → Prop} {x a : Str} {g c P : Addr} {k : Nat} {pg : Arguments} {bg : List Stmt} {sg : Scope} {dV kV doc pm cdv ct oc : Value} {an od : Option Addr} {osl : Array (Option Value)} {Ng : List Str}
    {params : Arguments} {body : Expr} {scope : Scope} {t : XK → TE} {p lpos pos : Pos} (hg : Gl X x) (hm : X.mg x = some (.ref g)) (hk : PySem.W.keepIn X.K (.ref g) = true)
    (lk : X.K.lookup g = some ⟨oc, od, .func (PySem.W.fnOf x x pg bg sg dV kV doc pm an cdv ct), osl⟩) (hcg : PySem.W.codeIn X.K cdv x = true) (hb : L2.Binds X.K (PySem.W.fnOf x x pg bg sg dV kV doc pm an cdv ct) [a] []) (Sg : FnScope Ng [a] sg) (hNg : Ng[0]? = some a) (hva : Vis sg a)
    (hq : X.env.qual ++ "<lambda>" = q) (hG : GivesTo X Ng x sg g cdv bg a q TT) (hgu : X.A.guards = some [])
    (B : TabB X.base X.mg c P) (hcode : X.env.code = .ref c) (room : Room (k + 2) X.A) (L : LamS X.env.scope scope) (hdef : defaultsOf params X.env = ([], []))
    (hbind : ∀ (q : Str) (cl : List (Str × Addr)) (pm cv ctv : Value), bindArgs (PySem.W.kla_fn "<lambda>" q params body scope cl pm cv ctv) ⟨[], []⟩ = pure [])
    (hbody : ∀ (A : Around) (outer : List Env) (s : Shared) (H : Hp) (E : XK) (f c1 : Addr), A.guards = some [] → Room k (A.deeper (lamEnv X scope s.heap.objs.size f c1)) → PE (lamCx X A outer s H E scope f c1) body (t E))
    (hdb : (x == ("__debug__" : Str)) = false := by decide) (hd : (a == ("__debug__" : Str)) = false := by decide) (hcd : (a == ("__classdict__" : Str)) = false := by decide) :
    PE X (.Call (.Name x p) [.Lambda params body scope lpos] [] pos) (tLam3 P q TT t) := by
  refine ⟨fun pins s σ H Q I ⟨ps, hP, cd, h⟩ => ?_⟩
  refine wpAny_Call_Name_kw (ld_glob I hg hm ?_ hdb)
  refine PySem.W.callWith_K (h₀ := X.base) I.ok.mod.kin hk ?_ (by rfl) (by rfl)
  refine Calls.spliced_cons (lam_new I B hcode hq hP cd hdef (L.has I.ok) fun f c1 pm1 ctv ps1 H1 s1 J gr hf hn hfr => ?_)
  refine Calls.spliced_nil ⟨J.kIn, ?_⟩
  have run : codeAny (model X.prog X.w) X.A (.call (.ref g) ⟨[.ref f], []⟩) (CR C8.CX0 X.stack X.prog X.w H1 s1 Q C8.E0) s1 := by
    refine run_ofS (N := Ng) (ps := [a]) (us := [.ref f]) (vs := [.ref f]) lk hcg Sg room J.env0 (hb s1 [.ref f] J.kIn rfl) (.cons rfl .nil) rfl fun room1 => ?_
    subst hq
    obtain ⟨t1, ht, hh⟩ := hG f c1 s1 H1 Q (fun E H' Q' => t E σ H' Q') (fun W pn xe E p1 p2 tk hW => pe_thunk (i := 0) J L hf hn hfr hgu (hbind _ _ _ _ _) tk hW room1 (fun A outer s H ha hr2 => hbody A outer s H E f c1 ha hr2) hNg hva hd hcd) gr.2.2.1 (h c1 ps1 H1 gr)
    exact ⟨t1, ht.nox, hh⟩
  refine wpAny_call (codeAny_mono run fun r s2 hr => ?_)
  cases r with
  | error e => exact (show False from hr).elim
  | ok fl =>
    cases fl with
    | ret u => exact J.after hr
    | next => exact False.elim hr
    | brk => exact False.elim hr
    | cont => exact False.elim hr
end
end DLY
end
section
/-! DL: what a def makes of a lambda that it got: try: y = a() / except (A, B, C) as e: return sh(e) / return [word, y] -/
namespace DL
open PySem PySem.Spec PyProof.Rows L2 LamX DLX DLY
def fCaught (n : Nat) (x : Str) (word : List Nat) (shown : FF) (errs : List Str) (catches : Str → Bool) (fb : FE) : FE := fun ρ S => match S[n]? with
  | some (.tab y) => if y = x then (match fb ρ S with
    | .ok (.d d) S1 => .ok (.d (.lst [.str word, d])) S1
    | .ex e S1 => if (errs.contains e.cls && catches e.cls) = true then (match shown [.d (.exn e.cls e.ns e.vs)] S1 with
      | .ok w S2 => if (noXW w && S2.all noXC) = true then .ok w S2 else .no
      | _ => .no) else .no
    | _ => .no) else .no
  | _ => .no
/-- an error of the lambda's, shown -/
def ExC (K : Fg) (shown : FF) (errs : List Str) (catches : Str → Bool) (Q : VK) : XK := fun cls d H => ∃ (x : Ex) (G : Hp) (c : List Addr) (S : Store) (w : W) (S2 : Store), Good K G c S H ∧ RepX K G H x cls d ∧ errs.contains x.cls = true ∧ catches x.cls = true ∧
  shown [.d (.exn x.cls x.ns x.vs)] S = .ok w S2 ∧ (noXW w && S2.all noXC) = true ∧ ∀ G' c' H' v, Ev G c H G' c' H' → Good K G' c' S2 H' → RepW K G' c' v w → Q v H'
/-- what it gave -/
def QvC (K : Fg) (word : List Nat) (Q : VK) : VK := fun v H => ∃ (x : D) (G : Hp) (c : List Addr) (S : Store), Good K G c S H ∧ RepW K G c v (.d x) ∧ ∀ G' c' H' u, Ev G c H G' c' H' → Good K G' c' S H' → RepW K G' c' u (.d (.lst [.str word, x])) → Q u H'
def TTc (K : Fg) (word : List Nat) (shown : FF) (errs : List Str) (catches : Str → Bool) : (XK → Hp → VK → Prop) → Hp → VK → Prop := fun tl H Q =>
  ∀ (E : XK) (Q1 : VK), (∀ cls d H', ExC K shown errs catches Q cls d H' → E cls d H') → (∀ v H', QvC K word Q v H' → Q1 v H') → tl E H Q1
theorem takes_len {X : Cx} {W : WX} (t : Takes X W) : Takes X (fun cls d σ H => σ.length = X.N.length → W cls d σ H) := fun u s' ⟨a, B, sI, pins, σ, H, cls, d, e, I, nb, up, sky, na, os, ag, w⟩ =>
  t u s' ⟨a, B, sI, pins, σ, H, cls, d, e, I, nb, up, sky, na, os, ag, w I.len⟩
section
variable {X : Cx} {y sh a e x1 x2 x3 g1 q : Str} {c1 c2 c3 cdg : Value} {g : Addr} {sg : Scope} {kk : Nat} {word : List Nat} {wS : Str} {shown : FF} {errs : List Str} {catches : Str → Bool} {k : Nat} {ds : He.DefD} {pss : List Str}
  {p1 p2 p3 p4 p5 p6 p7 p8 p9 p10 p11 p12 p13 p14 p15 p16 p17 p18 tp : Pos} {j1 : _}
theorem caught_gives (hN : [a, y, e].Nodup) (hln : sg.names.lookup e = some .local) (hly : sg.names.lookup y = some .local) (hwS : strC wS word = true)
    (gA : sg.names.lookup x1 = some .globalImplicit) (gB : sg.names.lookup x2 = some .globalImplicit) (gC : sg.names.lookup x3 = some .globalImplicit) (gS : sg.names.lookup sh = some .globalImplicit)
    (dA : (x1 == ("__debug__" : Str)) = false) (dB : (x2 == ("__debug__" : Str)) = false) (dC : (x3 == ("__debug__" : Str)) = false) (dS : (sh == ("__debug__" : Str)) = false) (de : (e == ("__debug__" : Str)) = false) (de2 : (e == ("__classdict__" : Str)) = false) (dy : (y == ("__debug__" : Str)) = false) (dy2 : (y == ("__classdict__" : Str)) = false)
    (mA : X.mg x1 = some (.ref (He.ga X.K x1))) (mB : X.mg x2 = some (.ref (He.ga X.K x2))) (mC : X.mg x3 = some (.ref (He.ga X.K x3))) (mS : X.mg sh = some (.ref (He.ga X.K sh)))
    (hx : ∀ z ∈ errs, PySem.W.exmAny X.K (.ref (He.ga X.K z)) [.ref (He.ga X.K x1), .ref (He.ga X.K x2), .ref (He.ga X.K x3)] = some (catches z))
    (hgu : X.A.guards = some []) (DS : DefH X.prog X.w X.K X.mg X.base k (He.ga X.K sh) ds pss shown) (hrm : ∀ (s : Shared) (a : Addr), L2H.RoomH k (((X.A.deeper (envOfC g1 sg s.heap.objs.size g cdg)).mark (some (.ref a))))) :
    GivesTo X [a, y, e] g1 sg g cdg [.Try [.Assign [.Name y p1] (.Call (.Name a p2) [] [] p3) p4] [.ExceptHandler (some (.Tuple [.Name x1 p5, .Name x2 p6, .Name x3 p7] kk tp)) (some e) [.Return (some (.Call (.Name sh p8) [.Name e p9] [] p10)) p11] p12] [] [] p13,
      .Return (some (.List [.Constant (.str wS) j1 p14, .Name y p15] p16)) p17] a q (TTc X.K word shown errs catches) := by
  intro f c0 s H Q tl act hc h
  have handler : ∀ (b : Addr) (pn : List (Addr × Obj)), DSs (((cxOf C8.CX0 X.prog X.w X.K X.mg X.base [a, y, e] g1 sg g cdg X.A X.stack s H C8.E0).nox).suite b pn) (fun _ _ _ _ => False) [.Return (some (.Call (.Name sh p8) [.Name e p9] [] p10)) p11] (fRet (fCall shown (fCons (fVar 2) fNil))) := fun b pn =>
    dss_one (ds_ret (de_callH DS LamX.takes0 hgu (hrm s b) mS (da_cons (de_var 2 (hN := rfl) (hv := .inl hln) (hd := de) (hcd := de2)) da_nil) (hg := gS) (hdb := dS)))
  have tail : DSs ((cxOf C8.CX0 X.prog X.w X.K X.mg X.base [a, y, e] g1 sg g cdg X.A X.stack s H C8.E0).nox) (fun _ _ _ _ => False) [.Return (some (.List [.Constant (.str wS) j1 p14, .Name y p15] p16)) p17] (fRet (fLst (fCons (fK (.d (.str word))) (fCons (fVar 1) fNil)))) :=
    dss_one (ds_ret (de_lst (da_cons (de_str word hwS) (da_cons (de_var 1 (hN := rfl) (hv := .inl hly) (hd := dy) (hcd := dy2)) da_nil))))
  refine ⟨_, pss_cons (ps_try_tup (X := (cxOf C8.CX0 X.prog X.w X.K X.mg X.base [a, y, e] g1 sg g cdg X.A X.stack s H C8.E0).nox) (i := 2) (c1 := .ref (He.ga X.K x1)) (c2 := .ref (He.ga X.K x2)) (c3 := .ref (He.ga X.K x3))
      (tb := fun W D σ H => ∃ Ech : XK, (∀ cls d σ' H', Ech cls d H' → σ'.length = 3 → W cls d σ' H') ∧ σ[0]? = some (some (.ref f)) ∧ H c0 = some (CodeO c0 q) ∧ tl Ech H (fun v H' => D.nx (σ.set 1 (some v)) H'))
      (ts := fun _ _ _ => canS X.K (fun _ _ _ _ => False) (fRet (fCall shown (fCons (fVar 2) fNil)))) (Wout := fun _ _ _ _ => False) rfl rfl rfl hN rfl hln ⟨gA, dA, .inl mA⟩ ⟨gB, dB, .inl mB⟩ ⟨gC, dC, .inl mC⟩ LamX.takes0 (fun W pn xe tk _ => ?_) (fun b cls d pn => dss_can (handler b pn))) (dss_can tail), ?_⟩
  · refine ⟨fun pins s' σ H' D I ⟨Ech, hW, h1, h2, h3⟩ => ?_⟩
    have hp := act _ pn xe Ech p2 p3 (takes_len tk) (fun cls d σ' H' z hl => hW cls d σ' H' z hl)
    exact (pss_one (ps_set (pos := p4) (pos' := p1) (i := 1) hN rfl (.inl hly) hp rfl (.inr hly))).run pins s' σ H' D I ⟨h1, h2, h3⟩
  · refine ⟨ExC X.K shown errs catches Q, fun cls d σ1 H1 z hl => ?_, rfl, hc, h _ _ (fun _ _ _ z => z) fun v H1 z => ?_⟩
    · obtain ⟨x, G, c, S, w, S2, gd, rx, he, hy, hs, hno, hq⟩ := z
      obtain ⟨ec, fs, hd, hnm, rr⟩ := id rx
      refine ⟨true, by
        show PySem.W.exmAny X.K _ [.ref (He.ga X.K x1), .ref (He.ga X.K x2), .ref (He.ga X.K x3)] = some true
        rw [ec, hx x.cls (by simpa using he), hy], fun _ b hb => ?_, fun z => nomatch z⟩
      obtain ⟨e2, g2⟩ := gd.new hb (ExV b cls d)
      subst ec
      have rv : RepW X.K (upd G b (ExV b (.ref (He.ga X.K x.cls)) d)) c (.ref b) (.d (.exn x.cls x.ns x.vs)) := .d (.exn upd_same (hd.sub e2.gg) hnm (Reps.sub e2.gg _ _ rr))
      refine ⟨[none, none, some (.d (.exn x.cls x.ns x.vs))], S, _, c, g2, ⟨by simp [hl], fun i u ei => ?_⟩, ?_⟩
      · match i, ei with
        | 0, ei => simp at ei
        | 1, ei => simp at ei
        | 2, ei =>
          have eu : W.d (.exn x.cls x.ns x.vs) = u := by simpa using ei
          subst eu
          exact ⟨_, by rw [List.getElem?_set_self (by omega)], rv⟩
        | i + 3, ei => simp at ei
      · have ev : (fRet (fCall shown (fCons (fVar 2) fNil))) [none, none, some (.d (.exn x.cls x.ns x.vs))] S = .rt w S2 := by
          show thenS _ (shown [.d (.exn x.cls x.ns x.vs)] S) _ = _
          rw [hs]; rfl
        rw [ev]
        intro G3 c3 H3 v e3 g3 rw'
        rw [Bool.and_eq_true] at hno
        have ga := e3.gg b _ upd_same
        exact ⟨g3.sub b _ ga, hq _ _ _ _ (ev_del gd hb e3) (g3.del ga (fun q => exV_code q) hno.2) (RepW.del ga hno.1 rw')⟩
    · obtain ⟨x, G, c, S, gd, rv, hq⟩ := z
      refine ⟨[none, some (.d x), none], S, G, c, gd, ⟨by rfl, fun i u ei => ?_⟩, ?_⟩
      · match i, ei with
        | 0, ei => simp at ei
        | 1, ei =>
          have eu : W.d x = u := by simpa using ei
          subst eu
          exact ⟨v, rfl, rv⟩
        | 2, ei => simp at ei
        | i + 3, ei => simp at ei
      · show WantsS X.K _ G c H1 (.rt (.d (.lst [.str word, x])) S) _
        exact fun G' c' H' u e' g' r' => hq G' c' H' u e' g' r'
end
end DL
end
section
/-! DL: x(lambda: body), x a def that tries it; defs that make lambdas -/
namespace DL
open PySem PySem.Spec PyProof.Rows L2 LamX DLX DLY
section
variable {K : Fg} {G H H1 : Hp} {c : List Addr} {S : Store}
theorem good_grown {n : Nat} {x : Str} {ps ps1 : Array Value} {c1 : Addr} (gd : Good K G c S H) (hn : c[n]? = some (tabA K x)) (hS : S[n]? = some (.tab x)) (cd : ∀ (pos : Pos) (cv : Value), codeAmong pos ps.toList = some cv → ∃ c1, cv = .ref c1 ∧ G c1 = some (CodeO c1 (lamQ x)))
    (hP : H (tabA K x) = some (.tbl ps)) (gr : Grown H (tabA K x) (lamQ x) ps ps1 c1 H1) : ∃ G1, Ev G c H G1 c H1 ∧ Good K G1 c S H1 := by
  obtain ⟨tr, al, hc, h | ⟨hn1, h⟩⟩ := gr
  · rw [h.1]; exact ⟨G, .refl .., gd⟩
  · obtain ⟨e1, g1⟩ := gd.new hn1 (CodeO c1 (lamQ x))
    have ne : c1 ≠ tabA K x := fun z => by rw [z, hP] at hn1; cases hn1
    have ca : CellAt K (upd G c1 (CodeO c1 (lamQ x))) c (upd (upd H c1 (CodeO c1 (lamQ x))) (tabA K x) (.tbl ps1)) (tabA K x) (.tab x) := .tab upd_same tr (fun pos cv q => by
      rcases al pos cv q with z | z
      · obtain ⟨c2, h1, h2⟩ := cd pos cv z
        exact ⟨c2, h1, e1.gg _ _ h2⟩
      · exact ⟨c1, z, upd_same⟩) rfl
    obtain ⟨g2, e2⟩ := g1.write hn ca
    have eS : S.set n (.tab x) = S := by
      refine List.ext_getElem? fun i => ?_
      by_cases hi : n = i
      · subst hi
        rw [List.getElem?_set_self (List.getElem?_eq_some_iff.mp hS).1, hS]
      · rw [List.getElem?_set_ne hi]
    have eH : upd (upd H c1 (CodeO c1 (lamQ x))) (tabA K x) (.tbl ps1) = H1 := by
      rw [h]
      funext b
      by_cases h1 : b = c1
      · subst h1
        rw [upd_ne ne, upd_same, upd_same]
      · rw [upd_ne (a := c1) h1]
        by_cases h2 : b = tabA K x
        · subst h2; rw [upd_same, upd_same]
        · rw [upd_ne h2, upd_ne h2, upd_ne h1]
    rw [eH] at g2 e2
    rw [eS] at g2
    exact ⟨_, e1.trans e2, g2⟩
end
section
variable {X : Cx} {Z : WX} {K : Fg} {n : Nat} {x : Str} {word : List Nat} {shown : FF} {errs : List Str} {catches : Str → Bool} {fb : FE}
abbrev ZE (E : XK) : WX := fun cls d _ H => E cls d H
theorem ref_caught (hx : tabA K x = P) : Ref K Z (tLam3 P (lamQ x) (TTc K word shown errs catches) (fun E => canE K (ZE E) fb)) (fCaught n x word shown errs catches fb) := by
  subst hx
  intro ρ S σ H G c Q gd re h
  unfold fCaught at h
  cases hS : S[n]? with
  | none => rw [hS] at h; exact h.elim
  | some cell =>
    rw [hS] at h
    cases cell with
    | tab y =>
      dsimp only at h
      by_cases hy : y = x
      · subst hy
        rw [if_pos rfl] at h
        have hl : n < c.length := by rw [gd.len]; exact (List.getElem?_eq_some_iff.mp hS).1
        obtain ⟨_, z, hz, ca⟩ := gd.cell n c[n] (List.getElem?_eq_getElem hl)
        rw [hS] at hz
        cases hz
        cases ca with
        | @tab _ ps hP tr k e0 =>
        rw [e0] at hP
        have hc : c[n]? = some (tabA K y) := by rw [List.getElem?_eq_getElem hl, e0]
        refine ⟨ps, hP, ⟨tr, fun pos cv q => let ⟨c1, a1, a2⟩ := k pos cv q; ⟨c1, a1, gd.sub _ _ a2⟩⟩, fun c1 ps1 H1 gr => ?_⟩
        obtain ⟨G1, e1, g1⟩ := good_grown gd hc hS k hP gr
        intro E Q1 hE hQ
        refine ⟨ρ, S, G1, c, g1, re.ev e1.gg e1.cc, ?_⟩
        revert h
        cases fb ρ S with
        | no => exact fun h => h.elim
        | ok w S1 =>
          cases w with
          | d d => exact fun h G2 c2 H2 v e2 g2 r2 => hQ _ _ ⟨d, G2, c2, S1, g2, r2, fun G' c' H' u e' g' r' => h G' c' H' u ((e1.trans e2).trans e') g' r'⟩
          | loc _ => exact fun h => h.elim
          | glo _ => exact fun h => h.elim
          | ty _ => exact fun h => h.elim
        | ex e S1 =>
          intro h G2 c2 H2 cls dx e2 g2 rx
          dsimp only at h
          by_cases he : (errs.contains e.cls && catches e.cls) = true
          · rw [if_pos he] at h
            rw [Bool.and_eq_true] at he
            revert h
            cases hs : shown [.d (.exn e.cls e.ns e.vs)] S1 with
            | no => exact fun h => h.elim
            | ex _ _ => exact fun h => h.elim
            | ok w S2 =>
              intro h
              dsimp only at h
              by_cases hno : (noXW w && S2.all noXC) = true
              · rw [if_pos hno] at h
                exact hE _ _ _ ⟨e, G2, c2, S1, w, S2, g2, rx, he.1, he.2, hs, hno, fun G' c' H' v e' g' r' => h G' c' H' v ((e1.trans e2).trans e') g' r'⟩
              · rw [if_neg hno] at h; exact h.elim
          · rw [if_neg he] at h; exact h.elim
      · rw [if_neg hy] at h; exact h.elim
    | lst _ => exact h.elim
    | dct _ _ => exact h.elim
    | ins _ _ _ => exact h.elim
end
section
variable {X : Cx} {Z : WX} {n k : Nat} {x f y sh a e x1 x2 x3 q : Str} {sg : Scope} {kk : Nat} {word : List Nat} {wS : Str} {shown : FF} {errs : List Str} {catches : Str → Bool} {ds dg : He.DefD} {pss : List Str} {fb : FE} {c : Addr} {pg : Arguments} {bg : List Stmt} {fd : FuncData}
  {p1 p2 p3 p4 p5 p6 p7 p8 p9 p10 p11 p12 p13 p14 p15 p16 p17 tp : Pos} {j1 : _} {params : Arguments} {body : Expr} {scope : Scope} {p lpos pos : Pos}
/-- f(lambda: body), where f is such a def -/
theorem de_caught (F : FunD X.K f f pg [.Try [.Assign [.Name y p1] (.Call (.Name a p2) [] [] p3) p4] [.ExceptHandler (some (.Tuple [.Name x1 p5, .Name x2 p6, .Name x3 p7] kk tp)) (some e) [.Return (some (.Call (.Name sh p8) [.Name e p9] [] p10)) p11] p12] [] [] p13,
      .Return (some (.List [.Constant (.str wS) j1 p14, .Name y p15] p16)) p17] sg [] [] (He.ga X.K f) fd) (hbd : ∀ (s : Shared) (us : List Value), us.length = 1 → BindsTo s fd ⟨us, []⟩ ([a].zip us))
    (Sg : FnScope [a, y, e] [a] sg) (hva : Vis sg a)
    (hN : [a, y, e].Nodup) (hln : sg.names.lookup e = some .local) (hly : sg.names.lookup y = some .local) (hwS : strC wS word = true)
    (gA : sg.names.lookup x1 = some .globalImplicit) (gB : sg.names.lookup x2 = some .globalImplicit) (gC : sg.names.lookup x3 = some .globalImplicit) (gS : sg.names.lookup sh = some .globalImplicit)
    (dA : (x1 == ("__debug__" : Str)) = false) (dB : (x2 == ("__debug__" : Str)) = false) (dC : (x3 == ("__debug__" : Str)) = false) (dS : (sh == ("__debug__" : Str)) = false) (de : (e == ("__debug__" : Str)) = false) (de2 : (e == ("__classdict__" : Str)) = false) (dy : (y == ("__debug__" : Str)) = false) (dy2 : (y == ("__classdict__" : Str)) = false)
    (da : (a == ("__debug__" : Str)) = false) (da2 : (a == ("__classdict__" : Str)) = false)
    (mA : X.mg x1 = some (.ref (He.ga X.K x1))) (mB : X.mg x2 = some (.ref (He.ga X.K x2))) (mC : X.mg x3 = some (.ref (He.ga X.K x3))) (mS : X.mg sh = some (.ref (He.ga X.K sh)))
    (hx : ∀ z ∈ errs, PySem.W.exmAny X.K (.ref (He.ga X.K z)) [.ref (He.ga X.K x1), .ref (He.ga X.K x2), .ref (He.ga X.K x3)] = some (catches z))
    (hgu : X.A.guards = some []) (DS : DefH X.prog X.w X.K X.mg X.base k (He.ga X.K sh) ds pss shown) (room : Room (k + 2) X.A)
    (hm : X.mg f = some (.ref (He.ga X.K f)))
    (B : TabB X.base X.mg c (tabA X.K x)) (hcode : X.env.code = .ref c) (L : LamS X.env.scope scope)
    (hb : ∀ (A : Around) (outer : List PySem.Env) (s : Shared) (H : Hp) (E : XK) (fa c1 : Addr), A.guards = some [] → Room k (A.deeper (lamEnv X scope s.heap.objs.size fa c1)) → DE (lamCx X A outer s H E scope fa c1) (ZE E) body fb)
    (hq : X.env.qual ++ "<lambda>" = lamQ x := by rfl) (hdef : defaultsOf params X.env = ([], []) := by rfl)
    (hbind : ∀ (q : Str) (cl : List (Str × Addr)) (pm cv ctv : Value), bindArgs (PySem.W.kla_fn "<lambda>" q params body scope cl pm cv ctv) ⟨[], []⟩ = pure [] := by intros; rfl)
    (hg : Gl X f := by rfl) (hdb : (f == ("__debug__" : Str)) = false := by decide) :
    DE X Z (.Call (.Name f p) [.Lambda params body scope lpos] [] pos) (fCaught n x word shown errs catches fb) := by
  obtain ⟨oc, od, dV, kV, doc, pm, an, cdv, ct, osl, efd, lk, hcd, _, _⟩ := F.ex
  subst efd
  refine ⟨_, pe_lam3 (t := fun E => canE X.K (ZE E) fb) (TT := TTc X.K word shown errs catches) (Ng := [a, y, e]) (k := k) hg hm F.kp lk hcd ?_ Sg rfl hva hq
    (caught_gives hN hln hly hwS gA gB gC gS dA dB dC dS de de2 dy dy2 mA mB mC mS hx hgu DS (fun s a => ?_)) hgu B hcode room L hdef hbind (fun A outer s H E fa c1 hgA hr => (hb A outer s H E fa c1 hgA hr).can) hdb da da2, ref_caught rfl⟩
  · intro s us _ hl
    rw [List.append_nil] at hl ⊢
    exact hbd s us hl
  · exact ⟨by have := room.dp; show X.A.depth + 1 + 3 * k + 5 < _; omega, by have := room.un; show X.A.units + 3 + 16 * k + 200 < _; omega⟩
end
end DL
end
section
/-! DL: defs that make lambdas; the head with tables of code objects -/
namespace DL
open PySem PySem.Spec PyProof.Rows L2 LamX
def codeF (K : Fg) (f : Addr) : Value := match K.lookup f with
  | some ⟨_, _, .func fd, _⟩ => fd.code
  | _ => .none
theorem codeF_ga {K : Fg} {x : Str} : codeF K (He.ga K x) = codeA K x := rfl
/-- a def by its body; its code object is known -/
theorem fok_ofC {P : Program} {w : World} {K : Fg} {mg : Str → Option Value} {base : Heap} {k : Nat} {f : Addr} {fd : FuncData} {x qual : Str} {params : Arguments} {body : List Stmt} {scope : Scope} {dvs : List V} {kws : List (Str × V)} {N ps : List Str} {n : Nat} {g : FS} (kp : Bool)
    (F : FunD K x qual params body scope dvs kws f fd) (Sc : FnScope N ps scope) (hn : N.length = n)
    (hb : ∀ (cdv : Value), codeF K f = cdv → ∀ (A : Around) (outer : List PySem.Env) (s : Shared) (H : Hp) (E : XK), (A.deeper (envOfC qual scope s.heap.objs.size f cdv)).guards = some [] → Room k (A.deeper (envOfC qual scope s.heap.objs.size f cdv)) →
      DSs (cxOf (L2.CX P w) P w K mg base N qual scope f cdv A outer s H E) (fun cls d _ H => E cls d H) body g) : FOk P w K mg base (k + 1) f fd ps (fnK kp ps.length n g) := by
  subst hn
  obtain ⟨oc, od, dV, kV, doc, pm, an, cdv, ct, osl, rfl, lk, hcd, _, _⟩ := F.ex
  refine ⟨fun A outer s H args us vs Q E hgu hr e0 hbind hl rv hsp => ?_⟩
  obtain ⟨G, c, S, ws, gd, rw', wants⟩ := hsp
  have KX : K.In s.heap := e0.mod.kin.keeps fun b o e => (e0.bs b o e).1
  have lim : s.heap.NoLimit := e0.mod.nolimit.keeps fun b o e => (e0.bs b o e).1
  have hlv : vs.length = ps.length := rv.length.trans hl
  refine codeAny_call_function hr.depth (KX _ _ lk) rfl Sc.co Sc.gen rfl (PySem.W.codeRec_of KX hcd) (hbind _ _ _ _ ?_)
  refine wpAny_newFunctionEnv_cells Sc.kind (fun y hy => ?_) fun env he s1 x => ?_
  · obtain ⟨n1, v1⟩ := y
    rcases Sc.par n1 (List.of_mem_zip hy).1 with q | q
    · exact .inl q
    · exact .inr ⟨q, PySem.W.cellsFrom_some _ _ _ (.inl q)⟩
  subst he
  refine ⟨lim.keeps x.toInCall.keep, codeAny_func ?_⟩
  obtain ⟨t, ht, hq⟩ := hb cdv (by unfold codeF; rw [lk]) A outer s H E hgu (hr.deeper _)
  have I : Inv (cxOf (L2.CX P w) P w K mg base N qual scope f cdv A outer s H E) [] (start N vs) H s1 := inv_start Sc hr.hd e0 hlv rv x
  have hws : ws.length = ps.length := rw'.length.symm.trans hlv
  unfold fnK at wants
  rw [if_pos hws] at wants
  unfold fnB at wants
  rw [← hws] at wants
  have body : t { nx := fun _ H' => Q .non H', rt := FinQ Q } (start N vs) H := by
    refine hq _ S _ H G c _ gd (start_rep rw') ?_
    revert wants
    cases g (ws.map some ++ List.replicate (N.length - ws.length) none) S with
    | no => exact fun h => h
    | bk _ _ => exact fun h => h.elim
    | ct _ _ => exact fun h => h.elim
    | nx ρ' S' => exact fun h G' c' H' σ' e g' _ => h G' c H' _ e.back (g'.back e.cc gd.len) (.d .non)
    | rt w S' => exact fun h G' c' H' v e g' r => finish_ok gd e g' r h
    | ex x ρ' S' => exact fun h G' c' H' σ' cls dx e g' _ rx => h G' c H' cls dx e.back (g'.back e.cc gd.len) rx
  refine wpAny_mono (ht.run [] s1 (start N vs) H _ I body) (fun fl s' hs => ?_) fun e s' hs => hs
  cases fl with
  | ret u =>
    obtain ⟨v, σ', H', J, rv, q⟩ := hs
    rcases q with q | ⟨a, u0, hu, mu, q⟩
    · exact ⟨v, H', J.os, J.bare, J.base, J.hok, rv, q⟩
    · obtain ⟨od, J2⟩ := J.lock hu mu
      exact ⟨v, _, J2.os, J2.bare, J2.base, J2.hok, rv, q od⟩
  | next =>
    obtain ⟨σ', H', J, q⟩ := hs
    exact ⟨.non, H', J.os, J.bare, J.base, J.hok, rfl, q⟩
  | brk => obtain ⟨_, _, _, q⟩ := hs; exact q.elim
  | cont => obtain ⟨_, _, _, q⟩ := hs; exact q.elim
/-! ### what the head tells, with tables -/
/-- what is known at a base -/
structure CtZ (fs : List (Fg → Bool)) (fn : List DefA) (tf : List Str) (K : Fg) (mg : Str → Option Value) (base : Heap) : Prop extends Ct fs fn K mg base where
  tb : ∀ x ∈ tf, ∃ a, codeA K x = .ref a ∧ TabB base mg a (tabA K x)
theorem hdB_ok {K : Fg} {x : Str} {h : Heap} (KX : K.In h) (e : hdB K x = true) : ∃ a, codeA K x = .ref a ∧ PySem.W.CodeHd h a (tabA K x) := by
  unfold hdB at e
  split at e
  · rename_i c q; exact ⟨c, q, PySem.W.codeHd_of_K KX e⟩
  · cases e
/-- the tables of a law's defs, as the first cells of the store -/
def tabS (tf : List Str) : Store := tf.map .tab
theorem law_callZ {P : Program} {w : World} {K : Fg} {mg mb : Str → Option Value} {k : Nat} {fa a : Addr} {fd : FuncData} {x : Str} {F : FF} {s₁ : Shared} {vs : List Value} {ns : List Int} {tf : List Str}
    (KX : K.In s₁.heap) (hns : s₁.heap.Ns mainGlobals mg) (hb : s₁.heap.Ns builtinsNs mb) (hbb : ∀ x : Str, x ≠ "__name__" → mb x = bootBuiltins x) (hlim : s₁.heap.NoLimit) (hg : s₁.gens = #[])
    (T : TabsZ tf s₁.heap K)
    (hbm : ∃ (bm : Addr) (ob : Obj), mg "__builtins__" = some (.ref bm) ∧ bm ≠ builtinsNs ∧ s₁.heap.get? bm = some ob ∧ ob.cls = .type "module" ∧ ob.dict = some builtinsNs ∧ ob.data = .plain)
    (ha : s₁.heap.get? a = some { cls := .type "list", data := .seq vs.toArray }) (hi : IntsAre vs ns) (hl : ns.length ≤ 63) (hr : Room k callerA)
    (hF : ∀ base : Heap, K.In base → base.Ns mainGlobals mg → (∀ x ∈ tf, ∃ a, codeA K x = .ref a ∧ TabB base mg a (tabA K x)) → FOk P w K mg base k fa fd [x] F) (hbind : ∀ (s : Shared) (u : Value), BindsTo s fd ⟨[u], []⟩ [(x, u)])
    (hlaw : ∃ S, F [.d (.scr ns)] (tabS tf) = .ok (.d (.bl true)) S) :
    codeAny (model P w) callerA (.call (.ref fa) ⟨[.ref a], []⟩) (fun r s' => r = .ok (.ret (.bool true)) ∧ OldK s₁.heap s'.heap ∧ s'.os = s₁.os ∧ AllBare s'.gens) s₁ := by
  have rv := vals_ints hi
  have lenV := hi.length
  have hl2 : ns.length ≤ sizeLine := Nat.le_trans hl (by decide)
  -- the tables' addresses
  let TA : List Addr := tf.map (tabA K)
  have isT : ∀ b ∈ TA, s₁.heap.get? b = some { cls := .none, data := .fields #[] } := fun b hb => by
    obtain ⟨y, hy, e⟩ := List.mem_map.mp hb
    rw [← e]; exact T.empty y hy
  have outT : ∀ b ∈ TA, K.lookup b = none := fun b hb => by
    obtain ⟨y, hy, e⟩ := List.mem_map.mp hb
    rw [← e]; exact T.out y hy
  have aT : a ∉ TA := fun z => by
    have q := isT a z
    rw [ha] at q
    have z' : Data.seq vs.toArray _ = Data.fields #[] := congrArg Obj.data (Option.some.inj q)
    cases z'
  have core : ∀ G : Hp, (∀ b o, G b = some o → b = a ∧ ∃ ob xs, o = .frz ob (.lst xs)) → SqL K G a (ns.map V.int) → HOk P w (fun b => if b ∈ TA then some (.tbl #[]) else G b) s₁.heap → (G a ≠ none → K.lookup a = none) →
      codeAny (model P w) callerA (.call (.ref fa) ⟨[.ref a], []⟩) (fun r s' => r = .ok (.ret (.bool true)) ∧ OldK s₁.heap s'.heap ∧ s'.os = s₁.os ∧ AllBare s'.gens) s₁ := by
    intro G hO hS hok hK
    let H : Hp := fun b => if b ∈ TA then some (.tbl #[]) else G b
    have HT : ∀ b ∈ TA, H b = some (.tbl #[]) := fun b hb => if_pos hb
    have HN : ∀ b, b ∉ TA → H b = G b := fun b hb => if_neg hb
    have GT : ∀ b ∈ TA, G b = none := fun b hb => by
      cases q : G b with
      | none => rfl
      | some o => exact absurd ((hO b o q).1 ▸ hb) aT
    have hA : ∀ b, H b ≠ none → b = a ∨ b ∈ TA := fun b hb => by
      by_cases hT : b ∈ TA
      · exact .inr hT
      · rw [HN b hT] at hb
        cases q : G b with
        | none => exact absurd q hb
        | some o => exact .inl (hO b o q).1
    have base_of : ∀ {b : Addr} {o : Obj}, s₁.heap.get? b = some o → H b = none → (hidT s₁.heap H).get? b = some o := fun e n => hidT_get e n
    have noD : ∀ {b : Addr} {o : Obj}, s₁.heap.get? b = some o → (∀ vs n, o.data ≠ .seq vs n) → o.data ≠ .fields #[] → H b = none := fun {b o} e h1 h2 => by
      cases q : H b with
      | none => rfl
      | some u =>
        rcases hA b (by rw [q]; simp) with e' | e'
        · rw [e', ha] at e
          cases e
          exact (h1 _ _ rfl).elim
        · rw [isT b e'] at e
          cases e
          exact (h2 rfl).elim
    have noA : ∀ {b : Addr} {o : Obj} {es : Array DictEntry} {ep : Nat}, s₁.heap.get? b = some o → o.data = .dict es ep → H b = none := fun {b o es ep} e d => noD e (fun vs n z => by rw [d] at z; cases z) fun z => by rw [d] at z; cases z
    have nsK : ∀ {b : Addr} {m : Str → Option Value}, s₁.heap.Ns b m → (hidT s₁.heap H).Ns b m := fun {b m} ⟨o, es, ep, e, d, r⟩ => ⟨o, es, ep, base_of e (noA e d), d, r⟩
    have hKb : K.In (hidT s₁.heap H) := fun b o e => base_of (KX b o e) (by
      cases q : H b with
      | none => rfl
      | some u =>
        by_cases hT : b ∈ TA
        · rw [outT b hT] at e; cases e
        · rw [HN b hT] at q
          have eb := (hO b u q).1
          subst eb
          rw [hK (by rw [q]; simp)] at e; cases e)
    have hM : Mod K mg (hidT s₁.heap H) := ⟨hKb, nsK hns, ⟨mb, nsK hb, hbb⟩, let ⟨mc, h1, h2⟩ := hlim; ⟨mc, nsK h1, h2⟩⟩
    have TB : ∀ y ∈ tf, ∃ c, codeA K y = .ref c ∧ TabB (hidT s₁.heap H) mg c (tabA K y) := fun y hy => by
      obtain ⟨c, ec, cd⟩ := hdB_ok KX (T.hd y hy)
      have hTy := T.empty y hy
      refine ⟨c, ec, ?_, ?_, fun z => ?_⟩
      · obtain ⟨o, us, file, tf', flags, tg, inF, text, tt, e1, r1, r2, r3, r⟩ := cd
        refine ⟨o, us, file, tf', flags, tg, inF, text, tt, base_of e1 (noD e1 (fun vs n z => by rw [r2] at z; cases z) fun z => ?_), r1, r2, r3, r⟩
        rw [r2] at z
        cases z
        simp at r3
      · obtain ⟨bm, ob, b1, b2, b3, b4, b5, b6⟩ := hbm
        refine ⟨bm, ob, b1, b2, fun q => ?_, fun q => ?_, base_of b3 (noD b3 (fun vs n z => by rw [b6] at z; cases z) fun z => by rw [b6] at z; cases z), b4, b5, b6⟩
        · obtain ⟨o, es, ep, e, hd, _⟩ := hns
          rw [q, e] at b3
          cases b3
          rw [hd] at b6
          cases b6
        · rw [q, hTy] at b3
          cases b3
          cases b6
      · obtain ⟨o, es, ep, e, hd, _⟩ := hns
        rw [z, hTy] at e
        cases e
        cases hd
    have hsp : dsp K F [.ref a] H (fun v _ => v = .bl true) fun _ _ _ => False := by
      refine ⟨G, TA, tabS tf, [.d (.scr ns)], ⟨fun b o e => ?_, by simp [TA, tabS], T.nd, fun n b e => ?_⟩, .cons (.d (.scr hS hl)) .nil, ?_⟩
      · rw [HN b (fun z => by rw [GT b z] at e; cases e)]; exact e
      · have hm := List.mem_of_getElem? e
        refine ⟨GT b hm, ?_⟩
        rw [List.getElem?_map] at e
        cases q : tf[n]? with
        | none => rw [q] at e; cases e
        | some y =>
          rw [q] at e
          have ey : tabA K y = b := Option.some.inj e
          refine ⟨.tab y, by rw [tabS, List.getElem?_map, q]; rfl, .tab (HT b hm) ?_ (fun pos cv z => ?_) ey.symm⟩
          · trivial
          · cases z
      · obtain ⟨S, e⟩ := hlaw
        rw [e]
        intro G' c' H' b _ _ r
        cases r with | d r => cases r; rfl
    have e0 : Env0 P w K mg (hidT s₁.heap H) callerA [] s₁ H := ⟨rfl, hM, fun b o e => of_hidT e, Nat.le_of_eq (hidT_size _ _), trivial, fun b hb => absurd (show b ∈ ([] : List Addr) from hb) (by simp), hok, .of_eq hg⟩
    refine codeAny_mono ((hF _ hKb (nsK hns) TB).run callerA [] s₁ H ⟨[.ref a], []⟩ [.ref a] [.ref a] _ _ rfl hr e0 (hbind s₁ (.ref a)) rfl (.cons rfl .nil) hsp) fun r s' h => ?_
    cases r with
    | error e =>
      obtain ⟨_, _, _, _, _, _, _, _, _, _, _, _, z⟩ := h
      exact z.elim
    | ok fl =>
      cases fl with
      | next => exact False.elim h
      | brk => exact False.elim h
      | cont => exact False.elim h
      | ret u =>
        obtain ⟨v, H', os, bare, un, hok', r', q⟩ := h
        have q' : v = .bl true := q
        subst q'
        obtain rfl : u = Value.bool true := r'
        have key : ∀ b o, b ∉ TA → s₁.heap.get? b = some o → s'.heap.get? b = some o := fun b o nb e => by
          cases q : H b with
          | none => exact un.keep b o e q (by intro z; exact absurd (show b ∈ ([] : List Addr) from z) (by simp)) (by simp)
          | some u =>
            have q2 := q
            rw [HN b nb] at q2
            obtain ⟨_, ob, xs, eu⟩ := hO b u q2
            subst eu
            have z2 := un.frzs b ob _ q
            obtain ⟨e1, _⟩ := hok b _ q
            obtain ⟨e2, _⟩ := hok' b _ z2
            rw [e] at e1; cases e1
            exact e2
        have grown : ∀ b ∈ TA, ∃ more : Array Value, s'.heap.get? b = some { cls := .none, data := .fields more } := fun b hb => by
          obtain ⟨more, z⟩ := un.tbls b #[] (HT b hb)
          exact ⟨_, hok' b _ z⟩
        refine ⟨rfl, ⟨fun b o e => ?_, fun b o e => ?_⟩, os, bare⟩
        · by_cases hm : b ∈ TA
          · obtain ⟨more, hmo⟩ := grown b hm
            rw [isT b hm] at e
            cases e
            obtain ⟨y, hy, ey⟩ := List.mem_map.mp hm
            obtain ⟨c, ec, cd⟩ := hdB_ok KX (T.hd y hy)
            rw [ey] at cd
            exact .inr (.inl ⟨(cd.tab (isT b hm)).isCodeTable, rfl, #[], more, rfl, by rw [Array.empty_append]; exact hmo⟩)
          · exact .inl (key b o hm e)
        · by_cases hm : b ∈ TA
          · obtain ⟨more, hmo⟩ := grown b hm
            exact ⟨_, hmo⟩
          · exact ⟨o, key b o hm e⟩
  cases hk : K.lookup a with
  | some o =>
    have e := KX a o hk
    rw [ha] at e
    cases e
    refine core (fun _ => none) (fun b o z => by cases z) (.inr ⟨_, vs.toArray, _, hk, rfl, rfl, rfl, by rw [List.size_toArray, lenV]; exact hl2, by simpa using rv⟩) (fun b u z => ?_) fun z => absurd rfl z
    by_cases hm : b ∈ TA
    · have z' := (if_pos hm).symm.trans z
      cases z'
      exact isT b hm
    · have z' := (if_neg hm).symm.trans z
      cases z'
  | none =>
    refine core (fun b => if b = a then some (.frz { cls := .type "list", data := .seq vs.toArray } (.lst (ns.map V.int))) else none) (fun b o z => ?_) (.inl (.inr ⟨{ cls := .type "list", data := .seq vs.toArray }, if_pos rfl⟩)) (fun b u z => ?_) fun _ => hk
    · by_cases hba : b = a
      · have z' := (if_pos hba).symm.trans z
        cases z'
        exact ⟨hba, _, _, rfl⟩
      · have z' := (if_neg hba).symm.trans z
        cases z'
    · by_cases hm : b ∈ TA
      · have z' := (if_pos hm).symm.trans z
        cases z'
        exact isT b hm
      · have z1 := (if_neg hm).symm.trans z
        by_cases hba : b = a
        · have z' := (if_pos hba).symm.trans z1
          cases z'
          subst hba
          exact ⟨ha, by rw [List.length_map]; exact hl2, vs, _, rv, ha⟩
        · have z' := (if_neg hba).symm.trans z1
          cases z'
theorem walk_ofZ {l : PySem.W.OpenLaw} {k : Nat} {q : Program} {loose : List Str} {XP : (Str → Option Value) → Heap → Prop} {YP : World → Heap → Prop} {d : DefRec} {x : Str} {tf : List Str}
    (hn : l.most = some 63) (hdf : d.params.defaults = []) (hr : Room k callerA)
    (F : ∀ (w : World) (mg : Str → Option Value) (fa : Addr) (h : Heap), YP w h → h.Ns mainGlobals mg → mg d.name = some (.ref fa) →
      ∃ (K : Fg) (fd : FuncData) (F : FF), K.In h ∧ TabsZ tf h K ∧ (∀ (s : Shared) (u : Value), BindsTo s fd ⟨[u], []⟩ [(x, u)]) ∧
        (∀ (ns : List Int), ns.length ≤ 63 → (∀ z ∈ ns, Builtin.Int.intBits z ≤ 1048576) → ∃ S, F [.d (.scr ns)] (tabS tf) = .ok (.d (.bl true)) S) ∧
        ∀ base : Heap, K.In base → base.Ns mainGlobals mg → (∀ x ∈ tf, ∃ a, codeA K x = .ref a ∧ TabB base mg a (tabA K x)) → FOk l.prog w K mg base k fa fd [x] F) :
    PySem.W.WalkO q loose XP YP l.row.toRowW d [] (fun f vs => PySem.call f vs) := by
  refine Att.attach_callB hn hdf fun w s₀ s₁ mg mb fa o pm cd doc a vs ns G Y ho hd hcd hmg hobj hints hlen hbits hg => ?_
  obtain ⟨K, fd, F, KX, T, hb, hlaw, hF⟩ := F w mg fa _ Y G.T.g hmg
  exact law_callZ KX G.T.g G.T.b G.T.builtins G.T.nolimit hg T G.T.bmain hobj hints hlen hr hF hb (hlaw ns hlen hbits)
/-! ### defs, from their bodies -/
section
variable {P : Program} {w : World} {K : Fg} {mg : Str → Option Value} {base : Heap} {fs : List (Fg → Bool)} {fn : List DefA}
/-- .. called while an error is handled -/
theorem def_ofH (c : Ct fs fn K mg base) {N ps : List Str} {g : FS} (k : Nat) (x : DefA) (kp : Bool) (n : Nat) (i : Nat) (hi : fn[i]? = some x) (Sc : FnScope N ps x.d.scope) (hn : N.length = n)
    (hb : ∀ (kV doc pm : Value) (an : Option Addr) (cdv ct : Value) (us : List Value), us.length = ps.length → bindArgs (PySem.W.fnOf x.d.name x.d.qual x.d.params x.d.body x.d.scope .none kV doc pm an cdv ct) ⟨us, []⟩ = pure (ps.zip us))
    (body : ∀ (cdv : Value) (A : Around) (outer : List PySem.Env) (s : Shared) (H : Hp) (E : XK), (A.deeper (envOfC x.d.qual x.d.scope s.heap.objs.size (x.ad K) cdv)).guards = some [] → L2H.RoomH k (A.deeper (envOfC x.d.qual x.d.scope s.heap.objs.size (x.ad K) cdv)) →
      Takes (cxHot (L2.CX P w) P w K mg base N x.d.qual x.d.scope (x.ad K) cdv A outer s H E) (fun cls d _ H => E cls d H) →
      DSs (cxHot (L2.CX P w) P w K mg base N x.d.qual x.d.scope (x.ad K) cdv A outer s H E) (fun cls d _ H => E cls d H) x.d.body g) : DefH P w K mg base (k + 1) (x.ad K) x.d ps (fnK kp ps.length n g) := by
  obtain ⟨fd, F⟩ := c.s.def_ i hi
  exact ⟨⟨fd, F, fokH_of kp F Sc hn fun cdv A outer s H E hgu hr => body cdv A outer s H E hgu hr (takes_of rfl rfl rfl rfl), fun s us hl => FunD.bindsA F hb s us hl⟩, fnK_len⟩
/-- .. that makes lambdas -/
theorem def_ofL (c : Ct fs fn K mg base) {N ps : List Str} {g : FS} (k : Nat) (x : DefA) (kp : Bool) (n : Nat) (i : Nat) (hi : fn[i]? = some x) (Sc : FnScope N ps x.d.scope) (hn : N.length = n)
    (hb : ∀ (kV doc pm : Value) (an : Option Addr) (cdv ct : Value) (us : List Value), us.length = ps.length → bindArgs (PySem.W.fnOf x.d.name x.d.qual x.d.params x.d.body x.d.scope .none kV doc pm an cdv ct) ⟨us, []⟩ = pure (ps.zip us))
    (body : ∀ (cdv : Value), codeF K (x.ad K) = cdv → ∀ (A : Around) (outer : List PySem.Env) (s : Shared) (H : Hp) (E : XK), (A.deeper (envOfC x.d.qual x.d.scope s.heap.objs.size (x.ad K) cdv)).guards = some [] → Room k (A.deeper (envOfC x.d.qual x.d.scope s.heap.objs.size (x.ad K) cdv)) →
      Takes (cxOf (L2.CX P w) P w K mg base N x.d.qual x.d.scope (x.ad K) cdv A outer s H E) (fun cls d _ H => E cls d H) →
      PassesOwn (model P w) (A.deeper (envOfC x.d.qual x.d.scope s.heap.objs.size (x.ad K) cdv)) (envOfC x.d.qual x.d.scope s.heap.objs.size (x.ad K) cdv) (cxOf (L2.CX P w) P w K mg base N x.d.qual x.d.scope (x.ad K) cdv A outer s H E).xe →
      DSs (cxOf (L2.CX P w) P w K mg base N x.d.qual x.d.scope (x.ad K) cdv A outer s H E) (fun cls d _ H => E cls d H) x.d.body g) : Def P w K mg base (k + 1) (x.ad K) x.d ps (fnK kp ps.length n g) := by
  obtain ⟨fd, F⟩ := c.s.def_ i hi
  exact ⟨⟨fd, F, fok_ofC kp F Sc hn fun cdv hcd A outer s H E hgu hr => body cdv hcd A outer s H E hgu hr (takes_of rfl rfl rfl rfl) (passes_of rfl), fun s us hl => FunD.bindsA F hb s us hl⟩, fnK_len⟩
end
end DL
end
section
/-! DL: errors of one's own: what the head tells of them; repr, str as values -/
namespace DL
open PySem PySem.Spec PyProof.Rows L2 LamX DLX
/-! ### classes -/
theorem tail_V : Tail "ValueError" "ValueError.__new__" "ValueError.__init__" (tailT "ValueError") := ⟨F.excBase_ValueError, ⟨_, _, F.store_ValueError⟩, by decide⟩
theorem tail_L : Tail "LookupError" "LookupError.__new__" "LookupError.__init__" (tailT "LookupError") := ⟨F.excBase_LookupError, ⟨_, _, F.store_LookupError⟩, by decide⟩
theorem tail_A : Tail "ArithmeticError" "ArithmeticError.__new__" "ArithmeticError.__init__" (tailT "ArithmeticError") := ⟨F.excBase_ArithmeticError, ⟨_, _, F.store_ArithmeticError⟩, by decide⟩
theorem clsB_ok {K : Fg} {C : Addr} {T : List Value} {newId : String} (h : clsB K C T newId = true) : ∃ nm q N bs bm sn sub ab col dd k0 k1 k2 k3 k5, K.lookup C = some (excClassObj nm q C N bs bm true sn sub ab col dd k0 k1 k2 k3 k5 newId) ∧ ownT T bm = true := by
  unfold clsB at h
  split at h
  · rename_i t dd cd k0 k1 k2 k3 n k5 e
    rw [Bool.and_eq_true, Bool.and_eq_true, Bool.and_eq_true, Bool.and_eq_true] at h
    obtain ⟨h1, h2, h3, h4, h5⟩ := h
    obtain ⟨a1, a2, a3, a4, a5, a6, a7, a8, a9, a10, a11⟩ := cd
    dsimp only at h3 h4 h5
    have h4' : a11 = false := by simpa using h4
    split at h5
    · rename_i C' bm
      rw [Bool.and_eq_true] at h5
      have eC : C' = C := of_decide_eq_true h5.1
      rw [of_decide_eq_true h1, of_decide_eq_true h2, h3, h4', eC] at e
      exact ⟨_, _, _, _, _, _, _, _, _, _, _, _, _, _, _, e, h5.2⟩
    · cases h5
  · cases h
theorem oexB_ok {K : Fg} {x : Str} {T : List Value} {newId : String} (h : oexB K x T newId = true) : Oex K (He.ga K x) T newId := by
  unfold oexB at h
  rw [Bool.and_eq_true, Bool.and_eq_true, Bool.and_eq_true, Bool.and_eq_true] at h
  obtain ⟨h1, h2, h3, h4, h5⟩ := h
  exact ⟨clsB_ok h1, He.eqO_ok h2, of_decide_eq_true h3, of_decide_eq_true h4, h5⟩
structure MkXo (P : Program) (w : World) (K : Fg) (mg : Str → Option Value) (base : Heap) (k : Nat) (C : Addr) (fld : Str) : Prop where
  ok : ∃ B newId initId T fI fd ps, Tail B newId initId T ∧ Oex K C T newId ∧ PySem.W.findIn K (.ref C) "__init__" = some (some (.ref fI)) ∧ PySem.W.typeIn K (.ref fI) = some (.type "function") ∧
    FnOk P w K mg base (L2.CX P w) k fI fd ps (spI C fld) ∧ Binds K fd ps []
theorem MkXo.x {X : Cx} {k : Nat} {C : Addr} {fld : Str} (m : MkXo X.prog X.w X.K X.mg X.base k C fld) : MkX X k C fld := ⟨m.ok⟩
section
variable {P : Program} {w : World} {K : Fg} {mg : Str → Option Value} {base : Heap} {fs : List (Fg → Bool)} {fn : List DefA}
/-- C(x) by __init__(self, f): self.f = f -/
theorem mkx_of (c : Ct fs fn K mg base) {B newId initId : String} {cn f sv : Str} (TL : Tail B newId initId (tailT B)) (i j : Nat) (x : DefA) (hj : fs[j]? = some fun K => excB K cn B newId f) (hi : fn[i]? = some x) (hxa : x.ad = fun K => He.ma K (He.ga K cn) "__init__")
    {p1 p2 p3 p4 : Pos} (hbd : x.d.body = [.Assign [.Attribute (.Name sv p1) f p2] (.Name f p3) p4]) (Sc : FnScope [sv, f] [sv, f] x.d.scope) (hv1 : Vis x.d.scope sv) (hv2 : Vis x.d.scope f)
    (hb : ∀ (kV doc pm : Value) (an : Option Addr) (cdv ct : Value) (us : List Value), us.length = 2 → bindArgs (PySem.W.fnOf x.d.name x.d.qual x.d.params x.d.body x.d.scope .none kV doc pm an cdv ct) ⟨us, []⟩ = pure ([sv, f].zip us))
    (hd1 : (sv == ("__debug__" : Str)) = false := by decide) (hc1 : (sv == ("__classdict__" : Str)) = false := by decide) (hd2 : (f == ("__debug__" : Str)) = false := by decide) (hc2 : (f == ("__classdict__" : Str)) = false := by decide)
    (hs : ∀ env, swapsWith (.Name f p3) (some (.Attribute (.Name sv p1) f p2)) p4.line env = pure false := by intros; rfl) : MkXo P w K mg base 1 (He.ga K cn) f := by
  have h := c.s.fact j hj
  unfold excB iniB at h
  rw [Bool.and_eq_true, Bool.and_eq_true, Bool.and_eq_true] at h
  obtain ⟨h1, ⟨h2, h3⟩, h4⟩ := h
  obtain ⟨fd, F⟩ := c.s.def_ i hi
  rw [hxa] at F
  have hno := He.eqO_ok h4
  have O := oexB_ok h1
  refine ⟨B, newId, initId, tailT B, _, fd, [sv, f], TL, O, He.eqO_ok h2, by simpa [PySem.W.isFn] using h3, ini_of (k := 0) (t := tPut (He.ga K cn) f (tVar 0) (tVar 1) |> fun t => fun D σ H => t D σ H) F Sc rfl (fun cdv A outer s H E hr => ?_) (fun a y H D ha hq => ?_), ?_⟩
  · rw [hbd]
    exact pss_one (ps_put TL O hno (pe_var (i := 0) rfl hv1 hd1 hc1) (pe_var (i := 1) rfl hv2 hd2 hc2) (hs _))
  · exact ⟨y, rfl, V.ref a, rfl, a, rfl, ha, fun dx h1 h2 => hq dx h1 h2 _⟩
  · intro s us _ hl
    rw [List.append_nil] at hl ⊢
    exact FunD.bindsA (ps := [sv, f]) F hb s us hl
end
/-! ### isinstance, except, attributes -/
theorem excCB_ok {K : Fg} {D : Addr} (h : excCB K D = true) : ExcC K D := by
  unfold excCB at h
  simp only [Bool.and_eq_true] at h
  obtain ⟨h1, h2, h3, h4, h5, h6, h7, h8⟩ := h
  exact ⟨He.eqO_ok h1, He.eqO_ok h2, of_decide_eq_true h3, h4, He.eqO_ok h5, He.eqO_ok h6, of_decide_eq_true h7, of_decide_eq_true h8⟩
theorem isxB_ok {K : Fg} {errs xs : List Str} {ts : List String} {sub : Str → Str → Bool} {subT : Str → String → Bool} (h : isxB K errs xs ts sub subT = true) : IsxK K errs xs ts sub subT := by
  unfold isxB at h
  rw [Bool.and_eq_true, Bool.and_eq_true] at h
  obtain ⟨h1, h2, h3⟩ := h
  exact ⟨fun c hc => excCB_ok (List.all_eq_true.mp h1 c hc), fun c hc x hx => of_decide_eq_true (List.all_eq_true.mp (List.all_eq_true.mp h2 c hc) x hx), fun c hc t ht => of_decide_eq_true (List.all_eq_true.mp (List.all_eq_true.mp h3 c hc) t ht)⟩
theorem xfC_of {K : Fg} {D : Addr} (h : ExcC K D) : XfC K D := ⟨h.hg, h.hk, h.hs, h.hd⟩
theorem exmB_ok {K : Fg} {errs : List Str} {x1 x2 x3 : Str} {catches : Str → Bool} (h : exmB K errs [x1, x2, x3] catches = true) : ∀ z ∈ errs, PySem.W.exmAny K (.ref (He.ga K z)) [.ref (He.ga K x1), .ref (He.ga K x2), .ref (He.ga K x3)] = some (catches z) := fun z hz => of_decide_eq_true (List.all_eq_true.mp h z hz)
theorem noatsB_ok {K : Fg} {errs : List Str} {f : Str} (h : noatsB K errs f = true) : ∀ c ∈ errs, PySem.W.findIn K (.ref (He.ga K c)) f = some none := fun c hc => He.eqO_ok (List.all_eq_true.mp h c hc)
section
variable {fs : List (Fg → Bool)} {fn : List DefA} {K : Fg} {mg : Str → Option Value} {base : Heap}
theorem Ct.isx (c : Ct fs fn K mg base) (i : Nat) {errs xs : List Str} {ts : List String} {sub : Str → Str → Bool} {subT : Str → String → Bool} (h : fs[i]? = some (fun K => isxB K errs xs ts sub subT) := by rfl) : IsxK K errs xs ts sub subT := isxB_ok (c.s.fact i h)
theorem Ct.exm (c : Ct fs fn K mg base) (i : Nat) {errs : List Str} {x1 x2 x3 : Str} {catches : Str → Bool} (h : fs[i]? = some (fun K => exmB K errs [x1, x2, x3] catches) := by rfl) : ∀ z ∈ errs, PySem.W.exmAny K (.ref (He.ga K z)) [.ref (He.ga K x1), .ref (He.ga K x2), .ref (He.ga K x3)] = some (catches z) := exmB_ok (c.s.fact i h)
theorem Ct.noats (c : Ct fs fn K mg base) (i : Nat) {errs : List Str} {f : Str} (h : fs[i]? = some (fun K => noatsB K errs f) := by rfl) : ∀ c ∈ errs, PySem.W.findIn K (.ref (He.ga K c)) f = some none := noatsB_ok (c.s.fact i h)
end
theorem hu100H {k : Nat} {A : Around} (hr : L2H.RoomH k A) : A.units + 100 < cLine := by have := hr.un; omega
theorem DefH.mono {P w K mg base j k f d ps} {F : FF} (D : DefH P w K mg base j f d ps F) (h : j ≤ k) : DefH P w K mg base k f d ps F :=
  ⟨let ⟨fd, a, b, c⟩ := D.ok; ⟨fd, a, ⟨fun A outer s H args us vs Q E hg hr => b.run A outer s H args us vs Q E hg (hr.mono h)⟩, c⟩, D.len⟩
theorem ds_raise' {X : Cx} {Z : WX} {k : Nat} {cn fld : Str} {e : Expr} {fs : FL} {p pos pos2 : Pos} (M : MkXo X.prog X.w X.K X.mg X.base k (He.ga X.K cn) fld) (tk : Takes X Z) (hr : Room (k + 1) X.A) (hm : X.mg cn = some (.ref (He.ga X.K cn))) (ha : DA X Z [e] fs) (hc : X.calm = true := by rfl) (hg : Gl X cn := by rfl)
    (hdb : (cn == ("__debug__" : Str)) = false := by decide) (he : starEach [e] X.env = (false, eval e X.env) :: starEach [] X.env := by rfl) (hpl : (backTo pos (starEach [] X.env)).any (·.1) = false := by rfl) :
    DS X Z (.Raise (some (.Call (.Name cn p) [e] [] pos)) none pos2) (fRaise cn fld fs) := ds_raise M.x tk hr hm ha hc hg hdb he hpl
/-! ### repr(x), str(x), of data -/
/-- its text -/
def reprS (x : D) : Option (List Nat) := (toPy x).map fun p => p.shown.cps.toList
def gRepr : FF := fun ws S => match ws with
  | [w] => (match val w S with
    | some x => if reprOk x = true then (match reprS x with
      | some l => if (l.all fun c => decide (c < 1114112)) = true then .ok (.d (.str l)) S else .no
      | none => .no) else .no
    | none => .no)
  | _ => .no
theorem cal_repr {K : Fg} {Z : WX} : CalRef K Z (rReprD K) gRepr := by
  intro σ G c S H vs ws Q g r h
  unfold gRepr at h
  split at h
  · rename_i w
    cases r with
    | @cons v _ vs' _ rv rr =>
    cases rr
    split at h
    · rename_i x ex
      have rx := val_rep g rv ex
      split at h
      · rename_i hx
        obtain ⟨p, ep, dp, a1, a2, a3, a4⟩ := reprOk_dp g.sub rx hx
        split at h
        · rename_i l el
          split at h
          · rename_i hl
            rw [reprS, ep] at el
            have e2 : p.shown.cps.toList = l := Option.some.inj el
            have e3 : p.shown = ⟨l.toArray⟩ := by rw [← e2]
            refine ⟨v, p, rfl, dp, a1, a2, a3, a4, ?_⟩
            rw [e3]
            refine h.ret g (.d (.str ?_ fun z hz => of_decide_eq_true (List.all_eq_true.mp hl z hz)))
            rw [e3] at a4
            simpa [PySem.Str.length] using a4
          · exact h.elim
        · exact h.elim
      · exact h.elim
    · exact h.elim
  · exact h.elim
end DL
end
section
/-! DL: str(x) of data; a def that tries lambdas, told once -/
namespace DL
open PySem PySem.Spec PyProof.Rows L2 LamX DLX
section
variable {X : Cx} {Z : WX}
def rStrD (K : Fg) : List V → Hp → VK → Prop := fun xs H Q => ∃ x, xs = [x] ∧ ((∃ z, x = .str z ∧ Q (.str z) H) ∨ ∃ p, Dp K H x p ∧ p.showable = true ∧ p.hasDict = false ∧ p.depth ≤ 60 ∧ p.shown.length ≤ sizeLine ∧ (∀ z, x ≠ .str z) ∧ Q (.str p.shown) H)
theorem call_strD (hg : X.A.guards = some []) (hu : X.A.units + 100 < cLine) : CallR X (.type "str") (rStrD X.K) := by
  intro pins s σ H xs us Q I r h
  obtain ⟨x, rfl, h⟩ := h
  obtain ⟨u, rfl, rx⟩ := vals1 r
  rcases h with ⟨z, rfl, q⟩ | ⟨p, hd, hs, hn, dp, hz, hns, q⟩
  · obtain ⟨t, rfl⟩ := rx
    exact P.str_of_str ⟨.str z, H, I, ⟨t, rfl⟩, q⟩
  obtain ⟨as, rr⟩ := Dp.reads I p x u hd rx
  have viaRef : ∀ a, u = .ref a → wpAny (model X.prog X.w) X.A (call (.type "str") [u]) (EP X pins σ Q) X.xe s := fun a e => by
    subst e
    exact str_of_reads rr hs (fun z => by rw [hn] at z; cases z) hg (by omega) (fun _ _ e => e) (fun h' u tk hk => ⟨.str p.shown, H, I.kept hk, ⟨_, rfl⟩, q⟩) hz
  cases rr with
  | none => exact P.str_of_none ⟨.str "None", H, I.tok _, ⟨_, rfl⟩, by rw [PyData.shown_none] at q; exact q⟩
  | bool b => exact P.str_of_bool ⟨.str (if b then "True" else "False" : Str), H, I.tok _, ⟨_, by cases b <;> rfl⟩, by rw [PyData.shown_bool] at q; exact q⟩
  | int i t => exact P.str_of_int (by simpa [PyData.showable] using hs) ⟨.str (toString i : String), H, I.tok _, ⟨_, rfl⟩, by rw [PyData.shown_int] at q; exact q⟩
  | str z t =>
    cases hd with
    | str => exact (hns _ rfl).elim
  | list h1 h2 h3 h4 => exact viaRef _ rfl
  | tuple h1 h2 h3 h4 => exact viaRef _ rfl
  | dict h1 h2 h3 h4 h5 => exact viaRef _ rfl
def gStrD : FF := fun ws S => match ws with
  | [w] => (match val w S with
    | some (.str l) => .ok (.d (.str l)) S
    | _ => gRepr [w] S)
  | _ => .no
def isStrD : D → Bool
  | .str _ => true
  | _ => false
theorem cal_strD {K : Fg} : CalRef K Z (rStrD K) gStrD := by
  intro σ G c S H vs ws Q g r h
  unfold gStrD at h
  split at h
  · rename_i w
    have r0 := r
    cases r with
    | @cons v _ vs' _ rv rr =>
    cases rr
    split at h
    · rename_i l ex
      cases val_rep g rv ex with
      | of r1 => cases r1 with | @str _ h1 h2 => exact ⟨_, rfl, .inl ⟨_, rfl, h.ret g (.d (.str h1 h2))⟩⟩
    · rename_i hne
      obtain ⟨x, p, e, a1, a2, a3, a4, a5, q⟩ := cal_repr σ G c S H [v] [w] Q g r0 h
      obtain rfl : v = x := by injection e
      refine ⟨_, rfl, .inr ⟨p, a1, a2, a3, a4, a5, fun z hz => ?_, q⟩⟩
      subst hz
      cases rv with
      | @d _ x rd =>
        cases rd with
        | str h1 h2 => exact hne _ rfl
  · exact h.elim
end
/-! ### a def that tries what it got, told once -/
structure CaughtData where
  y : Str
  sh : Str
  a : Str
  e : Str
  x1 : Str
  x2 : Str
  x3 : Str
  sg : Scope
  kk : Nat
  wS : Str
  ds : He.DefD
  pss : List Str
  pg : Arguments
  p : List Pos
  j1 : Nat
def CaughtData.pos (d : CaughtData) (i : Nat) : Pos := d.p.getD i ⟨0, 0, 0, 0⟩
abbrev CaughtData.body (d : CaughtData) : List Stmt := [.Try [.Assign [.Name d.y (d.pos 1)] (.Call (.Name d.a (d.pos 2)) [] [] (d.pos 3)) (d.pos 4)] [.ExceptHandler (some (.Tuple [.Name d.x1 (d.pos 5), .Name d.x2 (d.pos 6), .Name d.x3 (d.pos 7)] d.kk (d.pos 0))) (some d.e) [.Return (some (.Call (.Name d.sh (d.pos 8)) [.Name d.e (d.pos 9)] [] (d.pos 10))) (d.pos 11)] (d.pos 12)] [] [] (d.pos 13),
      .Return (some (.List [.Constant (.str d.wS) d.j1 (d.pos 14), .Name d.y (d.pos 15)] (d.pos 16))) (d.pos 17)]
def ndb (x : Str) : Bool := !(x == ("__debug__" : Str)) && !(x == ("__classdict__" : Str))
theorem ndb_ok {x : Str} (h : ndb x = true) : (x == ("__debug__" : Str)) = false ∧ (x == ("__classdict__" : Str)) = false := by
  unfold ndb at h
  rw [Bool.and_eq_true] at h
  exact ⟨by simpa using h.1, by simpa using h.2⟩
def visB (sg : Scope) (x : Str) : Bool := decide (sg.names.lookup x = some .local)
structure CaughtD (P : Program) (w : World) (K : Fg) (mg : Str → Option Value) (base : Heap) (k : Nat) (f : Str) (word : List Nat) (shown : FF) (errs : List Str) (catches : Str → Bool) : Prop where
  ok : ∃ (d : CaughtData) (fd : FuncData), FunD K f f d.pg d.body d.sg [] [] (He.ga K f) fd ∧ (∀ (s : Shared) (us : List Value), us.length = 1 → BindsTo s fd ⟨us, []⟩ ([d.a].zip us)) ∧ FnScope [d.a, d.y, d.e] [d.a] d.sg ∧
    d.sg.names.lookup d.a = some .local ∧ d.sg.names.lookup d.e = some .local ∧ d.sg.names.lookup d.y = some .local ∧ strC d.wS word = true ∧
    d.sg.names.lookup d.x1 = some .globalImplicit ∧ d.sg.names.lookup d.x2 = some .globalImplicit ∧ d.sg.names.lookup d.x3 = some .globalImplicit ∧ d.sg.names.lookup d.sh = some .globalImplicit ∧
    (ndb d.x1 = true ∧ ndb d.x2 = true ∧ ndb d.x3 = true ∧ ndb d.sh = true ∧ ndb d.e = true ∧ ndb d.y = true ∧ ndb d.a = true) ∧
    mg d.x1 = some (.ref (He.ga K d.x1)) ∧ mg d.x2 = some (.ref (He.ga K d.x2)) ∧ mg d.x3 = some (.ref (He.ga K d.x3)) ∧ mg d.sh = some (.ref (He.ga K d.sh)) ∧
    (∀ z ∈ errs, PySem.W.exmAny K (.ref (He.ga K z)) [.ref (He.ga K d.x1), .ref (He.ga K d.x2), .ref (He.ga K d.x3)] = some (catches z)) ∧
    DefH P w K mg base k (He.ga K d.sh) d.ds d.pss shown
theorem CaughtD.mono {P w K mg base j k f word shown errs catches} (D : CaughtD P w K mg base j f word shown errs catches) (h : j ≤ k) : CaughtD P w K mg base k f word shown errs catches := by
  obtain ⟨d, fd, a1, a2, a3, a4, a5, a6, a7, a8, a9, a10, a11, a12, a13, a14, a15, a16, a17, a18⟩ := D.ok
  exact ⟨d, fd, a1, a2, a3, a4, a5, a6, a7, a8, a9, a10, a11, a12, a13, a14, a15, a16, a17, a18.mono h⟩
section
variable {X : Cx} {Z : WX} {n k : Nat} {x f : Str} {word : List Nat} {shown : FF} {errs : List Str} {catches : Str → Bool} {fb : FE} {c : Addr} {params : Arguments} {body : Expr} {scope : Scope} {p lpos pos : Pos}
theorem de_caughtC (D : CaughtD X.prog X.w X.K X.mg X.base k f word shown errs catches) (hgu : X.A.guards = some []) (room : Room (k + 2) X.A) (hm : X.mg f = some (.ref (He.ga X.K f)))
    (B : TabB X.base X.mg c (tabA X.K x)) (hcode : X.env.code = .ref c)
    (hb : ∀ (A : Around) (outer : List PySem.Env) (s : Shared) (H : Hp) (E : XK) (fa c1 : Addr), A.guards = some [] → Room k (A.deeper (lamEnv X scope s.heap.objs.size fa c1)) → Takes (lamCx X A outer s H E scope fa c1) (ZE E) → (lamCx X A outer s H E scope fa c1).A.units + 100 < cLine → DE (lamCx X A outer s H E scope fa c1) (ZE E) body fb)
    (L : lamSB X.env.scope scope = true := by rfl)
    (hq : X.env.qual ++ "<lambda>" = lamQ x := by rfl) (hdef : defaultsOf params X.env = ([], []) := by rfl)
    (hbind : ∀ (q : Str) (cl : List (Str × Addr)) (pm cv ctv : Value), bindArgs (PySem.W.kla_fn "<lambda>" q params body scope cl pm cv ctv) ⟨[], []⟩ = pure [] := by intros; rfl)
    (hg : Gl X f := by rfl) (hdb : (f == ("__debug__" : Str)) = false := by decide) :
    DE X Z (.Call (.Name f p) [.Lambda params body scope lpos] [] pos) (fCaught n x word shown errs catches fb) := by
  obtain ⟨d, fd, a1, a2, a3, a4, a5, a6, a7, a8, a9, a10, a11, ⟨b1, b2, b3, b4, b5, b6, b7⟩, a13, a14, a15, a16, a17, a18⟩ := D.ok
  exact de_caught a1 a2 a3 (.inl a4) a3.nd a5 a6 a7 a8 a9 a10 a11 (ndb_ok b1).1 (ndb_ok b2).1 (ndb_ok b3).1 (ndb_ok b4).1 (ndb_ok b5).1 (ndb_ok b5).2 (ndb_ok b6).1 (ndb_ok b6).2 (ndb_ok b7).1 (ndb_ok b7).2 a13 a14 a15 a16 a17 hgu a18 room hm B hcode (lamS_by L)
    (fun A outer s H E fa c1 h1 h2 => hb A outer s H E fa c1 h1 h2 (takes_of rfl rfl rfl rfl) (hu100 h2)) hq hdef hbind hg hdb
end
end DL
end
section
namespace DL
open PySem PySem.Spec PyProof.Rows L2 LamX DLX
/-- where the parts of such a def stand -/
def caughtPos : List Stmt → List Pos × Nat × Nat
  | [.Try [.Assign [.Name _ p1] (.Call (.Name _ p2) [] [] p3) p4] [.ExceptHandler (some (.Tuple [.Name _ p5, .Name _ p6, .Name _ p7] kk tp)) (some _) [.Return (some (.Call (.Name _ p8) [.Name _ p9] [] p10)) p11] p12] [] [] p13, .Return (some (.List [.Constant (.str _) j1 p14, .Name _ p15] p16)) p17] =>
    ([tp, p1, p2, p3, p4, p5, p6, p7, p8, p9, p10, p11, p12, p13, p14, p15, p16, p17], kk, j1)
  | _ => ([], 0, 0)
end DL
end
section
/-! DL: x == (), x == [], whatever x's elements are -/
namespace DL
open PySem PySem.Spec PyProof.Rows L2 LamX DLX
section
variable {X : Cx} {Z : WX} {K : Fg}
def rEqE (K : Fg) : R2 := fun x y H Q => ∃ a b xs, x = .ref a ∧ y = .ref b ∧ ((SqT K H a xs ∧ SqT K H b []) ∨ (SqL K H a xs ∧ SqL K H b [])) ∧ Q (.bl (decide (xs.length = 0))) H
theorem op_eqE (hu : X.A.units + 100 < cLine) : OpR X (compareOp .Eq) (rEqE X.K) := by
  intro pins s σ H x y v u Q I rx ry ⟨a, b, xs, ex, ey, h, q⟩
  subst ex ey
  obtain rfl : v = Value.ref a := rx
  obtain rfl : u = Value.ref b := ry
  rcases h with ⟨h1, h2⟩ | ⟨h1, h2⟩
  · obtain ⟨its, r1, t1, z1⟩ := I.tuple h1
    obtain ⟨its2, r2, t2, z2⟩ := I.tuple h2
    cases r2
    have k := SeqAt.RcAt.tuples (A := X.A) (s := s) (l := a) (b := b) (items := its.toArray) (items2 := ([] : List Value).toArray) (e := fun _ => true) t1 t2 (by omega) (fun j _ h => absurd h (by simp))
    refine k X.prog X.w X.xe _ ⟨.bl _, H, I, rfl, ?_⟩
    have e : (((List.range (min its.toArray.size ([] : List Value).toArray.size)).all fun _ => true) && its.toArray.size == ([] : List Value).toArray.size) = decide (xs.length = 0) := by
      have := r1.length
      rw [this]
      cases its <;> simp
    rw [e]; exact q
  · obtain ⟨its, r1, t1, z1⟩ := I.list h1
    obtain ⟨its2, r2, t2, z2⟩ := I.list h2
    cases r2
    have l1 := r1.length
    have t1 : s.heap.IsList a its.toArray := let ⟨o, n, h1, h2, _, h3⟩ := t1; ⟨o, h1, h2, n, h3⟩
    have t2 : s.heap.IsList b ([] : List Value).toArray := let ⟨o, n, h1, h2, _, h3⟩ := t2; ⟨o, h1, h2, n, h3⟩
    cases its with
    | nil =>
      have k := SeqAt.RcAt.lists (A := X.A) (s := s) (l := a) (b := b) (items := ([] : List Value).toArray) (items2 := ([] : List Value).toArray) (e := fun _ => true) t1 t2 rfl (by omega) (fun j _ h => absurd h (by simp))
      refine k X.prog X.w X.xe _ ⟨.bl _, H, I, rfl, ?_⟩
      have e0 : decide (xs.length = 0) = true := by simpa using l1
      rw [e0] at q
      exact q
    | cons z zs =>
      have k := SeqAt.RcAt.lists_lengths (A := X.A) (s := s) (l := a) (b := b) (items := (z :: zs).toArray) (items2 := ([] : List Value).toArray) t1 t2 (by simp) (by omega)
      refine k X.prog X.w X.xe _ ⟨.bl _, H, I, rfl, ?_⟩
      have e0 : decide (xs.length = 0) = false := by rw [l1]; simp
      rw [e0] at q
      exact q
def gEqED : D → D → Store → R W := fun x y S => if eqOk x y then .ok (.d (.bl (deq x y))) S else match x, y with
  | .tup xs, .tup [] => .ok (.d (.bl (decide (xs.length = 0)))) S
  | .lst xs, .lst [] => .ok (.d (.bl (decide (xs.length = 0)))) S
  | _, _ => .no
abbrev gEqE := gV gEqED
theorem opr_eqE : OpRefD K Z (fun x y H Q => rEqD K x y H Q ∨ rEqE K x y H Q) gEqED := by
  intro σ G c S H x y d1 d2 Q g r1 r2 h
  unfold gEqED at h
  by_cases hk : eqOk d1 d2 = true
  · rw [if_pos hk] at h
    exact .inl (opr_eq σ G c S H x y d1 d2 Q g r1 r2 (by unfold gEqD; rw [if_pos hk]; exact h))
  · rw [if_neg hk] at h
    refine .inr ?_
    split at h
    · cases r1 with | of r1 => cases r1 with | tup s1 q1 z1 =>
      cases r2 with | of r2 => cases r2 with | tup s2 q2 z2 =>
      cases q2
      refine ⟨_, _, _, rfl, rfl, .inl ⟨sqT_sub g.sub s1, sqT_sub g.sub s2⟩, ?_⟩
      rw [q1.length]; exact h.ret g (.d (.bl _))
    · obtain ⟨a, vs, e1, h1, q1, z1⟩ := r1.lst' g.sub
      obtain ⟨b, us, e2, h2, q2, z2⟩ := r2.lst' g.sub
      cases q2
      refine ⟨_, _, _, e1, e2, .inr ⟨.inl (.inl h1), .inl (.inl h2)⟩, ?_⟩
      rw [q1.length]; exact h.ret g (.d (.bl _))
    · exact h.elim
end
theorem o_eqE {X : Cx} (hu : X.A.units + 100 < cLine) : OpR X (compareOp .Eq) (fun x y H Q => rEqD X.K x y H Q ∨ rEqE X.K x y H Q) := (o_eq hu).or (op_eqE hu)
end DL
namespace DL
open PySem PySem.Spec PyProof.Rows L2
/-- a turn that ends the def -/
def stopsFl : Fl → Bool
  | .rt .. | .ex .. => true
  | _ => false
theorem forD_stop {g : FG} {b : FS} {all : List D} (I : Nat → Env → Store → Prop) (q : Nat → Bool) (Φ : Nat → Fl → Prop)
    (st : ∀ i d ρ S, all[i]? = some d → (∀ j, j < i → q j = false) → I i ρ S → ∃ ρ1 S1, g (.d d) ρ S = .ok ρ1 S1 ∧ (q i = true → Φ i (b ρ1 S1) ∧ stopsFl (b ρ1 S1) = true) ∧ (q i = false → ∃ ρ2 S2, b ρ1 S1 = .nx ρ2 S2 ∧ I (i + 1) ρ2 S2)) :
    ∀ (m i : Nat) (ρ : Env) (S : Store), i + m = all.length → (∀ j, j < i → q j = false) → I i ρ S →
      (∃ k, k < all.length ∧ (∀ j, j < k → q j = false) ∧ q k = true ∧ Φ k (forD g b (all.drop i) ρ S)) ∨ ((∀ j, j < all.length → q j = false) ∧ ∃ ρ' S', forD g b (all.drop i) ρ S = .nx ρ' S' ∧ I all.length ρ' S')
  | 0, i, ρ, S, hm, hq, h => by
    have hi : i = all.length := by omega
    subst hi
    refine .inr ⟨hq, ρ, S, ?_, h⟩
    rw [List.drop_length]; rfl
  | m + 1, i, ρ, S, hm, hq, h => by
    have hl : i < all.length := by omega
    obtain ⟨ρ1, S1, e1, ht, hf⟩ := st i all[i] ρ S (List.getElem?_eq_getElem hl) hq h
    rw [List.drop_eq_getElem_cons hl, forD, e1]
    cases hqi : q i with
    | true =>
      obtain ⟨a1, a2⟩ := ht hqi
      refine .inl ⟨i, hl, hq, hqi, ?_⟩
      revert a1 a2
      dsimp only
      cases b ρ1 S1 with
      | rt _ _ => exact fun a1 _ => a1
      | ex _ _ _ => exact fun a1 _ => a1
      | nx _ _ => exact fun _ z => nomatch z
      | bk _ _ => exact fun _ z => nomatch z
      | ct _ _ => exact fun _ z => nomatch z
      | no => exact fun _ z => nomatch z
    | false =>
      obtain ⟨ρ2, S2, e2, h2⟩ := hf hqi
      dsimp only
      rw [e2]
      exact forD_stop I q Φ st m (i + 1) ρ2 S2 (by omega) (fun j hj => by
        by_cases e : j = i
        · subst e; exact hqi
        · exact hq j (by omega)) h2
end DL
end
section
namespace PP
open PySem PySem.Spec PyProof.Rows L2 DL 
def N_is_letter : List Str := ["value"]
def P_is_letter : List Str := ["value"]
def G_is_letter : FS := (fRet (fAndV (fCall (gIsi owns subs) (fCons (fVar 0) (fCons (fK (.ty "str")) fNil))) (fAndV (fBin gEq (fCall gLen (fCons (fVar 0) fNil)) (fK (.d (.int 1)))) (fBin (gIn0 false) (fVar 0) (fK (.d (.str [97, 98, 99, 100, 101, 102, 103, 104, 105, 106, 107, 108, 109, 110, 111, 112, 113, 114, 115, 116, 117, 118, 119, 120, 121, 122])))))))
def F_is_letter : FF := fnK false 1 1 G_is_letter
def N_are_looks : List Str := ["value", "figure", "k"]
def P_are_looks : List Str := ["value"]
def G_are_looks : FS := (fSeq (fIfS (fOrB (fNotB (toB (fCall (gIsi owns subs) (fCons (fVar 0) (fCons (fK (.ty "str")) fNil))))) (fOrB (toB (fBin gEq (fVar 0) (fK (.d (.str []))))) (fNotB (toB (fCall gAll (fCons (fLc (fItemsK (fVar 0)) (.name 1) fYes (fBin (gIn0 false) (fVar 1) (fK (.d (.str [48, 49, 50, 51, 52, 53, 54, 55])))) [1]) fNil)))))) (fRet (fK (.d (.bl false)))) fNext) (fRet (fCall gAll (fCons (fLc (fRange1 (fCons (fBin gSub (fCall gLen (fCons (fVar 0) fNil)) (fK (.d (.int 1)))) fNil)) (.name 2) fYes (fBin gLt (fBin gIx (fVar 0) (fVar 2)) (fBin gIx (fVar 0) (fBin gAdd (fVar 2) (fK (.d (.int 1)))))) [2]) fNil))))
def F_are_looks : FF := fnK false 1 3 G_are_looks
def N_is_pair : List Str := ["value"]
def P_is_pair : List Str := ["value"]
def G_is_pair : FS := (fRet (fAndV (fCall (gIsi owns subs) (fCons (fVar 0) (fCons (fK (.ty "tuple")) fNil))) (fAndV (fBin gEq (fCall gLen (fCons (fVar 0) fNil)) (fK (.d (.int 2)))) (fAndV (fCall F_is_letter (fCons (fBin gIx (fVar 0) (fK (.d (.int 0)))) fNil)) (fCall F_are_looks (fCons (fBin gIx (fVar 0) (fK (.d (.int 1)))) fNil))))))
def F_is_pair : FF := fnK false 1 1 G_is_pair
def N_check_signs : List Str := ["signs", "index", "known", "each"]
def P_check_signs : List Str := ["signs"]
def G_check_signs : FS := (fSeq (fIfS (fOrB (fNotB (toB (fCall (gIsi owns subs) (fCons (fVar 0) (fCons (fK (.ty "tuple")) fNil))))) (toB (fBin gEq (fVar 0) (fTup fNil)))) fNever fNext) (fSeq (fFor (fRange1 (fCons (fCall gLen (fCons (fVar 0) fNil)) fNil)) (gSet 1) (fSeq (fAsg (fLc (fItemsK (fSl (fVar 0) fNoO (fSomeO (fVar 1)))) (.name 3) fYes (fBin gIx (fVar 3) (fK (.d (.int 0)))) [3]) (gSet 2)) (fIfS (fOrB (toB (fBin gEq (fVar 1) (fK (.d (.int 6))))) (fOrB (fNotB (toB (fCall F_is_pair (fCons (fBin gIx (fVar 0) (fVar 1)) fNil)))) (toB (fBin (gIn0 false) (fBin gIx (fBin gIx (fVar 0) (fVar 1)) (fK (.d (.int 0)))) (fVar 2))))) fNever fNext))) (fIfS (toB (fBin gLt (fCall gLen (fCons (fVar 0) fNil)) (fK (.d (.int 2))))) fNever fNext)))
def F_check_signs : FF := fnK false 1 4 G_check_signs
def N_Line___init__ : List Str := ["self", "signs"]
def P_Line___init__ : List Str := ["self", "signs"]
def G_Line___init__ : FS := (fSeq (fExpr (fCall F_check_signs (fCons (fVar 1) fNil))) (fSetF "Line" "lot" (fVar 0) (fVar 1)))
def F_Line___init__ : FF := fnK false 2 2 G_Line___init__
def N_Line___str__ : List Str := ["self", "each"]
def P_Line___str__ : List Str := ["self"]
def E_Line___str___1 : FE := (fBin gAdd (fBin gAdd (fBin gIx (fVar 1) (fK (.d (.int 0)))) (fK (.d (.str [32])))) (fBin gIx (fVar 1) (fK (.d (.int 1)))))
def G_Line___str__ : FS := (fRet (fBM "str" gJoin (fK (.d (.str [10]))) (fCons (fLc (fItemsK (fFld "Line" "lot" (fVar 0))) (.name 1) fYes E_Line___str___1 [1]) fNil)))
def F_Line___str__ : FF := fnK false 1 2 G_Line___str__
def N_Line_letters : List Str := ["self", "each"]
def P_Line_letters : List Str := ["self"]
def G_Line_letters : FS := (fRet (fBM "str" gJoin (fK (.d (.str []))) (fCons (fLc (fItemsK (fFld "Line" "lot" (fVar 0))) (.name 1) fYes (fBin gIx (fVar 1) (fK (.d (.int 0)))) [1]) fNil)))
def F_Line_letters : FF := fnK false 1 2 G_Line_letters
def N_check_looks : List Str := ["looks"]
def P_check_looks : List Str := ["looks"]
def G_check_looks : FS := (fIfS (fNotB (toB (fCall F_are_looks (fCons (fVar 0) fNil)))) fNever fNext)
def F_check_looks : FF := fnK false 1 1 G_check_looks
def N_Line___contains__ : List Str := ["self", "value"]
def P_Line___contains__ : List Str := ["self", "value"]
def G_Line___contains__ : FS := (fRet (fAndV (fCall F_is_letter (fCons (fVar 1) fNil)) (fBin (gIn0 false) (fVar 1) (fProp "Line" F_Line_letters (fVar 0)))))
def F_Line___contains__ : FF := fnK false 2 2 G_Line___contains__
def N_check_sign : List Str := ["line", "sign"]
def P_check_sign : List Str := ["line", "sign"]
def G_check_sign : FS := (fIfS (toB (fBin (gIn2 F_Line___contains__ "Line" true) (fVar 1) (fVar 0))) fNever fNext)
def F_check_sign : FF := fnK false 2 2 G_check_sign
def N_Line_without : List Str := ["self", "sign", "each"]
def P_Line_without : List Str := ["self", "sign"]
def T_Line_without_1 : FB := (toB (fBin gNe (fBin gIx (fVar 2) (fK (.d (.int 0)))) (fVar 1)))
def G_Line_without : FS := (fSeq (fExpr (fCall F_check_sign (fCons (fVar 0) (fCons (fVar 1) fNil)))) (fSeq (fIfS (toB (fBin gEq (fCall gLen (fCons (fFld "Line" "lot" (fVar 0)) fNil)) (fK (.d (.int 2))))) fNever fNext) (fRet (fCallG (fMk "Line" F_Line___init__) 1 0 (fCons (fCall gTuple (fCons (fLc (fItemsK (fFld "Line" "lot" (fVar 0))) (.name 2) T_Line_without_1 (fVar 2) [2]) fNil)) fNil) fNil))))
def F_Line_without : FF := fnK false 2 3 G_Line_without
def N_check_line : List Str := ["value"]
def P_check_line : List Str := ["value"]
def G_check_line : FS := (fIfS (fNotB (toB (fCall (gIsi owns subs) (fCons (fVar 0) (fCons (fK (.glo "Line")) fNil))))) fNever fNext)
def F_check_line : FF := fnK false 1 1 G_check_line
def N_Line_looks_of : List Str := ["self", "sign"]
def P_Line_looks_of : List Str := ["self", "sign"]
def G_Line_looks_of : FS := (fSeq (fExpr (fCall F_check_sign (fCons (fVar 0) (fCons (fVar 1) fNil)))) (fRet (fBin gIx (fBin gIx (fFld "Line" "lot" (fVar 0)) (fBM "str" gSIndex (fProp "Line" F_Line_letters (fVar 0)) (fCons (fVar 1) fNil))) (fK (.d (.int 1))))))
def F_Line_looks_of : FF := fnK false 2 2 G_Line_looks_of
def N_share_look : List Str := ["line", "sign", "other", "figure"]
def P_share_look : List Str := ["line", "sign", "other"]
def G_share_look : FS := (fRet (fCall gAny (fCons (fLc (fItemsK (fMeth "Line" "looks_of" F_Line_looks_of 1 0 (fVar 0) (fCons (fVar 1) fNil) fNil)) (.name 3) fYes (fBin (gIn0 false) (fVar 3) (fMeth "Line" "looks_of" F_Line_looks_of 1 0 (fVar 0) (fCons (fVar 2) fNil) fNil)) [3]) fNil)))
def F_share_look : FF := fnK false 3 4 G_share_look
def N_mixed : List Str := ["line", "sign", "other_sign"]
def P_mixed : List Str := ["line", "sign", "other_sign"]
def G_mixed : FS := (fSeq (fExpr (fCall F_check_line (fCons (fVar 0) fNil))) (fSeq (fExpr (fCall F_check_sign (fCons (fVar 0) (fCons (fVar 1) fNil)))) (fSeq (fExpr (fCall F_check_sign (fCons (fVar 0) (fCons (fVar 2) fNil)))) (fRet (fCall F_share_look (fCons (fVar 0) (fCons (fVar 1) (fCons (fVar 2) fNil))))))))
def F_mixed : FF := fnK false 3 3 G_mixed
def N_mixed_table : List Str := ["line", "found", "sign", "other"]
def P_mixed_table : List Str := ["line"]
def G_mixed_table : FS := (fSeq (fAsg fDctC (gSet 1)) (fSeq (fFor (fItemsK (fProp "Line" F_Line_letters (fVar 0))) (gSet 2) (fAsg (fBM "str" gJoin (fK (.d (.str []))) (fCons (fLc (fItemsK (fProp "Line" F_Line_letters (fVar 0))) (.name 3) (toB (fCall F_share_look (fCons (fVar 0) (fCons (fVar 2) (fCons (fVar 3) fNil))))) (fVar 3) [3]) fNil)) (gIxS (fVar 1) (fVar 2)))) (fRet (fVar 1))))
def F_mixed_table : FF := fnK false 1 4 G_mixed_table
def N_lots_of : List Str := ["letters", "found", "sign", "lot"]
def P_lots_of : List Str := ["letters"]
def G_lots_of : FS := (fSeq (fAsg (fLst (fCons (fK (.d (.str []))) fNil)) (gSet 1)) (fSeq (fFor (fItemsK (fCall gSortA (fCons (fVar 0) fNil))) (gSet 2) (fAsg (fBin gAdd (fVar 1) (fLc (fItemsK (fVar 1)) (.name 3) fYes (fBin gAdd (fVar 3) (fVar 2)) [3])) (gSet 1))) (fRet (fVar 1))))
def F_lots_of : FF := fnK false 1 4 G_lots_of
def N_is_apart : List Str := ["table", "lot", "sign", "other"]
def P_is_apart : List Str := ["table", "lot"]
def G_is_apart : FS := (fRet (fNotV (fCall gAny (fCons (fLc2 (fItemsK (fVar 1)) (.name 2) fYes (fItemsK (fVar 1)) (.name 3) (toB (fBin gNe (fVar 3) (fVar 2))) (fBin (gIn0 false) (fVar 3) (fBin gIx (fVar 0) (fVar 2))) [2, 3] [3]) fNil))))
def F_is_apart : FF := fnK false 2 4 G_is_apart
def N_all_apart : List Str := ["line", "table", "lots", "most", "lot"]
def P_all_apart : List Str := ["line"]
def G_all_apart : FS := (fSeq (fAsg (fCall F_mixed_table (fCons (fVar 0) fNil)) (gSet 1)) (fSeq (fAsg (fLc (fItemsK (fCall F_lots_of (fCons (fProp "Line" F_Line_letters (fVar 0)) fNil))) (.name 4) (toB (fCall F_is_apart (fCons (fVar 1) (fCons (fVar 4) fNil)))) (fVar 4) [4]) (gSet 2)) (fSeq (fAsg (fCall (gAgg maxI) (fCons (fLc (fItemsK (fVar 2)) (.name 4) fYes (fCall gLen (fCons (fVar 4) fNil)) [4]) fNil)) (gSet 3)) (fRet (fCall gSortS (fCons (fLc (fItemsK (fVar 2)) (.name 4) (toB (fBin gEq (fCall gLen (fCons (fVar 4) fNil)) (fVar 3))) (fVar 4) [4]) fNil))))))
def F_all_apart : FF := fnK false 1 5 G_all_apart
def N_most_apart : List Str := ["line"]
def P_most_apart : List Str := ["line"]
def G_most_apart : FS := (fSeq (fExpr (fCall F_check_line (fCons (fVar 0) fNil))) (fRet (fCall gLen (fCons (fBin gIx (fCall F_all_apart (fCons (fVar 0) fNil)) (fK (.d (.int 0)))) fNil))))
def F_most_apart : FF := fnK false 1 1 G_most_apart
def N_is_knot : List Str := ["table", "lot", "sign", "other"]
def P_is_knot : List Str := ["table", "lot"]
def G_is_knot : FS := (fRet (fCall gAll (fCons (fLc2 (fItemsK (fVar 1)) (.name 2) fYes (fItemsK (fVar 1)) (.name 3) fYes (fBin (gIn0 false) (fVar 3) (fBin gIx (fVar 0) (fVar 2))) [2, 3] [3]) fNil)))
def F_is_knot : FF := fnK false 2 4 G_is_knot
def N_all_knots : List Str := ["line", "table", "lots", "found", "lot", "other", "sign"]
def P_all_knots : List Str := ["line"]
def G_all_knots : FS := (fSeq (fAsg (fCall F_mixed_table (fCons (fVar 0) fNil)) (gSet 1)) (fSeq (fAsg (fLc (fItemsK (fSl (fCall F_lots_of (fCons (fProp "Line" F_Line_letters (fVar 0)) fNil)) (fSomeO (fK (.d (.int 1)))) fNoO)) (.name 4) (toB (fCall F_is_knot (fCons (fVar 1) (fCons (fVar 4) fNil)))) (fVar 4) [4]) (gSet 2)) (fSeq (fAsg (fLstC fNil) (gSet 3)) (fSeq (fFor (fItemsK (fVar 2)) (gSet 4) (fIfS (fNotB (toB (fCall gAny (fCons (fLc (fItemsK (fVar 2)) (.name 5) fYes (fAndV (fBin gNe (fVar 5) (fVar 4)) (fCall gAll (fCons (fLc (fItemsK (fVar 4)) (.name 6) fYes (fBin (gIn0 false) (fVar 6) (fVar 5)) [6]) fNil))) [5]) fNil)))) (fExpr (fBM "list" gAppend (fVar 3) (fCons (fVar 4) fNil))) fNext)) (fRet (fCall gSortS (fCons (fVar 3) fNil)))))))
def F_all_knots : FF := fnK false 1 7 G_all_knots
def N_knots : List Str := ["line"]
def P_knots : List Str := ["line"]
def G_knots : FS := (fSeq (fExpr (fCall F_check_line (fCons (fVar 0) fNil))) (fRet (fCall gTuple (fCons (fCall F_all_knots (fCons (fVar 0) fNil)) fNil))))
def F_knots : FF := fnK false 1 1 G_knots
def N_apart : List Str := ["line"]
def P_apart : List Str := ["line"]
def G_apart : FS := (fSeq (fExpr (fCall F_check_line (fCons (fVar 0) fNil))) (fRet (fCall gTuple (fCons (fCall F_all_apart (fCons (fVar 0) fNil)) fNil))))
def F_apart : FF := fnK false 1 1 G_apart
def N_sets_of : List Str := ["things", "size", "found", "thing", "lot"]
def P_sets_of : List Str := ["things", "size"]
def T_sets_of_1 : FB := (toB (fBin gLt (fCall gLen (fCons (fVar 4) fNil)) (fVar 1)))
def E_sets_of_2 : FE := (fBin gAdd (fVar 4) (fTup (fCons (fVar 3) fNil)))
def B_sets_of_3 : FS := (fAsg (fBin gAdd (fVar 2) (fLc (fItemsK (fVar 2)) (.name 4) T_sets_of_1 E_sets_of_2 [4])) (gSet 2))
def T_sets_of_4 : FB := (toB (fBin gEq (fCall gLen (fCons (fVar 4) fNil)) (fVar 1)))
def G_sets_of : FS := (fSeq (fAsg (fLst (fCons (fTup fNil) fNil)) (gSet 2)) (fSeq (fFor (fItemsK (fVar 0)) (gSet 3) B_sets_of_3) (fRet (fLc (fItemsK (fVar 2)) (.name 4) T_sets_of_4 (fVar 4) [4]))))
def F_sets_of : FF := fnK false 2 5 G_sets_of
def N_least_cover : List Str := ["line", "lots", "size", "some", "sign", "lot"]
def P_least_cover : List Str := ["line"]
def E_least_cover_1 : FE := (fBin (gIn0 false) (fVar 4) (fVar 5))
def E_least_cover_2 : FE := (fCall gAny (fCons (fLc (fItemsK (fVar 3)) (.name 5) fYes E_least_cover_1 [5]) fNil))
def B_least_cover_3 : FS := (fIfS (toB (fCall gAll (fCons (fLc (fItemsK (fProp "Line" F_Line_letters (fVar 0))) (.name 4) fYes E_least_cover_2 [4]) fNil))) (fRet (fVar 3)) fNext)
def B_least_cover_4 : FS := (fFor (fItemsK (fCall F_sets_of (fCons (fVar 1) (fCons (fVar 2) fNil)))) (gSet 3) B_least_cover_3)
def G_least_cover : FS := (fSeq (fAsg (fCall F_all_knots (fCons (fVar 0) fNil)) (gSet 1)) (fSeq (fFor (fRange2 (fCons (fK (.d (.int 1))) (fCons (fBin gAdd (fCall gLen (fCons (fVar 1) fNil)) (fK (.d (.int 1)))) fNil))) (gSet 2) B_least_cover_4) (fRet (fCall gTuple (fCons (fVar 1) fNil)))))
def F_least_cover : FF := fnK false 1 6 G_least_cover
def N_cover : List Str := ["line"]
def P_cover : List Str := ["line"]
def G_cover : FS := (fSeq (fExpr (fCall F_check_line (fCons (fVar 0) fNil))) (fRet (fCall F_least_cover (fCons (fVar 0) fNil))))
def F_cover : FF := fnK false 1 1 G_cover
def N_fewest_knots : List Str := ["line"]
def P_fewest_knots : List Str := ["line"]
def G_fewest_knots : FS := (fSeq (fExpr (fCall F_check_line (fCons (fVar 0) fNil))) (fRet (fCall gLen (fCons (fCall F_least_cover (fCons (fVar 0) fNil)) fNil))))
def F_fewest_knots : FF := fnK false 1 1 G_fewest_knots
def N_same_web : List Str := ["one", "other", "first", "second", "sign"]
def P_same_web : List Str := ["one", "other"]
def G_same_web : FS := (fSeq (fExpr (fCall F_check_line (fCons (fVar 0) fNil))) (fSeq (fExpr (fCall F_check_line (fCons (fVar 1) fNil))) (fSeq (fIfS (toB (fBin gNe (fCall gSortA (fCons (fProp "Line" F_Line_letters (fVar 0)) fNil)) (fCall gSortA (fCons (fProp "Line" F_Line_letters (fVar 1)) fNil)))) (fRet (fK (.d (.bl false)))) fNext) (fSeq (fPar 2 3 (fCons (fCall F_mixed_table (fCons (fVar 0) fNil)) (fCons (fCall F_mixed_table (fCons (fVar 1) fNil)) fNil))) (fRet (fCall gAll (fCons (fLc (fItemsK (fProp "Line" F_Line_letters (fVar 0))) (.name 4) fYes (fBin gEq (fCall gSortA (fCons (fBin gIx (fVar 2) (fVar 4)) fNil)) (fCall gSortA (fCons (fBin gIx (fVar 3) (fVar 4)) fNil))) [4]) fNil)))))))
def F_same_web : FF := fnK false 2 5 G_same_web
def N_is_whole : List Str := ["line"]
def P_is_whole : List Str := ["line"]
def G_is_whole : FS := (fRet (fBin gEq (fCall F_most_apart (fCons (fVar 0) fNil)) (fCall F_fewest_knots (fCons (fVar 0) fNil))))
def F_is_whole : FF := fnK false 1 1 G_is_whole
def N_Line___len__ : List Str := ["self"]
def P_Line___len__ : List Str := ["self"]
def G_Line___len__ : FS := (fRet (fCall gLen (fCons (fFld "Line" "lot" (fVar 0)) fNil)))
def F_Line___len__ : FF := fnK false 1 1 G_Line___len__
def N_is_whole_without : List Str := ["line", "lot", "rest", "sign"]
def P_is_whole_without : List Str := ["line", "lot"]
def B_is_whole_without_1 : FS := (fAsg (fMeth "Line" "without" F_Line_without 1 0 (fVar 2) (fCons (fVar 3) fNil) fNil) (gSet 2))
def G_is_whole_without : FS := (fSeq (fAsg (fVar 0) (gSet 2)) (fSeq (fFor (fItemsK (fVar 1)) (gSet 3) B_is_whole_without_1) (fRet (fCall F_is_whole (fCons (fVar 2) fNil)))))
def F_is_whole_without : FF := fnK false 2 4 G_is_whole_without
def N_to_whole : List Str := ["line", "size", "found", "lot"]
def P_to_whole : List Str := ["line"]
def B_to_whole_1 : FS := (fIfS (fAndB (toB (fBin gEq (fCall gLen (fCons (fVar 3) fNil)) (fVar 1))) (toB (fCall F_is_whole_without (fCons (fVar 0) (fCons (fVar 3) fNil))))) (fExpr (fBM "list" gAppend (fVar 2) (fCons (fVar 3) fNil))) fNext)
def B_to_whole_2 : FS := (fSeq (fAsg (fLstC fNil) (gSet 2)) (fSeq (fFor (fItemsK (fCall F_lots_of (fCons (fProp "Line" F_Line_letters (fVar 0)) fNil))) (gSet 3) B_to_whole_1) (fIfS (toB (fBin gNe (fVar 2) (fLst fNil))) (fRet (fCall gTuple (fCons (fCall gSortS (fCons (fVar 2) fNil)) fNil))) fNext)))
def G_to_whole : FS := (fSeq (fExpr (fCall F_check_line (fCons (fVar 0) fNil))) (fSeq (fFor (fRange1 (fCons (fCall (gLenO F_Line___len__ "Line") (fCons (fVar 0) fNil)) fNil)) (gSet 1) B_to_whole_2) (fRet (fTup fNil))))
def F_to_whole : FF := fnK false 1 4 G_to_whole
def N_is_row : List Str := ["line", "value", "sign"]
def P_is_row : List Str := ["line", "value"]
def E_is_row_1 : FE := (fBin (gIn2 F_Line___contains__ "Line" false) (fVar 2) (fVar 0))
def G_is_row : FS := (fSeq (fIfS (fOrB (fNotB (toB (fCall (gIsi owns subs) (fCons (fVar 1) (fCons (fK (.ty "str")) fNil))))) (fNotB (toB (fChain gLe gLe (fK (.d (.int 1))) (fCall gLen (fCons (fVar 1) fNil)) (fK (.d (.int 30))))))) (fRet (fK (.d (.bl false)))) fNext) (fRet (fCall gAll (fCons (fLc (fItemsK (fVar 1)) (.name 2) fYes E_is_row_1 [2]) fNil))))
def F_is_row : FF := fnK false 2 3 G_is_row
def N_check_row : List Str := ["line", "row"]
def P_check_row : List Str := ["line", "row"]
def G_check_row : FS := (fIfS (fNotB (toB (fCall F_is_row (fCons (fVar 0) (fCons (fVar 1) fNil))))) fNever fNext)
def F_check_row : FF := fnK false 2 2 G_check_row
def N_product_of : List Str := ["numbers", "found", "number"]
def P_product_of : List Str := ["numbers"]
def B_product_of_1 : FS := (fAsg (fBin gMul (fVar 1) (fVar 2)) (gSet 1))
def G_product_of : FS := (fSeq (fAsg (fK (.d (.int 1))) (gSet 1)) (fSeq (fFor (fItemsK (fVar 0)) (gSet 2) B_product_of_1) (fRet (fVar 1))))
def F_product_of : FF := fnK false 1 3 G_product_of
def N_rows_mixed : List Str := ["table", "row", "other", "k"]
def P_rows_mixed : List Str := ["table", "row", "other"]
def E_rows_mixed_1 : FE := (fBin (gIn0 false) (fBin gIx (fVar 2) (fVar 3)) (fBin gIx (fVar 0) (fBin gIx (fVar 1) (fVar 3))))
def G_rows_mixed : FS := (fRet (fCall gAll (fCons (fLc (fRange1 (fCons (fCall gLen (fCons (fVar 1) fNil)) fNil)) (.name 3) fYes E_rows_mixed_1 [3]) fNil)))
def F_rows_mixed : FF := fnK false 3 4 G_rows_mixed
def N_is_code : List Str := ["line", "rows", "table", "k", "row"]
def P_is_code : List Str := ["line", "rows"]
def E_is_code_1 : FE := (fCall F_is_row (fCons (fVar 0) (fCons (fVar 4) fNil)))
def E_is_code_2 : FE := (fCall F_rows_mixed (fCons (fVar 2) (fCons (fVar 4) (fCons (fBin gIx (fVar 1) (fVar 3)) fNil))))
def B_is_code_3 : FS := (fSeq (fIfS (fOrB (toB (fBin gNe (fCall gLen (fCons (fBin gIx (fVar 1) (fVar 3)) fNil)) (fCall gLen (fCons (fBin gIx (fVar 1) (fK (.d (.int 0)))) fNil)))) (fAndB (toB (fBin gGt (fVar 3) (fK (.d (.int 0))))) (fNotB (toB (fBin gLt (fBin gIx (fVar 1) (fBin gSub (fVar 3) (fK (.d (.int 1))))) (fBin gIx (fVar 1) (fVar 3))))))) (fRet (fK (.d (.bl false)))) fNext) (fIfS (toB (fCall gAny (fCons (fLc (fItemsK (fSl (fVar 1) fNoO (fSomeO (fVar 3)))) (.name 4) fYes E_is_code_2 [4]) fNil))) (fRet (fK (.d (.bl false)))) fNext))
def G_is_code : FS := (fSeq (fExpr (fCall F_check_line (fCons (fVar 0) fNil))) (fSeq (fIfS (fOrB (fNotB (toB (fCall (gIsi owns subs) (fCons (fVar 1) (fCons (fK (.ty "tuple")) fNil))))) (fOrB (toB (fBin gEq (fVar 1) (fTup fNil))) (fNotB (toB (fCall gAll (fCons (fLc (fItemsK (fVar 1)) (.name 4) fYes E_is_code_1 [4]) fNil)))))) (fRet (fK (.d (.bl false)))) fNext) (fSeq (fAsg (fCall F_mixed_table (fCons (fVar 0) fNil)) (gSet 2)) (fSeq (fFor (fRange1 (fCons (fCall gLen (fCons (fVar 1) fNil)) fNil)) (gSet 3) B_is_code_3) (fRet (fK (.d (.bl true))))))))
def F_is_code : FF := fnK false 2 5 G_is_code
def N_check_rows : List Str := ["line", "rows", "index"]
def P_check_rows : List Str := ["line", "rows"]
def B_check_rows_1 : FS := (fIfS (fOrB (fNotB (toB (fCall F_is_row (fCons (fVar 0) (fCons (fBin gIx (fVar 1) (fVar 2)) fNil))))) (toB (fBin gNe (fCall gLen (fCons (fBin gIx (fVar 1) (fVar 2)) fNil)) (fCall gLen (fCons (fBin gIx (fVar 1) (fK (.d (.int 0)))) fNil))))) fNever fNext)
def G_check_rows : FS := (fSeq (fIfS (fOrB (fNotB (toB (fCall (gIsi owns subs) (fCons (fVar 1) (fCons (fK (.ty "tuple")) fNil))))) (toB (fBin gEq (fVar 1) (fTup fNil)))) fNever fNext) (fFor (fRange1 (fCons (fCall gLen (fCons (fVar 1) fNil)) fNil)) (gSet 2) B_check_rows_1))
def F_check_rows : FF := fnK false 2 3 G_check_rows
def N_is_came : List Str := ["value", "length", "figure"]
def P_is_came : List Str := ["value", "length"]
def E_is_came_1 : FE := (fBin (gIn0 false) (fVar 2) (fK (.d (.str [48, 49, 50, 51, 52, 53, 54, 55]))))
def G_is_came : FS := (fRet (fAndV (fCall (gIsi owns subs) (fCons (fVar 0) (fCons (fK (.ty "str")) fNil))) (fAndV (fBin gEq (fCall gLen (fCons (fVar 0) fNil)) (fVar 1)) (fCall gAll (fCons (fLc (fItemsK (fVar 0)) (.name 2) fYes E_is_came_1 [2]) fNil)))))
def F_is_came : FF := fnK false 2 3 G_is_came
def N_can_come : List Str := ["line", "row", "came", "k"]
def P_can_come : List Str := ["line", "row", "came"]
def E_can_come_1 : FE := (fBin (gIn0 false) (fBin gIx (fVar 2) (fVar 3)) (fMeth "Line" "looks_of" F_Line_looks_of 1 0 (fVar 0) (fCons (fBin gIx (fVar 1) (fVar 3)) fNil) fNil))
def G_can_come : FS := (fRet (fCall gAll (fCons (fLc (fRange1 (fCons (fCall gLen (fCons (fVar 1) fNil)) fNil)) (.name 3) fYes E_can_come_1 [3]) fNil)))
def F_can_come : FF := fnK false 3 4 G_can_come
def N_meant : List Str := ["line", "rows", "came", "row"]
def P_meant : List Str := ["line", "rows", "came"]
def T_meant_1 : FB := (toB (fCall F_can_come (fCons (fVar 0) (fCons (fVar 3) (fCons (fVar 2) fNil)))))
def G_meant : FS := (fSeq (fExpr (fCall F_check_line (fCons (fVar 0) fNil))) (fSeq (fExpr (fCall F_check_rows (fCons (fVar 0) (fCons (fVar 1) fNil)))) (fSeq (fIfS (fNotB (toB (fCall F_is_came (fCons (fVar 2) (fCons (fCall gLen (fCons (fBin gIx (fVar 1) (fK (.d (.int 0)))) fNil)) fNil))))) fNever fNext) (fRet (fCall gTuple (fCons (fCall gSortSet (fCons (fLc (fItemsK (fVar 1)) (.name 3) T_meant_1 (fVar 3) [3]) fNil)) fNil))))))
def F_meant : FF := fnK false 3 4 G_meant
def N_rounds_of : List Str := ["lot", "found", "turn", "begun", "sign"]
def P_rounds_of : List Str := ["lot"]
def I_rounds_of_1 : FI := (fItemsK (fVar 0))
def T_rounds_of_2 : FB := (toB (fBin (gIn0 true) (fVar 4) (fVar 3)))
def E_rounds_of_3 : FE := (fBin gAdd (fVar 3) (fVar 4))
def B_rounds_of_4 : FS := (fAsg (fLc2 (fItemsK (fVar 1)) (.name 3) fYes I_rounds_of_1 (.name 4) T_rounds_of_2 E_rounds_of_3 [3, 4] [4]) (gSet 1))
def G_rounds_of : FS := (fSeq (fAsg (fLst (fCons (fBin gIx (fVar 0) (fK (.d (.int 0)))) fNil)) (gSet 1)) (fSeq (fFor (fRange1 (fCons (fBin gSub (fCall gLen (fCons (fVar 0) fNil)) (fK (.d (.int 1)))) fNil)) (gSet 2) B_rounds_of_4) (fRet (fVar 1))))
def F_rounds_of : FF := fnK false 1 5 G_rounds_of
def N_is_ring : List Str := ["table", "around", "at", "other", "near"]
def P_is_ring : List Str := ["table", "around"]
def B_is_ring_1 : FS := (fSeq (fAsg (fBin (gIn0 false) (fBin gMod (fBin gSub (fVar 2) (fVar 3)) (fK (.d (.int 5)))) (fTup (fCons (fK (.d (.int 0))) (fCons (fK (.d (.int 1))) (fCons (fBin gSub (fK (.d (.int 5))) (fK (.d (.int 1)))) fNil))))) (gSet 4)) (fIfS (toB (fBin gNe (fBin (gIn0 false) (fBin gIx (fVar 1) (fVar 3)) (fBin gIx (fVar 0) (fBin gIx (fVar 1) (fVar 2)))) (fVar 4))) (fRet (fK (.d (.bl false)))) fNext))
def B_is_ring_2 : FS := (fFor (fRange1 (fCons (fK (.d (.int 5))) fNil)) (gSet 3) B_is_ring_1)
def G_is_ring : FS := (fSeq (fFor (fRange1 (fCons (fK (.d (.int 5))) fNil)) (gSet 2) B_is_ring_2) (fRet (fK (.d (.bl true)))))
def F_is_ring : FF := fnK false 2 5 G_is_ring
def N_some_ring : List Str := ["line", "table", "lot", "around"]
def P_some_ring : List Str := ["line"]
def B_some_ring_1 : FS := (fIfS (toB (fCall F_is_ring (fCons (fVar 1) (fCons (fVar 3) fNil)))) (fRet (fVar 3)) fNext)
def B_some_ring_2 : FS := (fIfS (toB (fBin gEq (fCall gLen (fCons (fVar 2) fNil)) (fK (.d (.int 5))))) (fFor (fItemsK (fCall F_rounds_of (fCons (fVar 2) fNil))) (gSet 3) B_some_ring_1) fNext)
def G_some_ring : FS := (fSeq (fAsg (fCall F_mixed_table (fCons (fVar 0) fNil)) (gSet 1)) (fSeq (fFor (fItemsK (fCall F_lots_of (fCons (fProp "Line" F_Line_letters (fVar 0)) fNil))) (gSet 2) B_some_ring_2) (fRet (fK (.d .non)))))
def F_some_ring : FF := fnK false 1 4 G_some_ring
def N_lone_sign : List Str := ["line", "table", "around", "sign", "other"]
def P_lone_sign : List Str := ["line"]
def E_lone_sign_1 : FE := (fBin (gIn0 false) (fVar 4) (fBin gIx (fVar 1) (fVar 3)))
def T_lone_sign_2 : FB := (fNotB (toB (fCall gAny (fCons (fLc (fItemsK (fVar 2)) (.name 4) fYes E_lone_sign_1 [4]) fNil))))
def G_lone_sign : FS := (fSeq (fPar 1 2 (fCons (fCall F_mixed_table (fCons (fVar 0) fNil)) (fCons (fCall F_some_ring (fCons (fVar 0) fNil)) fNil))) (fRet (fBM "str" gJoin (fK (.d (.str []))) (fCons (fLc (fItemsK (fProp "Line" F_Line_letters (fVar 0))) (.name 3) T_lone_sign_2 (fVar 3) [3]) fNil))))
def F_lone_sign : FF := fnK false 1 5 G_lone_sign
def N_worth_of : List Str := ["line"]
def P_worth_of : List Str := ["line"]
def G_worth_of : FS := (fSeq (fIfS (toB (fCall F_is_whole (fCons (fVar 0) fNil))) (fRet (fTup (fCons (fCall gLen (fCons (fBin gIx (fCall F_all_apart (fCons (fVar 0) fNil)) (fK (.d (.int 0)))) fNil)) (fCons (fK (.d (.int 0))) fNil)))) fNext) (fRet (fIf (toB (fBin gNe (fCall F_lone_sign (fCons (fVar 0) fNil)) (fK (.d (.str []))))) (fTup (fCons (fK (.d (.int 1))) (fCons (fK (.d (.int 1))) fNil))) (fTup (fCons (fK (.d (.int 0))) (fCons (fK (.d (.int 1))) fNil))))))
def F_worth_of : FF := fnK false 1 1 G_worth_of
def N_worth : List Str := ["line"]
def P_worth : List Str := ["line"]
def G_worth : FS := (fSeq (fExpr (fCall F_check_line (fCons (fVar 0) fNil))) (fRet (fCall F_worth_of (fCons (fVar 0) fNil))))
def F_worth : FF := fnK false 1 1 G_worth
def N_line_told : List Str := ["text", "part"]
def P_line_told : List Str := ["text"]
def G_line_told : FS := (fSeq (fIfS (fNotB (toB (fCall (gIsi owns subs) (fCons (fVar 0) (fCons (fK (.ty "str")) fNil))))) (fRet (fK (.d .non))) fNext) fNever)
def F_line_told : FF := fnK false 1 2 G_line_told
def N_Line_read : List Str := ["cls", "text", "found"]
def P_Line_read : List Str := ["cls", "text"]
def G_Line_read : FS := (fSeq (fAsg (fCall F_line_told (fCons (fVar 1) fNil)) (gSet 2)) (fSeq (fIfS (toB (fBin (gIsN true) (fVar 2) (fK (.d .non)))) fNever fNext) (fRet (fVar 2))))
def F_Line_read : FF := fnK false 2 3 G_Line_read
def N_is_within : List Str := ["value", "least", "most"]
def P_is_within : List Str := ["value", "least", "most"]
def G_is_within : FS := (fRet (fAndV (fCall (gIsi owns subs) (fCons (fVar 0) (fCons (fK (.ty "int")) fNil))) (fAndV (fNotV (fCall (gIsi owns subs) (fCons (fVar 0) (fCons (fK (.ty "bool")) fNil)))) (fChain gLe gLe (fVar 1) (fVar 0) (fVar 2)))))
def F_is_within : FF := fnK false 3 3 G_is_within
def N_check_number : List Str := ["value", "least", "most"]
def P_check_number : List Str := ["value", "least", "most"]
def G_check_number : FS := (fIfS (fNotB (toB (fCall F_is_within (fCons (fVar 0) (fCons (fVar 1) (fCons (fVar 2) fNil)))))) fNever fNext)
def F_check_number : FF := fnK false 3 3 G_check_number
def N_root_of : List Str := ["number", "low", "high", "middle"]
def P_root_of : List Str := ["number"]
def T_root_of_1 : FB := (toB (fBin gGt (fBin gSub (fVar 2) (fVar 1)) (fK (.d (.int 1)))))
def B_root_of_2 : FS := (fSeq (fAsg (fBin gDiv (fBin gAdd (fVar 1) (fVar 2)) (fK (.d (.int 2)))) (gSet 3)) (fAsg (fIf (toB (fBin gLe (fBin gMul (fVar 3) (fVar 3)) (fVar 0))) (fTup (fCons (fVar 3) (fCons (fVar 2) fNil))) (fTup (fCons (fVar 1) (fCons (fVar 3) fNil)))) (gTupT 2 (gsCons (gSet 1) (gsCons (gSet 2) gsNil)))))
def G_root_of : FS := (fSeq (fPar 1 2 (fCons (fK (.d (.int 0))) (fCons (fBin gAdd (fVar 0) (fK (.d (.int 1)))) fNil))) (fSeq (fWhile T_root_of_1 B_root_of_2 1000000) (fRet (fVar 1))))
def F_root_of : FF := fnK false 1 4 G_root_of
def N_floor_of : List Str := ["pair"]
def P_floor_of : List Str := ["pair"]
def G_floor_of : FS := (fRet (fBin gAdd (fBin gIx (fVar 0) (fK (.d (.int 0)))) (fCall F_root_of (fCons (fBin gMul (fBin gMul (fK (.d (.int 5))) (fBin gIx (fVar 0) (fK (.d (.int 1))))) (fBin gIx (fVar 0) (fK (.d (.int 1))))) fNil))))
def F_floor_of : FF := fnK false 1 1 G_floor_of
def N_power_of : List Str := ["pair", "length", "found", "turn"]
def P_power_of : List Str := ["pair", "length"]
def B_power_of_1 : FS := (fAsg (fTup (fCons (fBin gAdd (fBin gMul (fBin gIx (fVar 2) (fK (.d (.int 0)))) (fBin gIx (fVar 0) (fK (.d (.int 0))))) (fBin gMul (fBin gMul (fK (.d (.int 5))) (fBin gIx (fVar 2) (fK (.d (.int 1))))) (fBin gIx (fVar 0) (fK (.d (.int 1)))))) (fCons (fBin gAdd (fBin gMul (fBin gIx (fVar 2) (fK (.d (.int 0)))) (fBin gIx (fVar 0) (fK (.d (.int 1))))) (fBin gMul (fBin gIx (fVar 2) (fK (.d (.int 1)))) (fBin gIx (fVar 0) (fK (.d (.int 0)))))) fNil))) (gSet 2))
def G_power_of : FS := (fSeq (fAsg (fTup (fCons (fK (.d (.int 1))) (fCons (fK (.d (.int 0))) fNil))) (gSet 2)) (fSeq (fFor (fRange1 (fCons (fVar 1) fNil)) (gSet 3) B_power_of_1) (fRet (fVar 2))))
def F_power_of : FF := fnK false 2 4 G_power_of
def N_check_length : List Str := ["line", "length"]
def P_check_length : List Str := ["line", "length"]
def G_check_length : FS := (fSeq (fExpr (fCall F_check_line (fCons (fVar 0) fNil))) (fSeq (fExpr (fCall F_check_number (fCons (fVar 1) (fCons (fK (.d (.int 1))) (fCons (fK (.d (.int 30))) fNil))))) (fIfS (fAndB (toB (fBin gGt (fVar 1) (fK (.d (.int 2))))) (fNotB (toB (fCall F_is_whole (fCons (fVar 0) fNil))))) fNever fNext)))
def F_check_length : FF := fnK false 2 2 G_check_length
def N_most_of : List Str := ["line", "length", "single"]
def P_most_of : List Str := ["line", "length"]
def G_most_of : FS := (fSeq (fAsg (fCall gLen (fCons (fBin gIx (fCall F_all_apart (fCons (fVar 0) fNil)) (fK (.d (.int 0)))) fNil)) (gSet 2)) (fSeq (fIfS (fOrB (toB (fBin gEq (fVar 1) (fK (.d (.int 1))))) (toB (fCall F_is_whole (fCons (fVar 0) fNil)))) (fRet (fCall F_product_of (fCons (fBin gMulL (fLst (fCons (fVar 2) fNil)) (fVar 1)) fNil))) fNext) (fRet (fIf (toB (fBin gEq (fCall F_lone_sign (fCons (fVar 0) fNil)) (fK (.d (.str []))))) (fK (.d (.int 5))) (fK (.d (.int 10)))))))
def F_most_of : FF := fnK false 2 3 G_most_of
def N_between : List Str := ["line", "length", "low"]
def P_between : List Str := ["line", "length"]
def G_between : FS := (fSeq (fExpr (fCall F_check_line (fCons (fVar 0) fNil))) (fSeq (fExpr (fCall F_check_number (fCons (fVar 1) (fCons (fK (.d (.int 1))) (fCons (fK (.d (.int 30))) fNil))))) (fSeq (fAsg (fCall F_product_of (fCons (fBin gAdd (fBin gMulL (fLst (fCons (fCall F_most_of (fCons (fVar 0) (fCons (fK (.d (.int 2))) fNil))) fNil)) (fBin gDiv (fVar 1) (fK (.d (.int 2))))) (fBin gMulL (fLst (fCons (fCall F_most_of (fCons (fVar 0) (fCons (fK (.d (.int 1))) fNil))) fNil)) (fBin gMod (fVar 1) (fK (.d (.int 2)))))) fNil)) (gSet 2)) (fRet (fTup (fCons (fVar 2) (fCons (fCall F_floor_of (fCons (fCall F_power_of (fCons (fCall F_worth_of (fCons (fVar 0) fNil)) (fCons (fVar 1) fNil))) fNil)) fNil)))))))
def F_between : FF := fnK false 2 3 G_between
def N_ring_pairs : List Str := ["line", "around", "lone", "found", "sign", "k"]
def P_ring_pairs : List Str := ["line"]
def E_ring_pairs_1 : FE := (fBin gAdd (fBin gIx (fVar 1) (fVar 5)) (fBin gIx (fVar 1) (fBin gMod (fBin gMul (fK (.d (.int 2))) (fVar 5)) (fK (.d (.int 5))))))
def E_ring_pairs_2 : FE := (fBin gAdd (fBin gIx (fVar 1) (fVar 5)) (fBin gIx (fVar 1) (fBin gMod (fBin gMul (fK (.d (.int 2))) (fVar 5)) (fK (.d (.int 5))))))
def B_ring_pairs_3 : FS := (fAsg (fBin gAdd (fVar 3) (fLst (fCons (fBin gAdd (fVar 4) (fBin gIx (fVar 1) (fK (.d (.int 0))))) (fCons (fBin gAdd (fVar 4) (fBin gIx (fVar 1) (fK (.d (.int 2))))) (fCons (fBin gAdd (fBin gIx (fVar 1) (fK (.d (.int 0)))) (fVar 4)) (fCons (fBin gAdd (fBin gIx (fVar 1) (fK (.d (.int 2)))) (fVar 4)) (fCons (fBin gAdd (fVar 4) (fVar 4)) fNil))))))) (gSet 3))
def G_ring_pairs : FS := (fSeq (fPar 1 2 (fCons (fCall F_some_ring (fCons (fVar 0) fNil)) (fCons (fCall F_lone_sign (fCons (fVar 0) fNil)) fNil))) (fSeq (fAsg (fLc (fRange1 (fCons (fK (.d (.int 5))) fNil)) (.name 5) fYes E_ring_pairs_1 [5]) (gSet 3)) (fSeq (fFor (fItemsK (fVar 2)) (gSet 4) B_ring_pairs_3) (fRet (fVar 3)))))
def F_ring_pairs : FF := fnK false 1 6 G_ring_pairs
def N_code_of : List Str := ["line", "length", "found", "turn", "row", "sign"]
def P_code_of : List Str := ["line", "length"]
def I_code_of_1 : FI := (fItemsK (fBin gIx (fCall F_all_apart (fCons (fVar 0) fNil)) (fK (.d (.int 0)))))
def E_code_of_2 : FE := (fBin gAdd (fVar 4) (fVar 5))
def B_code_of_3 : FS := (fAsg (fLc2 (fItemsK (fVar 2)) (.name 4) fYes I_code_of_1 (.name 5) fYes E_code_of_2 [4, 5] [5]) (gSet 2))
def G_code_of : FS := (fSeq (fIfS (fAndB (toB (fBin gEq (fVar 1) (fK (.d (.int 2))))) (fNotB (toB (fCall F_is_whole (fCons (fVar 0) fNil))))) (fRet (fCall gTuple (fCons (fCall gSortS (fCons (fCall F_ring_pairs (fCons (fVar 0) fNil)) fNil)) fNil))) fNext) (fSeq (fAsg (fLst (fCons (fK (.d (.str []))) fNil)) (gSet 2)) (fSeq (fFor (fRange1 (fCons (fVar 1) fNil)) (gSet 3) B_code_of_3) (fRet (fCall gTuple (fCons (fCall gSortS (fCons (fVar 2) fNil)) fNil))))))
def F_code_of : FF := fnK false 2 6 G_code_of
def N_code : List Str := ["line", "length", "many"]
def P_code : List Str := ["line", "length"]
def G_code : FS := (fSeq (fExpr (fCall F_check_length (fCons (fVar 0) (fCons (fVar 1) fNil)))) (fSeq (fAsg (fCall F_most_of (fCons (fVar 0) (fCons (fVar 1) fNil))) (gSet 2)) (fSeq (fIfS (toB (fBin gGt (fVar 2) (fK (.d (.int 64))))) fNever fNext) (fRet (fCall F_code_of (fCons (fVar 0) (fCons (fVar 1) fNil)))))))
def F_code : FF := fnK false 2 3 G_code
def N_Line_looks : List Str := ["self", "figure", "each"]
def P_Line_looks : List Str := ["self"]
def E_Line_looks_1 : FE := (fBin (gIn0 false) (fVar 1) (fBin gIx (fVar 2) (fK (.d (.int 1)))))
def T_Line_looks_2 : FB := (toB (fCall gAny (fCons (fLc (fItemsK (fFld "Line" "lot" (fVar 0))) (.name 2) fYes E_Line_looks_1 [2]) fNil)))
def G_Line_looks : FS := (fRet (fBM "str" gJoin (fK (.d (.str []))) (fCons (fLc (fItemsK (fK (.d (.str [48, 49, 50, 51, 52, 53, 54, 55])))) (.name 1) T_Line_looks_2 (fVar 1) [1]) fNil)))
def F_Line_looks : FF := fnK false 1 3 G_Line_looks
def N_is_look : List Str := ["value"]
def P_is_look : List Str := ["value"]
def G_is_look : FS := (fRet (fAndV (fCall (gIsi owns subs) (fCons (fVar 0) (fCons (fK (.ty "str")) fNil))) (fAndV (fBin gEq (fCall gLen (fCons (fVar 0) fNil)) (fK (.d (.int 1)))) (fBin (gIn0 false) (fVar 0) (fK (.d (.str [48, 49, 50, 51, 52, 53, 54, 55])))))))
def F_is_look : FF := fnK false 1 1 G_is_look
def N_is_seen_pair : List Str := ["value"]
def P_is_seen_pair : List Str := ["value"]
def G_is_seen_pair : FS := (fRet (fAndV (fCall (gIsi owns subs) (fCons (fVar 0) (fCons (fK (.ty "tuple")) fNil))) (fAndV (fBin gEq (fCall gLen (fCons (fVar 0) fNil)) (fK (.d (.int 2)))) (fAndV (fCall F_is_letter (fCons (fBin gIx (fVar 0) (fK (.d (.int 0)))) fNil)) (fCall F_is_look (fCons (fBin gIx (fVar 0) (fK (.d (.int 1)))) fNil))))))
def F_is_seen_pair : FF := fnK false 1 1 G_is_seen_pair
def N_check_seen : List Str := ["value", "index"]
def P_check_seen : List Str := ["value"]
def B_check_seen_1 : FS := (fIfS (fOrB (toB (fBin gEq (fVar 1) (fK (.d (.int 40))))) (fNotB (toB (fCall F_is_seen_pair (fCons (fBin gIx (fVar 0) (fVar 1)) fNil))))) fNever fNext)
def G_check_seen : FS := (fSeq (fIfS (fOrB (fNotB (toB (fCall (gIsi owns subs) (fCons (fVar 0) (fCons (fK (.ty "tuple")) fNil))))) (toB (fBin gEq (fVar 0) (fTup fNil)))) fNever fNext) (fFor (fRange1 (fCons (fCall gLen (fCons (fVar 0) fNil)) fNil)) (gSet 1) B_check_seen_1))
def F_check_seen : FF := fnK false 1 2 G_check_seen
def N_letters_seen : List Str := ["seen", "pair"]
def P_letters_seen : List Str := ["seen"]
def E_letters_seen_1 : FE := (fBin gIx (fVar 1) (fK (.d (.int 0))))
def G_letters_seen : FS := (fRet (fCall gSortSet (fCons (fLc (fItemsK (fVar 0)) (.name 1) fYes E_letters_seen_1 [1]) fNil)))
def F_letters_seen : FF := fnK false 1 2 G_letters_seen
def N_looks_seen : List Str := ["seen", "sign", "figure"]
def P_looks_seen : List Str := ["seen", "sign"]
def T_looks_seen_1 : FB := (toB (fBin (gIn0 false) (fTup (fCons (fVar 1) (fCons (fVar 2) fNil))) (fVar 0)))
def G_looks_seen : FS := (fRet (fBM "str" gJoin (fK (.d (.str []))) (fCons (fLc (fItemsK (fK (.d (.str [48, 49, 50, 51, 52, 53, 54, 55])))) (.name 2) T_looks_seen_1 (fVar 2) [2]) fNil)))
def F_looks_seen : FF := fnK false 2 3 G_looks_seen
def N_surely_mixed : List Str := ["seen", "found", "own", "k", "other", "figure"]
def P_surely_mixed : List Str := ["seen"]
def E_surely_mixed_1 : FE := (fBin (gIn0 false) (fVar 5) (fCall F_looks_seen (fCons (fVar 0) (fCons (fVar 4) fNil))))
def B_surely_mixed_2 : FS := (fIfS (toB (fCall gAny (fCons (fLc (fItemsK (fCall F_looks_seen (fCons (fVar 0) (fCons (fBin gIx (fVar 2) (fVar 3)) fNil)))) (.name 5) fYes E_surely_mixed_1 [5]) fNil))) (fExpr (fBM "list" gAppend (fVar 1) (fCons (fTup (fCons (fBin gIx (fVar 2) (fVar 3)) (fCons (fVar 4) fNil))) fNil))) fNext)
def B_surely_mixed_3 : FS := (fFor (fItemsK (fSl (fVar 2) (fSomeO (fBin gAdd (fVar 3) (fK (.d (.int 1))))) fNoO)) (gSet 4) B_surely_mixed_2)
def G_surely_mixed : FS := (fSeq (fExpr (fCall F_check_seen (fCons (fVar 0) fNil))) (fSeq (fPar 1 2 (fCons (fLstC fNil) (fCons (fCall F_letters_seen (fCons (fVar 0) fNil)) fNil))) (fSeq (fFor (fRange1 (fCons (fCall gLen (fCons (fVar 2) fNil)) fNil)) (gSet 3) B_surely_mixed_3) (fRet (fCall gTuple (fCons (fVar 1) fNil))))))
def F_surely_mixed : FF := fnK false 1 6 G_surely_mixed
def N_fits : List Str := ["line", "seen", "pair"]
def P_fits : List Str := ["line", "seen"]
def E_fits_1 : FE := (fAndV (fBin (gIn2 F_Line___contains__ "Line" false) (fBin gIx (fVar 2) (fK (.d (.int 0)))) (fVar 0)) (fBin (gIn0 false) (fBin gIx (fVar 2) (fK (.d (.int 1)))) (fMeth "Line" "looks_of" F_Line_looks_of 1 0 (fVar 0) (fCons (fBin gIx (fVar 2) (fK (.d (.int 0)))) fNil) fNil)))
def G_fits : FS := (fSeq (fExpr (fCall F_check_line (fCons (fVar 0) fNil))) (fSeq (fExpr (fCall F_check_seen (fCons (fVar 1) fNil))) (fRet (fCall gAll (fCons (fLc (fItemsK (fVar 1)) (.name 2) fYes E_fits_1 [2]) fNil)))))
def F_fits : FF := fnK false 2 3 G_fits
def N_most : List Str := ["line", "length"]
def P_most : List Str := ["line", "length"]
def G_most : FS := (fSeq (fExpr (fCall F_check_length (fCons (fVar 0) (fCons (fVar 1) fNil)))) (fRet (fCall F_most_of (fCons (fVar 0) (fCons (fVar 1) fNil)))))
def F_most : FF := fnK false 2 2 G_most
end PP
end
section
namespace PP
open PySem PySem.Spec PyProof.Rows L2 DL 
/-- the jar at n -/
def Jar (n : Nat) (S : Store) : Prop := ∃ a b c : Int, 0 ≤ a ∧ S[n]? = some (.lst [.int a, .int b, .int c])
/-- only the cell n is another -/
structure Oth (n : Nat) (S S' : Store) : Prop where
  len : S'.length = S.length
  at_ : ∀ m, m ≠ n → S'[m]? = S[m]?
theorem Oth.refl {n : Nat} {S : Store} : Oth n S S := ⟨rfl, fun _ _ => rfl⟩
theorem Oth.trans {n : Nat} {A B C : Store} (x : Oth n A B) (y : Oth n B C) : Oth n A C := ⟨y.len.trans x.len, fun m h => (y.at_ m h).trans (x.at_ m h)⟩
theorem Oth.set {n : Nat} {S : Store} {c : Cell} : Oth n S (S.set n c) := ⟨by simp, fun m h => List.getElem?_set_ne (Ne.symm h)⟩
theorem Oth.take {n k : Nat} {S S' : Store} (x : Oth n S S') : Oth n (S.take k) (S'.take k) := ⟨by simp [x.len], fun m h => by
  rw [List.getElem?_take, List.getElem?_take, x.at_ m h]⟩
theorem fin_id {S : Store} : S.take S.length = S := List.take_length
theorem oth_take {n : Nat} {S S' : Store} (o : Oth n S S') : S'.take S.length = S' := List.take_of_length_le (by rw [o.len]; exact Nat.le_refl _)
theorem seqIndex_nat {i n : Nat} (h : i < n) : seqIndex? (i : Int) n = some i := by
  unfold seqIndex?
  simp
  omega
theorem popAt {S : Store} {k i : Nat} {ds : List D} {d : D} (h : S[k]? = some (.lst ds)) (hd : ds[i]? = some d) (hi : i < 2 ^ 62) : gPopAt [.loc k, .d (.int i)] S = .ok (.d d) (S.set k (.lst (ds.eraseIdx i))) := by
  have hl : i < ds.length := (List.getElem?_eq_some_iff.mp hd).1
  have hs : small62 (i : Int) = true := small_nat (by omega)
  simp [gPopAt, h, seqIndex_nat hl, hd, hs]
theorem map_erase {α β : Type} (f : α → β) : ∀ (l : List α) (i : Nat), (l.map f).eraseIdx i = (l.eraseIdx i).map f
  | [], _ => rfl
  | a :: l, 0 => rfl
  | a :: l, i + 1 => by rw [List.map_cons, List.eraseIdx_cons_succ, List.eraseIdx_cons_succ, List.map_cons, map_erase f l i]
theorem perm_pop {r : List Nat} {i : Nat} {c : Nat} (h : r[i]? = some c) : (c :: r.eraseIdx i).Perm r := by
  induction r generalizing i with
  | nil => simp at h
  | cons a r ih =>
    cases i with
    | zero => simp at h; subst h; exact .refl _
    | succ i =>
      rw [List.eraseIdx_cons_succ]
      exact (List.Perm.swap a c _).trans ((ih (by simpa using h)).cons a)
/-- a line: its signs, each with its looks -/
abbrev Ln := List (Nat × List Nat)
def pD (p : Nat × List Nat) : D := .tup [.str [p.1], .str p.2]
def lnD (l : Ln) : List D := l.map pD
abbrev digits : List Nat := [48, 49, 50, 51, 52, 53, 54, 55]
abbrev abc : List Nat := [97, 98, 99, 100, 101, 102, 103, 104, 105, 106, 107, 108, 109, 110, 111, 112, 113, 114, 115, 116, 117, 118, 119, 120, 121, 122]
def LooksOk (l : List Nat) : Prop := l ≠ [] ∧ l.Sublist digits
structure LOk (l : Ln) : Prop where
  lo : 2 ≤ l.length
  hi : l.length ≤ 6
  nd : (l.map (·.1)).Nodup
  le : ∀ p ∈ l, p.1 ∈ abc
  lk : ∀ p ∈ l, LooksOk p.2
theorem glyph_abc {c : Nat} (h : c ∈ [97, 98, 99, 100, 101, 102, 109, 110, 120, 121, 122]) : c ∈ abc := by
  have : [97, 98, 99, 100, 101, 102, 109, 110, 120, 121, 122].all (fun c => decide (c ∈ abc)) = true := by decide
  exact of_decide_eq_true (List.all_eq_true.mp this c h)
abbrev g11 : List Nat := [97, 98, 99, 100, 101, 102, 109, 110, 120, 121, 122]
theorem jar_lt {n : Nat} {S : Store} (h : Jar n S) : n < S.length := by obtain ⟨a, b, c, _, hS⟩ := h; exact (List.getElem?_eq_some_iff.mp hS).1
theorem Oth.app {n : Nat} {B cs S' : Store} (hn : n < B.length) (o : Oth n (B ++ cs) S') : ∃ B', S' = B' ++ cs ∧ Oth n B B' := by
  have hl : S'.length = B.length + cs.length := by rw [o.len, List.length_append]
  refine ⟨S'.take B.length, ?_, ⟨by rw [List.length_take, hl]; omega, fun m hm => ?_⟩⟩
  · apply List.ext_getElem?
    intro m
    by_cases hb : m < B.length
    · rw [List.getElem?_append_left (by rw [List.length_take, hl]; omega), List.getElem?_take_of_lt hb]
    · have e : (S'.take B.length).length = B.length := by rw [List.length_take, hl]; omega
      rw [List.getElem?_append_right (by omega), e, o.at_ m (by omega), List.getElem?_append_right (by omega)]
  · by_cases hb : m < B.length
    · rw [List.getElem?_take_of_lt hb, o.at_ m hm, List.getElem?_append_left hb]
    · rw [List.getElem?_eq_none (by rw [List.length_take]; omega), List.getElem?_eq_none (by omega)]
theorem Jar.app {n : Nat} {B cs : Store} (h : Jar n B) : Jar n (B ++ cs) := by
  have hn := jar_lt h
  obtain ⟨a, b, c, h0, hS⟩ := h
  exact ⟨a, b, c, h0, by rw [List.getElem?_append_left hn]; exact hS⟩
theorem Jar.of_app {n : Nat} {B cs : Store} (hn : n < B.length) (h : Jar n (B ++ cs)) : Jar n B := by
  obtain ⟨a, b, c, h0, hS⟩ := h
  exact ⟨a, b, c, h0, by rw [List.getElem?_append_left hn] at hS; exact hS⟩
abbrev d1s (l : List Nat) : List D := l.map fun c => .str [c]
/-! ### the five signs -/
theorem looks_sort {l : List Nat} (h : l ≠ []) (hn : l.Nodup) (hd : ∀ c ∈ l, c ∈ digits) : LooksOk (sortN l) := by
  refine ⟨fun e => h ?_, ?_⟩
  · have := (sortN_perm l).length_eq
    rw [e] at this
    exact List.eq_nil_of_length_eq_zero this.symm
  · have e : digits = List.range' 48 8 := by decide
    rw [e]
    refine sub_range 8 48 _ (lt_of_le_nd (sortN_sorted l) ((sortN_perm l).nodup_iff.mpr hn)) fun c hc => ?_
    have := hd c ((sortN_perm l).mem_iff.mp hc)
    rw [e, List.mem_range'_1] at this
    exact this
theorem perm_popD {α : Type} {r : List α} {i : Nat} {c : α} (h : r[i]? = some c) : (c :: r.eraseIdx i).Perm r := by
  induction r generalizing i with
  | nil => simp at h
  | cons a r ih =>
    cases i with
    | zero => simp at h; subst h; exact .refl _
    | succ i =>
      rw [List.eraseIdx_cons_succ]
      exact (List.Perm.swap a c _).trans ((ih (by simpa using h)).cons a)
theorem LOk.perm {l m : Ln} (h : LOk l) (p : m.Perm l) : LOk m := ⟨by rw [p.length_eq]; exact h.lo, by rw [p.length_eq]; exact h.hi, (p.map _).nodup_iff.mpr h.nd, fun q hq => h.le q (p.mem_iff.mp hq), fun q hq => h.lk q (p.mem_iff.mp hq)⟩
theorem cut_to {α : Type} {xs : List α} {n : Nat} : cutL xs none (some (n : Int)) = xs.take n := by
  unfold cutL
  rw [HT.sIx_none, HT.sIx_nat, List.drop_zero, Nat.sub_zero]
  by_cases h : n ≤ xs.length
  · rw [Nat.min_eq_left h]
  · rw [Nat.min_eq_right (by omega), List.take_of_length_le (by omega), List.take_of_length_le (by omega)]
theorem onceM_len : ∀ (xs l : List Nat), (onceM l xs).length ≤ l.length + xs.length
  | [], l => by simp [onceM]
  | x :: xs, l => by
    rw [onceM, List.length_cons]
    refine Nat.le_trans (onceM_len xs _) ?_
    split
    · omega
    · rw [List.length_cons]; omega
theorem is_letter {c : Nat} {S : Store} (h : c ∈ abc) : F_is_letter [.d (.str [c])] S = .ok (.d (.bl true)) S := by
  have e : gIsi owns subs [.d (.str [c]), .ty "str"] S = .ok (.d (.bl true)) S := rfl
  have h' : decide (c ∈ abc) = true := decide_eq_true h
  have hin : gIn0D false (.str [c]) (.str abc) S = .ok (.d (.bl true)) S := by rw [in_ch, h']; rfl
  have hT : S.take S.length = S := List.take_length
  simp [F_is_letter, fnK_go, G_is_letter, e, hT, -in_ch, hin]
theorem are_looks {p : List Nat} {S : Store} (h : LooksOk p) : F_are_looks [.d (.str p)] S = .ok (.d (.bl true)) S := by
  have e : gIsi owns subs [.d (.str p), .ty "str"] S = .ok (.d (.bl true)) S := rfl
  have hT : S.take S.length = S := List.take_length
  have pl : p.length ≤ 8 := h.2.length_le
  have pn : (p == []) = false := by cases p with | nil => exact absurd rfl h.1 | cons => rfl
  have lo : lenOk p.length = true := lenOk_of (by omega)
  have lo1 : lenOk (p.length - 1) = true := lenOk_of (by omega)
  have c1 := compD_map (t := .name 1) (tt := fYes) (f := fBin (gIn0 false) (fVar 1) (fK (.d (.str [48, 49, 50, 51, 52, 53, 54, 55])))) (ρ := [some (.d (.str p)), none, none]) (S := S) (mk := fun c => D.str [c]) (r := fun _ => D.bl true) p (fun c hc => by
    have h' : decide (c ∈ digits) = true := decide_eq_true (h.2.subset hc)
    have hin : gIn0D false (.str [c]) (.str digits) S = .ok (.d (.bl true)) S := by rw [in_ch, h']; rfl
    simp [-in_ch, hin])
  have a1 := all_bl (S := S) (fun _ : Nat => true) p
  have t1 : p.all (fun _ => true) = true := by simp
  rw [t1] at a1
  have hs : p.Pairwise (· < ·) := List.Pairwise.sublist h.2 (by decide)
  have c2 := compD_map (t := .name 2) (tt := fYes) (f := fBin gLt (fBin gIx (fVar 0) (fVar 2)) (fBin gIx (fVar 0) (fBin gAdd (fVar 2) (fK (.d (.int 1)))))) (ρ := [some (.d (.str p)), none, none]) (S := S) (mk := fun k : Nat => D.int k) (r := fun _ => D.bl true) (List.range (p.length - 1)) (fun k hk => by
    have hk := List.mem_range.mp hk
    have e1 : ixA p (k : Int) = some p[k] := by rw [ixA_nat, List.getElem?_eq_getElem]
    have e2 : ixA p ((k : Int) + 1) = some p[k + 1] := by
      have : ((k : Int) + 1) = ((k + 1 : Nat) : Int) := by omega
      rw [this, ixA_nat, List.getElem?_eq_getElem]
    have lt : p[k] < p[k + 1] := List.pairwise_iff_getElem.mp hs _ _ _ _ (by omega)
    have : ([p[k]] < [p[k + 1]]) := by simp [List.cons_lt_cons_iff, lt]
    have := decide_eq_true this
    simp [e1, e2, -decide_eq_true_eq, this])
  rw [← range0] at c2
  have a2 := all_bl (S := S) (fun _ : Nat => true) (List.range (p.length - 1))
  have t2 : (List.range (p.length - 1)).all (fun _ => true) = true := by simp
  rw [t2] at a2
  have p1 : 1 ≤ p.length := by cases p with | nil => exact absurd rfl h.1 | cons => simp
  have i1 : ((p.length : Int) - 1).toNat = p.length - 1 := by omega
  have i2 : small62 ((p.length : Int) - 1) = true := by
    have : (p.length : Int) - 1 = ((p.length - 1 : Nat) : Int) := by omega
    rw [this]; exact small_nat (by omega)
  simp only [List.map_const', List.length_range] at c1 a1 c2 a2
  simp [F_are_looks, fnK_go, G_are_looks, e, hT, pn, lo, lo1, c1, a1, i1, i2, c2, a2]
theorem is_pair {p : Nat × List Nat} {S : Store} (h1 : p.1 ∈ abc) (h2 : LooksOk p.2) : F_is_pair [.d (pD p)] S = .ok (.d (.bl true)) S := by
  have e : gIsi owns subs [.d (.tup [.str [p.1], .str p.2]), .ty "tuple"] S = .ok (.d (.bl true)) S := rfl
  have hT : S.take S.length = S := List.take_length
  have e1 := is_letter (S := S) h1
  have e2 := are_looks (S := S) h2
  simp [F_is_pair, fnK_go, G_is_pair, pD, e, hT, e1, e2]
theorem plain_lnD (l : Ln) : plainD 60 (.tup (lnD l)) = true := by
  rw [plainD]
  induction l with
  | nil => rfl
  | cons p l ih =>
    rw [lnD, List.map_cons, plainDs, ← lnD, ih]; rfl
theorem check_signs {l : Ln} {S : Store} (h : LOk l) : F_check_signs [.d (.tup (lnD l))] S = .ok (.d .non) S := by
  have e : gIsi owns subs [.d (.tup (lnD l)), .ty "tuple"] S = .ok (.d (.bl true)) S := rfl
  have hT : S.take S.length = S := List.take_length
  have ll : (lnD l).length = l.length := by simp [lnD]
  have hi := h.hi
  have ho := h.lo
  have sm : small62 (l.length : Int) = true := small_nat (by omega)
  have q1 : eqOk (.tup (lnD l)) (.tup []) = true := by
    unfold eqOk
    rw [plain_lnD]; rfl
  have q2 : deqs (lnD l) [] = false := by
    cases l with
    | nil => simp at ho
    | cons => rfl
  obtain ⟨ρ', S1, e1, k, x, y, rfl⟩ := forD_inv (g := gSet 1) (b := (fSeq (fAsg (fLc (fItemsK (fSl (fVar 0) fNoO (fSomeO (fVar 1)))) (.name 3) fYes (fBin gIx (fVar 3) (fK (.d (.int 0)))) [3]) (gSet 2)) (fIfS (fOrB (toB (fBin gEq (fVar 1) (fK (.d (.int 6))))) (fOrB (fNotB (toB (fCall F_is_pair (fCons (fBin gIx (fVar 0) (fVar 1)) fNil)))) (toB (fBin (gIn0 false) (fBin gIx (fBin gIx (fVar 0) (fVar 1)) (fK (.d (.int 0)))) (fVar 2))))) fNever fNext))) (all := rangeD 0 l.length) (ρ := [some (.d (.tup (lnD l))), none, none, none]) (S := S)
    (fun i ρ S' => S' = S ∧ ∃ x y, ρ = [some (.d (.tup (lnD l))), x, y, none]) ⟨rfl, _, _, rfl⟩ (by
      rintro i d ρ S' hd ⟨rfl, x, y, rfl⟩
      obtain ⟨hi', rfl⟩ := range_get hd
      have hc : cutL (lnD l) none (some (i : Int)) = (l.take i).map pD := by rw [cut_to, lnD, List.map_take]
      have lo : lenOk ((l.take i).map pD).length = true := lenOk_of (by simp; omega)
      have lo' : lenOk (min i l.length) = true := lenOk_of (by omega)
      have hx : ixA (lnD l) (i : Int) = some (pD l[i]) := by rw [ixA_nat, lnD, List.getElem?_map, List.getElem?_eq_getElem hi']; rfl
      have c1 := compD_map (t := .name 3) (tt := fYes) (f := fBin gIx (fVar 3) (fK (.d (.int 0)))) (ρ := [some (.d (.tup (lnD l))), some (.d (.int i)), y, none]) (S := S') (mk := pD) (r := fun p => D.str [p.1]) (l.take i) (fun p _ => by simp [pD])
      have hp := is_pair (S := S') (h.le l[i] (List.getElem_mem _)) (h.lk l[i] (List.getElem_mem _))
      have hn := in_strs (S := S') (neg := false) (c := l[i].1) (l := (l.take i).map (·.1))
      have hm : decide (l[i].1 ∈ (l.take i).map (·.1)) = false := by
        refine decide_eq_false fun hm => ?_
        obtain ⟨q, hq, e⟩ := List.mem_map.mp hm
        obtain ⟨j, hj, rfl⟩ := List.getElem_of_mem hq
        rw [List.length_take] at hj
        rw [List.getElem_take] at e
        have := List.pairwise_iff_getElem.mp h.nd j i (by simp; omega) (by simp; omega) (by omega)
        simp only [List.getElem_map] at this
        exact this e
      rw [hm, List.map_map] at hn
      have h6 : ((i : Int) == 6) = false := by
        have : (i : Int) ≠ 6 := by omega
        simpa using this
      have hn' : gIn0D false (.str [l[i].1]) (.lst ((l.take i).map fun p => D.str [p.1])) S' = .ok (.d (.bl false)) S' := hn
      generalize hK1 : (l.take i).map pD = K1 at *
      generalize hK2 : ((l.take i).map fun p => D.str [p.1]) = K2 at *
      refine ⟨_, _, [some (.d (.tup (lnD l))), some (.d (.int i)), some (.d (.lst K2)), none], S', rfl, .inl ?_, rfl, _, _, rfl⟩
      have hp' : F_is_pair [.d (.tup [.str [l[i].1], .str l[i].2])] S' = .ok (.d (.bl true)) S' := hp
      simp [hc, lo, c1, hx, h6, hn', hp', pD])
  have l2 : ¬ ((l.length : Int) < 2) := by omega
  have lo0 : lenOk 0 = true := lenOk_of (by omega)
  subst k
  simp [F_check_signs, fnK_go, G_check_signs, e, hT, ll, sm, q1, q2, e1, l2, lo0]

/-- the line's value -/
def LV (l : Ln) : D := .ins "Line" ["lot"] [.tup (lnD l)]
def gls (l : Ln) : List Nat := l.map (·.1)
theorem mk_line {l : Ln} {S : Store} (h : LOk l) : fMk "Line" F_Line___init__ [.d (.tup (lnD l))] S = .ok (.d (LV l)) S := by
  have e := check_signs (S := S ++ [.ins "Line" [] []]) h
  have g : (S ++ [Cell.ins "Line" [] []])[S.length]? = some (.ins "Line" [] []) := by simp
  have w : wrFld "Line" "lot" (.loc S.length) (.d (.tup (lnD l))) (S ++ [.ins "Line" [] []]) = some (S ++ [.ins "Line" ["lot"] [.tup (lnD l)]]) := by
    simp [wrFld, putN, putNv]
  have s : fSetF "Line" "lot" (fVar 0) (fVar 1) [some (.loc S.length), some (.d (.tup (lnD l)))] (S ++ [.ins "Line" [] []]) = .nx [some (.loc S.length), some (.d (.tup (lnD l)))] (S ++ [.ins "Line" ["lot"] [.tup (lnD l)]]) := by
    unfold fSetF
    simp [w]
  have hi : F_Line___init__ [.loc S.length, .d (.tup (lnD l))] (S ++ [.ins "Line" [] []]) = .ok (.d .non) (S ++ [.ins "Line" ["lot"] [.tup (lnD l)]]) := by
    have hT : (S ++ [Cell.ins "Line" ["lot"] [.tup (lnD l)]]).take (S.length + 1) = S ++ [.ins "Line" ["lot"] [.tup (lnD l)]] := List.take_of_length_le (by simp)
    simp [F_Line___init__, fnK_go, G_Line___init__, e, s, hT]
  unfold fMk
  rw [hi]
  simp [LV]
theorem ins_LV {l : Ln} {S : Store} : insOf "Line" (.d (LV l)) S = some ((["lot"] : List Str), ([.tup (lnD l)] : List D)) := rfl
theorem letters {l : Ln} {S : Store} (h : LOk l) : F_Line_letters [.d (LV l)] S = .ok (.d (.str (gls l))) S := by
  have hT : S.take S.length = S := List.take_length
  have hi := h.hi
  have lo : lenOk (lnD l).length = true := lenOk_of (by simp [lnD]; omega)
  have c1 := compD_map (t := .name 1) (tt := fYes) (f := fBin gIx (fVar 1) (fK (.d (.int 0)))) (ρ := [some (.d (LV l)), none]) (S := S) (mk := pD) (r := fun p => D.str [p.1]) l (fun p _ => by simp [pD])
  rw [← lnD] at c1
  have j := join_ones (S := S) (l := gls l) (by simp [gls]; omega)
  rw [gls, List.map_map] at j
  have j' : gJoin [.d (.str []), .d (.lst (l.map fun p => D.str [p.1]))] S = .ok (.d (.str (gls l))) S := j
  simp [F_Line_letters, fnK_go, G_Line_letters, ins_LV, lookN, lo, c1, j', hT]
theorem contains {l : Ln} {c : Nat} {S : Store} (h : LOk l) (hc : c ∈ gls l) : F_Line___contains__ [.d (LV l), .d (.str [c])] S = .ok (.d (.bl true)) S := by
  have hT : S.take S.length = S := List.take_length
  have e1 : F_is_letter [.d (.str [c])] S = .ok (.d (.bl true)) S := by
    obtain ⟨p, hp, rfl⟩ := List.mem_map.mp hc
    exact is_letter (h.le p hp)
  have e2 := letters (S := S) h
  simp [F_Line___contains__, fnK_go, G_Line___contains__, e1, e2, ins_LV, hc, hT]
theorem check_sign {l : Ln} {c : Nat} {S : Store} (h : LOk l) (hc : c ∈ gls l) : F_check_sign [.d (LV l), .d (.str [c])] S = .ok (.d .non) S := by
  have hT : S.take S.length = S := List.take_length
  have e : gIn2 F_Line___contains__ "Line" true (.d (.str [c])) (.d (LV l)) S = .ok (.d (.bl false)) S := by
    have k : kindW (.d (LV l)) S = some (.inr "Line") := rfl
    unfold gIn2
    rw [k]
    simp only [gInO, ins_LV, contains h hc]
    rfl
  simp [F_check_sign, fnK_go, G_check_sign, e, hT]
theorem looks_of {l : Ln} {p : Nat × List Nat} {S : Store} (h : LOk l) (hp : p ∈ l) : F_Line_looks_of [.d (LV l), .d (.str [p.1])] S = .ok (.d (.str p.2)) S := by
  have hT : S.take S.length = S := List.take_length
  have hc : p.1 ∈ gls l := List.mem_map_of_mem hp
  have e1 := check_sign (S := S) h hc
  have e2 := letters (S := S) h
  have e3 : gSIndex [.d (.str (gls l)), .d (.str [p.1])] S = .ok (.d (.int ((gls l).idxOf p.1 : Nat))) S := if_pos hc
  obtain ⟨i, hi, rfl⟩ := List.getElem_of_mem hp
  have hx : (gls l).idxOf l[i].1 = i := by
    have : (gls l)[i]'(by simp [gls, hi]) = l[i].1 := by simp [gls]
    rw [← this]; exact h.nd.idxOf_getElem i _
  rw [hx] at e3
  have e4 : ixA (lnD l) (i : Int) = some (.tup [.str [l[i].1], .str l[i].2]) := by rw [ixA_nat, lnD, List.getElem?_map, List.getElem?_eq_getElem hi]; rfl
  simp [F_Line_looks_of, fnK_go, G_Line_looks_of, e1, e2, e3, e4, ins_LV, lookN, hT]
theorem share_look {l : Ln} {p q : Nat × List Nat} {S : Store} (h : LOk l) (hp : p ∈ l) (hq : q ∈ l) : F_share_look [.d (LV l), .d (.str [p.1]), .d (.str [q.1])] S = .ok (.d (.bl (p.2.any fun c => decide (c ∈ q.2)))) S := by
  have hT : S.take S.length = S := List.take_length
  have e1 := looks_of (S := S) h hp
  have e2 := looks_of (S := S) h hq
  have lo : lenOk p.2.length = true := lenOk_of (by have := (h.lk p hp).2.length_le; simp at this; omega)
  have ln : (lookN "looks_of" ["lot"] [.tup (lnD l)]).isSome = false := rfl
  have c1 := compD_map (t := .name 3) (tt := fYes) (f := fBin (gIn0 false) (fVar 3) (fMeth "Line" "looks_of" F_Line_looks_of 1 0 (fVar 0) (fCons (fVar 2) fNil) fNil)) (ρ := [some (.d (LV l)), some (.d (.str [p.1])), some (.d (.str [q.1])), none]) (S := S) (mk := fun c => .str [c]) (r := fun c => D.bl (decide (c ∈ q.2))) p.2 (fun c _ => by
    simp [ins_LV, ln, e2])
  have a1 := any_bl (S := S) (fun c => decide (c ∈ q.2)) p.2
  simp [F_share_look, fnK_go, G_share_look, ins_LV, ln, e1, lo, c1, a1, hT]

/-- the signs that share a figure with own -/
def shr (l : Ln) (own : List Nat) : List Nat := (l.filter fun e => e.2.any fun c => decide (c ∈ own)).map (·.1)
def ones' (l : List Nat) : List D := l.map fun c => .str [c]
theorem any_swap (a b : List Nat) : (a.any fun c => decide (c ∈ b)) = b.any fun c => decide (c ∈ a) := by
  rw [Bool.eq_iff_iff]
  simp only [List.any_eq_true, decide_eq_true_eq]
  exact ⟨fun ⟨c, h1, h2⟩ => ⟨c, h2, h1⟩, fun ⟨c, h1, h2⟩ => ⟨c, h2, h1⟩⟩
theorem mem_shr {l : Ln} (h : LOk l) {q : Nat × List Nat} (hq : q ∈ l) (own : List Nat) : decide (q.1 ∈ shr l own) = q.2.any fun c => decide (c ∈ own) := by
  rw [Bool.eq_iff_iff, decide_eq_true_eq, shr, List.mem_map]
  constructor
  · rintro ⟨e, he, e1⟩
    rw [List.mem_filter] at he
    have : e = q := by
      obtain ⟨i, hi, rfl⟩ := List.getElem_of_mem he.1
      obtain ⟨j, hj, rfl⟩ := List.getElem_of_mem hq
      have := (List.getElem_inj (xs := l.map (·.1)) (i := i) (j := j) (h₀ := by simpa using hi) (h₁ := by simpa using hj) h.nd).mp (by simpa using e1)
      subst this; rfl
    rw [← this]; exact he.2
  · intro hp
    exact ⟨q, List.mem_filter.mpr ⟨hq, hp⟩, rfl⟩

/-! two lists sorted are the same exactly if they are the same but for the order -/
theorem sorted_uniq : ∀ {a b : List Nat}, a.Pairwise (· ≤ ·) → b.Pairwise (· ≤ ·) → a.Perm b → a = b
  | [], b, _, _, p => by rw [p.nil_eq]
  | x :: a, [], _, _, p => by have := p.length_eq; simp at this
  | x :: a, y :: b, ha, hb, p => by
    rw [List.pairwise_cons] at ha hb
    have hxy : x = y := by
      have h1 : x ∈ y :: b := p.mem_iff.mp List.mem_cons_self
      have h2 : y ∈ x :: a := p.mem_iff.mpr List.mem_cons_self
      rcases List.mem_cons.mp h1 with e | h1
      · exact e
      · rcases List.mem_cons.mp h2 with e | h2
        · exact e.symm
        · exact Nat.le_antisymm (ha.1 y h2) (hb.1 x h1)
    subst hxy
    rw [sorted_uniq ha.2 hb.2 ((List.perm_cons x).mp p)]
theorem sortN_iff {a b : List Nat} : sortN a = sortN b ↔ a.Perm b :=
  ⟨fun e => (sortN_perm a).symm.trans (e ▸ sortN_perm b), fun p => sorted_uniq (sortN_sorted a) (sortN_sorted b) ((sortN_perm a).trans (p.trans (sortN_perm b).symm))⟩
theorem deq_ones2 : ∀ {a b : List Nat}, deqs (ones' a) (ones' b) = decide (a = b)
  | [], [] => rfl
  | [], _ :: _ => rfl
  | _ :: _, [] => rfl
  | x :: a, y :: b => by
    rw [ones', ones', List.map_cons, List.map_cons, deqs_cc, ← ones', ← ones', deq_ones2, deq_str]
    by_cases h : x = y
    · subst h; simp
    · simp [h]
theorem plain_ones {a : List Nat} : plainD 60 (.lst (ones' a)) = true := by
  rw [plainD]; exact plain_strs 59 _ fun d hd => by obtain ⟨c, _, rfl⟩ := List.mem_map.mp hd; exact ⟨_, rfl⟩
theorem eqOk_ones {a b : List Nat} : eqOk (.lst (ones' a)) (.lst (ones' b)) = true := by
  unfold eqOk
  rw [plain_ones, plain_ones]; rfl
theorem txts_ones : ∀ l : List Nat, strsOf (ones' l) = some (l.map fun c => [c]) := strsOf_ones
theorem sort_go {l : List Nat} (h : l.length < 64) : (sortL (l.map fun c => [c])).map D.str = ones' (sortN l) := by
  have : sortL (ones l) = ones (sortN l) := sortL_ones l
  have e : (l.map fun c => [c]) = ones l := rfl
  rw [e, this, ones', ones, List.map_map]; rfl
theorem sortA_lst {l : List Nat} {S : Store} (h : l.length < 64) : gSortA [.d (.lst (ones' l))] S = .ok (.d (.lst (ones' (sortN l)))) S := by
  unfold gSortA
  simp only [val_d, txtsOf, txts_ones]
  rw [if_pos (by simpa using h), sort_go h]
theorem sortA_str {l : List Nat} {S : Store} (h : l.length < 64) : gSortA [.d (.str l)] S = .ok (.d (.lst (ones' (sortN l)))) S := by
  unfold gSortA
  simp only [val_d, txtsOf]
  rw [if_pos (by simpa using h), sort_go h]
theorem sortA_dct {l : List Nat} {vs : List D} {S : Store} (h : l.length < 64) : gSortA [.d (.dct (ones' l) vs)] S = .ok (.d (.lst (ones' (sortN l)))) S := by
  unfold gSortA
  simp only [val_d, txtsOf, txts_ones]
  rw [if_pos (by simpa using h), sort_go h]
theorem key_uniq {l : Ln} (h : LOk l) {p q : Nat × List Nat} (hp : p ∈ l) (hq : q ∈ l) (e : p.1 = q.1) : p = q := by
  obtain ⟨i, hi, rfl⟩ := List.getElem_of_mem hp
  obtain ⟨j, hj, rfl⟩ := List.getElem_of_mem hq
  have := (List.getElem_inj (xs := l.map (·.1)) (i := i) (j := j) (h₀ := by simpa using hi) (h₁ := by simpa using hj) h.nd).mp (by simpa using e)
  subst this; rfl
/-- the looks of a sign -/
def lkOf (m : Ln) (c : Nat) : List Nat := ((m.find? fun q => q.1 == c).map (·.2)).getD []
theorem lkOf_eq {m : Ln} (h : LOk m) {q : Nat × List Nat} (hq : q ∈ m) : lkOf m q.1 = q.2 := by
  unfold lkOf
  cases e : m.find? fun x => x.1 == q.1 with
  | none =>
    have := List.find?_eq_none.mp e q hq
    simp at this
  | some x =>
    have h1 := List.mem_of_find?_eq_some e
    have h2 := List.find?_some e
    have : x = q := key_uniq h h1 hq (by simpa using h2)
    rw [this]; rfl
theorem shr_len {l : Ln} {own : List Nat} : (shr l own).length ≤ l.length := by
  rw [shr, List.length_map]; exact List.length_filter_le _ _
theorem check_line {l : Ln} {S : Store} : F_check_line [.d (LV l)] S = .ok (.d .non) S := by
  have hT : S.take S.length = S := List.take_length
  have i : gIsi owns subs [.d (LV l), .glo "Line"] S = .ok (.d (.bl true)) S := rfl
  simp [F_check_line, fnK_go, G_check_line, i, hT]
theorem table {l : Ln} {S : Store} (h : LOk l) : F_mixed_table [.d (LV l)] S = .ok (.d (.dct (ones' (gls l)) (l.map fun p => .str (shr l p.2)))) S := by
  have hi := h.hi
  have ec : (ones' (gls l)) = l.map fun p => .str [p.1] := by rw [ones', gls, List.map_map]; rfl
  obtain ⟨ρ', S1, e1, x, rfl, rfl⟩ := forD_inv (g := gSet 2) (b := fAsg (fBM "str" gJoin (fK (.d (.str []))) (fCons (fLc (fItemsK (fProp "Line" F_Line_letters (fVar 0))) (.name 3) (toB (fCall F_share_look (fCons (fVar 0) (fCons (fVar 2) (fCons (fVar 3) fNil))))) (fVar 3) [3]) fNil)) (gIxS (fVar 1) (fVar 2))) (all := ones' (gls l)) (ρ := [some (.d (LV l)), some (.loc S.length), none, none]) (S := S ++ [.dct [] []])
    (fun i ρ S' => ∃ x, ρ = [some (.d (LV l)), some (.loc S.length), x, none] ∧ S' = S ++ [.dct (ones' ((gls l).take i)) ((l.take i).map fun p => .str (shr l p.2))]) ⟨none, rfl, by simp [ones']⟩ (by
      rintro i d ρ S' hd ⟨x, rfl, rfl⟩
      rw [ec, List.getElem?_map, Option.map_eq_some_iff] at hd
      obtain ⟨p, hp, rfl⟩ := hd
      have hi' : i < l.length := by
        by_cases hh : i < l.length
        · exact hh
        · rw [List.getElem?_eq_none (by omega)] at hp; cases hp
      have hpm : p ∈ l := List.mem_of_getElem? hp
      generalize hS : S ++ [Cell.dct (ones' ((gls l).take i)) ((l.take i).map fun p => .str (shr l p.2))] = S2
      have el := letters (S := S2) h
      have lo : lenOk (gls l).length = true := lenOk_of (by simp [gls]; omega)
      have c1 := compD_fil (t := .name 3) (tt := toB (fCall F_share_look (fCons (fVar 0) (fCons (fVar 2) (fCons (fVar 3) fNil))))) (f := fVar 3) (ρ := [some (.d (LV l)), some (.loc S.length), some (.d (.str [p.1])), none]) (S := S2) (mk := fun e : Nat × List Nat => .str [e.1]) (r := fun e => D.str [e.1]) (p := fun e => e.2.any fun c => decide (c ∈ p.2)) l (fun e he => by
        have e2 := share_look (S := S2) h hpm he
        rw [any_swap] at e2
        simp only [compT_name, List.set_cons_succ, List.set_cons_zero]
        generalize (e.2.any fun c => decide (c ∈ p.2)) = b at *
        cases b <;> simp [e2])
      rw [← ec] at c1
      have j := join_ones (S := S2) (l := shr l p.2) (by have := shr_len (l := l) (own := p.2); omega)
      rw [shr, List.map_map] at j
      have j' : gJoin [.d (.str []), .d (.lst ((l.filter fun e => e.2.any fun c => decide (c ∈ p.2)).map fun e => .str [e.1]))] S2 = .ok (.d (.str (shr l p.2))) S2 := j
      have hn : p.1 ∉ (gls l).take i := by
        intro hm
        obtain ⟨j, hj, e⟩ := List.getElem_of_mem hm
        rw [List.length_take] at hj
        rw [List.getElem_take] at e
        have := List.pairwise_iff_getElem.mp h.nd j i (by simp; omega) (by simp; omega) (by omega)
        have e2 : p = l[i] := by
          rw [List.getElem?_eq_getElem hi'] at hp
          exact (Option.some.inj hp).symm
        rw [e2] at e
        simp only [gls, List.getElem_map] at this e
        exact this e
      have w := wr_new (S := S2) (n := S.length) (c := p.1) (l := (gls l).take i) (vs := (l.take i).map fun p => .str (shr l p.2)) (v := .str (shr l p.2)) (by rw [← hS]; simp [ones']) hn (by simp; omega)
      refine ⟨_, _, [some (.d (LV l)), some (.loc S.length), some (.d (.str [p.1])), none], S2.set S.length (.dct (((gls l).take i ++ [p.1]).map fun x => .str [x]) (((l.take i).map fun p => D.str (shr l p.2)) ++ [.str (shr l p.2)])), rfl, .inl ?_, some (.d (.str [p.1])), rfl, ?_⟩
      · simp only [ones'] at c1
        simp [el, lo, c1, j', w, ins_LV]
      · rw [← hS]
        have g1 : (gls l)[i]? = some p.1 := by rw [gls, List.getElem?_map, hp]; rfl
        rw [List.take_add_one, List.take_add_one, g1, hp]
        simp [ones'])
  have ll : (ones' (gls l)).length = l.length := by simp [ones', gls]
  rw [ll, List.take_length, show (gls l).take l.length = gls l from List.take_of_length_le (by simp [gls])] at e1
  have el := letters (S := S ++ [.dct [] []]) h
  simp only [ones'] at e1
  simp [F_mixed_table, fnK_go, G_mixed_table, e1, el, ins_LV, DL.finish, frozenC, ones']
/-! all lots of letters -/
def stepL (f : List (List Nat)) (c : Nat) : List (List Nat) := f ++ f.map (· ++ [c])
def lotsN (ls : List Nat) : List (List Nat) := ls.foldl stepL [[]]
theorem lots_from : ∀ (ls pre : List Nat) (f : List (List Nat)), (∀ x ∈ f, x.Sublist pre) → ∀ x ∈ ls.foldl stepL f, x.Sublist (pre ++ ls)
  | [], pre, f, h, x, hx => by rw [List.append_nil]; exact h x hx
  | c :: ls, pre, f, h, x, hx => by
    have : pre ++ c :: ls = (pre ++ [c]) ++ ls := by simp
    rw [this]
    refine lots_from ls (pre ++ [c]) (stepL f c) (fun y hy => ?_) x hx
    rcases List.mem_append.mp hy with hy | hy
    · exact (h y hy).trans (List.sublist_append_left _ _)
    · obtain ⟨z, hz, rfl⟩ := List.mem_map.mp hy
      exact (h z hz).append (List.Sublist.refl _)
theorem lots_sub {ls x : List Nat} (h : x ∈ lotsN ls) : x.Sublist ls := by
  have := lots_from ls [] [[]] (fun x hx => by rw [List.mem_singleton.mp hx]; exact .slnil) x h
  simpa using this
theorem lots_keep : ∀ (ls : List Nat) (f : List (List Nat)), ∃ g, ls.foldl stepL f = f ++ g
  | [], f => ⟨[], by simp⟩
  | c :: ls, f => by
    obtain ⟨g, hg⟩ := lots_keep ls (stepL f c)
    exact ⟨f.map (· ++ [c]) ++ g, by rw [List.foldl_cons, hg, stepL, List.append_assoc]⟩
theorem lots_head (ls : List Nat) : ∃ g, lotsN ls = [] :: g := by
  obtain ⟨g, hg⟩ := lots_keep ls [[]]
  exact ⟨g, hg⟩
theorem lots_one {c : Nat} {ls : List Nat} : ∃ g, lotsN (c :: ls) = [] :: [c] :: g := by
  obtain ⟨g, hg⟩ := lots_keep ls (stepL [[]] c)
  exact ⟨g, hg⟩
theorem lots_len : ∀ (ls : List Nat) (f : List (List Nat)), (ls.foldl stepL f).length = 2 ^ ls.length * f.length
  | [], f => by simp
  | c :: ls, f => by
    rw [List.foldl_cons, lots_len ls, stepL, List.length_append, List.length_map, List.length_cons, Nat.pow_succ, Nat.mul_assoc]
    congr 1
    omega
theorem lots_count {ls : List Nat} (h : ls.length ≤ 6) : (lotsN ls).length ≤ 64 := by
  rw [lotsN, lots_len]
  have : 2 ^ ls.length ≤ 2 ^ 6 := Nat.pow_le_pow_right (by omega) h
  simpa using this
/-- within an ascending list -/
theorem sub_asc : ∀ {a b : List Nat}, a.Pairwise (· < ·) → b.Pairwise (· < ·) → (∀ x ∈ a, x ∈ b) → a.Sublist b
  | [], _, _, _, _ => List.nil_sublist _
  | x :: a, [], _, _, h => absurd (h x List.mem_cons_self) (by simp)
  | x :: a, y :: b, ha, hb, h => by
    rw [List.pairwise_cons] at hb
    have ha' := List.pairwise_cons.mp ha
    rcases List.mem_cons.mp (h x List.mem_cons_self) with rfl | hx
    · refine .cons_cons _ (sub_asc ha'.2 hb.2 fun z hz => ?_)
      rcases List.mem_cons.mp (h z (List.mem_cons_of_mem _ hz)) with rfl | h2
      · exact absurd (ha'.1 _ hz) (Nat.lt_irrefl _)
      · exact h2
    · refine .cons _ (sub_asc ha hb.2 fun z hz => ?_)
      rcases List.mem_cons.mp (h z hz) with rfl | h2
      · have h3 := hb.1 x hx
        rcases List.mem_cons.mp hz with rfl | hz
        · exact hx
        · have := ha'.1 _ hz; omega
      · exact h2
/-! what is asked of a lot -/
section
variable (T : Nat → List Nat)
def knotP (lot : List Nat) : Bool := lot.all fun s => lot.all fun o => decide (o ∈ T s)
def knotO (lot : List Nat) : Bool := lot.all fun g => decide ((lot.filter fun o => decide (o ∈ T g)).length = lot.length)
def apartP (lot : List Nat) : Bool := !(lot.any fun s => (lot.filter fun o => decide (o ≠ s)).any fun o => decide (o ∈ T s))
def apartO (lot : List Nat) : Bool := lot.all fun g => decide (lot.filter (fun o => decide (o ∈ T g)) = [g])
theorem knot_eq (lot : List Nat) : knotP T lot = knotO T lot := by
  rw [Bool.eq_iff_iff]
  unfold knotP knotO
  simp only [List.all_eq_true, decide_eq_true_eq, List.length_filter_eq_length_iff]
theorem only_one : ∀ {lot : List Nat} {g : Nat} {q : Nat → Bool}, lot.Nodup → g ∈ lot → (∀ o ∈ lot, q o = decide (o = g)) → lot.filter q = [g]
  | [], _, _, _, h, _ => nomatch h
  | x :: lot, g, q, nd, h, hq => by
    rw [List.nodup_cons] at nd
    have hx := hq x List.mem_cons_self
    by_cases e : x = g
    · subst e
      rw [List.filter_cons_of_pos (by rw [hx]; simp)]
      have : lot.filter q = [] := by
        refine List.filter_eq_nil_iff.mpr fun o ho => ?_
        rw [hq o (List.mem_cons_of_mem _ ho)]
        simp only [decide_eq_true_eq]
        intro e; rw [e] at ho; exact nd.1 ho
      rw [this]
    · rw [List.filter_cons_of_neg (by rw [hx]; simp [e])]
      refine only_one nd.2 ((List.mem_cons.mp h).resolve_left (Ne.symm e)) fun o ho => hq o (List.mem_cons_of_mem _ ho)
theorem apart_eq {lot : List Nat} (nd : lot.Nodup) (self : ∀ g ∈ lot, g ∈ T g) : apartP T lot = apartO T lot := by
  rw [Bool.eq_iff_iff]
  unfold apartP apartO
  simp only [Bool.not_eq_true', List.any_eq_false, List.all_eq_true, List.mem_filter, decide_eq_true_eq, and_imp]
  constructor
  · intro h g hg
    refine only_one nd hg fun o ho => ?_
    by_cases e : o = g
    · subst e; simp [self o ho]
    · have := h g hg
      have h2 : ¬ o ∈ T g := by
        intro hm
        have := this
        simp only [List.any_eq_true, List.mem_filter, decide_eq_true_eq, not_exists, not_and] at this
        exact this o ⟨ho, e⟩ hm
      simp [e, h2]
  · intro h g hg
    simp only [List.any_eq_true, List.mem_filter, decide_eq_true_eq, not_exists, not_and]
    rintro o ⟨ho, e⟩ hm
    have h1 : o ∈ lot.filter fun o => decide (o ∈ T g) := List.mem_filter.mpr ⟨ho, by simp [hm]⟩
    rw [h g hg] at h1
    exact e (List.mem_singleton.mp h1)
end
def greatP (lots : List (List Nat)) (lot : List Nat) : Bool := !(lots.any fun other => decide (other ≠ lot) && lot.all fun s => decide (s ∈ other))
def greatO (lots : List (List Nat)) (lot : List Nat) : Bool := (lots.filter fun each => decide (lot.length < each.length) && decide (lot.filter (fun g => !decide (g ∈ each)) = [])).isEmpty
theorem great_eq {lots : List (List Nat)} (h : ∀ x ∈ lots, x.Pairwise (· < ·)) {lot : List Nat} (hl : lot ∈ lots) : greatP lots lot = greatO lots lot := by
  rw [Bool.eq_iff_iff]
  unfold greatP greatO
  rw [List.isEmpty_iff, List.filter_eq_nil_iff]
  simp only [Bool.not_eq_true', List.any_eq_false]
  refine forall_congr' fun o => forall_congr' fun ho => ?_
  have e : (decide (o ≠ lot) && lot.all fun s => decide (s ∈ o)) = (decide (lot.length < o.length) && decide (lot.filter (fun g => !decide (g ∈ o)) = [])) := by
    rw [Bool.eq_iff_iff]
    simp only [Bool.and_eq_true, decide_eq_true_eq, List.all_eq_true, List.filter_eq_nil_iff, Bool.not_eq_true', decide_eq_false_iff_not, Classical.not_not]
    constructor
    · rintro ⟨h1, h2⟩
      have s := sub_asc (h lot hl) (h o ho) h2
      exact ⟨Nat.lt_of_le_of_ne s.length_le fun e => h1 (s.eq_of_length e).symm, h2⟩
    · rintro ⟨h1, h2⟩
      exact ⟨fun e => by rw [e] at h1; exact Nat.lt_irrefl _ h1, h2⟩
  rw [e]
def txD (l : List (List Nat)) : List D := l.map D.str
theorem step_go {ls pre : List Nat} {f : List (List Nat)} : stepL f = stepL f := rfl
/-- the lots of a line's letters, ascending -/
def lotsOf (l : Ln) : List (List Nat) := lotsN (sortN (gls l))
theorem len_lots {l : Ln} (h : LOk l) : (lotsOf l).length ≤ 64 := lots_count (by rw [(sortN_perm _).length_eq, gls, List.length_map]; exact h.hi)
theorem lots_loop {g : FG} {b : FS} {ls : List Nat} {S : Store} {w0 : Option W} (hls : ls.length ≤ 6) {mkE : Option W → Option W → DL.Env} (hg : ∀ d ρ1 ρ2, g (.d d) (mkE ρ1 ρ2) S = .ok (mkE ρ1 (some (.d d))) S)
    (hb : ∀ f c, f.length ≤ 64 → (∀ x ∈ f, x.length ≤ 6) → b (mkE (some (.d (.lst (txD f)))) (some (.d (.str [c])))) S = .nx (mkE (some (.d (.lst (txD (stepL f c))))) (some (.d (.str [c])))) S) (x0 : Option W) :
    ∃ x, forD g b (ls.map fun c => .str [c]) (mkE (some (.d (.lst (txD [[]])))) x0) S = .nx (mkE (some (.d (.lst (txD (lotsN ls))))) x) S := by
  obtain ⟨ρ', S', e, rfl, x, rfl⟩ := forD_inv (g := g) (b := b) (all := ls.map fun c => .str [c]) (ρ := mkE (some (.d (.lst (txD [[]])))) x0) (S := S)
    (fun i ρ S' => S' = S ∧ ∃ x, ρ = mkE (some (.d (.lst (txD (lotsN (ls.take i)))))) x) ⟨rfl, x0, rfl⟩ (by
      rintro i d ρ S1 hd ⟨rfl, x, rfl⟩
      rw [List.getElem?_map, Option.map_eq_some_iff] at hd
      obtain ⟨c, hc, rfl⟩ := hd
      have hi : i < ls.length := by
        by_cases hh : i < ls.length
        · exact hh
        · rw [List.getElem?_eq_none (by omega)] at hc; cases hc
      have hl : (ls.take i).length ≤ 5 := by rw [List.length_take]; omega
      have := hb (lotsN (ls.take i)) c (lots_count (by omega)) (fun x hx => by have := (lots_sub hx).length_le; omega)
      refine ⟨_, _, _, S1, hg _ _ _, .inl this, rfl, some (.d (.str [c])), ?_⟩
      rw [List.take_add_one, hc]
      show mkE (some (.d (.lst (txD (stepL (lotsN (ls.take i)) c))))) _ = mkE (some (.d (.lst (txD (lotsN (ls.take i ++ [c])))))) _
      rw [lotsN, lotsN, List.foldl_append]; rfl)
  rw [List.length_map, List.take_length] at e
  exact ⟨x, e⟩
theorem cut_from {α : Type} {xs : List α} {n : Nat} : cutL xs (some (n : Int)) none = xs.drop n := by
  unfold cutL
  rw [HT.sIx_none, HT.sIx_nat]
  by_cases h : n ≤ xs.length
  · rw [Nat.min_eq_left h, List.take_of_length_le]
    rw [List.length_drop]; omega
  · rw [Nat.min_eq_right (by omega), List.drop_of_length_le (by omega), List.drop_of_length_le (by omega)]; simp
theorem gls_len {l : Ln} (h : LOk l) : (gls l).length ≤ 6 := by rw [gls, List.length_map]; exact h.hi
theorem lots_of {l : Ln} {S : Store} (h : LOk l) : F_lots_of [.d (.str (gls l))] S = .ok (.d (.lst (txD (lotsOf l)))) S := by
  have hT : S.take S.length = S := List.take_length
  have hg := gls_len h
  have ss := sortA_str (S := S) (l := gls l) (by omega)
  have lo1 : lenOk 1 = true := lenOk_of (by omega)
  obtain ⟨x, e⟩ := lots_loop (g := gSet 2) (b := fAsg (fBin gAdd (fVar 1) (fLc (fItemsK (fVar 1)) (.name 3) fYes (fBin gAdd (fVar 3) (fVar 2)) [3])) (gSet 1)) (ls := sortN (gls l)) (S := S) (w0 := none) (by rw [(sortN_perm _).length_eq]; exact hg) (mkE := fun a b => [some (.d (.str (gls l))), a, b, none]) (fun d a b => rfl) (fun f c hf hx => by
    have c1 := compD_map (t := .name 3) (tt := fYes) (f := fBin gAdd (fVar 3) (fVar 2)) (ρ := [some (.d (.str (gls l))), some (.d (.lst (txD f))), some (.d (.str [c])), none]) (S := S) (mk := D.str) (r := fun x => .str (x ++ [c])) f (fun x hx' => by
      have lo : lenOk (x.length + 1) = true := lenOk_of (by have := hx x hx'; omega)
      simp [lo])
    have lo : lenOk f.length = true := lenOk_of (by omega)
    have lo2 : lenOk (f.length + f.length) = true := lenOk_of (by omega)
    have ll : (txD f).length = f.length := by simp [txD]
    have et : txD (stepL f c) = txD f ++ f.map fun x => .str (x ++ [c]) := by simp [txD, stepL]
    rw [← txD] at c1
    simp [c1, ll, lo, lo2, et]) none
  simp only [txD, List.map_cons, List.map_nil] at e
  simp only [ones'] at ss
  simp [F_lots_of, fnK_go, G_lots_of, ss, lo1, e, hT, lotsOf, txD]
/-- with whom a sign is mixed -/
def TT (l : Ln) (g : Nat) : List Nat := shr l (lkOf l g)
def TB (l : Ln) : D := .dct (ones' (gls l)) (l.map fun p => .str (shr l p.2))
theorem dget_tab {l : Ln} (h : LOk l) {g : Nat} (hg : g ∈ gls l) {v : List Nat → D} : dget (ones' (gls l)) (l.map fun p => v (shr l p.2)) (.str [g]) = some (v (TT l g)) := by
  obtain ⟨p, hp, rfl⟩ := List.mem_map.mp hg
  have := dget_map (g := fun p : Nat × List Nat => p.1) (v := fun p => v (shr l p.2)) h.nd hp
  rw [ones', gls, List.map_map, TT, lkOf_eq h hp]
  exact this
theorem sum_const (n : Nat) (l : List Nat) : (l.map fun _ => n).sum = l.length * n := by
  induction l with
  | nil => simp
  | cons x l ih => simp [ih, Nat.succ_mul]; omega
theorem bl_flat (q : Nat → Nat → Bool) (a : List Nat) (b : Nat → List Nat) : (a.flatMap fun s => (b s).map fun o => D.bl (q s o)) = (a.flatMap fun s => (b s).map fun o => q s o).map fun x => D.bl x := by
  induction a with
  | nil => rfl
  | cons x a ih => rw [List.flatMap_cons, List.flatMap_cons, List.map_append, ih, List.map_map]; rfl
theorem is_knot {l : Ln} {lot : List Nat} {S : Store} (h : LOk l) (hs : ∀ g ∈ lot, g ∈ gls l) (hl : lot.length ≤ 6) : F_is_knot [.d (TB l), .d (.str lot)] S = .ok (.d (.bl (knotP (TT l) lot))) S := by
  have hT : S.take S.length = S := List.take_length
  have c := comp2_pure (t := .name 2) (t1 := .name 3) (tt := fYes) (tt1 := fYes) (fi1 := fItemsK (fVar 1)) (f := fBin (gIn0 false) (fVar 3) (fBin gIx (fVar 0) (fVar 2))) (vs1 := [3]) (ρ := [some (.d (TB l)), some (.d (.str lot)), none, none]) (S := S) (mk := fun s => D.str [s]) (r := fun s => lot.map fun o => D.bl (decide (o ∈ TT l s))) lot 0 (fun s hsm m hm => by
    have hm : m ≤ 36 := by
      have e : (lot.map fun x => (lot.map fun o => D.bl (decide (o ∈ TT l x))).length).sum = lot.length * lot.length := by
        simp only [List.length_map]; exact sum_const _ _
      rw [e] at hm
      have : lot.length * lot.length ≤ 6 * 6 := Nat.mul_le_mul hl hl
      omega
    refine turn2_go (ρ1 := [some (.d (TB l)), some (.d (.str lot)), some (.d (.str [s])), none]) (ds1 := lot.map fun c => .str [c]) rfl rfl (by simp) (by rw [List.length_map]; omega) ?_
    refine compD_map lot fun o ho => ?_
    have k1 : (dkey (.str [s])).isSome = true := rfl
    have d1 := dget_tab h (hs s hsm) (v := D.str)
    have ix : gIxD (TB l) (.str [s]) S = .ok (.d (.str (TT l s))) S := by
      rw [TB, ix_dct, if_pos k1, d1]
    simp [ix])
  rw [bl_flat (fun s o => decide (o ∈ TT l s)) lot fun _ => lot] at c
  have a1 := all_bl (S := S) (fun x : Bool => x) (lot.flatMap fun s => lot.map fun o => decide (o ∈ TT l s))
  have e : (lot.flatMap fun s => lot.map fun o => decide (o ∈ TT l s)).all (fun x => x) = knotP (TT l) lot := by
    rw [knotP, List.all_flatMap]
    congr 1
    funext s
    rw [List.all_map]; rfl
  rw [e] at a1
  simp [F_is_knot, fnK_go, G_is_knot, c, a1, hT, -List.map_flatMap]
theorem is_apart {l : Ln} {lot : List Nat} {S : Store} (h : LOk l) (hs : ∀ g ∈ lot, g ∈ gls l) (hl : lot.length ≤ 6) : F_is_apart [.d (TB l), .d (.str lot)] S = .ok (.d (.bl (apartP (TT l) lot))) S := by
  have hT : S.take S.length = S := List.take_length
  have c := comp2_pure (t := .name 2) (t1 := .name 3) (tt := fYes) (tt1 := toB (fBin gNe (fVar 3) (fVar 2))) (fi1 := fItemsK (fVar 1)) (f := fBin (gIn0 false) (fVar 3) (fBin gIx (fVar 0) (fVar 2))) (vs1 := [3]) (ρ := [some (.d (TB l)), some (.d (.str lot)), none, none]) (S := S) (mk := fun s => D.str [s]) (r := fun s => (lot.filter fun o => decide (o ≠ s)).map fun o => D.bl (decide (o ∈ TT l s))) lot 0 (fun s hsm m hm => by
    have hm : m ≤ 36 := by
      have e : ∀ q : List Nat, (q.map fun x => ((lot.filter fun o => decide (o ≠ x)).map fun o => D.bl (decide (o ∈ TT l x))).length).sum ≤ q.length * lot.length := by
        intro q
        induction q with
        | nil => simp
        | cons x q ih =>
          rw [List.map_cons, List.sum_cons, List.length_cons, Nat.succ_mul, List.length_map]
          have := List.length_filter_le (fun o => decide (o ≠ x)) lot
          omega
      have := e lot
      have : lot.length * lot.length ≤ 6 * 6 := Nat.mul_le_mul hl hl
      omega
    refine turn2_go (ρ1 := [some (.d (TB l)), some (.d (.str lot)), some (.d (.str [s])), none]) (ds1 := lot.map fun c => .str [c]) rfl rfl (by simp) (by rw [List.length_map]; omega) ?_
    refine compD_fil lot fun o ho => ?_
    have k1 : (dkey (.str [s])).isSome = true := rfl
    have d1 := dget_tab h (hs s hsm) (v := D.str)
    have ix : gIxD (TB l) (.str [s]) S = .ok (.d (.str (TT l s))) S := by
      rw [TB, ix_dct, if_pos k1, d1]
    by_cases e : o = s
    · subst e; simp
    · have eb : (o == s) = false := by simp [e]
      simp [ix, e, eb])
  rw [bl_flat (fun s o => decide (o ∈ TT l s)) lot fun s => lot.filter fun o => decide (o ≠ s)] at c
  have a1 := any_bl (S := S) (fun x : Bool => x) (lot.flatMap fun s => (lot.filter fun o => decide (o ≠ s)).map fun o => decide (o ∈ TT l s))
  have e : (lot.flatMap fun s => (lot.filter fun o => decide (o ≠ s)).map fun o => decide (o ∈ TT l s)).any (fun x => x) = lot.any fun s => (lot.filter fun o => decide (o ≠ s)).any fun o => decide (o ∈ TT l s) := by
    rw [List.any_flatMap]
    congr 1
    funext s
    rw [List.any_map]; rfl
  rw [e] at a1
  have ea : apartP (TT l) lot = !(lot.any fun s => (lot.filter fun o => decide (o ≠ s)).any fun o => decide (o ∈ TT l s)) := rfl
  rw [ea]
  generalize (lot.any fun s => (lot.filter fun o => decide (o ≠ s)).any fun o => decide (o ∈ TT l s)) = bb at *
  simp only [ne_eq, decide_not] at c a1
  simp [F_is_apart, fnK_go, G_is_apart, c, a1, hT, -List.map_flatMap]
theorem lot_in {l : Ln} (h : LOk l) {x : List Nat} (hx : x ∈ lotsOf l) : (∀ g ∈ x, g ∈ gls l) ∧ x.length ≤ 6 ∧ x.Pairwise (· < ·) := by
  have s := lots_sub hx
  have hl : (sortN (gls l)).length ≤ 6 := by rw [(sortN_perm _).length_eq]; exact gls_len h
  refine ⟨fun g hg => (sortN_perm _).mem_iff.mp (s.subset hg), by have := s.length_le; omega, ?_⟩
  exact List.Pairwise.sublist s (lt_of_le_nd (sortN_sorted _) ((sortN_perm _).nodup_iff.mpr h.nd))
/-- the lots of which all are mixed -/
def KK (l : Ln) : List (List Nat) := ((lotsOf l).drop 1).filter (knotP (TT l))
def GK (l : Ln) : List (List Nat) := (KK l).filter (greatP (KK l))
theorem KK_in {l : Ln} {x : List Nat} (h : x ∈ KK l) : x ∈ lotsOf l := List.mem_of_mem_drop (List.mem_filter.mp h).1
theorem KK_len {l : Ln} (h : LOk l) : (KK l).length ≤ 63 := by
  have h1 := len_lots h
  have h2 : ((lotsOf l).drop 1).length = (lotsOf l).length - 1 := List.length_drop
  have h3 := List.length_filter_le (knotP (TT l)) ((lotsOf l).drop 1)
  unfold KK
  omega
theorem strs_tx (l : List (List Nat)) : strsOf (txD l) = some l := strsOf_map l
theorem sortS_tx {l : List (List Nat)} {S : Store} (h : l.length < 64) : gSortS [.d (.lst (txD l))] S = .ok (.d (.lst (txD (sortL l)))) S := by
  simp only [gSortS, val_d, strs_tx]
  rw [if_pos (by omega)]; rfl
theorem sortS_cell {l : List (List Nat)} {S : Store} {n : Nat} (hn : S[n]? = some (.lst (txD l))) (h : l.length < 64) : gSortS [.loc n] S = .ok (.d (.lst (txD (sortL l)))) S := by
  have v : val (.loc n) S = some (.lst (txD l)) := by rw [val_loc, hn]
  simp only [gSortS, v, strs_tx]
  rw [if_pos (by omega)]; rfl
def keepB : FS := fIfS (fNotB (toB (fCall gAny (fCons (fLc (fItemsK (fVar 2)) (.name 5) fYes (fAndV (fBin gNe (fVar 5) (fVar 4)) (fCall gAll (fCons (fLc (fItemsK (fVar 4)) (.name 6) fYes (fBin (gIn0 false) (fVar 6) (fVar 5)) [6]) fNil))) [5]) fNil)))) (fExpr (fBM "list" gAppend (fVar 3) (fCons (fVar 4) fNil))) fNext
theorem all_knots {l : Ln} {S : Store} (h : LOk l) : F_all_knots [.d (LV l)] S = .ok (.d (.lst (txD (sortL (GK l))))) S := by
  have hT : (S ++ [Cell.lst (txD (GK l))]).take S.length = S := by simp
  have kl := KK_len h
  have t := table (S := S) h
  have el := letters (S := S) h
  have lo := lots_of (S := S) h
  have l64 := len_lots h
  have cd : cutL (txD (lotsOf l)) (some 1) none = txD ((lotsOf l).drop 1) := by
    have := cut_from (xs := txD (lotsOf l)) (n := 1)
    rw [show ((1 : Nat) : Int) = 1 from rfl] at this
    rw [this, txD, txD, List.map_drop]
  have c1 := compD_fil (t := .name 4) (tt := toB (fCall F_is_knot (fCons (fVar 1) (fCons (fVar 4) fNil)))) (f := fVar 4) (ρ := [some (.d (LV l)), some (.d (TB l)), none, none, none, none, none]) (S := S) (mk := D.str) (r := D.str) (p := knotP (TT l)) ((lotsOf l).drop 1) (fun x hx => by
    obtain ⟨h1, h2, h3⟩ := lot_in h (List.mem_of_mem_drop hx)
    have e := is_knot (S := S) h h1 h2
    generalize knotP (TT l) x = b at *
    cases b <;> simp [e])
  rw [← txD] at c1
  have ek : (((lotsOf l).drop 1).filter (knotP (TT l))).map D.str = txD (KK l) := rfl
  rw [ek] at c1
  have ln1 : lenOk (txD ((lotsOf l).drop 1)).length = true := lenOk_of (by rw [txD, List.length_map, List.length_drop]; omega)
  have lo0 : lenOk 0 = true := lenOk_of (by omega)
  obtain ⟨ρ', S', e, x, rfl, rfl⟩ := forD_inv (g := gSet 4) (b := keepB) (all := txD (KK l)) (ρ := [some (.d (LV l)), some (.d (TB l)), some (.d (.lst (txD (KK l)))), some (.loc S.length), none, none, none]) (S := S ++ [.lst []])
    (fun i ρ S' => ∃ x, ρ = [some (.d (LV l)), some (.d (TB l)), some (.d (.lst (txD (KK l)))), some (.loc S.length), x, none, none] ∧ S' = S ++ [.lst (txD (((KK l).take i).filter (greatP (KK l))))]) ⟨none, rfl, by simp [txD]⟩ (by
      rintro i d ρ S' hd ⟨x, rfl, rfl⟩
      rw [txD, List.getElem?_map, Option.map_eq_some_iff] at hd
      obtain ⟨lot, hlot, rfl⟩ := hd
      have hm := List.mem_of_getElem? hlot
      obtain ⟨k1, k2, k3⟩ := lot_in h (KK_in hm)
      generalize hS : S ++ [Cell.lst (txD (((KK l).take i).filter (greatP (KK l))))] = S2
      have lol : lenOk lot.length = true := lenOk_of (by omega)
      have lok : lenOk (KK l).length = true := lenOk_of (by omega)
      have c2 := compD_map (t := .name 5) (tt := fYes) (f := fAndV (fBin gNe (fVar 5) (fVar 4)) (fCall gAll (fCons (fLc (fItemsK (fVar 4)) (.name 6) fYes (fBin (gIn0 false) (fVar 6) (fVar 5)) [6]) fNil))) (ρ := [some (.d (LV l)), some (.d (TB l)), some (.d (.lst (txD (KK l)))), some (.loc S.length), some (.d (.str lot)), none, none]) (S := S2) (mk := D.str) (r := fun o => D.bl (decide (o ≠ lot) && lot.all fun s => decide (s ∈ o))) (KK l) (fun o ho => by
        by_cases e : o = lot
        · subst e; simp
        · have eb : (o == lot) = false := by simp [e]
          have c3 := compD_map (t := .name 6) (tt := fYes) (f := fBin (gIn0 false) (fVar 6) (fVar 5)) (ρ := [some (.d (LV l)), some (.d (TB l)), some (.d (.lst (txD (KK l)))), some (.loc S.length), some (.d (.str lot)), some (.d (.str o)), none]) (S := S2) (mk := fun c => D.str [c]) (r := fun s => D.bl (decide (s ∈ o))) lot (fun s hs => by simp)
          have a3 := all_bl (S := S2) (fun s => decide (s ∈ o)) lot
          simp [e, eb, lol, c3, a3])
      rw [← txD] at c2
      have a2 := any_bl (S := S2) (fun o => decide (o ≠ lot) && lot.all fun s => decide (s ∈ o)) (KK l)
      have et : (KK l).take (i + 1) = (KK l).take i ++ [lot] := by rw [List.take_add_one, hlot]; rfl
      have eg : ((KK l).any fun o => decide (o ≠ lot) && lot.all fun s => decide (s ∈ o)) = !greatP (KK l) lot := by unfold greatP; simp
      rw [eg] at a2
      have ltx : (txD (KK l)).length = (KK l).length := by simp [txD]
      have tst : fNotB (toB (fCall gAny (fCons (fLc (fItemsK (fVar 2)) (.name 5) fYes (fAndV (fBin gNe (fVar 5) (fVar 4)) (fCall gAll (fCons (fLc (fItemsK (fVar 4)) (.name 6) fYes (fBin (gIn0 false) (fVar 6) (fVar 5)) [6]) fNil))) [5]) fNil))) [some (.d (LV l)), some (.d (TB l)), some (.d (.lst (txD (KK l)))), some (.loc S.length), some (.d (.str lot)), none, none] S2 = .ok (greatP (KK l) lot) S2 := by
        simp only [ne_eq, decide_not] at c2 a2
        simp [lok, ltx, c2, a2]
      cases hb : greatP (KK l) lot with
      | true =>
        refine ⟨_, _, [some (.d (LV l)), some (.d (TB l)), some (.d (.lst (txD (KK l)))), some (.loc S.length), some (.d (.str lot)), none, none], S ++ [.lst (txD (((KK l).take i).filter (greatP (KK l))) ++ [.str lot])], rfl, .inl ?_, _, rfl, ?_⟩
        · have t1 : tyW "list" (.loc S.length) S2 = true := tyW_cell (ds := txD (((KK l).take i).filter (greatP (KK l)))) (by rw [← hS]; simp)
          have ea := append_at (S := S2) (n := S.length) (ds := txD (((KK l).take i).filter (greatP (KK l)))) (d := .str lot) (by rw [← hS]; simp) (by
            rw [txD, List.length_map]
            have := List.length_filter_le (greatP (KK l)) ((KK l).take i)
            have := (List.take_sublist i (KK l)).length_le
            omega)
          have es : S2.set S.length (.lst (txD (((KK l).take i).filter (greatP (KK l))) ++ [.str lot])) = S ++ [.lst (txD (((KK l).take i).filter (greatP (KK l))) ++ [.str lot])] := by rw [← hS]; simp
          rw [es] at ea
          rw [keepB, ev_ifS]
          show thenS _ (fNotB _ [some (.d (LV l)), some (.d (TB l)), some (.d (.lst (txD (KK l)))), some (.loc S.length), some (.d (.str lot)), none, none] S2) _ = _
          rw [tst, hb]
          simp [t1, ea]
        · rw [et, List.filter_append, List.filter_cons_of_pos hb]; simp [txD]
      | false =>
        refine ⟨_, _, [some (.d (LV l)), some (.d (TB l)), some (.d (.lst (txD (KK l)))), some (.loc S.length), some (.d (.str lot)), none, none], S2, rfl, .inl ?_, _, rfl, ?_⟩
        · rw [keepB, ev_ifS]
          show thenS _ (fNotB _ [some (.d (LV l)), some (.d (TB l)), some (.d (.lst (txD (KK l)))), some (.loc S.length), some (.d (.str lot)), none, none] S2) _ = _
          rw [tst, hb]
          simp
        · rw [et, List.filter_append, List.filter_cons_of_neg (by rw [hb]; simp), ← hS]; simp [txD])
  have ltx : (txD (KK l)).length = (KK l).length := by simp [txD]
  rw [ltx, List.take_length] at e
  have gl : (GK l).length < 64 := by
    have := List.length_filter_le (greatP (KK l)) (KK l)
    unfold GK; omega
  have ss := sortS_cell (S := S ++ [.lst (txD (GK l))]) (n := S.length) (l := GK l) (by simp) gl
  have e' : forD (gSet 4) keepB (txD (KK l)) [some (.d (LV l)), some (.d (TB l)), some (.d (.lst (txD (KK l)))), some (.loc S.length), none, none, none] (S ++ [.lst []]) = .nx [some (.d (LV l)), some (.d (TB l)), some (.d (.lst (txD (KK l)))), some (.loc S.length), x, none, none] (S ++ [.lst (txD (GK l))]) := e
  simp only [keepB] at e'
  have t' : F_mixed_table [.d (LV l)] S = .ok (.d (TB l)) S := t
  generalize (lotsOf l).drop 1 = d1 at cd c1 ln1
  simp [F_all_knots, fnK_go, G_all_knots, t', el, ins_LV, lo, cd, c1, ln1, lo0, e', ss, hT]
/-- the lots apart, but for the empty one -/
def BB (l : Ln) : List (List Nat) := ((lotsOf l).drop 1).filter (apartP (TT l))
theorem BB_in {l : Ln} {x : List Nat} (h : x ∈ BB l) : x ∈ lotsOf l := List.mem_of_mem_drop (List.mem_filter.mp h).1
theorem BB_len {l : Ln} (h : LOk l) : (BB l).length ≤ 63 := by
  have h1 := len_lots h
  have h2 : ((lotsOf l).drop 1).length = (lotsOf l).length - 1 := List.length_drop
  have h3 := List.length_filter_le (apartP (TT l)) ((lotsOf l).drop 1)
  unfold BB
  omega
theorem BB_one {l : Ln} (h : LOk l) : ∃ c, [c] ∈ BB l := by
  have hl : (sortN (gls l)).length = l.length := by rw [(sortN_perm _).length_eq, gls, List.length_map]
  have ho := h.lo
  cases e : sortN (gls l) with
  | nil => rw [e] at hl; simp at hl; omega
  | cons c ls =>
    obtain ⟨g, hg⟩ := lots_one (c := c) (ls := ls)
    refine ⟨c, List.mem_filter.mpr ⟨?_, by simp [apartP]⟩⟩
    rw [lotsOf, e, hg]
    simp
theorem AA_eq (l : Ln) : (lotsOf l).filter (apartP (TT l)) = [] :: BB l := by
  obtain ⟨g, hg⟩ := lots_head (sortN (gls l))
  have e : lotsOf l = [] :: g := hg
  unfold BB
  rw [e, List.filter_cons_of_pos (by simp [apartP])]
  rfl
theorem maxI_some {ns : List Int} (h : ns ≠ []) : ∃ m, maxI ns = some m ∧ m ∈ ns ∧ ∀ y ∈ ns, y ≤ m := by
  cases ns with
  | nil => exact absurd rfl h
  | cons x xs =>
    obtain ⟨a1, a2, a3⟩ := foldmax xs x
    refine ⟨_, rfl, ?_, fun y hy => ?_⟩
    · rcases a3 with e | e
      · rw [e]; exact List.mem_cons_self
      · exact List.mem_cons_of_mem _ e
    · rcases List.mem_cons.mp hy with rfl | hy
      · exact a1
      · exact a2 y hy
def lens (l : List (List Nat)) : List Int := l.map fun x => (x.length : Int)
/-- the size of the greatest ones -/
theorem BB_max {l : Ln} (h : LOk l) : ∃ m : Int, 1 ≤ m ∧ maxI (lens (BB l)) = some m ∧ maxI (lens ([] :: BB l)) = some m := by
  obtain ⟨c, hc⟩ := BB_one h
  have h1 : (1 : Int) ∈ lens (BB l) := List.mem_map.mpr ⟨[c], hc, rfl⟩
  obtain ⟨m, e, hm, ha⟩ := maxI_some (ns := lens (BB l)) (fun e => by rw [e] at h1; cases h1)
  have m1 := ha 1 h1
  obtain ⟨k, ek, hk, hka⟩ := maxI_some (ns := lens ([] :: BB l)) (by simp [lens])
  have : m = k := maxI_iff ek (List.mem_cons_of_mem _ hm) fun y hy => by
    rcases List.mem_cons.mp hy with e | hy
    · rw [e]; show (0 : Int) ≤ m; omega
    · exact ha y hy
  exact ⟨m, m1, e, this ▸ ek⟩
def topM (l : Ln) : Int := (maxI (lens (BB l))).getD 0
def GA (l : Ln) : List (List Nat) := (BB l).filter fun x => decide ((x.length : Int) = topM l)
theorem topM_eq {l : Ln} (h : LOk l) : 1 ≤ topM l ∧ maxI (lens (BB l)) = some (topM l) ∧ maxI (lens ([] :: BB l)) = some (topM l) := by
  obtain ⟨m, h1, h2, h3⟩ := BB_max h
  have : topM l = m := by unfold topM; rw [h2]; rfl
  rw [this]
  exact ⟨h1, h2, h3⟩
theorem GA_len {l : Ln} (h : LOk l) : (GA l).length < 64 := by
  have := BB_len h
  have := List.length_filter_le (fun x : List Nat => decide ((x.length : Int) = topM l)) (BB l)
  unfold GA
  omega
theorem GA_ne {l : Ln} (h : LOk l) : GA l ≠ [] := by
  obtain ⟨h1, h2, h3⟩ := topM_eq h
  obtain ⟨c, hc⟩ := BB_one h
  obtain ⟨m, e, hm, ha⟩ := maxI_some (ns := lens (BB l)) (fun e => by
    have : (1 : Int) ∈ lens (BB l) := List.mem_map.mpr ⟨[c], hc, rfl⟩
    rw [e] at this; cases this)
  rw [h2] at e
  cases e
  obtain ⟨x, hx, ex⟩ := List.mem_map.mp hm
  have : x ∈ GA l := List.mem_filter.mpr ⟨hx, by simpa using ex⟩
  exact fun e => by rw [e] at this; cases this
theorem all_apart {l : Ln} {S : Store} (h : LOk l) : F_all_apart [.d (LV l)] S = .ok (.d (.lst (txD (sortL (GA l))))) S := by
  have hT : S.take S.length = S := List.take_length
  have bl := BB_len h
  obtain ⟨m1, m2, m3⟩ := topM_eq h
  have t : F_mixed_table [.d (LV l)] S = .ok (.d (TB l)) S := table (S := S) h
  have el := letters (S := S) h
  have lo := lots_of (S := S) h
  have l64 := len_lots h
  have c1 := compD_fil (t := .name 4) (tt := toB (fCall F_is_apart (fCons (fVar 1) (fCons (fVar 4) fNil)))) (f := fVar 4) (ρ := [some (.d (LV l)), some (.d (TB l)), none, none, none]) (S := S) (mk := D.str) (r := D.str) (p := apartP (TT l)) (lotsOf l) (fun x hx => by
    obtain ⟨h1, h2, h3⟩ := lot_in h hx
    have e := is_apart (S := S) h h1 h2
    generalize apartP (TT l) x = b at *
    cases b <;> simp [e])
  rw [← txD, AA_eq, ← txD] at c1
  have ln1 : lenOk (txD (lotsOf l)).length = true := lenOk_of (by rw [txD, List.length_map]; omega)
  have ln2 : lenOk (txD ([] :: BB l)).length = true := lenOk_of (by rw [txD, List.length_map, List.length_cons]; omega)
  have c2 := compD_map (t := .name 4) (tt := fYes) (f := fCall gLen (fCons (fVar 4) fNil)) (ρ := [some (.d (LV l)), some (.d (TB l)), some (.d (.lst (txD ([] :: BB l)))), none, none]) (S := S) (mk := D.str) (r := fun x => D.int x.length) ([] :: BB l) (fun x hx => by simp)
  have e2 : (([] :: BB l).map fun x => D.int x.length) = (lens ([] :: BB l)).map D.int := by rw [lens, List.map_map]; rfl
  rw [← txD, e2] at c2
  have a2 := agg_go (S := S) m3
  have c3 := compD_fil (t := .name 4) (tt := toB (fBin gEq (fCall gLen (fCons (fVar 4) fNil)) (fVar 3))) (f := fVar 4) (ρ := [some (.d (LV l)), some (.d (TB l)), some (.d (.lst (txD ([] :: BB l)))), some (.d (.int (topM l))), none]) (S := S) (mk := D.str) (r := D.str) (p := fun x => decide ((x.length : Int) = topM l)) ([] :: BB l) (fun x hx => by
    by_cases e : (x.length : Int) = topM l
    · simp [e]
    · have eb : ((x.length : Int) == topM l) = false := by simp [e]
      simp [e, eb])
  have e3 : (([] :: BB l).filter fun x => decide ((x.length : Int) = topM l)) = GA l := by
    rw [List.filter_cons_of_neg]
    · rfl
    · simp; omega
  rw [← txD, e3, ← txD] at c3
  have ss := sortS_tx (S := S) (GA_len h)
  generalize hA : txD ([] :: BB l) = A at *
  simp [F_all_apart, fnK_go, G_all_apart, t, el, ins_LV, lo, c1, ln1, ln2, c2, a2, c3, ss, hT]
theorem knots {l : Ln} {S : Store} (h : LOk l) : F_knots [.d (LV l)] S = .ok (.d (.tup (txD (sortL (GK l))))) S := by
  have hT : S.take S.length = S := List.take_length
  have c0 := check_line (l := l) (S := S)
  have e := all_knots (S := S) h
  simp [F_knots, fnK_go, G_knots, c0, e, hT]
theorem apart {l : Ln} {S : Store} (h : LOk l) : F_apart [.d (LV l)] S = .ok (.d (.tup (txD (sortL (GA l))))) S := by
  have hT : S.take S.length = S := List.take_length
  have c0 := check_line (l := l) (S := S)
  have e := all_apart (S := S) h
  simp [F_apart, fnK_go, G_apart, c0, e, hT]
theorem most_apart {l : Ln} {S : Store} (h : LOk l) : ∃ x, (sortL (GA l))[0]? = some x ∧ F_most_apart [.d (LV l)] S = .ok (.d (.int x.length)) S := by
  have hT : S.take S.length = S := List.take_length
  have c0 := check_line (l := l) (S := S)
  have e := all_apart (S := S) h
  cases hx : sortL (GA l) with
  | nil =>
    have := (sortL_perm (GA l)).length_eq
    rw [hx] at this
    exact absurd (List.eq_nil_of_length_eq_zero this.symm) (GA_ne h)
  | cons x xs =>
    rw [hx] at e
    refine ⟨x, rfl, ?_⟩
    simp [F_most_apart, fnK_go, G_most_apart, c0, e, hT, txD]
def NB (l : Ln) : D := .dct (ones' (gls l)) (l.map fun p => .lst (ones' (shr l p.2)))
theorem ix_near {l : Ln} (h : LOk l) {g : Nat} (hg : g ∈ gls l) {S : Store} : gIxD (NB l) (.str [g]) S = .ok (.d (.lst (ones' (TT l g)))) S := by
  have k1 : (dkey (.str [g])).isSome = true := rfl
  have d1 := dget_tab h hg (v := fun x => D.lst (ones' x))
  rw [NB, ix_dct, if_pos k1, d1]
theorem eq_nil_tx {l : List (List Nat)} {S : Store} : gEqD (.lst (txD l)) (.lst []) S = .ok (.d (.bl l.isEmpty)) S := by
  have h1 : plainD 60 (.lst (txD l)) = true := by
    rw [plainD]; exact plain_strs 59 _ fun d hd => by obtain ⟨c, _, rfl⟩ := List.mem_map.mp hd; exact ⟨_, rfl⟩
  have h2 : eqOk (.lst (txD l)) (.lst []) = true := by unfold eqOk; rw [h1]; rfl
  rw [eq_D, if_pos h2]
  cases l <;> rfl
theorem own_knot {l : Ln} {lot : List Nat} {S : Store} (h : LOk l) (hs : ∀ g ∈ lot, g ∈ gls l) (hl : lot.length ≤ 6) {w0 w2 w4 w5 w6 : Option W} : fCall gAll (fCons (fLc (fItemsK (fVar 3)) (.name 5) fYes (fBin gEq (fCall gLen (fCons (fLc (fItemsK (fVar 3)) (.name 6) (toB (fBin (gIn0 false) (fVar 6) (fBin gIx (fVar 1) (fVar 5)))) (fVar 6) [6]) fNil)) (fCall gLen (fCons (fVar 3) fNil))) [5]) fNil) [w0, some (.d (NB l)), w2, some (.d (.str lot)), w4, w5, w6] S = .ok (.d (.bl (knotO (TT l) lot))) S := by
  have lol : lenOk lot.length = true := lenOk_of (by omega)
  have c1 := compD_map (t := .name 5) (tt := fYes) (f := fBin gEq (fCall gLen (fCons (fLc (fItemsK (fVar 3)) (.name 6) (toB (fBin (gIn0 false) (fVar 6) (fBin gIx (fVar 1) (fVar 5)))) (fVar 6) [6]) fNil)) (fCall gLen (fCons (fVar 3) fNil))) (ρ := [w0, some (.d (NB l)), w2, some (.d (.str lot)), w4, none, w6]) (S := S) (mk := fun c => D.str [c]) (r := fun g => D.bl (decide ((lot.filter fun o => decide (o ∈ TT l g)).length = lot.length))) lot (fun g hg => by
    have ix := ix_near h (hs g hg) (S := S)
    have c2 := compD_fil (t := .name 6) (tt := toB (fBin (gIn0 false) (fVar 6) (fBin gIx (fVar 1) (fVar 5)))) (f := fVar 6) (ρ := [w0, some (.d (NB l)), w2, some (.d (.str lot)), w4, some (.d (.str [g])), none]) (S := S) (mk := fun c => D.str [c]) (r := fun c => D.str [c]) (p := fun o => decide (o ∈ TT l g)) lot (fun o ho => by
      have e := in_strs (S := S) (neg := false) (c := o) (l := TT l g)
      rw [← ones'] at e
      by_cases hm : o ∈ TT l g <;> simp [ix, e, hm])
    generalize (lot.filter fun o => decide (o ∈ TT l g)) = F at *
    have lb : ((F.length : Int) == (lot.length : Int)) = decide (F.length = lot.length) := by
      rw [Bool.eq_iff_iff, beq_iff_eq, decide_eq_true_eq]; omega
    simp [lol, c2, lb])
  have a1 := all_bl (S := S) (fun g => decide ((lot.filter fun o => decide (o ∈ TT l g)).length = lot.length)) lot
  simp [lol, c1, a1, knotO, -List.length_filter_eq_length_iff]
theorem own_apart {l : Ln} {lot : List Nat} {S : Store} (h : LOk l) (hs : ∀ g ∈ lot, g ∈ gls l) (hl : lot.length ≤ 6) {w0 w2 w4 w5 w6 : Option W} : fCall gAll (fCons (fLc (fItemsK (fVar 3)) (.name 5) fYes (fBin gEq (fLc (fItemsK (fVar 3)) (.name 6) (toB (fBin (gIn0 false) (fVar 6) (fBin gIx (fVar 1) (fVar 5)))) (fVar 6) [6]) (fLst (fCons (fVar 5) fNil))) [5]) fNil) [w0, some (.d (NB l)), w2, some (.d (.str lot)), w4, w5, w6] S = .ok (.d (.bl (apartO (TT l) lot))) S := by
  have lol : lenOk lot.length = true := lenOk_of (by omega)
  have lo1 : lenOk 1 = true := lenOk_of (by omega)
  have c1 := compD_map (t := .name 5) (tt := fYes) (f := fBin gEq (fLc (fItemsK (fVar 3)) (.name 6) (toB (fBin (gIn0 false) (fVar 6) (fBin gIx (fVar 1) (fVar 5)))) (fVar 6) [6]) (fLst (fCons (fVar 5) fNil))) (ρ := [w0, some (.d (NB l)), w2, some (.d (.str lot)), w4, none, w6]) (S := S) (mk := fun c => D.str [c]) (r := fun g => D.bl (decide (lot.filter (fun o => decide (o ∈ TT l g)) = [g]))) lot (fun g hg => by
    have ix := ix_near h (hs g hg) (S := S)
    have c2 := compD_fil (t := .name 6) (tt := toB (fBin (gIn0 false) (fVar 6) (fBin gIx (fVar 1) (fVar 5)))) (f := fVar 6) (ρ := [w0, some (.d (NB l)), w2, some (.d (.str lot)), w4, some (.d (.str [g])), none]) (S := S) (mk := fun c => D.str [c]) (r := fun c => D.str [c]) (p := fun o => decide (o ∈ TT l g)) lot (fun o ho => by
      have e := in_strs (S := S) (neg := false) (c := o) (l := TT l g)
      rw [← ones'] at e
      by_cases hm : o ∈ TT l g <;> simp [ix, e, hm])
    have q1 := eqOk_ones (a := lot.filter fun o => decide (o ∈ TT l g)) (b := [g])
    have q2 := deq_ones2 (a := lot.filter fun o => decide (o ∈ TT l g)) (b := [g])
    generalize (lot.filter fun o => decide (o ∈ TT l g)) = F at *
    simp only [ones', List.map_cons, List.map_nil] at q1 q2
    simp [lol, lo1, c2, q1, q2])
  have a1 := all_bl (S := S) (fun g => decide (lot.filter (fun o => decide (o ∈ TT l g)) = [g])) lot
  simp [lol, c1, a1, apartO]
/-- what passes a test is put into a cell -/
theorem keep_loop {g : FG} {b : FS} {q : List Nat → Bool} {ls : List (List Nat)} {S : Store} {c2 : Store} {mkE : Option W → DL.Env} (hlen : ls.length ≤ 100) (hg : ∀ d x S1, g (.d d) (mkE x) S1 = .ok (mkE (some (.d d))) S1)
    (hb : ∀ lot acc, lot ∈ ls → acc.length ≤ 100 → b (mkE (some (.d (.str lot)))) (S ++ (.lst (txD acc) :: c2)) = .nx (mkE (some (.d (.str lot)))) (S ++ (.lst (txD (if q lot then acc ++ [lot] else acc)) :: c2))) (x0 : Option W) :
    ∃ x, forD g b (txD ls) (mkE x0) (S ++ (.lst (txD []) :: c2)) = .nx (mkE x) (S ++ (.lst (txD (ls.filter q)) :: c2)) := by
  obtain ⟨ρ', S', e, x, rfl, rfl⟩ := forD_inv (g := g) (b := b) (all := txD ls) (ρ := mkE x0) (S := S ++ (.lst (txD []) :: c2))
    (fun i ρ S' => ∃ x, ρ = mkE x ∧ S' = S ++ (.lst (txD ((ls.take i).filter q)) :: c2)) ⟨x0, rfl, rfl⟩ (by
      rintro i d ρ S' hd ⟨x, rfl, rfl⟩
      rw [txD, List.getElem?_map, Option.map_eq_some_iff] at hd
      obtain ⟨lot, hlot, rfl⟩ := hd
      have hm := List.mem_of_getElem? hlot
      have hl : ((ls.take i).filter q).length ≤ 100 := by
        have := List.length_filter_le q (ls.take i)
        have := (List.take_sublist i ls).length_le
        omega
      refine ⟨_, _, _, _, hg _ _ _, .inl (hb lot _ hm hl), _, rfl, ?_⟩
      rw [List.take_add_one, hlot, List.filter_append]
      show _ = S ++ (Cell.lst (txD ((ls.take i).filter q ++ List.filter q [lot])) :: c2)
      by_cases hq : q lot = true
      · rw [if_pos hq, List.filter_cons_of_pos hq]; rfl
      · rw [if_neg hq, List.filter_cons_of_neg hq, List.filter_nil, List.append_nil])
  have ll : (txD ls).length = ls.length := by simp [txD]
  rw [ll, List.take_length] at e
  exact ⟨x, e⟩
theorem keep_loopC {g : FG} {b : FS} {q : List Nat → Bool} {ls : List (List Nat)} {S : Store} {mkE : Option W → DL.Env} (hlen : ls.length ≤ 100) (hg : ∀ d x S1, g (.d d) (mkE x) S1 = .ok (mkE (some (.d d))) S1)
    (hb : ∀ lot acc, lot ∈ ls → acc.length ≤ 100 → b (mkE (some (.d (.str lot)))) (S ++ [.lst (txD ls), .lst (txD acc)]) = .nx (mkE (some (.d (.str lot)))) (S ++ [.lst (txD ls), .lst (txD (if q lot then acc ++ [lot] else acc))])) (x0 : Option W) :
    ∃ x, forS g b (.cell S.length) (mkE x0) (S ++ [.lst (txD ls), .lst (txD [])]) = .nx (mkE x) (S ++ [.lst (txD ls), .lst (txD (ls.filter q))]) := by
  obtain ⟨ρ', S', e, x, rfl, rfl⟩ := forC_inv (g := g) (b := b) (all := txD ls) (n := S.length) (ρ := mkE x0) (S := S ++ [.lst (txD ls), .lst (txD [])])
    (fun i ρ S' => ∃ x, ρ = mkE x ∧ S' = S ++ [.lst (txD ls), .lst (txD ((ls.take i).filter q))]) (by rintro i ρ S' ⟨x, rfl, rfl⟩; simp) ⟨x0, rfl, rfl⟩ (by
      rintro i d ρ S' hd ⟨x, rfl, rfl⟩
      rw [txD, List.getElem?_map, Option.map_eq_some_iff] at hd
      obtain ⟨lot, hlot, rfl⟩ := hd
      have hm := List.mem_of_getElem? hlot
      have hl : ((ls.take i).filter q).length ≤ 100 := by
        have := List.length_filter_le q (ls.take i)
        have := (List.take_sublist i ls).length_le
        omega
      refine ⟨_, _, _, _, hg _ _ _, .inl (hb lot _ hm hl), _, rfl, ?_⟩
      rw [List.take_add_one, hlot, List.filter_append]
      show _ = S ++ [Cell.lst (txD ls), .lst (txD ((ls.take i).filter q ++ List.filter q [lot]))]
      by_cases hq : q lot = true
      · rw [if_pos hq, List.filter_cons_of_pos hq]; rfl
      · rw [if_neg hq, List.filter_cons_of_neg hq, List.filter_nil, List.append_nil])
  have ll : (txD ls).length = ls.length := by simp [txD]
  rw [ll, List.take_length] at e
  exact ⟨x, e⟩
theorem put_at {acc : List (List Nat)} {S c2 : Store} {lot : List Nat} (h : acc.length ≤ 100) : gAppend [.loc S.length, .d (.str lot)] (S ++ (.lst (txD acc) :: c2)) = .ok (.d .non) (S ++ (.lst (txD (acc ++ [lot])) :: c2)) := by
  have e := append_at (S := S ++ (.lst (txD acc) :: c2)) (n := S.length) (ds := txD acc) (d := .str lot) (by simp) (by rw [txD, List.length_map]; omega)
  rw [e]
  simp [txD]
theorem put_at1 {acc : List (List Nat)} {S : Store} {c0 : Cell} {lot : List Nat} (h : acc.length ≤ 100) : gAppend [.loc (S.length + 1), .d (.str lot)] (S ++ [c0, .lst (txD acc)]) = .ok (.d .non) (S ++ [c0, .lst (txD (acc ++ [lot]))]) := by
  have e := append_at (S := S ++ [c0, .lst (txD acc)]) (n := S.length + 1) (ds := txD acc) (d := .str lot) (by rw [app_get rfl]; rfl) (by rw [txD, List.length_map]; omega)
  rw [e, app_set rfl]
  simp [txD]
def bodyK1 : FS := (fIfS (toB (fCall gAll (fCons (fLc (fItemsK (fVar 3)) (.name 5) fYes (fBin gEq (fCall gLen (fCons (fLc (fItemsK (fVar 3)) (.name 6) (toB (fBin (gIn0 false) (fVar 6) (fBin gIx (fVar 1) (fVar 5)))) (fVar 6) [6]) fNil)) (fCall gLen (fCons (fVar 3) fNil))) [5]) fNil))) (fExpr (fBM "list" gAppend (fVar 2) (fCons (fVar 3) fNil))) fNext)
theorem loopK1 {l : Ln} {S : Store} {w0 : Option W} (h : LOk l) : ∃ x, forD (gSet 3) bodyK1 (txD ((lotsOf l).drop 1)) [w0, some (.d (NB l)), some (.loc S.length), none, none, none, none] (S ++ [.lst []]) = .nx [w0, some (.d (NB l)), some (.loc S.length), x, none, none, none] (S ++ [.lst (txD (KK l))]) := by
  have hl := len_lots h
  obtain ⟨x, e⟩ := keep_loop (g := gSet 3) (b := bodyK1) (q := knotO (TT l)) (ls := (lotsOf l).drop 1) (S := S) (c2 := []) (mkE := fun x => [w0, some (.d (NB l)), some (.loc S.length), x, none, none, none]) (by rw [List.length_drop]; omega) (fun _ _ _ => rfl) (fun lot acc hm ha => by
    obtain ⟨k1, k2, k3⟩ := lot_in h (List.mem_of_mem_drop hm)
    have e := own_knot (S := S ++ [.lst (txD acc)]) h k1 k2 (w0 := w0) (w2 := some (.loc S.length)) (w4 := none) (w5 := none) (w6 := none)
    have p := put_at (S := S) (c2 := []) (lot := lot) ha
    have t1 : tyW "list" (.loc S.length) (S ++ [.lst (txD acc)]) = true := tyW_cell (ds := txD acc) (by simp)
    rw [bodyK1, ev_ifS, ev_toB, e]
    cases knotO (TT l) lot <;> simp [p, t1]) none
  have ek : ((lotsOf l).drop 1).filter (knotO (TT l)) = KK l := by
    have : knotO (TT l) = knotP (TT l) := by funext x; exact (knot_eq _ x).symm
    rw [this]; rfl
  rw [ek] at e
  exact ⟨x, e⟩
def bodyK2 : FS := (fIfS (toB (fBin gEq (fLc (fItemsK (fVar 2)) (.name 6) (fAndB (toB (fBin gGt (fCall gLen (fCons (fVar 6) fNil)) (fCall gLen (fCons (fVar 3) fNil)))) (toB (fBin gEq (fLc (fItemsK (fVar 3)) (.name 5) (toB (fBin (gIn0 true) (fVar 5) (fVar 6))) (fVar 5) [5]) (fLst fNil)))) (fVar 6) [6]) (fLst fNil))) (fExpr (fBM "list" gAppend (fVar 4) (fCons (fVar 3) fNil))) fNext)
theorem loopK2 {l : Ln} {S : Store} {w0 w1 x0 : Option W} (h : LOk l) : ∃ x, forS (gSet 3) bodyK2 (.cell S.length) [w0, w1, some (.loc S.length), x0, some (.loc (S.length + 1)), none, none] (S ++ [.lst (txD (KK l)), .lst []]) = .nx [w0, w1, some (.loc S.length), x, some (.loc (S.length + 1)), none, none] (S ++ [.lst (txD (KK l)), .lst (txD (GK l))]) := by
  have kl := KK_len h
  obtain ⟨x, e⟩ := keep_loopC (g := gSet 3) (b := bodyK2) (q := greatO (KK l)) (ls := KK l) (S := S) (mkE := fun x => [w0, w1, some (.loc S.length), x, some (.loc (S.length + 1)), none, none]) (by omega) (fun _ _ _ => rfl) (fun lot acc hm ha => by
    obtain ⟨k1, k2, k3⟩ := lot_in h (KK_in hm)
    have lol : lenOk lot.length = true := lenOk_of (by omega)
    have lo0 : lenOk 0 = true := lenOk_of (by omega)
    generalize hS : S ++ [Cell.lst (txD (KK l)), .lst (txD acc)] = S2
    have gS : S2[S.length]? = some (.lst (txD (KK l))) := by rw [← hS]; simp
    have c1 := compC_fil (t := .name 6) (tt := fAndB (toB (fBin gGt (fCall gLen (fCons (fVar 6) fNil)) (fCall gLen (fCons (fVar 3) fNil)))) (toB (fBin gEq (fLc (fItemsK (fVar 3)) (.name 5) (toB (fBin (gIn0 true) (fVar 5) (fVar 6))) (fVar 5) [5]) (fLst fNil)))) (f := fVar 6) (ρ := [w0, w1, some (.loc S.length), some (.d (.str lot)), some (.loc (S.length + 1)), none, none]) (S := S2) (n := S.length) (mk := D.str) (r := D.str) (p := fun each => decide (lot.length < each.length) && decide (lot.filter (fun g => !decide (g ∈ each)) = [])) (l := KK l) gS (fun o ho => by
      have c3 := compD_fil (t := .name 5) (tt := toB (fBin (gIn0 true) (fVar 5) (fVar 6))) (f := fVar 5) (ρ := [w0, w1, some (.loc S.length), some (.d (.str lot)), some (.loc (S.length + 1)), none, some (.d (.str o))]) (S := S2) (mk := fun c => D.str [c]) (r := fun c => D.str [c]) (p := fun g => !decide (g ∈ o)) lot (fun c hc => by
        by_cases e : c ∈ o <;> simp [e])
      have q1 := eqOk_ones (a := lot.filter fun g => !decide (g ∈ o)) (b := [])
      have q2 := deq_ones2 (a := lot.filter fun g => !decide (g ∈ o)) (b := [])
      generalize (lot.filter fun g => !decide (g ∈ o)) = F at *
      simp only [ones', List.map_nil] at q1 q2
      by_cases hl : lot.length < o.length
      · have h3 : (lot.length : Int) < (o.length : Int) := by omega
        by_cases hF : F = []
        · simp [hl, h3, hF, lol, lo0, c3, q1, q2]
          subst hF
          simp at c3 q1
          simp [c3, q1]
        · simp [hl, h3, hF, lol, lo0, c3, q1, q2]
      · have h3 : ¬ (lot.length : Int) < (o.length : Int) := by omega
        simp [hl, h3])
    rw [← txD] at c1
    have eq := eq_nil_tx (S := S2) (l := (KK l).filter fun each => decide (lot.length < each.length) && decide (lot.filter (fun g => !decide (g ∈ each)) = []))
    have eg : ((KK l).filter fun each => decide (lot.length < each.length) && decide (lot.filter (fun g => !decide (g ∈ each)) = [])).isEmpty = greatO (KK l) lot := rfl
    rw [eg] at eq
    generalize ((KK l).filter fun each => decide (lot.length < each.length) && decide (lot.filter (fun g => !decide (g ∈ each)) = [])) = F at *
    have ltx : (txD (KK l)).length = (KK l).length := by simp [txD]
    have tst : toB (fBin gEq (fLc (fItemsK (fVar 2)) (.name 6) (fAndB (toB (fBin gGt (fCall gLen (fCons (fVar 6) fNil)) (fCall gLen (fCons (fVar 3) fNil)))) (toB (fBin gEq (fLc (fItemsK (fVar 3)) (.name 5) (toB (fBin (gIn0 true) (fVar 5) (fVar 6))) (fVar 5) [5]) (fLst fNil)))) (fVar 6) [6]) (fLst fNil)) [w0, w1, some (.loc S.length), some (.d (.str lot)), some (.loc (S.length + 1)), none, none] S2 = .ok (greatO (KK l) lot) S2 := by
      simp [gS, ltx, c1, lo0, eq, -eq_D]
    have p := put_at1 (S := S) (c0 := .lst (txD (KK l))) (lot := lot) ha
    rw [hS] at p
    have t1 : tyW "list" (.loc (S.length + 1)) S2 = true := tyW_cell (ds := txD acc) (by rw [← hS, app_get rfl]; rfl)
    rw [bodyK2, ev_ifS, tst]
    cases greatO (KK l) lot <;> simp [p, t1, hS]) x0
  have eg : (KK l).filter (greatO (KK l)) = GK l := by
    refine (List.filter_congr fun x hx => ?_).symm
    exact great_eq (fun y hy => (lot_in h (KK_in hy)).2.2) hx
  rw [eg] at e
  exact ⟨x, e⟩
end PP
end
section
namespace PA
open PySem PySem.Spec PyProof.Rows L2 DL PP
def N__law_dip : List Str := ["jar", "wide", "digit", "seed"]
def P__law_dip : List Str := ["jar", "wide"]
def G__law_dip : FS := (fSeq (fAsg (fBin gAdd (fBin gIx (fVar 0) (fK (.d (.int 2)))) (fK (.d (.int 1)))) (gIxS (fVar 0) (fK (.d (.int 2))))) (fSeq (fIfS (toB (fBin gGt (fBin gIx (fVar 0) (fK (.d (.int 0)))) (fK (.d (.int 0))))) (fSeq (fAsg (fBin gMod (fCall gInt (fCons (fBin gIx (fVar 0) (fK (.d (.int 0)))) fNil)) (fVar 1)) (gSet 2)) (fSeq (fAsg (fBin gDiv (fCall gInt (fCons (fBin gIx (fVar 0) (fK (.d (.int 0)))) fNil)) (fVar 1)) (gIxS (fVar 0) (fK (.d (.int 0))))) (fRet (fVar 2)))) fNext) (fSeq (fAsg (fCall gInt (fCons (fBin gIx (fVar 0) (fK (.d (.int 1)))) fNil)) (gSet 3)) (fSeq (fAsg (fBin gMod (fCall gInt (fCons (fBin gAdd (fBin gAdd (fBin gMul (fVar 3) (fK (.d (.int 40692)))) (fBin gMul (fBin gIx (fVar 0) (fK (.d (.int 2)))) (fK (.d (.int 52021))))) (fK (.d (.int 31)))) fNil)) (fK (.d (.int 2147483399)))) (gIxS (fVar 0) (fK (.d (.int 1))))) (fRet (fBin gMod (fCall gInt (fCons (fBin gDiv (fBin gIx (fVar 0) (fK (.d (.int 1)))) (fK (.d (.int 2048)))) fNil)) (fVar 1)))))))
def F__law_dip : FF := fnK false 2 4 G__law_dip
def N__law_pick : List Str := ["jar", "menu", "at"]
def P__law_pick : List Str := ["jar", "menu"]
def G__law_pick : FS := (fSeq (fAsg (fCall F__law_dip (fCons (fVar 0) (fCons (fCall gLen (fCons (fVar 1) fNil)) fNil))) (gSet 2)) (fRet (fBin gIx (fVar 1) (fVar 2))))
def F__law_pick : FF := fnK false 2 3 G__law_pick
def N__law_figs : List Str := ["jar", "pool", "found", "figure"]
def P__law_figs : List Str := ["jar", "pool"]
def G__law_figs : FS := (fSeq (fAsg (fBM "str" gJoin (fK (.d (.str []))) (fCons (fLc (fItemsK (fVar 1)) (.name 3) (toB (fBin gEq (fCall F__law_dip (fCons (fVar 0) (fCons (fK (.d (.int 3))) fNil))) (fK (.d (.int 0))))) (fVar 3) [3]) fNil)) (gSet 2)) (fRet (fIf (toB (fBin gNe (fVar 2) (fK (.d (.str []))))) (fVar 2) (fBin gIx (fVar 1) (fCall F__law_dip (fCons (fVar 0) (fCons (fCall gLen (fCons (fVar 1) fNil)) fNil)))))))
def F__law_figs : FF := fnK false 2 4 G__law_figs
def N__law_glyphs : List Str := ["jar", "many", "rest", "found", "turn"]
def P__law_glyphs : List Str := ["jar", "many"]
def G__law_glyphs : FS := (fSeq (fPar 2 3 (fCons (fCall gListC (fCons (fK (.d (.str [97, 98, 99, 100, 101, 102, 109, 110, 120, 121, 122]))) fNil)) (fCons (fK (.d (.str []))) fNil))) (fSeq (fFor (fRange1 (fCons (fVar 1) fNil)) (gSet 4) (fAsg (fBin gAdd (fVar 3) (fBM "list" gPopAt (fVar 2) (fCons (fCall F__law_dip (fCons (fVar 0) (fCons (fCall gLen (fCons (fVar 2) fNil)) fNil))) fNil))) (gSet 3))) (fRet (fVar 3))))
def F__law_glyphs : FF := fnK false 2 5 G__law_glyphs
def N__law_plain_line : List Str := ["jar", "pool", "glyph"]
def P__law_plain_line : List Str := ["jar"]
def G__law_plain_line : FS := (fSeq (fAsg (fCall F__law_pick (fCons (fVar 0) (fCons (fLst (fCons (fK (.d (.str [48, 49, 50]))) (fCons (fK (.d (.str [48, 49, 50, 51]))) (fCons (fK (.d (.str [48, 49, 50, 51, 52]))) (fCons (fK (.d (.str [48, 49, 50, 51, 52, 53, 54, 55]))) (fCons (fK (.d (.str [50, 52]))) (fCons (fK (.d (.str [48, 51, 52, 53, 54, 55]))) fNil))))))) fNil))) (gSet 1)) (fRet (fCall gTuple (fCons (fLc (fItemsK (fCall F__law_glyphs (fCons (fVar 0) (fCons (fBin gAdd (fK (.d (.int 2))) (fCall F__law_dip (fCons (fVar 0) (fCons (fK (.d (.int 5))) fNil)))) fNil)))) (.name 2) fYes (fTup (fCons (fVar 2) (fCons (fCall F__law_figs (fCons (fVar 0) (fCons (fVar 1) fNil))) fNil))) [2]) fNil))))
def F__law_plain_line : FF := fnK false 1 3 G__law_plain_line
def N__law_ring_line : List Str := ["jar", "names", "rest", "figures", "turn", "found", "k", "own", "sixth", "more", "mixed_up"]
def P__law_ring_line : List Str := ["jar"]
def G__law_ring_line : FS := (fSeq (fAsg (fCall F__law_glyphs (fCons (fVar 0) (fCons (fK (.d (.int 6))) fNil))) (gSet 1)) (fSeq (fPar 2 3 (fCons (fCall gListC (fCons (fK (.d (.str [48, 49, 50, 51, 52, 53, 54, 55]))) fNil)) (fCons (fLstC fNil) fNil))) (fSeq (fFor (fRange1 (fCons (fK (.d (.int 7))) fNil)) (gSet 4) (fExpr (fBM "list" gAppend (fVar 3) (fCons (fBM "list" gPopAt (fVar 2) (fCons (fCall F__law_dip (fCons (fVar 0) (fCons (fCall gLen (fCons (fVar 2) fNil)) fNil))) fNil)) fNil)))) (fSeq (fAsg (fLstC fNil) (gSet 5)) (fSeq (fFor (fRange1 (fCons (fK (.d (.int 5))) fNil)) (gSet 6) (fSeq (fAsg (fBin gAdd (fLst (fCons (fBin gIx (fVar 3) (fVar 6)) (fCons (fBin gIx (fVar 3) (fBin gMod (fCall gInt (fCons (fBin gAdd (fVar 6) (fK (.d (.int 1)))) fNil)) (fK (.d (.int 5))))) fNil))) (fIf (fAndB (toB (fBin gEq (fVar 6) (fK (.d (.int 2))))) (toB (fBin gEq (fCall F__law_dip (fCons (fVar 0) (fCons (fK (.d (.int 3))) fNil))) (fK (.d (.int 0)))))) (fLst (fCons (fBin gIx (fVar 3) (fK (.d (.int 5)))) fNil)) (fLst fNil))) (gSet 7)) (fExpr (fBM "list" gAppend (fVar 5) (fCons (fTup (fCons (fBin gIx (fVar 1) (fVar 6)) (fCons (fBM "str" gJoin (fK (.d (.str []))) (fCons (fCall gSortS (fCons (fVar 7) fNil)) fNil)) fNil))) fNil))))) (fSeq (fAsg (fLst (fCons (fLst fNil) (fCons (fLst (fCons (fBin gIx (fVar 3) (fK (.d (.int 6)))) fNil)) (fCons (fLst (fCons (fBin gIx (fVar 3) (fK (.d (.int 1)))) (fCons (fBin gIx (fVar 3) (fK (.d (.int 2)))) fNil))) fNil)))) (gSet 8)) (fSeq (fAsg (fBin gAdd (fVar 8) (fLst (fCons (fLst (fCons (fBin gIx (fVar 3) (fK (.d (.int 0)))) (fCons (fBin gIx (fVar 3) (fK (.d (.int 1)))) (fCons (fBin gIx (fVar 3) (fK (.d (.int 2)))) fNil)))) (fCons (fLst (fCons (fBin gIx (fVar 3) (fK (.d (.int 0)))) fNil)) (fCons (fSl (fVar 3) fNoO (fSomeO (fK (.d (.int 5))))) fNil))))) (gSet 8)) (fSeq (fAsg (fCall F__law_pick (fCons (fVar 0) (fCons (fBin gAdd (fVar 8) (fLst (fCons (fLst (fCons (fBin gIx (fVar 3) (fK (.d (.int 0)))) (fCons (fBin gIx (fVar 3) (fK (.d (.int 2)))) fNil))) (fCons (fLst fNil) (fCons (fLst (fCons (fBin gIx (fVar 3) (fK (.d (.int 6)))) fNil)) fNil))))) fNil))) (gSet 9)) (fSeq (fIfS (toB (fBin gNe (fVar 9) (fLst fNil))) (fExpr (fBM "list" gAppend (fVar 5) (fCons (fTup (fCons (fBin gIx (fVar 1) (fK (.d (.int 5)))) (fCons (fBM "str" gJoin (fK (.d (.str []))) (fCons (fCall gSortSet (fCons (fVar 9) fNil)) fNil)) fNil))) fNil))) fNext) (fSeq (fAsg (fLstC fNil) (gSet 10)) (fSeq (fFor (fRange1 (fCons (fCall gLen (fCons (fVar 5) fNil)) fNil)) (gSet 4) (fExpr (fBM "list" gAppend (fVar 10) (fCons (fBM "list" gPopAt (fVar 5) (fCons (fCall F__law_dip (fCons (fVar 0) (fCons (fCall gLen (fCons (fVar 5) fNil)) fNil))) fNil)) fNil)))) (fRet (fCall gTuple (fCons (fVar 10) fNil))))))))))))))
def F__law_ring_line : FF := fnK false 1 11 G__law_ring_line
def N__law_any_line : List Str := ["jar"]
def P__law_any_line : List Str := ["jar"]
def G__law_any_line : FS := (fRet (fIf (toB (fBin gEq (fCall F__law_dip (fCons (fVar 0) (fCons (fK (.d (.int 2))) fNil))) (fK (.d (.int 0))))) (fCall F__law_plain_line (fCons (fVar 0) fNil)) (fCall F__law_ring_line (fCons (fVar 0) fNil))))
def F__law_any_line : FF := fnK false 1 1 G__law_any_line
def N__law_jar : List Str := ["script", "k", "churned", "cell", "own", "digits"]
def P__law_jar : List Str := ["script", "k"]
def G__law_jar : FS := (fSeq (fAsg (fBin gAdd (fBin gMul (fBin gMul (fK (.d (.int 7369))) (fBin gAdd (fVar 1) (fK (.d (.int 5))))) (fBin gAdd (fVar 1) (fK (.d (.int 2))))) (fBin gMul (fK (.d (.int 29))) (fCall gLen (fCons (fVar 0) fNil)))) (gSet 2)) (fSeq (fFor (fItemsK (fSl (fVar 0) fNoO (fSomeO (fK (.d (.int 4)))))) (gSet 3) (fAsg (fBin gMod (fCall gInt (fCons (fBin gAdd (fBin gMul (fVar 2) (fK (.d (.int 733)))) (fVar 3)) fNil)) (fK (.d (.int 1000000009)))) (gSet 2))) (fSeq (fAsg (fIf (toB (fBin gLt (fVar 1) (fCall gLen (fCons (fVar 0) fNil)))) (fBin gIx (fVar 0) (fVar 1)) (fK (.d (.int 0)))) (gSet 4)) (fSeq (fAsg (fIf (fOrB (toB (fBin gLt (fVar 4) (fK (.d (.int 0))))) (toB (fBin gGe (fVar 4) (fBin gPow (fK (.d (.int 10))) (fK (.d (.int 18))))))) (fCall gAbs (fCons (fVar 4) fNil)) (fK (.d (.int 0)))) (gSet 5)) (fRet (fLstC (fCons (fVar 5) (fCons (fBin gMod (fCall gInt (fCons (fBin gAdd (fBin gAdd (fBin gMul (fVar 2) (fK (.d (.int 8117)))) (fBin gMul (fVar 4) (fK (.d (.int 64013))))) (fBin gMul (fK (.d (.int 105019))) (fBin gAdd (fVar 1) (fK (.d (.int 1)))))) fNil)) (fK (.d (.int 2147483563)))) (fCons (fK (.d (.int 0))) fNil)))))))))
def F__law_jar : FF := fnK true 2 6 G__law_jar
def N__law_near : List Str := ["pairs_here", "found", "glyph", "own", "each", "figure"]
def P__law_near : List Str := ["pairs_here"]
def G__law_near : FS := (fSeq (fAsg fDctC (gSet 1)) (fSeq (fFor (fItemsK (fVar 0)) (gTupT 2 (gsCons (gSet 2) (gsCons (gSet 3) gsNil))) (fAsg (fLc (fItemsK (fVar 0)) (.name 4) (toB (fBin gNe (fLc (fItemsK (fBin gIx (fVar 4) (fK (.d (.int 1))))) (.name 5) (toB (fBin (gIn0 false) (fVar 5) (fVar 3))) (fVar 5) [5]) (fLst fNil))) (fBin gIx (fVar 4) (fK (.d (.int 0)))) [4]) (gIxS (fVar 1) (fVar 2)))) (fRet (fVar 1))))
def F__law_near : FF := fnK false 1 6 G__law_near
def N__law_lots : List Str := ["pairs_here", "found", "glyph", "each", "lot"]
def P__law_lots : List Str := ["pairs_here"]
def G__law_lots : FS := (fSeq (fAsg (fLst (fCons (fK (.d (.str []))) fNil)) (gSet 1)) (fSeq (fFor (fItemsK (fCall gSortS (fCons (fLc (fItemsK (fVar 0)) (.name 3) fYes (fBin gIx (fVar 3) (fK (.d (.int 0)))) [3]) fNil))) (gSet 2) (fAsg (fBin gAdd (fVar 1) (fLc (fItemsK (fVar 1)) (.name 4) fYes (fBin gAdd (fVar 4) (fVar 2)) [4])) (gSet 1))) (fRet (fSl (fVar 1) (fSomeO (fK (.d (.int 1)))) fNoO))))
def F__law_lots : FF := fnK false 1 5 G__law_lots
def N__law_knot_lots : List Str := ["pairs_here", "near", "found", "lot", "great", "glyph", "each"]
def P__law_knot_lots : List Str := ["pairs_here"]
def G__law_knot_lots : FS := (fSeq (fPar 1 2 (fCons (fCall F__law_near (fCons (fVar 0) fNil)) (fCons (fLstC fNil) fNil))) (fSeq (fFor (fItemsK (fCall F__law_lots (fCons (fVar 0) fNil))) (gSet 3) (fIfS (toB (fCall gAll (fCons (fLc (fItemsK (fVar 3)) (.name 5) fYes (fBin gEq (fCall gLen (fCons (fLc (fItemsK (fVar 3)) (.name 6) (toB (fBin (gIn0 false) (fVar 6) (fBin gIx (fVar 1) (fVar 5)))) (fVar 6) [6]) fNil)) (fCall gLen (fCons (fVar 3) fNil))) [5]) fNil))) (fExpr (fBM "list" gAppend (fVar 2) (fCons (fVar 3) fNil))) fNext)) (fSeq (fAsg (fLstC fNil) (gSet 4)) (fSeq (fFor (fItemsK (fVar 2)) (gSet 3) (fIfS (toB (fBin gEq (fLc (fItemsK (fVar 2)) (.name 6) (fAndB (toB (fBin gGt (fCall gLen (fCons (fVar 6) fNil)) (fCall gLen (fCons (fVar 3) fNil)))) (toB (fBin gEq (fLc (fItemsK (fVar 3)) (.name 5) (toB (fBin (gIn0 true) (fVar 5) (fVar 6))) (fVar 5) [5]) (fLst fNil)))) (fVar 6) [6]) (fLst fNil))) (fExpr (fBM "list" gAppend (fVar 4) (fCons (fVar 3) fNil))) fNext)) (fRet (fCall gSortS (fCons (fVar 4) fNil)))))))
def F__law_knot_lots : FF := fnK false 1 7 G__law_knot_lots
def N__law_apart_lots : List Str := ["pairs_here", "near", "found", "lot", "most_here", "glyph", "each"]
def P__law_apart_lots : List Str := ["pairs_here"]
def T__law_apart_lots_1 : FB := (toB (fBin (gIn0 false) (fVar 6) (fBin gIx (fVar 1) (fVar 5))))
def E__law_apart_lots_2 : FE := (fBin gEq (fLc (fItemsK (fVar 3)) (.name 6) T__law_apart_lots_1 (fVar 6) [6]) (fLst (fCons (fVar 5) fNil)))
def B__law_apart_lots_3 : FS := (fIfS (toB (fCall gAll (fCons (fLc (fItemsK (fVar 3)) (.name 5) fYes E__law_apart_lots_2 [5]) fNil))) (fExpr (fBM "list" gAppend (fVar 2) (fCons (fVar 3) fNil))) fNext)
def E__law_apart_lots_4 : FE := (fCall gLen (fCons (fVar 3) fNil))
def T__law_apart_lots_5 : FB := (toB (fBin gEq (fCall gLen (fCons (fVar 3) fNil)) (fVar 4)))
def G__law_apart_lots : FS := (fSeq (fAsg (fCall F__law_near (fCons (fVar 0) fNil)) (gSet 1)) (fSeq (fAsg (fLstC fNil) (gSet 2)) (fSeq (fFor (fItemsK (fCall F__law_lots (fCons (fVar 0) fNil))) (gSet 3) B__law_apart_lots_3) (fSeq (fAsg (fCall (gAgg maxI) (fCons (fLc (fItemsK (fVar 2)) (.name 3) fYes E__law_apart_lots_4 [3]) fNil)) (gSet 4)) (fRet (fCall gSortS (fCons (fLc (fItemsK (fVar 2)) (.name 3) T__law_apart_lots_5 (fVar 3) [3]) fNil)))))))
def F__law_apart_lots : FF := fnK false 1 7 G__law_apart_lots
def N__law_fewest : List Str := ["pairs_here", "layer", "great", "many", "turn", "later", "held", "lot"]
def P__law_fewest : List Str := ["pairs_here"]
def T__law_fewest_1 : FB := (toB (fBin gEq (fCall gLen (fCons (fVar 6) fNil)) (fCall gLen (fCons (fVar 0) fNil))))
def B__law_fewest_2 : FS := (fExpr (fBM "list" gAppend (fVar 5) (fCons (fBM "str" gJoin (fK (.d (.str []))) (fCons (fCall gSortSet (fCons (fBin gAdd (fVar 6) (fVar 7)) fNil)) fNil)) fNil)))
def B__law_fewest_3 : FS := (fFor (fItemsK (fVar 2)) (gSet 7) B__law_fewest_2)
def B__law_fewest_4 : FS := (fSeq (fIfS (toB (fBin gNe (fLc (fItemsK (fVar 1)) (.name 6) T__law_fewest_1 (fVar 6) [6]) (fLst fNil))) (fRet (fVar 3)) fNext) (fSeq (fAsg (fLstC fNil) (gSet 5)) (fSeq (fFor (fItemsK (fVar 1)) (gSet 6) B__law_fewest_3) (fPar 1 3 (fCons (fCall gSortSet (fCons (fVar 5) fNil)) (fCons (fBin gAdd (fVar 3) (fK (.d (.int 1)))) fNil))))))
def G__law_fewest : FS := (fSeq (fPar3 1 2 3 (fCons (fLst (fCons (fK (.d (.str []))) fNil)) (fCons (fCall F__law_knot_lots (fCons (fVar 0) fNil)) (fCons (fK (.d (.int 0))) fNil)))) (fSeq (fFor (fRange1 (fCons (fCall gLen (fCons (fVar 0) fNil)) fNil)) (gSet 4) B__law_fewest_4) (fRet (fVar 3))))
def F__law_fewest : FF := fnK false 1 8 G__law_fewest
def N__law_drawn_row : List Str := ["jar", "pairs_here", "size", "k"]
def P__law_drawn_row : List Str := ["jar", "pairs_here", "size"]
def E__law_drawn_row_1 : FE := (fBin gIx (fCall F__law_pick (fCons (fVar 0) (fCons (fVar 1) fNil))) (fK (.d (.int 0))))
def G__law_drawn_row : FS := (fRet (fBM "str" gJoin (fK (.d (.str []))) (fCons (fLc (fRange1 (fCons (fVar 2) fNil)) (.name 3) fYes E__law_drawn_row_1 [3]) fNil)))
def F__law_drawn_row : FF := fnK false 3 4 G__law_drawn_row
def N__law_worth : List Str := ["pairs_here", "most_here", "near", "glyph"]
def P__law_worth : List Str := ["pairs_here"]
def T__law_worth_1 : FB := (toB (fBin gEq (fCall gLen (fCons (fBin gIx (fVar 2) (fVar 3)) fNil)) (fK (.d (.int 1)))))
def G__law_worth : FS := (fSeq (fAsg (fCall gLen (fCons (fBin gIx (fCall F__law_apart_lots (fCons (fVar 0) fNil)) (fK (.d (.int 0)))) fNil)) (gSet 1)) (fSeq (fIfS (toB (fBin gEq (fVar 1) (fCall F__law_fewest (fCons (fVar 0) fNil)))) (fRet (fTup (fCons (fVar 1) (fCons (fK (.d (.int 0))) fNil)))) fNext) (fSeq (fAsg (fCall F__law_near (fCons (fVar 0) fNil)) (gSet 2)) (fRet (fIf (toB (fBin gNe (fLc (fItemsK (fVar 2)) (.name 3) T__law_worth_1 (fVar 3) [3]) (fLst fNil))) (fTup (fCons (fK (.d (.int 1))) (fCons (fK (.d (.int 1))) fNil))) (fTup (fCons (fK (.d (.int 0))) (fCons (fK (.d (.int 1))) fNil))))))))
def F__law_worth : FF := fnK false 1 4 G__law_worth
end PA
end
section
namespace PA
open PySem PySem.Spec PyProof.Rows L2 DL PP
theorem dip {n : Nat} {S : Store} {wide : Int} (h : Jar n S) (h1 : 1 ≤ wide) (h2 : wide < 1073741824) : ∃ d S', F__law_dip [.loc n, .d (.int wide)] S = .ok (.d (.int d)) S' ∧ 0 ≤ d ∧ d < wide ∧ Jar n S' ∧ Oth n S S' := by
  obtain ⟨a, b, c, ha, hS⟩ := h
  have hn : n < S.length := (List.getElem?_eq_some_iff.mp hS).1
  have w0 : (decide (0 < wide)) = true := decide_eq_true (by omega)
  have w1 : wide.natAbs < 1073741824 := by omega
  have hS2 : ∀ c, (S.set n c)[n]? = some c := fun c => List.getElem?_set_self hn
  have hT : ∀ c, (S.set n c).take S.length = S.set n c := fun c => List.take_of_length_le (by simp)
  clear hn
  by_cases hp : 0 < a
  · refine ⟨a % wide, S.set n (.lst [.int (a / wide), .int b, .int (c + 1)]), ?_, Int.emod_nonneg _ (by omega), Int.emod_lt_of_pos _ (by omega), ⟨_, _, _, Int.ediv_nonneg ha (by omega), hS2 _⟩, .set⟩
    simp [F__law_dip, fnK_go, G__law_dip, hS, wrIxD, ixN, hS2, hp, w0, w1, h2, hT]
  · refine ⟨(b * 40692 + (c + 1) * 52021 + 31) % 2147483399 / 2048 % wide, S.set n (.lst [.int a, .int ((b * 40692 + (c + 1) * 52021 + 31) % 2147483399), .int (c + 1)]), ?_, Int.emod_nonneg _ (by omega), Int.emod_lt_of_pos _ (by omega), ⟨_, _, _, ha, hS2 _⟩, .set⟩
    have m1 : mulOk b 40692 = true := by simp [mulOk]
    have m2 : mulOk (c + 1) 52021 = true := by simp [mulOk]
    simp [F__law_dip, fnK_go, G__law_dip, hS, wrIxD, ixN, hS2, hp, w0, w1, h2, hT, m1, m2]
/-- one of a menu -/
theorem pick {n : Nat} {S : Store} {menu : List D} (h : Jar n S) (h1 : menu ≠ []) (h2 : menu.length < 1000000) : ∃ d S', F__law_pick [.loc n, .d (.lst menu)] S = .ok (.d d) S' ∧ d ∈ menu ∧ Jar n S' ∧ Oth n S S' := by
  have hl : 1 ≤ menu.length := by
    cases menu with
    | nil => exact absurd rfl h1
    | cons => simp
  obtain ⟨d, S', e, d0, d1, j, o⟩ := dip (wide := (menu.length : Int)) h (by omega) (by omega)
  obtain ⟨i, rfl⟩ := Int.eq_ofNat_of_zero_le d0
  have hi : i < menu.length := by omega
  have hT : S'.take S.length = S' := List.take_of_length_le (by rw [o.len]; exact Nat.le_refl _)
  refine ⟨menu[i], S', ?_, List.getElem_mem hi, j, o⟩
  simp [F__law_pick, fnK_go, G__law_pick, e, ixA_nat, hi, hT]
/-- some of the pool, one at least -/
theorem figs {n : Nat} {S : Store} {pool : List Nat} (h : Jar n S) (h1 : pool ≠ []) (h2 : pool.length ≤ 1000) : ∃ l S', F__law_figs [.loc n, .d (.str pool)] S = .ok (.d (.str l)) S' ∧ l ≠ [] ∧ l.Sublist pool ∧ Jar n S' ∧ Oth n S S' := by
  have hl : 1 ≤ pool.length := by
    cases pool with
    | nil => exact absurd rfl h1
    | cons => simp
  obtain ⟨r, S1, e1, l, er, sl, j1, o1⟩ := compD_inv (t := .name 3) (tt := toB (fBin gEq (fCall F__law_dip (fCons (fVar 0) (fCons (fK (.d (.int 3))) fNil))) (fK (.d (.int 0))))) (f := fVar 3) (ρ := [some (.loc n), some (.d (.str pool)), none, none]) (all := pool.map fun c => .str [c]) (S := S)
    (fun i acc S' => ∃ l : List Nat, acc = l.map (fun c => .str [c]) ∧ l.Sublist (pool.take i) ∧ Jar n S' ∧ Oth n S S') ⟨[], rfl, by simp, h, .refl⟩ (fun i d acc S' hd ⟨l, ea, sl, j, o⟩ => by
      rw [List.getElem?_map, Option.map_eq_some_iff] at hd
      obtain ⟨c, hc, rfl⟩ := hd
      have hi : i < pool.length := (List.getElem?_eq_some_iff.mp hc).1
      have ht : pool.take (i + 1) = pool.take i ++ [c] := by rw [List.take_add_one, hc]; rfl
      obtain ⟨d, S2, e, d0, d1, j2, o2⟩ := dip (wide := 3) j (by omega) (by omega)
      by_cases hz : d = 0
      · refine ⟨some (.str [c]), S2, by simp [e, hz], l ++ [c], by simp [ea], ?_, j2, o.trans o2⟩
        rw [ht]; exact sl.append (List.Sublist.refl _)
      · have hz' : (d == 0) = false := by simpa using hz
        refine ⟨none, S2, by simp [e, hz'], l, by simp [ea], ?_, j2, o.trans o2⟩
        rw [ht]; exact sl.trans (List.sublist_append_left _ _))
  rw [List.length_map, List.take_length] at sl
  have hll := sl.length_le
  have lo : lenOk pool.length = true := lenOk_of (by omega)
  by_cases hn : l = []
  · obtain ⟨d, S2, e, d0, d1, j2, o2⟩ := dip (wide := (pool.length : Int)) j1 (by omega) (by omega)
    obtain ⟨i, rfl⟩ := Int.eq_ofNat_of_zero_le d0
    have hi : i < pool.length := by omega
    refine ⟨[pool[i]], S2, ?_, by simp, by simp, j2, o1.trans o2⟩
    have hT := oth_take (o1.trans o2)
    subst hn
    have ej : gJoin [.d (.str []), .d (.lst [])] S1 = .ok (.d (.str [])) S1 := join_ones (l := []) (by decide)
    simp [F__law_figs, fnK_go, G__law_figs, e1, er, e, ixA_nat, hi, hT, lo, ej]
  · refine ⟨l, S1, ?_, hn, sl, j1, o1⟩
    have hT := oth_take o1
    have ej := join_ones (S := S1) (l := l) (by omega)
    simp [F__law_figs, fnK_go, G__law_figs, e1, er, hT, lo, ej, hn]
/-- signs, each another -/
theorem glyphs {n : Nat} {S : Store} {many : Nat} (h : Jar n S) (h1 : many ≤ 11) : ∃ l S', F__law_glyphs [.loc n, .d (.int many)] S = .ok (.d (.str l)) S' ∧ l.length = many ∧ l.Nodup ∧ (∀ c ∈ l, c ∈ [97, 98, 99, 100, 101, 102, 109, 110, 120, 121, 122]) ∧ Jar n S' ∧ Oth n S S' := by
  have hn : n < S.length := by obtain ⟨a, b, c, _, hS⟩ := h; exact (List.getElem?_eq_some_iff.mp hS).1
  have hs : small62 (many : Int) = true := small_nat (by omega)
  obtain ⟨ρ', S1, e1, r, f, x, rfl, len, at_, j1, ot, fl, pm⟩ := forD_inv (g := gSet 4) (b := fAsg (fBin gAdd (fVar 3) (fBM "list" gPopAt (fVar 2) (fCons (fCall F__law_dip (fCons (fVar 0) (fCons (fCall gLen (fCons (fVar 2) fNil)) fNil))) fNil))) (gSet 3)) (all := rangeD 0 many)
    (ρ := [some (.loc n), some (.d (.int many)), some (.loc S.length), some (.d (.str [])), none]) (S := S ++ [.lst ([97, 98, 99, 100, 101, 102, 109, 110, 120, 121, 122].map fun c => .str [c])])
    (fun i ρ S' => ∃ (r f : List Nat) (x : Option W), ρ = [some (.loc n), some (.d (.int many)), some (.loc S.length), some (.d (.str f)), x] ∧ S'.length = S.length + 1 ∧ S'[S.length]? = some (.lst (r.map fun c => .str [c])) ∧ Jar n S' ∧ (∀ m, m < S.length → m ≠ n → S'[m]? = S[m]?) ∧
      f.length = i ∧ (f ++ r).Perm [97, 98, 99, 100, 101, 102, 109, 110, 120, 121, 122])
    ⟨_, [], none, rfl, by simp, by simp, by
      obtain ⟨a, b, c, h0, hS⟩ := h
      exact ⟨a, b, c, h0, by rw [List.getElem?_append_left hn]; exact hS⟩, fun m hm _ => List.getElem?_append_left hm, rfl, .refl _⟩
    (by
      rintro i d ρ S' hd ⟨r, f, x, rfl, len, at_, j, ot, fl, pm⟩
      obtain ⟨hi, rfl⟩ := range_get hd
      have hrl : f.length + r.length = 11 := by have := pm.length_eq; simpa using this
      obtain ⟨d, S2, e, d0, d1, j2, o2⟩ := dip (wide := (r.length : Int)) j (by omega) (by omega)
      obtain ⟨k, rfl⟩ := Int.eq_ofNat_of_zero_le d0
      have hk : k < r.length := by omega
      have at2 : S2[S.length]? = some (.lst (r.map fun c => .str [c])) := by rw [o2.at_ _ (by omega)]; exact at_
      have hg : (r.map fun c => D.str [c])[k]? = some (.str [r[k]]) := by rw [List.getElem?_map, List.getElem?_eq_getElem hk]; rfl
      have ep := popAt at2 hg (by omega)
      have ht := tyW_cell at_
      have lo : lenOk (f.length + 1) = true := lenOk_of (by omega)
      refine ⟨_, S', [some (.loc n), some (.d (.int many)), some (.loc S.length), some (.d (.str (f ++ [r[k]]))), some (.d (.int i))], S2.set S.length (.lst ((r.map fun c => .str [c]).eraseIdx k)), rfl, .inl ?_, r.eraseIdx k, f ++ [r[k]], _, rfl, ?_, ?_, ?_, ?_, ?_, ?_⟩
      · simp [ht, at_, e, ep, lo]
      · simp [o2.len, len]
      · rw [List.getElem?_set_self (by rw [o2.len, len]; omega), map_erase]
      · obtain ⟨a, b, c, h0, hS⟩ := j2
        exact ⟨a, b, c, h0, by rw [List.getElem?_set_ne (by omega)]; exact hS⟩
      · intro m hm hne
        rw [List.getElem?_set_ne (by omega), o2.at_ m hne, ot m hm hne]
      · simp [fl]
      · rw [List.append_assoc]
        exact ((perm_pop (List.getElem?_eq_getElem hk)).append_left f).trans pm)
  rw [range_len] at fl
  have hT : (S1.take S.length).length = S.length := by rw [List.length_take, len]; omega
  refine ⟨f, S1.take S.length, ?_, fl, ?_, ?_, ?_, ?_⟩
  · simp only [List.map_cons, List.map_nil] at e1
    simp [F__law_glyphs, fnK_go, G__law_glyphs, hs, e1]
  · have := (List.nodup_append.mp (pm.nodup_iff.mpr (by decide))).1
    exact this
  · intro c hc
    exact pm.mem_iff.mp (List.mem_append_left _ hc)
  · obtain ⟨a, b, c, h0, hS⟩ := j1
    exact ⟨a, b, c, h0, by rw [List.getElem?_take_of_lt hn]; exact hS⟩
  · refine ⟨hT, fun m hm => ?_⟩
    by_cases hl : m < S.length
    · rw [List.getElem?_take_of_lt hl]; exact ot m hl hm
    · rw [List.getElem?_eq_none (by omega), List.getElem?_eq_none (by omega)]

theorem plain_line' {n : Nat} {S : Store} (h : Jar n S) : ∃ l S', F__law_plain_line [.loc n] S = .ok (.d (.tup (lnD l))) S' ∧ LOk l ∧ Jar n S' ∧ Oth n S S' ∧ ∀ p ∈ l, p.1 ∈ g11 := by
  obtain ⟨d, S1, e1, hd, j1, o1⟩ := pick (menu := [.str [48, 49, 50], .str [48, 49, 50, 51], .str [48, 49, 50, 51, 52], .str [48, 49, 50, 51, 52, 53, 54, 55], .str [50, 52], .str [48, 51, 52, 53, 54, 55]]) h (by simp) (by decide)
  obtain ⟨pool, rfl, p1, p2⟩ : ∃ pool, d = .str pool ∧ pool ≠ [] ∧ pool.Sublist digits := by
    simp only [List.mem_cons, List.not_mem_nil, or_false] at hd
    rcases hd with rfl | rfl | rfl | rfl | rfl | rfl <;> exact ⟨_, rfl, by simp, by decide⟩
  have pl : pool.length ≤ 8 := p2.length_le
  obtain ⟨d2, S2, e2, d0, d1, j2, o2⟩ := dip (wide := 5) j1 (by omega) (by omega)
  obtain ⟨k, rfl⟩ := Int.eq_ofNat_of_zero_le d0
  obtain ⟨gs, S3, e3, gl, gn, gm, j3, o3⟩ := glyphs (many := 2 + k) j2 (by omega)
  obtain ⟨r, S4, e4, l, er, lf, lk, j4, o4⟩ := compD_inv (t := .name 2) (tt := fYes) (f := fTup (fCons (fVar 2) (fCons (fCall F__law_figs (fCons (fVar 0) (fCons (fVar 1) fNil))) fNil))) (ρ := [some (.loc n), some (.d (.str pool)), none]) (all := gs.map fun c => .str [c]) (S := S3)
    (fun i acc S' => ∃ l : Ln, acc = lnD l ∧ l.map (·.1) = gs.take i ∧ (∀ p ∈ l, LooksOk p.2) ∧ Jar n S' ∧ Oth n S S') ⟨[], rfl, by simp, by simp, j3, (o1.trans o2).trans o3⟩ (fun i d acc S' hd ⟨l, ea, lf, lk, j, o⟩ => by
      rw [List.getElem?_map, Option.map_eq_some_iff] at hd
      obtain ⟨c, hc, rfl⟩ := hd
      obtain ⟨f, S5, e5, f1, f2, j5, o5⟩ := figs j p1 (by omega)
      have lo : lenOk 2 = true := lenOk_of (by omega)
      refine ⟨some (pD (c, f)), S5, by simp [e5, lo, pD], l ++ [(c, f)], by simp [ea, lnD], ?_, ?_, j5, o.trans o5⟩
      · rw [List.map_append, lf, List.take_add_one, hc]; rfl
      · intro p hp
        rcases List.mem_append.mp hp with hp | hp
        · exact lk p hp
        · rw [List.mem_singleton.mp hp]; exact ⟨f1, f2.trans p2⟩)
  rw [List.length_map, List.take_length] at lf
  have ll : l.length = 2 + k := by rw [← gl, ← lf, List.length_map]
  refine ⟨l, S4, ?_, ⟨by omega, by omega, by rw [lf]; exact gn, fun p hp => ?_, lk⟩, j4, o4, fun p hp => gm p.1 (by rw [← lf]; exact List.mem_map_of_mem hp)⟩
  · have lo : lenOk gs.length = true := lenOk_of (by omega)
    have lo6 : lenOk 6 = true := lenOk_of (by omega)
    have e3' : F__law_glyphs [.loc n, .d (.int (2 + (k : Int)))] S2 = .ok (.d (.str gs)) S3 := by
      have : ((2 + k : Nat) : Int) = 2 + (k : Int) := by omega
      rw [← this]; exact e3
    have hT := oth_take o4
    simp [F__law_plain_line, fnK_go, G__law_plain_line, e1, e2, e3', e4, er, lo, lo6, hT]
  · exact glyph_abc (gm p.1 (by rw [← lf]; exact List.mem_map_of_mem hp))
theorem plain_line {n : Nat} {S : Store} (h : Jar n S) : ∃ l S', F__law_plain_line [.loc n] S = .ok (.d (.tup (lnD l))) S' ∧ LOk l ∧ Jar n S' ∧ Oth n S S' :=
  let ⟨l, S', a, b, c, d, _⟩ := plain_line' h; ⟨l, S', a, b, c, d⟩

theorem dip_app {n : Nat} {B cs : Store} {wide : Int} (h : Jar n B) (h1 : 1 ≤ wide) (h2 : wide < 1073741824) : ∃ d B', F__law_dip [.loc n, .d (.int wide)] (B ++ cs) = .ok (.d (.int d)) (B' ++ cs) ∧ 0 ≤ d ∧ d < wide ∧ Jar n B' ∧ Oth n B B' := by
  obtain ⟨d, S', e, d0, d1, j, o⟩ := dip (S := B ++ cs) h.app h1 h2
  obtain ⟨B', rfl, o'⟩ := o.app (jar_lt h)
  exact ⟨d, B', e, d0, d1, j.of_app (by rw [o'.len]; exact jar_lt h), o'⟩
theorem pick_app {n : Nat} {B cs : Store} {menu : List D} (h : Jar n B) (h1 : menu ≠ []) (h2 : menu.length < 1000000) : ∃ d B', F__law_pick [.loc n, .d (.lst menu)] (B ++ cs) = .ok (.d d) (B' ++ cs) ∧ d ∈ menu ∧ Jar n B' ∧ Oth n B B' := by
  obtain ⟨d, S', e, d0, j, o⟩ := pick (S := B ++ cs) h.app h1 h2
  obtain ⟨B', rfl, o'⟩ := o.app (jar_lt h)
  exact ⟨d, B', e, d0, j.of_app (by rw [o'.len]; exact jar_lt h), o'⟩
def bodyA : FS := fExpr (fBM "list" gAppend (fVar 3) (fCons (fBM "list" gPopAt (fVar 2) (fCons (fCall F__law_dip (fCons (fVar 0) (fCons (fCall gLen (fCons (fVar 2) fNil)) fNil))) fNil)) fNil))
theorem loopA {n L : Nat} {B : Store} {names : D} (h : Jar n B) (hL : B.length = L) : ∃ x f r B', forD (gSet 4) bodyA (rangeD 0 7) [some (.loc n), some (.d names), some (.loc L), some (.loc (L + 1)), none, none, none, none, none, none, none] (B ++ [.lst (d1s digits), .lst []]) =
    .nx [some (.loc n), some (.d names), some (.loc L), some (.loc (L + 1)), x, none, none, none, none, none, none] (B' ++ [.lst r, .lst (d1s f)]) ∧ f.length = 7 ∧ f.Nodup ∧ (∀ c ∈ f, c ∈ digits) ∧ Jar n B' ∧ Oth n B B' := by
  have hn := jar_lt h
  obtain ⟨ρ', S1, e1, r, f, x, B', rfl, rfl, j1, o1, fl, pm⟩ := forD_inv (g := gSet 4) (b := bodyA) (all := rangeD 0 7) (ρ := [some (.loc n), some (.d names), some (.loc L), some (.loc (L + 1)), none, none, none, none, none, none, none]) (S := B ++ [.lst (d1s digits), .lst []])
    (fun i ρ S' => ∃ (r f : List Nat) (x : Option W) (B' : Store), ρ = [some (.loc n), some (.d names), some (.loc L), some (.loc (L + 1)), x, none, none, none, none, none, none] ∧ S' = B' ++ [.lst (d1s r), .lst (d1s f)] ∧ Jar n B' ∧ Oth n B B' ∧ f.length = i ∧ (f ++ r).Perm digits)
    ⟨digits, [], none, B, rfl, rfl, h, .refl, rfl, .refl _⟩ (by
      rintro i d ρ S' hd ⟨r, f, x, B1, rfl, rfl, j, o, fl, pm⟩
      obtain ⟨hi, rfl⟩ := range_get hd
      have hrl : f.length + r.length = 8 := by have := pm.length_eq; simpa using this
      have hB : B1.length = L := by rw [o.len, hL]
      obtain ⟨d, B2, e, d0, d1, j2, o2⟩ := dip_app (cs := [.lst (d1s r), .lst (d1s f)]) (wide := (r.length : Int)) j (by omega) (by omega)
      obtain ⟨k, rfl⟩ := Int.eq_ofNat_of_zero_le d0
      have hk : k < r.length := by omega
      have hB2 : B2.length = L := by rw [o2.len, hB]
      have hg : (d1s r)[k]? = some (.str [r[k]]) := by rw [List.getElem?_map, List.getElem?_eq_getElem hk]; rfl
      have ep := popAt (S := B2 ++ [.lst (d1s r), .lst (d1s f)]) (k := L) (ds := d1s r) (by rw [app_get0 hB2]; rfl) hg (by omega)
      rw [app_set0 hB2] at ep
      have ea := append_at (S := B2 ++ [.lst ((d1s r).eraseIdx k), .lst (d1s f)]) (n := L + 1) (ds := d1s f) (d := .str [r[k]]) (by rw [app_get hB2]; rfl) (by rw [List.length_map]; omega)
      rw [app_set hB2] at ea
      refine ⟨_, _, [some (.loc n), some (.d names), some (.loc L), some (.loc (L + 1)), some (.d (.int i)), none, none, none, none, none, none], B2 ++ [.lst ((d1s r).eraseIdx k), .lst (d1s f ++ [.str [r[k]]])], rfl, .inl ?_, r.eraseIdx k, f ++ [r[k]], _, B2, rfl, ?_, j2, o.trans o2, ?_, ?_⟩
      · have t1 : tyW "list" (.loc (L + 1)) (B1 ++ [.lst (d1s r), .lst (d1s f)]) = true := tyW_cell (by rw [app_get hB]; rfl)
        have t2 : tyW "list" (.loc L) (B1 ++ [.lst (d1s r), .lst (d1s f)]) = true := tyW_cell (by rw [app_get0 hB]; rfl)
        have g0 : (B1 ++ [Cell.lst (d1s r), .lst (d1s f)])[L]? = some (.lst (d1s r)) := by rw [app_get0 hB]; rfl
        simp [bodyA, t1, t2, g0, e] at ep ea ⊢
        simp [ep, ea]
      · simp [d1s, map_erase]
      · simp [fl]
      · rw [List.append_assoc]
        exact ((perm_pop (List.getElem?_eq_getElem hk)).append_left f).trans pm)
  rw [range_len] at fl
  refine ⟨x, f, d1s r, B', e1, fl, (List.nodup_append.mp (pm.nodup_iff.mpr (by decide))).1, fun c hc => pm.mem_iff.mp (List.mem_append_left _ hc), j1, o1⟩
def bodyB : FS := (fSeq (fAsg (fBin gAdd (fLst (fCons (fBin gIx (fVar 3) (fVar 6)) (fCons (fBin gIx (fVar 3) (fBin gMod (fCall gInt (fCons (fBin gAdd (fVar 6) (fK (.d (.int 1)))) fNil)) (fK (.d (.int 5))))) fNil))) (fIf (fAndB (toB (fBin gEq (fVar 6) (fK (.d (.int 2))))) (toB (fBin gEq (fCall F__law_dip (fCons (fVar 0) (fCons (fK (.d (.int 3))) fNil))) (fK (.d (.int 0)))))) (fLst (fCons (fBin gIx (fVar 3) (fK (.d (.int 5)))) fNil)) (fLst fNil))) (gSet 7)) (fExpr (fBM "list" gAppend (fVar 5) (fCons (fTup (fCons (fBin gIx (fVar 1) (fVar 6)) (fCons (fBM "str" gJoin (fK (.d (.str []))) (fCons (fCall gSortS (fCons (fVar 7) fNil)) fNil)) fNil))) fNil))))
theorem loopB {n L : Nat} {B : Store} {gs f : List Nat} {r : List D} {x : Option W} (h : Jar n B) (hL : B.length = L) (hg : gs.length = 6) (fl : f.length = 7) (fn : f.Nodup) (fd : ∀ c ∈ f, c ∈ digits) : ∃ y z l B', forD (gSet 6) bodyB (rangeD 0 5) [some (.loc n), some (.d (.str gs)), some (.loc L), some (.loc (L + 1)), x, some (.loc (L + 2)), none, none, none, none, none] (B ++ [.lst r, .lst (d1s f), .lst []]) =
    .nx [some (.loc n), some (.d (.str gs)), some (.loc L), some (.loc (L + 1)), x, some (.loc (L + 2)), y, z, none, none, none] (B' ++ [.lst r, .lst (d1s f), .lst (lnD l)]) ∧ l.map (·.1) = gs.take 5 ∧ (∀ p ∈ l, LooksOk p.2) ∧ Jar n B' ∧ Oth n B B' := by
  obtain ⟨ρ', S1, e1, y, z, l, B', rfl, rfl, j1, o1, lf, lk⟩ := forD_inv (g := gSet 6) (b := bodyB) (all := rangeD 0 5) (ρ := [some (.loc n), some (.d (.str gs)), some (.loc L), some (.loc (L + 1)), x, some (.loc (L + 2)), none, none, none, none, none]) (S := B ++ [.lst r, .lst (d1s f), .lst []])
    (fun i ρ S' => ∃ (y z : Option W) (l : Ln) (B' : Store), ρ = [some (.loc n), some (.d (.str gs)), some (.loc L), some (.loc (L + 1)), x, some (.loc (L + 2)), y, z, none, none, none] ∧ S' = B' ++ [.lst r, .lst (d1s f), .lst (lnD l)] ∧ Jar n B' ∧ Oth n B B' ∧ l.map (·.1) = gs.take i ∧ ∀ p ∈ l, LooksOk p.2)
    ⟨none, none, [], B, rfl, rfl, h, .refl, rfl, by simp⟩ (by
      rintro i d ρ S' hd ⟨y, z, l, B1, rfl, rfl, j, o, lf, lk⟩
      obtain ⟨hi, rfl⟩ := range_get hd
      have hB : B1.length = L := by rw [o.len, hL]
      have hll : l.length = i := by have := congrArg List.length lf; rw [List.length_map, List.length_take] at this; omega
      have h1 : i < f.length := by omega
      have h2 : (i + 1) % 5 < f.length := by omega
      have h5 : 5 < f.length := by omega
      have hgi : i < gs.length := by omega
      -- what is added
      have key : ∃ own B2, (own = [f[i], f[(i + 1) % 5]] ∨ own = [f[i], f[(i + 1) % 5], f[5]]) ∧ Jar n B2 ∧ Oth n B1 B2 ∧
          fBin gAdd (fLst (fCons (fBin gIx (fVar 3) (fVar 6)) (fCons (fBin gIx (fVar 3) (fBin gMod (fCall gInt (fCons (fBin gAdd (fVar 6) (fK (.d (.int 1)))) fNil)) (fK (.d (.int 5))))) fNil))) (fIf (fAndB (toB (fBin gEq (fVar 6) (fK (.d (.int 2))))) (toB (fBin gEq (fCall F__law_dip (fCons (fVar 0) (fCons (fK (.d (.int 3))) fNil))) (fK (.d (.int 0)))))) (fLst (fCons (fBin gIx (fVar 3) (fK (.d (.int 5)))) fNil)) (fLst fNil))
            [some (.loc n), some (.d (.str gs)), some (.loc L), some (.loc (L + 1)), x, some (.loc (L + 2)), some (.d (.int i)), z, none, none, none] (B1 ++ [.lst r, .lst (d1s f), .lst (lnD l)]) = .ok (.d (.lst (d1s own))) (B2 ++ [.lst r, .lst (d1s f), .lst (lnD l)]) := by
        have g1 : ∀ B2 : Store, B2.length = L → (B2 ++ [Cell.lst r, .lst (d1s f), .lst (lnD l)])[L + 1]? = some (.lst (d1s f)) := fun B2 hB2 => by rw [app_get hB2]; rfl
        have g1a := g1 B1 hB
        have lo0 : lenOk 0 = true := lenOk_of (by omega)
        have lo1 : lenOk 1 = true := lenOk_of (by omega)
        have lo2 : lenOk 2 = true := lenOk_of (by omega)
        have lo3 : lenOk 3 = true := lenOk_of (by omega)
        have q1 : ixA (d1s f) (i : Int) = some (.str [f[i]]) := by rw [ixA_nat, List.getElem?_map, List.getElem?_eq_getElem h1]; rfl
        have q2 : ixA (d1s f) (((i : Int) + 1) % 5) = some (.str [f[(i + 1) % 5]]) := by
          have em : ((i : Int) + 1) % 5 = (((i + 1) % 5 : Nat) : Int) := by omega
          rw [em, ixA_nat, List.getElem?_map, List.getElem?_eq_getElem h2]; rfl
        have q5 : ixA (d1s f) 5 = some (.str [f[5]]) := by rw [ixA_5, List.getElem?_map, List.getElem?_eq_getElem h5]; rfl
        generalize d1s f = F at g1 g1a q1 q2 q5 ⊢
        by_cases hz : i = 2
        · obtain ⟨d, B2, e, d0, d1, j2, o2⟩ := dip_app (cs := [.lst r, .lst F, .lst (lnD l)]) (wide := 3) j (by omega) (by omega)
          have g1b := g1 B2 (by rw [o2.len, hB])
          by_cases hd : d = 0
          · refine ⟨[f[i], f[(i + 1) % 5], f[5]], B2, .inr rfl, j2, o2, ?_⟩
            subst hd
            have hz' : ((i : Int) == 2) = true := by simp [hz]
            simp [g1a, g1b, q1, q2, q5, lo0, lo1, lo2, lo3, hz', e, -ixA_5]
          · refine ⟨[f[i], f[(i + 1) % 5]], B2, .inl rfl, j2, o2, ?_⟩
            have hz' : ((i : Int) == 2) = true := by simp [hz]
            have hd' : (d == 0) = false := by simpa using hd
            simp [g1a, g1b, q1, q2, q5, lo0, lo1, lo2, lo3, hz', e, hd', -ixA_5]
        · refine ⟨[f[i], f[(i + 1) % 5]], B1, .inl rfl, j, .refl, ?_⟩
          have hz' : ((i : Int) == 2) = false := by
            rw [beq_eq_false_iff_ne]; omega
          simp [g1a, q1, q2, q5, lo0, lo1, lo2, lo3, hz', -ixA_5]
      obtain ⟨own, B2, ho, j2, o2, e⟩ := key
      have hB2 : B2.length = L := by rw [o2.len, hB]
      have ol : own.length ≤ 3 := by rcases ho with rfl | rfl <;> simp
      have on : own.Nodup := by
        have inj : ∀ a b (ha : a < f.length) (hb : b < f.length), a ≠ b → f[a] ≠ f[b] := fun a b ha hb hab e => hab ((List.getElem_inj fn).mp e)
        have a1 := inj i ((i + 1) % 5) h1 h2 (by omega)
        have a2 := inj i 5 h1 h5 (by omega)
        have a3 := inj ((i + 1) % 5) 5 h2 h5 (by omega)
        rcases ho with rfl | rfl <;> simp [a1, a2, a3]
      have od : ∀ c ∈ own, c ∈ digits := by
        intro c hc
        refine fd c ?_
        rcases ho with rfl | rfl
        · simp only [List.mem_cons, List.not_mem_nil, or_false] at hc
          rcases hc with rfl | rfl <;> exact List.getElem_mem _
        · simp only [List.mem_cons, List.not_mem_nil, or_false] at hc
          rcases hc with rfl | rfl | rfl <;> exact List.getElem_mem _
      have one : own ≠ [] := by rcases ho with rfl | rfl <;> simp
      have sl : (sortN own).length ≤ 3 := by rw [(sortN_perm own).length_eq]; exact ol
      have es := fun S => sortS_ones (S := S) (l := own) (by omega)
      have ej := fun S => join_ones (S := S) (l := sortN own) (by omega)
      have ea := append_at (S := B2 ++ [.lst r, .lst (d1s f), .lst (lnD l)]) (n := L + 2) (ds := lnD l) (d := pD (gs[i], sortN own)) (by rw [app_get hB2]; rfl) (by simp only [lnD, List.length_map]; omega)
      rw [app_set hB2] at ea
      have t1 : tyW "list" (.loc (L + 2)) (B2 ++ [.lst r, .lst (d1s f), .lst (lnD l)]) = true := tyW_cell (by rw [app_get hB2]; rfl)
      have lo2 : lenOk 2 = true := lenOk_of (by omega)
      refine ⟨_, _, [some (.loc n), some (.d (.str gs)), some (.loc L), some (.loc (L + 1)), x, some (.loc (L + 2)), some (.d (.int i)), some (.d (.lst (d1s own))), none, none, none], B2 ++ [.lst r, .lst (d1s f), .lst (lnD l ++ [pD (gs[i], sortN own)])], rfl, .inl ?_, _, _, l ++ [(gs[i], sortN own)], B2, rfl, ?_, j2, o.trans o2, ?_, ?_⟩
      · unfold bodyB
        rw [ev_seq, ev_asg]
        simp only [List.set_cons_succ, List.set_cons_zero] at e ⊢
        rw [e]
        simp [t1, es, ej, lo2, ixA_nat, hgi, pD] at ea ⊢
        simp [ea]
      · simp [lnD]
      · rw [List.map_append, lf, List.take_add_one, List.getElem?_eq_getElem hgi]; rfl
      · intro p hp
        rcases List.mem_append.mp hp with hp | hp
        · exact lk p hp
        · rw [List.mem_singleton.mp hp]; exact looks_sort one on od)
  rw [range_len] at lf
  exact ⟨y, z, l, B', e1, lf, lk, j1, o1⟩

def bodyC : FS := fExpr (fBM "list" gAppend (fVar 10) (fCons (fBM "list" gPopAt (fVar 5) (fCons (fCall F__law_dip (fCons (fVar 0) (fCons (fCall gLen (fCons (fVar 5) fNil)) fNil))) fNil)) fNil))
theorem loopC {n L : Nat} {B : Store} {l : Ln} {r f : List D} {w1 w2 w3 x y z u v : Option W} (h : Jar n B) (hL : B.length = L) (hl : l.length ≤ 100) : ∃ x' m a B', forD (gSet 4) bodyC (rangeD 0 l.length) [some (.loc n), w1, w2, w3, x, some (.loc (L + 2)), y, z, u, v, some (.loc (L + 3))] (B ++ [.lst r, .lst f, .lst (lnD l), .lst []]) =
    .nx [some (.loc n), w1, w2, w3, x', some (.loc (L + 2)), y, z, u, v, some (.loc (L + 3))] (B' ++ [.lst r, .lst f, .lst a, .lst (lnD m)]) ∧ m.Perm l ∧ Jar n B' ∧ Oth n B B' := by
  obtain ⟨ρ', S1, e1, x', m, a, B', rfl, rfl, j1, o1, ml, pm⟩ := forD_inv (g := gSet 4) (b := bodyC) (all := rangeD 0 l.length) (ρ := [some (.loc n), w1, w2, w3, x, some (.loc (L + 2)), y, z, u, v, some (.loc (L + 3))]) (S := B ++ [.lst r, .lst f, .lst (lnD l), .lst []])
    (fun i ρ S' => ∃ (x' : Option W) (m a : Ln) (B' : Store), ρ = [some (.loc n), w1, w2, w3, x', some (.loc (L + 2)), y, z, u, v, some (.loc (L + 3))] ∧ S' = B' ++ [.lst r, .lst f, .lst (lnD a), .lst (lnD m)] ∧ Jar n B' ∧ Oth n B B' ∧ m.length = i ∧ (m ++ a).Perm l)
    ⟨x, [], l, B, rfl, rfl, h, .refl, rfl, .refl _⟩ (by
      rintro i d ρ S' hd ⟨x', m, a, B1, rfl, rfl, j, o, ml, pm⟩
      obtain ⟨hi, rfl⟩ := range_get hd
      have hrl : m.length + a.length = l.length := by have := pm.length_eq; simpa using this
      have hB : B1.length = L := by rw [o.len, hL]
      obtain ⟨d, B2, e, d0, d1, j2, o2⟩ := dip_app (cs := [.lst r, .lst f, .lst (lnD a), .lst (lnD m)]) (wide := (a.length : Int)) j (by omega) (by omega)
      obtain ⟨k, rfl⟩ := Int.eq_ofNat_of_zero_le d0
      have hk : k < a.length := by omega
      have hB2 : B2.length = L := by rw [o2.len, hB]
      have hg : (lnD a)[k]? = some (pD a[k]) := by rw [lnD, List.getElem?_map, List.getElem?_eq_getElem hk]; rfl
      have ep := popAt (S := B2 ++ [.lst r, .lst f, .lst (lnD a), .lst (lnD m)]) (k := L + 2) (ds := lnD a) (by rw [app_get hB2]; rfl) hg (by omega)
      rw [app_set hB2] at ep
      have ea := append_at (S := B2 ++ [.lst r, .lst f, .lst ((lnD a).eraseIdx k), .lst (lnD m)]) (n := L + 3) (ds := lnD m) (d := pD a[k]) (by rw [app_get hB2]; rfl) (by rw [lnD, List.length_map]; omega)
      rw [app_set hB2] at ea
      refine ⟨_, _, [some (.loc n), w1, w2, w3, some (.d (.int i)), some (.loc (L + 2)), y, z, u, v, some (.loc (L + 3))], B2 ++ [.lst r, .lst f, .lst ((lnD a).eraseIdx k), .lst (lnD m ++ [pD a[k]])], rfl, .inl ?_, _, m ++ [a[k]], a.eraseIdx k, B2, rfl, ?_, j2, o.trans o2, ?_, ?_⟩
      · have t1 : tyW "list" (.loc (L + 3)) (B1 ++ [.lst r, .lst f, .lst (lnD a), .lst (lnD m)]) = true := tyW_cell (by rw [app_get hB]; rfl)
        have t2 : tyW "list" (.loc (L + 2)) (B1 ++ [.lst r, .lst f, .lst (lnD a), .lst (lnD m)]) = true := tyW_cell (by rw [app_get hB]; rfl)
        have g0 : (B1 ++ [Cell.lst r, .lst f, .lst (lnD a), .lst (lnD m)])[L + 2]? = some (.lst (lnD a)) := by rw [app_get hB]; rfl
        have ll : (lnD a).length = a.length := by simp [lnD]
        simp [bodyC, t1, t2, g0, e, ll] at ep ea ⊢
        simp [ep, ea]
      · simp [lnD, map_erase]
      · simp [ml]
      · rw [List.append_assoc]
        exact ((perm_popD (List.getElem?_eq_getElem hk)).append_left m).trans pm)
  rw [range_len] at ml
  have ha : a = [] := by
    have := pm.length_eq
    rw [List.length_append] at this
    exact List.eq_nil_of_length_eq_zero (by omega)
  subst ha
  rw [List.append_nil] at pm
  exact ⟨x', m, _, B', e1, pm, j1, o1⟩
theorem ring_line' {n : Nat} {S : Store} (h : Jar n S) : ∃ l S', F__law_ring_line [.loc n] S = .ok (.d (.tup (lnD l))) S' ∧ LOk l ∧ Jar n S' ∧ Oth n S S' ∧ ∀ p ∈ l, p.1 ∈ g11 := by
  obtain ⟨gs, S1, e1, gl, gn, gm, j1, o1⟩ := glyphs (many := 6) h (by omega)
  obtain ⟨x, f, r, B2, eA, fl, fn, fd, j2, o2⟩ := loopA (names := .str gs) (L := S1.length) j1 rfl
  have h2 : B2.length = S1.length := o2.len
  obtain ⟨y, z, l, B3, eB, lf, lk, j3, o3⟩ := loopB (r := r) (x := x) j2 h2 gl fl fn fd
  have h3 : B3.length = S1.length := o3.len.trans h2
  obtain ⟨f0, f1, f2, f3, f4, f5, f6, rfl⟩ : ∃ a b c d e g h, f = [a, b, c, d, e, g, h] := by
    match f, fl with
    | [a, b, c, d, e, g, h], _ => exact ⟨a, b, c, d, e, g, h, rfl⟩
  obtain ⟨dm, B4, e4, hm, j4, o4⟩ := pick_app (cs := [.lst r, .lst (d1s [f0, f1, f2, f3, f4, f5, f6]), .lst (lnD l)]) (menu := [.lst (d1s []), .lst (d1s [f6]), .lst (d1s [f1, f2]), .lst (d1s [f0, f1, f2]), .lst (d1s [f0]), .lst (d1s [f0, f1, f2, f3, f4]), .lst (d1s [f0, f2]), .lst (d1s []), .lst (d1s [f6])]) j3 (by simp) (by simp)
  have h4 : B4.length = S1.length := o4.len.trans h3
  obtain ⟨m, rfl, mn, md, ml⟩ : ∃ m, dm = .lst (d1s m) ∧ m.Nodup ∧ (∀ c ∈ m, c ∈ digits) ∧ m.length ≤ 7 := by
    have sub : ∀ m : List Nat, m.Sublist [f0, f1, f2, f3, f4, f5, f6] → m.Nodup ∧ (∀ c ∈ m, c ∈ digits) ∧ m.length ≤ 7 := fun m s => ⟨s.nodup fn, fun c hc => fd c (s.subset hc), s.length_le⟩
    simp only [List.mem_cons, List.not_mem_nil, or_false] at hm
    rcases hm with rfl | rfl | rfl | rfl | rfl | rfl | rfl | rfl | rfl
    · exact ⟨[], rfl, sub _ (by simp)⟩
    · exact ⟨[f6], rfl, sub _ (by simp)⟩
    · exact ⟨[f1, f2], rfl, sub _ (((((List.Sublist.refl [] |>.cons f6 |>.cons f5) |>.cons f4) |>.cons f3) |>.cons_cons f2 |>.cons_cons f1) |>.cons f0)⟩
    · exact ⟨[f0, f1, f2], rfl, sub _ (((((List.Sublist.refl [] |>.cons f6 |>.cons f5) |>.cons f4) |>.cons f3) |>.cons_cons f2 |>.cons_cons f1) |>.cons_cons f0)⟩
    · exact ⟨[f0], rfl, sub _ (by simp)⟩
    · exact ⟨[f0, f1, f2, f3, f4], rfl, sub _ (((((List.Sublist.refl [] |>.cons f6 |>.cons f5) |>.cons_cons f4) |>.cons_cons f3) |>.cons_cons f2 |>.cons_cons f1) |>.cons_cons f0)⟩
    · exact ⟨[f0, f2], rfl, sub _ (((((List.Sublist.refl [] |>.cons f6 |>.cons f5) |>.cons f4) |>.cons f3) |>.cons_cons f2 |>.cons f1) |>.cons_cons f0)⟩
    · exact ⟨[], rfl, sub _ (by simp)⟩
    · exact ⟨[f6], rfl, sub _ (by simp)⟩
  have ll : l.length = 5 := by have := congrArg List.length lf; rw [List.length_map, List.length_take] at this; omega
  have hg5 : 5 < gs.length := by omega
  have q1 : eqOk (.lst (d1s m)) (.lst []) = true := by
    have : plainD 60 (.lst (d1s m)) = true := by
      rw [plainD]; exact plain_strs 59 _ fun d hd => by obtain ⟨c, _, rfl⟩ := List.mem_map.mp hd; exact ⟨_, rfl⟩
    unfold eqOk
    rw [this]; rfl
  -- the sixth sign, or none
  obtain ⟨l2, hl2, ok2⟩ : ∃ l2 : Ln, (l2 = if m = [] then l else l ++ [(gs[5], sortN (onceM [] m))]) ∧ LOk l2 := by
    have hle : ∀ p ∈ l, p.1 ∈ abc := fun p hp => glyph_abc (gm p.1 (List.mem_of_mem_take (by rw [← lf]; exact List.mem_map_of_mem hp)))
    by_cases hm0 : m = []
    · refine ⟨l, (if_pos hm0).symm, by omega, by omega, by rw [lf]; exact (List.take_sublist _ _).nodup gn, hle, lk⟩
    · refine ⟨l ++ [(gs[5], sortN (onceM [] m))], (if_neg hm0).symm, by rw [List.length_append]; omega, by simp [ll], ?_, ?_, ?_⟩
      · have e : (l ++ [(gs[5], sortN (onceM [] m))]).map (·.1) = gs := by
          rw [List.map_append, lf]
          have : gs.take 6 = gs := List.take_of_length_le (by omega)
          rw [List.take_add_one, List.getElem?_eq_getElem hg5] at this
          exact this
        rw [e]; exact gn
      · intro p hp
        rcases List.mem_append.mp hp with hp | hp
        · exact hle p hp
        · rw [List.mem_singleton.mp hp]; exact glyph_abc (gm _ (List.getElem_mem _))
      · intro p hp
        rcases List.mem_append.mp hp with hp | hp
        · exact lk p hp
        · rw [List.mem_singleton.mp hp]
          refine looks_sort (fun e => hm0 ?_) (onceM_nd m [] .nil) fun c hc => ?_
          · cases m with
            | nil => rfl
            | cons c m => have : c ∈ onceM [] (c :: m) := (onceM_mem _ _ _).mpr (.inr List.mem_cons_self); rw [e] at this; cases this
          · exact md c (((onceM_mem m [] c).mp hc).resolve_left (by simp))
  have g2 : ∀ p ∈ l2, p.1 ∈ g11 := fun p hp => by
    have hl : ∀ p ∈ l, p.1 ∈ g11 := fun p hp => gm p.1 (List.mem_of_mem_take (by rw [← lf]; exact List.mem_map_of_mem hp))
    rw [hl2] at hp
    split at hp
    · exact hl p hp
    · rcases List.mem_append.mp hp with hp | hp
      · exact hl p hp
      · rw [List.mem_singleton.mp hp]; exact gm _ (List.getElem_mem _)
  obtain ⟨x', m2, a, B5, eC, pm, j5, o5⟩ := loopC (r := r) (f := d1s [f0, f1, f2, f3, f4, f5, f6]) (l := l2) (w1 := some (.d (.str gs))) (w2 := some (.loc S1.length)) (w3 := some (.loc (S1.length + 1))) (x := x) (y := y) (z := z)
    (u := some (.d (.lst [.lst (d1s []), .lst (d1s [f6]), .lst (d1s [f1, f2]), .lst (d1s [f0, f1, f2]), .lst (d1s [f0]), .lst (d1s [f0, f1, f2, f3, f4])]))) (v := some (.d (.lst (d1s m)))) j4 h4 (by have := ok2.hi; omega)
  have h5 : B5.length = S1.length := o5.len.trans h4
  have hS : S1.length = S.length := o1.len
  refine ⟨m2, B5, ?_, ok2.perm pm, j5, (((o1.trans o2).trans o3).trans o4).trans o5, fun p hp => g2 p (pm.mem_iff.mp hp)⟩
  have hcut : cutL [D.str [f0], .str [f1], .str [f2], .str [f3], .str [f4], .str [f5], .str [f6]] none (some 5) = [.str [f0], .str [f1], .str [f2], .str [f3], .str [f4]] := cut_to (n := 5)
  have lo : ∀ k, k ≤ 100 → lenOk k = true := fun k hk => lenOk_of (by omega)
  have hT : ∀ cs : Store, (B5 ++ cs).take S.length = B5 := fun cs => app_take (by rw [h5, hS])
  have sm : small62 (l2.length : Int) = true := small_nat (by have := ok2.hi; omega)
  have l2l : (lnD l2).length = l2.length := by simp [lnD]
  have s7 : small62 7 = true := rfl
  have s5 : small62 5 = true := rfl
  have ap := fun (B : Store) (hB : B.length = S1.length) (cs : Store) (i : Nat) => app_get (B := B) (cs := cs) (L := S1.length) (i := i) hB
  have ap0 := fun (B : Store) (hB : B.length = S1.length) (cs : Store) => app_get0 (B := B) (cs := cs) (L := S1.length) hB
  simp only [bodyA, bodyB, bodyC, d1s, digits, List.map_cons, List.map_nil] at eA eB eC e4
  have key : G__law_ring_line [some (.loc n), none, none, none, none, none, none, none, none, none, none] S = .rt (.d (.tup (lnD m2))) (B5 ++ [.lst r, .lst (d1s [f0, f1, f2, f3, f4, f5, f6]), .lst a, .lst (lnD m2)]) := by
    have e1' : F__law_glyphs [.loc n, .d (.int 6)] S = .ok (.d (.str gs)) S1 := e1
    have a2 := ap B2 h2
    have a3 := ap B3 h3
    have a4 := ap B4 h4
    have a5 := ap B5 h5
    have b2 := ap0 B2 h2
    have b3 := ap0 B3 h3
    have b4 := ap0 B4 h4
    have b5 := ap0 B5 h5
    have lo0 := lo 0 (by omega)
    have lo1 := lo 1 (by omega)
    have lo2 := lo 2 (by omega)
    have lo3 := lo 3 (by omega)
    have lo6 := lo 6 (by omega)
    have lo9 := lo 9 (by omega)
    by_cases hm0 : m = []
    · subst hm0
      rw [if_pos rfl] at hl2
      subst hl2
      simp only [List.map_nil] at eC e4
      have q2 : eqOk (.lst []) (.lst []) = true := q1
      simp [G__law_ring_line, e1', eA, eB, e4, eC, hcut, a2, a3, a4, a5, b2, b3, b4, b5, h2, h3, h4, h5, s7, s5, sm, l2l, lo0, lo1, lo2, lo3, lo6, lo9, q2]
    · rw [if_neg hm0] at hl2
      have hne : deq (.lst (m.map fun c => .str [c])) (.lst []) = false := by cases m with | nil => exact absurd rfl hm0 | cons => rfl
      have ss := fun S => sortSet_ones (S := S) (l := m) (by omega)
      have ea := append_at (S := B4 ++ [.lst r, .lst (d1s [f0, f1, f2, f3, f4, f5, f6]), .lst (lnD l)]) (n := S1.length + 2) (ds := lnD l) (d := pD (gs[5], sortN (onceM [] m))) (by rw [app_get h4]; rfl) (by rw [lnD, List.length_map]; omega)
      have eL : lnD l ++ [pD (gs[5], sortN (onceM [] m))] = lnD l2 := by rw [hl2, lnD, lnD, List.map_append]; rfl
      rw [app_set h4, eL] at ea
      have jn : ∀ S : Store, gJoin [.d (.str []), .d (.lst ((sortN (onceM [] m)).map fun c => .str [c]))] S = .ok (.d (.str (sortN (onceM [] m)))) S := fun S => DL.join_ones (by rw [(sortN_perm _).length_eq]; have := onceM_len m []; simp only [List.length_nil] at this; omega)
      have t1 : tyW "list" (.loc (S1.length + 2)) (B4 ++ [.lst r, .lst (d1s [f0, f1, f2, f3, f4, f5, f6]), .lst (lnD l)]) = true := tyW_cell (by rw [app_get h4]; rfl)
      simp [d1s] at t1
      have hx5 : gs[5]? = some gs[5] := List.getElem?_eq_getElem hg5
      simp only [d1s] at q1
      simp [d1s, pD] at ea
      simp [G__law_ring_line, e1', eA, eB, e4, eC, hcut, a2, a3, a4, a5, b2, b3, b4, b5, h2, h3, h4, h5, s7, s5, sm, l2l, lo0, lo1, lo2, lo3, lo6, lo9, q1, hne, ss, jn, ea, hx5, t1]
  rw [F__law_ring_line, fnK_go (by rfl)]
  simp [key, hT]
theorem ring_line {n : Nat} {S : Store} (h : Jar n S) : ∃ l S', F__law_ring_line [.loc n] S = .ok (.d (.tup (lnD l))) S' ∧ LOk l ∧ Jar n S' ∧ Oth n S S' :=
  let ⟨l, S', a, b, c, d, _⟩ := ring_line' h; ⟨l, S', a, b, c, d⟩

theorem any_line' {n : Nat} {S : Store} (h : Jar n S) : ∃ l S', F__law_any_line [.loc n] S = .ok (.d (.tup (lnD l))) S' ∧ LOk l ∧ Jar n S' ∧ Oth n S S' ∧ ∀ p ∈ l, p.1 ∈ g11 := by
  obtain ⟨d, S1, e1, d0, d1, j1, o1⟩ := dip (wide := 2) h (by omega) (by omega)
  by_cases hd : d = 0
  · subst hd
    obtain ⟨l, S2, e2, ok, j2, o2, gg⟩ := plain_line' j1
    refine ⟨l, S2, ?_, ok, j2, o1.trans o2, gg⟩
    have hT := oth_take (o1.trans o2)
    simp [F__law_any_line, fnK_go, G__law_any_line, e1, e2, hT]
  · obtain ⟨l, S2, e2, ok, j2, o2, gg⟩ := ring_line' j1
    refine ⟨l, S2, ?_, ok, j2, o1.trans o2, gg⟩
    have hT := oth_take (o1.trans o2)
    have hne : (d == 0) = false := by simp [hd]
    simp [F__law_any_line, fnK_go, G__law_any_line, e1, e2, hT, hd]
theorem any_line {n : Nat} {S : Store} (h : Jar n S) : ∃ l S', F__law_any_line [.loc n] S = .ok (.d (.tup (lnD l))) S' ∧ LOk l ∧ Jar n S' ∧ Oth n S S' :=
  let ⟨l, S', a, b, c, d, _⟩ := any_line' h; ⟨l, S', a, b, c, d⟩
theorem near {l : Ln} {S : Store} (h : LOk l) : F__law_near [.d (.tup (lnD l))] S = .ok (.d (.dct (ones' (gls l)) (l.map fun p => .lst (ones' (shr l p.2))))) S := by
  have hi := h.hi
  obtain ⟨ρ', S1, e1, x, y, rfl, rfl⟩ := forD_inv (g := gTupT 2 (gsCons (gSet 2) (gsCons (gSet 3) gsNil))) (b := fAsg (fLc (fItemsK (fVar 0)) (.name 4) (toB (fBin gNe (fLc (fItemsK (fBin gIx (fVar 4) (fK (.d (.int 1))))) (.name 5) (toB (fBin (gIn0 false) (fVar 5) (fVar 3))) (fVar 5) [5]) (fLst fNil))) (fBin gIx (fVar 4) (fK (.d (.int 0)))) [4]) (gIxS (fVar 1) (fVar 2))) (all := lnD l) (ρ := [some (.d (.tup (lnD l))), some (.loc S.length), none, none, none, none]) (S := S ++ [.dct [] []])
    (fun i ρ S' => ∃ x y, ρ = [some (.d (.tup (lnD l))), some (.loc S.length), x, y, none, none] ∧ S' = S ++ [.dct (ones' ((gls l).take i)) ((l.take i).map fun p => .lst (ones' (shr l p.2)))]) ⟨none, none, rfl, by simp [ones']⟩ (by
      rintro i d ρ S' hd ⟨x, y, rfl, rfl⟩
      rw [lnD, List.getElem?_map, Option.map_eq_some_iff] at hd
      obtain ⟨p, hp, rfl⟩ := hd
      have hi' : i < l.length := by
        by_cases hh : i < l.length
        · exact hh
        · rw [List.getElem?_eq_none (by omega)] at hp; cases hp
      have hpm : p ∈ l := List.mem_of_getElem? hp
      generalize hS : S ++ [Cell.dct (ones' ((gls l).take i)) ((l.take i).map fun p => .lst (ones' (shr l p.2)))] = S2
      have lo : lenOk (lnD l).length = true := lenOk_of (by simp [lnD]; omega)
      have c0 := fun (e : Nat × List Nat) => compD_fil (t := .name 5) (tt := toB (fBin (gIn0 false) (fVar 5) (fVar 3))) (f := fVar 5) (ρ := [some (.d (.tup (lnD l))), some (.loc S.length), some (.d (.str [p.1])), some (.d (.str p.2)), some (.d (.tup [.str [e.1], .str e.2])), none]) (S := S2) (mk := fun c => D.str [c]) (r := fun c => D.str [c]) (p := fun c => decide (c ∈ p.2)) e.2 (fun c _ => by
        by_cases hh : c ∈ p.2 <;> simp [hh])
      have c1 := compD_fil (t := .name 4) (tt := toB (fBin gNe (fLc (fItemsK (fBin gIx (fVar 4) (fK (.d (.int 1))))) (.name 5) (toB (fBin (gIn0 false) (fVar 5) (fVar 3))) (fVar 5) [5]) (fLst fNil))) (f := fBin gIx (fVar 4) (fK (.d (.int 0)))) (ρ := [some (.d (.tup (lnD l))), some (.loc S.length), some (.d (.str [p.1])), some (.d (.str p.2)), none, none]) (S := S2) (mk := pD) (r := fun e => D.str [e.1]) (p := fun e => e.2.any fun c => decide (c ∈ p.2)) l (fun e he => by
        have le : lenOk e.2.length = true := lenOk_of (by have := (h.lk e he).2.length_le; simp at this; omega)
        have lo0 : lenOk 0 = true := lenOk_of (by omega)
        have t : toB (fBin gNe (fLc (fItemsK (fBin gIx (fVar 4) (fK (.d (.int 1))))) (.name 5) (toB (fBin (gIn0 false) (fVar 5) (fVar 3))) (fVar 5) [5]) (fLst fNil)) [some (.d (.tup (lnD l))), some (.loc S.length), some (.d (.str [p.1])), some (.d (.str p.2)), some (.d (.tup [.str [e.1], .str e.2])), none] S2 = .ok (e.2.any fun c => decide (c ∈ p.2)) S2 := by
          simp [c0 e, le, lo0, nonempty_ones, -deq_lst, deq_ones]
          rw [← filter_any]
          cases (List.filter (fun c => decide (c ∈ p.2)) e.2) <;> rfl
        simp only [compT_name, pD, List.set_cons_succ, List.set_cons_zero, t]
        cases (e.2.any fun c => decide (c ∈ p.2)) <;> simp)
      rw [← lnD] at c1
      have gt : gTupT 2 (gsCons (gSet 2) (gsCons (gSet 3) gsNil)) (.d (pD p)) [some (.d (.tup (lnD l))), some (.loc S.length), x, y, none, none] S2 = .ok [some (.d (.tup (lnD l))), some (.loc S.length), some (.d (.str [p.1])), some (.d (.str p.2)), none, none] S2 := rfl
      have hn : p.1 ∉ (gls l).take i := by
        intro hm
        obtain ⟨j, hj, e⟩ := List.getElem_of_mem hm
        rw [List.length_take] at hj
        rw [List.getElem_take] at e
        have := List.pairwise_iff_getElem.mp h.nd j i (by simp; omega) (by simp; omega) (by omega)
        have e2 : p = l[i] := by
          rw [List.getElem?_eq_getElem hi'] at hp
          exact (Option.some.inj hp).symm
        rw [e2] at e
        simp only [gls, List.getElem_map] at this e
        exact this e
      have w := wr_new (S := S2) (n := S.length) (c := p.1) (l := (gls l).take i) (vs := (l.take i).map fun p => .lst (ones' (shr l p.2))) (v := .lst ((l.filter fun e => e.2.any fun c => decide (c ∈ p.2)).map fun e => .str [e.1])) (by rw [← hS]; simp [ones']) hn (by simp; omega)
      refine ⟨_, _, [some (.d (.tup (lnD l))), some (.loc S.length), some (.d (.str [p.1])), some (.d (.str p.2)), none, none], S2.set S.length (.dct (((gls l).take i ++ [p.1]).map fun x => .str [x]) (((l.take i).map fun p => D.lst (ones' (shr l p.2))) ++ [.lst ((l.filter fun e => e.2.any fun c => decide (c ∈ p.2)).map fun e => .str [e.1])])), gt, .inl ?_, some (.d (.str [p.1])), some (.d (.str p.2)), rfl, ?_⟩
      · have ll : (lnD l).length = l.length := by simp [lnD]
        rw [ll] at lo
        simp [c1, ll, lo, w]
      · rw [← hS]
        have g1 : (gls l)[i]? = some p.1 := by rw [gls, List.getElem?_map, hp]; rfl
        rw [List.take_add_one, List.take_add_one, g1, hp]
        simp [ones', shr])
  have ll : (lnD l).length = l.length := by simp [lnD]
  rw [ll, List.take_length, show (gls l).take l.length = gls l from List.take_of_length_le (by simp [gls])] at e1
  simp [F__law_near, fnK_go, G__law_near, e1, DL.finish, frozenC]

theorem jar {ns : List Int} {k : Nat} {S : Store} (hl : ns.length ≤ 63) (hk : k < 5) : ∃ a b : Int, 0 ≤ a ∧ F__law_jar [.d (.scr ns), .d (.int k)] S = .ok (.loc S.length) (S ++ [.lst [.int a, .int b, .int 0]]) := by
  have hT : S.take S.length = S := List.take_length
  have mo : ∀ i j : Int, i.natAbs < 2 ^ 60 → mulOk i j = true := fun i j h => by
    unfold mulOk
    rw [Bool.or_eq_true]
    exact .inl (decide_eq_true h)
  have mo' : ∀ i j : Int, j.natAbs < 2 ^ 60 → mulOk i j = true := fun i j h => by
    unfold mulOk
    rw [Bool.or_eq_true]
    exact .inr (decide_eq_true h)
  have m1 : mulOk 7369 ((k : Int) + 5) = true := mo _ _ (by decide)
  have m2 : mulOk (7369 * ((k : Int) + 5)) ((k : Int) + 2) = true := mo' _ _ (by omega)
  have m3 : mulOk 29 (ns.length : Int) = true := mo _ _ (by decide)
  have m4 : ∀ j : Int, mulOk 105019 j = true := fun j => mo _ _ (by decide)
  have m5 : ∀ j : Int, mulOk j 733 = true := fun j => mo' _ _ (by decide)
  have m6 : ∀ j : Int, mulOk j 8117 = true := fun j => mo' _ _ (by decide)
  have m7 : ∀ j : Int, mulOk j 64013 = true := fun j => mo' _ _ (by decide)
  have pw : gPow (.d (.int 10)) (.d (.int 18)) S = .ok (.d (.int 1000000000000000000)) S := by
    simp
  have hcut : ∃ ds : List Int, cutL ns none (some 4) = ds := ⟨_, rfl⟩
  obtain ⟨ds, hds⟩ := hcut
  obtain ⟨ρ', S', e, rfl, c, y, rfl⟩ := forD_inv (g := gSet 3) (b := fAsg (fBin gMod (fCall gInt (fCons (fBin gAdd (fBin gMul (fVar 2) (fK (.d (.int 733)))) (fVar 3)) fNil)) (fK (.d (.int 1000000009)))) (gSet 2)) (all := ds.map D.int) (ρ := [some (.d (.scr ns)), some (.d (.int k)), some (.d (.int (7369 * ((k : Int) + 5) * ((k : Int) + 2) + 29 * (ns.length : Int)))), none, none, none]) (S := S)
    (fun i ρ S' => S' = S ∧ ∃ (c : Int) (y : Option W), ρ = [some (.d (.scr ns)), some (.d (.int k)), some (.d (.int c)), y, none, none]) ⟨rfl, _, _, rfl⟩ (by
      rintro i d ρ S1 hd ⟨rfl, c, y, rfl⟩
      rw [List.getElem?_map, Option.map_eq_some_iff] at hd
      obtain ⟨z, hz, rfl⟩ := hd
      refine ⟨_, _, [some (.d (.scr ns)), some (.d (.int k)), some (.d (.int ((c * 733 + z) % 1000000009))), some (.d (.int z)), none, none], _, rfl, .inl ?_, rfl, _, _, rfl⟩
      simp [m5])
  obtain ⟨own, ho⟩ : ∃ own : Int, fIf (toB (fBin gLt (fVar 1) (fCall gLen (fCons (fVar 0) fNil)))) (fBin gIx (fVar 0) (fVar 1)) (fK (.d (.int 0))) [some (.d (.scr ns)), some (.d (.int k)), some (.d (.int c)), y, none, none] S' = .ok (.d (.int own)) S' := by
    by_cases hh : k < ns.length
    · refine ⟨ns[k], ?_⟩
      have hx : ixA ns (k : Int) = some ns[k] := by rw [ixA_nat, List.getElem?_eq_getElem hh]
      have h2 : (k : Int) < (ns.length : Int) := by omega
      simp [h2, hx, hh]
    · refine ⟨0, ?_⟩
      have h2 : ¬ (k : Int) < (ns.length : Int) := by omega
      simp [h2, hh]
  obtain ⟨dg, hd0, hd⟩ : ∃ dg : Int, 0 ≤ dg ∧ fIf (fOrB (toB (fBin gLt (fVar 4) (fK (.d (.int 0))))) (toB (fBin gGe (fVar 4) (fBin gPow (fK (.d (.int 10))) (fK (.d (.int 18))))))) (fCall gAbs (fCons (fVar 4) fNil)) (fK (.d (.int 0))) [some (.d (.scr ns)), some (.d (.int k)), some (.d (.int c)), y, some (.d (.int own)), none] S' = .ok (.d (.int dg)) S' := by
    by_cases hh : own < 0
    · refine ⟨-own, by omega, ?_⟩
      simp [hh]
    · by_cases h2 : 1000000000000000000 ≤ own
      · refine ⟨own, by omega, ?_⟩
        simp [hh, h2]
      · refine ⟨0, by omega, ?_⟩
        simp [hh, h2]
  refine ⟨dg, (c * 8117 + own * 64013 + 105019 * ((k : Int) + 1)) % 2147483563, hd0, ?_⟩
  have lo3 : lenOk 3 = true := lenOk_of (by omega)
  rw [F__law_jar, fnK_go (by rfl)]
  simp [G__law_jar, m1, m2, m3, m4, m6, m7, hds, e, ho, hd, lo3, DL.finish, -ev_if]
theorem law_lots {l : Ln} {S : Store} (h : LOk l) : F__law_lots [.d (.tup (lnD l))] S = .ok (.d (.lst (txD ((lotsOf l).drop 1)))) S := by
  have hT : S.take S.length = S := List.take_length
  have hg := gls_len h
  have hi := h.hi
  have ll0 : (lnD l).length = l.length := by simp [lnD]
  have lo0 : lenOk l.length = true := lenOk_of (by omega)
  have ss := sortS_ones (S := S) (l := gls l) (by omega)
  rw [gls, List.map_map] at ss
  have ss' : gSortS [.d (.lst (l.map fun p => D.str [p.1]))] S = .ok (.d (.lst ((sortN (gls l)).map fun c => .str [c]))) S := ss
  have c0 := compD_map (t := .name 3) (tt := fYes) (f := fBin gIx (fVar 3) (fK (.d (.int 0)))) (ρ := [some (.d (.tup (lnD l))), some (.d (.lst [.str []])), none, none, none]) (S := S) (mk := pD) (r := fun p => .str [p.1]) l (fun p hp => by simp [pD])
  rw [← lnD] at c0
  have lo1 : lenOk 1 = true := lenOk_of (by omega)
  obtain ⟨x, e⟩ := lots_loop (g := gSet 2) (b := fAsg (fBin gAdd (fVar 1) (fLc (fItemsK (fVar 1)) (.name 4) fYes (fBin gAdd (fVar 4) (fVar 2)) [4])) (gSet 1)) (ls := sortN (gls l)) (S := S) (w0 := none) (by rw [(sortN_perm _).length_eq]; exact hg) (mkE := fun a b => [some (.d (.tup (lnD l))), a, b, none, none]) (fun d a b => rfl) (fun f c hf hx => by
    have c1 := compD_map (t := .name 4) (tt := fYes) (f := fBin gAdd (fVar 4) (fVar 2)) (ρ := [some (.d (.tup (lnD l))), some (.d (.lst (txD f))), some (.d (.str [c])), none, none]) (S := S) (mk := D.str) (r := fun x => .str (x ++ [c])) f (fun x hx' => by
      have lo : lenOk (x.length + 1) = true := lenOk_of (by have := hx x hx'; omega)
      simp [lo])
    have lo : lenOk f.length = true := lenOk_of (by omega)
    have lo2 : lenOk (f.length + f.length) = true := lenOk_of (by omega)
    have ll : (txD f).length = f.length := by simp [txD]
    have et : txD (stepL f c) = txD f ++ f.map fun x => .str (x ++ [c]) := by simp [txD, stepL]
    rw [← txD] at c1
    simp [c1, ll, lo, lo2, et]) none
  have cd : cutL (txD (lotsOf l)) (some 1) none = txD ((lotsOf l).drop 1) := by
    have := cut_from (xs := txD (lotsOf l)) (n := 1)
    rw [show ((1 : Nat) : Int) = 1 from rfl] at this
    rw [this, txD, txD, List.map_drop]
  have e' : forD (gSet 2) (fAsg (fBin gAdd (fVar 1) (fLc (fItemsK (fVar 1)) (.name 4) fYes (fBin gAdd (fVar 4) (fVar 2)) [4])) (gSet 1)) ((sortN (gls l)).map fun c => .str [c]) [some (.d (.tup (lnD l))), some (.d (.lst [.str []])), none, none, none] S = .nx [some (.d (.tup (lnD l))), some (.d (.lst (txD (lotsOf l)))), x, none, none] S := e
  simp [F__law_lots, fnK_go, G__law_lots, c0, ll0, lo0, ss', lo1, e', cd, hT]
theorem law_knot_lots {l : Ln} {S : Store} (h : LOk l) : F__law_knot_lots [.d (.tup (lnD l))] S = .ok (.d (.lst (txD (sortL (GK l))))) S := by
  have n0 : F__law_near [.d (.tup (lnD l))] S = .ok (.d (NB l)) S := near h
  have ll := law_lots (S := S ++ [.lst []]) h
  have lo0 : lenOk 0 = true := lenOk_of (by omega)
  obtain ⟨x, e1⟩ := loopK1 (S := S) (w0 := some (.d (.tup (lnD l)))) h
  obtain ⟨y, e2⟩ := loopK2 (S := S) (w0 := some (.d (.tup (lnD l)))) (w1 := some (.d (NB l))) (x0 := x) h
  have gl : (GK l).length < 64 := by
    have := KK_len h
    have := List.length_filter_le (greatP (KK l)) (KK l)
    unfold GK; omega
  have ss := sortS_cell (S := S ++ [.lst (txD (KK l)), .lst (txD (GK l))]) (n := S.length + 1) (l := GK l) (by rw [app_get rfl]; rfl) gl
  have hT : (S ++ [Cell.lst (txD (KK l)), .lst (txD (GK l))]).take S.length = S := by simp
  have g2 : (S ++ [Cell.lst (txD (KK l)), .lst []])[S.length]? = some (.lst (txD (KK l))) := by simp
  simp only [bodyK1] at e1
  simp only [bodyK2] at e2
  generalize (lotsOf l).drop 1 = d1 at *
  simp [F__law_knot_lots, fnK_go, G__law_knot_lots, n0, lo0, ll, e1, g2, e2, ss, hT, -ev_forS_cell]
end PA
end
section
namespace PA
open PySem PySem.Spec PyProof.Rows L2 DL PP
theorem apart_self {l : Ln} (h : LOk l) {g : Nat} (hg : g ∈ gls l) : g ∈ PP.TT l g := by
  obtain ⟨p, hp, rfl⟩ := List.mem_map.mp hg
  have e : PP.TT l p.1 = shr l p.2 := by rw [PP.TT, lkOf_eq h hp]
  have := mem_shr h hp p.2
  rw [e]
  refine of_decide_eq_true (this.trans ?_)
  have hk := (h.lk p hp).1
  cases e2 : p.2 with
  | nil => exact absurd e2 hk
  | cons c cs => simp
theorem law_apart_lots {l : Ln} {S : Store} (h : LOk l) : F__law_apart_lots [.d (.tup (lnD l))] S = .ok (.d (.lst (txD (sortL (GA l))))) S := by
  have n0 : F__law_near [.d (.tup (lnD l))] S = .ok (.d (NB l)) S := near h
  have ll := law_lots (S := S ++ [.lst []]) h
  have hl := len_lots h
  have bl := BB_len h
  have lo0 : lenOk 0 = true := lenOk_of (by omega)
  obtain ⟨m1, m2, m3⟩ := topM_eq h
  obtain ⟨x, e1⟩ := keep_loop (g := gSet 3) (b := B__law_apart_lots_3) (q := apartO (PP.TT l)) (ls := (lotsOf l).drop 1) (S := S) (c2 := []) (mkE := fun x => [some (.d (.tup (lnD l))), some (.d (NB l)), some (.loc S.length), x, none, none, none]) (by rw [List.length_drop]; omega) (fun _ _ _ => rfl) (fun lot acc hm ha => by
    obtain ⟨k1, k2, k3⟩ := lot_in h (List.mem_of_mem_drop hm)
    have e : fCall gAll (fCons (fLc (fItemsK (fVar 3)) (.name 5) fYes E__law_apart_lots_2 [5]) fNil) _ _ = _ := own_apart (S := S ++ [.lst (txD acc)]) h k1 k2 (w0 := some (.d (.tup (lnD l)))) (w2 := some (.loc S.length)) (w4 := none) (w5 := none) (w6 := none)
    have p := put_at (S := S) (c2 := []) (lot := lot) ha
    have t1 : tyW "list" (.loc S.length) (S ++ [.lst (txD acc)]) = true := tyW_cell (ds := txD acc) (by simp)
    rw [B__law_apart_lots_3, ev_ifS, ev_toB, e]
    cases apartO (PP.TT l) lot <;> simp [p, t1]) none
  have ek : ((lotsOf l).drop 1).filter (apartO (PP.TT l)) = BB l := by
    refine List.filter_congr fun y hy => ?_
    obtain ⟨k1, k2, k3⟩ := lot_in h (List.mem_of_mem_drop hy)
    exact (apart_eq _ (k3.imp fun a => Nat.ne_of_lt a) fun g hg => apart_self h (k1 g hg)).symm
  rw [ek, show txD [] = [] from rfl] at e1
  generalize hS2 : S ++ [Cell.lst (txD (BB l))] = S2 at *
  have g2 : S2[S.length]? = some (.lst ((BB l).map D.str)) := by rw [← hS2]; simp [txD]
  have c1 := compC_fil (t := .name 3) (tt := fYes) (f := E__law_apart_lots_4) (ρ := [some (.d (.tup (lnD l))), some (.d (NB l)), some (.loc S.length), none, none, none, none]) (S := S2) (r := fun x => D.int x.length) (p := fun _ => true) g2 (fun x hx => by simp [E__law_apart_lots_4])
  rw [List.filter_eq_self.mpr (by simp)] at c1
  have e2 : ((BB l).map fun x => D.int x.length) = (lens (BB l)).map D.int := by rw [lens, List.map_map]; rfl
  rw [e2] at c1
  have a2 := agg_go (S := S2) m2
  have c3 := compC_fil (t := .name 3) (tt := T__law_apart_lots_5) (f := fVar 3) (ρ := [some (.d (.tup (lnD l))), some (.d (NB l)), some (.loc S.length), none, some (.d (.int (topM l))), none, none]) (S := S2) (r := D.str) (p := fun x => decide ((x.length : Int) = topM l)) g2 (fun x hx => by
    by_cases e : (x.length : Int) = topM l
    · simp [e, T__law_apart_lots_5]
    · have eb : ((x.length : Int) == topM l) = false := by simp [e]
      simp [e, eb, T__law_apart_lots_5])
  have e3 : ((BB l).filter fun x => decide ((x.length : Int) = topM l)) = GA l := rfl
  rw [e3] at c3
  have ss := sortS_tx (S := S2) (GA_len h)
  rw [txD] at ss
  have hT : S2.take S.length = S := by rw [← hS2]; simp
  generalize hd : (lotsOf l).drop 1 = d1 at *
  simp [F__law_apart_lots, fnK_go, G__law_apart_lots, n0, lo0, ll, e1, g2, c1, a2, c3, ss, hT, hS2]
/-- the law, when its turn is right -/
theorem law_go {N : Int} {R : FF} (hN : 2 ≤ N) (hN5 : N ≤ 5) (right : ∀ {n : Nat} {S : Store}, Jar n S → n < S.length → ∃ S', R [.loc n] S = .ok (.d (.bl true)) S') (ns : List Int) (hl : ns.length ≤ 63) :
    ∃ S, fnK false 1 2 (fSeq (fFor (fRange1 (fCons (fCall gMax2 (fCons (fK (.d (.int 2))) (fCons (fCall gMin2 (fCons (fCall gLen (fCons (fVar 0) fNil)) (fCons (fK (.d (.int N))) fNil))) fNil))) fNil)) (gSet 1) (fIfS (fNotB (toB (fCall R (fCons (fCall F__law_jar (fCons (fVar 0) (fCons (fVar 1) fNil))) fNil)))) (fRet (fK (.d (.bl false)))) fNext)) (fRet (fK (.d (.bl true))))) [.d (.scr ns)] [] = .ok (.d (.bl true)) S := by
  obtain ⟨m, hm, hm5⟩ : ∃ m : Nat, (if (2 : Int) < (if N < (ns.length : Int) then N else (ns.length : Int)) then (if N < (ns.length : Int) then N else (ns.length : Int)) else 2) = (m : Int) ∧ m ≤ 5 := by
    by_cases h1 : N < (ns.length : Int)
    · rw [if_pos h1]
      by_cases h2 : 2 < N
      · exact ⟨N.toNat, by rw [if_pos h2]; omega, by omega⟩
      · exact ⟨2, by rw [if_neg h2]; rfl, by omega⟩
    · by_cases h2 : (2 : Int) < (ns.length : Int)
      · exact ⟨ns.length, by rw [if_neg h1, if_pos h2], by omega⟩
      · exact ⟨2, by rw [if_neg h1, if_neg h2]; rfl, by omega⟩
  obtain ⟨ρ', S', e, x, rfl⟩ := forD_inv (g := gSet 1) (b := fIfS (fNotB (toB (fCall R (fCons (fCall F__law_jar (fCons (fVar 0) (fCons (fVar 1) fNil))) fNil)))) (fRet (fK (.d (.bl false)))) fNext) (all := rangeD 0 m) (ρ := [some (.d (.scr ns)), none]) (S := [])
    (fun i ρ S' => ∃ x, ρ = [some (.d (.scr ns)), x]) ⟨_, rfl⟩ (by
      rintro i d ρ S hd ⟨x, rfl⟩
      obtain ⟨hi, rfl⟩ := range_get hd
      obtain ⟨a, b, a0, e1⟩ := jar (S := S) hl (k := i) (by omega)
      obtain ⟨S2, e2⟩ := right (n := S.length) (S := S ++ [.lst [.int a, .int b, .int 0]]) ⟨a, b, 0, a0, by simp⟩ (by simp)
      refine ⟨_, _, [some (.d (.scr ns)), some (.d (.int i))], S2, rfl, .inl ?_, _, rfl⟩
      simp [e1, e2])
  have sm : small62 (m : Int) = true := small_nat (by omega)
  refine ⟨[], ?_⟩
  simp [fnK_go, hm, sm, e]
end PA
end
section
/-! letters, looks, pairs: of any value; repr of numbers -/
namespace PP
open PySem PySem.Spec PyProof.Rows L2 DL
def flatE : D → Bool
  | .ins .. | .exn .. | .scr _ => false
  | _ => true
def isStrE : D → Bool
  | .str _ => true
  | _ => false
def isTupE : D → Bool
  | .tup _ => true
  | _ => false
theorem isi_strE {d : D} (h : flatE d = true) {S : Store} : gIsi owns subs [.d d, .ty "str"] S = .ok (.d (.bl (isStrE d))) S := by
  cases d <;> first | rfl | cases h
theorem isi_tupE {d : D} (h : flatE d = true) {S : Store} : gIsi owns subs [.d d, .ty "tuple"] S = .ok (.d (.bl (isTupE d))) S := by
  cases d <;> first | rfl | cases h
/-- a text is not too long -/
def szE : D → Bool
  | .str s => Nat.ble s.length 1000
  | _ => true
def letB : D → Bool
  | .str [c] => decide (c ∈ abc)
  | _ => false
theorem is_letter_all {d : D} {S : Store} (h : flatE d = true) (hz : szE d = true) : F_is_letter [.d d] S = .ok (.d (.bl (letB d))) S := by
  have hT : S.take S.length = S := List.take_length
  have e := isi_strE h (S := S)
  cases d with
  | str s =>
    have hz : s.length ≤ 1000 := Nat.le_of_ble_eq_true hz
    have lo : lenOk s.length = true := lenOk_of (by omega)
    match s with
    | [] => simp [F_is_letter, fnK_go, G_is_letter, e, hT, isStrE, letB]
    | [c] =>
      have hin : gIn0D false (.str [c]) (.str abc) S = .ok (.d (.bl (decide (c ∈ abc)))) S := by rw [in_ch, Bool.false_xor]
      show _ = R.ok (W.d (.bl (decide (c ∈ abc)))) S
      generalize decide (c ∈ abc) = b at *
      simp [F_is_letter, fnK_go, G_is_letter, e, hT, isStrE, -in_ch, hin]
    | a :: b :: s =>
      have n1 : ((s.length : Int) + 1 + 1 == 1) = false := beq_eq_false_iff_ne.mpr (by omega)
      have lo' : lenOk (s.length + 1 + 1) = true := lo
      simp [F_is_letter, fnK_go, G_is_letter, e, hT, isStrE, lo', letB, n1]
  | _ => first | (simp [F_is_letter, fnK_go, G_is_letter, e, hT, isStrE, letB]; done) | cases h
/-- ascending -/
def ascB (s : List Nat) : Bool := (List.range (s.length - 1)).all fun k => decide (s.getD k 0 < s.getD (k + 1) 0)
def looksN (s : List Nat) : Bool := !s.isEmpty && (s.all (fun c => decide (c ∈ digits)) && ascB s)
def looksB : D → Bool
  | .str s => looksN s
  | _ => false
theorem are_looks_str {s : List Nat} {S : Store} (hz : s.length ≤ 1000) : F_are_looks [.d (.str s)] S = .ok (.d (.bl (looksN s))) S := by
  have e : gIsi owns subs [.d (.str s), .ty "str"] S = .ok (.d (.bl true)) S := rfl
  have hT : S.take S.length = S := List.take_length
  by_cases p0 : s = []
  · subst p0
    simp [F_are_looks, fnK_go, G_are_looks, e, hT, looksN]
  have pn : (s == []) = false := by cases s with | nil => exact absurd rfl p0 | cons => rfl
  have pe : s.isEmpty = false := by cases s with | nil => exact absurd rfl p0 | cons => rfl
  have lo : lenOk s.length = true := lenOk_of (by omega)
  have lo1 : lenOk (s.length - 1) = true := lenOk_of (by omega)
  have c1 := compD_map (t := .name 1) (tt := fYes) (f := fBin (gIn0 false) (fVar 1) (fK (.d (.str [48, 49, 50, 51, 52, 53, 54, 55])))) (ρ := [some (.d (.str s)), none, none]) (S := S) (mk := fun c => D.str [c]) (r := fun c => D.bl (decide (c ∈ digits))) s (fun c hc => by
    have hin : gIn0D false (.str [c]) (.str digits) S = .ok (.d (.bl (decide (c ∈ digits)))) S := by rw [in_ch, Bool.false_xor]
    simp [-in_ch, hin])
  have a1 := all_bl (S := S) (fun c : Nat => decide (c ∈ digits)) s
  by_cases hall : (s.all fun c => decide (c ∈ digits)) = true
  · rw [hall] at a1
    have c2 := compD_map (t := .name 2) (tt := fYes) (f := fBin gLt (fBin gIx (fVar 0) (fVar 2)) (fBin gIx (fVar 0) (fBin gAdd (fVar 2) (fK (.d (.int 1)))))) (ρ := [some (.d (.str s)), none, none]) (S := S) (mk := fun k : Nat => D.int (k : Int)) (r := fun k => D.bl (decide (s.getD k 0 < s.getD (k + 1) 0))) (List.range (s.length - 1)) (fun k hk => by
      have hk := List.mem_range.mp hk
      have e1 : ixA s (k : Int) = some (s.getD k 0) := by rw [ixA_nat, List.getElem?_eq_getElem (by omega), List.getD_eq_getElem?_getD, List.getElem?_eq_getElem (by omega)]; rfl
      have e2 : ixA s ((k : Int) + 1) = some (s.getD (k + 1) 0) := by
        have : ((k : Int) + 1) = ((k + 1 : Nat) : Int) := by omega
        rw [this, ixA_nat, List.getElem?_eq_getElem (by omega), List.getD_eq_getElem?_getD, List.getElem?_eq_getElem (by omega)]; rfl
      generalize s.getD k 0 = x at *
      generalize s.getD (k + 1) 0 = y at *
      have : decide (([x] : List Nat) < [y]) = decide (x < y) := by
        by_cases q : x < y <;> simp [List.cons_lt_cons_iff, q]
      simp [e1, e2, -decide_eq_true_eq, this])
    rw [← range0] at c2
    have a2 := all_bl (S := S) (fun k : Nat => decide (s.getD k 0 < s.getD (k + 1) 0)) (List.range (s.length - 1))
    have p1 : 1 ≤ s.length := by cases s with | nil => exact absurd rfl p0 | cons => simp
    have i1 : ((s.length : Int) - 1).toNat = s.length - 1 := by omega
    have i2 : small62 ((s.length : Int) - 1) = true := by
      have : (s.length : Int) - 1 = ((s.length - 1 : Nat) : Int) := by omega
      rw [this]; exact small_nat (by omega)
    have hb : looksN s = ascB s := by unfold looksN; rw [pe, hall]; rfl
    rw [hb]
    unfold ascB
    generalize ((List.range (s.length - 1)).all fun k => decide (s.getD k 0 < s.getD (k + 1) 0)) = b at *
    generalize ((List.range (s.length - 1)).map fun k : Nat => D.bl (decide (s.getD k 0 < s.getD (k + 1) 0))) = L2 at *
    generalize (s.map fun c => D.bl (decide (c ∈ digits))) = L1 at *
    simp [F_are_looks, fnK_go, G_are_looks, e, hT, pn, lo, lo1, c1, a1, i1, i2, c2, a2]
  · have hall := Bool.eq_false_iff.mpr hall
    rw [hall] at a1
    have hb : looksN s = false := by unfold looksN; rw [hall]; simp
    rw [hb]
    generalize (s.map fun c => D.bl (decide (c ∈ digits))) = L1 at *
    simp [F_are_looks, fnK_go, G_are_looks, e, hT, pn, lo, c1, a1]
theorem are_looks_all {d : D} {S : Store} (h : flatE d = true) (hz : szE d = true) : F_are_looks [.d d] S = .ok (.d (.bl (looksB d))) S := by
  cases d with
  | str s => exact are_looks_str (Nat.le_of_ble_eq_true hz)
  | _ =>
    have hT : S.take S.length = S := List.take_length
    have e := isi_strE h (S := S)
    first | (simp [F_are_looks, fnK_go, G_are_looks, e, hT, isStrE, looksB]; done) | cases h
theorem asc_pw : ∀ {s : List Nat}, ascB s = true → s.Pairwise (· < ·)
  | [], _ => .nil
  | [_], _ => by simp
  | a :: b :: s, h => by
    unfold ascB at h
    rw [List.all_eq_true] at h
    have hs : (b :: s).Pairwise (· < ·) := asc_pw (s := b :: s) (by
      unfold ascB
      rw [List.all_eq_true]
      intro k hk
      have := h (k + 1) (by simp at hk ⊢; omega)
      simpa using this)
    refine List.pairwise_cons.mpr ⟨fun x hx => ?_, hs⟩
    have h0 : a < b := by simpa using h 0 (by simp)
    rcases List.mem_cons.mp hx with rfl | hx
    · exact h0
    · exact Nat.lt_trans h0 ((List.pairwise_cons.mp hs).1 x hx)
theorem pw_asc {s : List Nat} (h : s.Pairwise (· < ·)) : ascB s = true := by
  unfold ascB
  rw [List.all_eq_true]
  intro k hk
  have hk := List.mem_range.mp hk
  refine decide_eq_true ?_
  rw [List.getD_eq_getElem?_getD, List.getD_eq_getElem?_getD, List.getElem?_eq_getElem (by omega), List.getElem?_eq_getElem (by omega)]
  exact List.pairwise_iff_getElem.mp h _ _ _ _ (by omega)
theorem looksN_iff {s : List Nat} : looksN s = true ↔ LooksOk s := by
  unfold looksN
  rw [Bool.and_eq_true, Bool.and_eq_true, List.all_eq_true]
  refine ⟨fun ⟨h1, h2, h3⟩ => ⟨fun z => by subst z; simp at h1, ?_⟩, fun h => ⟨?_, fun c hc => decide_eq_true (h.2.subset hc), pw_asc (List.Pairwise.sublist h.2 (by decide))⟩⟩
  · have pw := asc_pw h3
    have hd : ∀ c ∈ s, c ∈ digits := fun c hc => of_decide_eq_true (h2 c hc)
    have e : s = digits.filter fun c => decide (c ∈ s) := by
      refine sorted_uniq (pw.imp fun h => Nat.le_of_lt h) ((List.Pairwise.sublist (List.filter_sublist) (by decide : digits.Pairwise (· < ·))).imp fun h => Nat.le_of_lt h) ?_
      refine (List.perm_ext_iff_of_nodup (pw.imp fun h => Nat.ne_of_lt h) ((by decide : digits.Nodup).filter _)).mpr fun c => ?_
      rw [List.mem_filter]
      exact ⟨fun h => ⟨hd c h, decide_eq_true h⟩, fun h => of_decide_eq_true h.2⟩
    rw [e]
    exact List.filter_sublist
  · cases s with
    | nil => exact absurd rfl h.1
    | cons => rfl
theorem looksN_fil {s : List Nat} : looksN s = (!s.isEmpty && decide (s = digits.filter fun c => decide (c ∈ s))) := by
  rw [Bool.eq_iff_iff, looksN_iff, Bool.and_eq_true, decide_eq_true_eq]
  refine ⟨fun h => ⟨by cases s with | nil => exact absurd rfl h.1 | cons => rfl, ?_⟩, fun h => ⟨fun z => by rw [z] at h; simp at h, by rw [h.2]; exact List.filter_sublist⟩⟩
  have pw : s.Pairwise (· < ·) := List.Pairwise.sublist h.2 (by decide)
  refine sorted_uniq (pw.imp fun h => Nat.le_of_lt h) ((List.Pairwise.sublist (List.filter_sublist) (by decide : digits.Pairwise (· < ·))).imp fun h => Nat.le_of_lt h) ?_
  refine (List.perm_ext_iff_of_nodup (pw.imp fun h => Nat.ne_of_lt h) ((by decide : digits.Nodup).filter _)).mpr fun c => ?_
  rw [List.mem_filter]
  exact ⟨fun z => ⟨h.2.subset z, decide_eq_true z⟩, fun h => of_decide_eq_true h.2⟩
/-- an element that may be asked about -/
def okE (d : D) : Bool := flatE d && szE d
def okP : D → Bool
  | .tup xs => Nat.ble xs.length 1000 && xs.all okE
  | d => okE d
def pairB : D → Bool
  | .tup [a, b] => letB a && looksB b
  | _ => false
theorem okE_ok {d : D} (h : okE d = true) : flatE d = true ∧ szE d = true := by
  unfold okE at h
  rwa [Bool.and_eq_true] at h
theorem okP_flat {d : D} (h : okP d = true) : flatE d = true := by
  cases d with
  | tup xs => rfl
  | _ => exact (okE_ok h).1
theorem is_pair_all {d : D} {S : Store} (h : okP d = true) : F_is_pair [.d d] S = .ok (.d (.bl (pairB d))) S := by
  have hT : S.take S.length = S := List.take_length
  have e := isi_tupE (okP_flat h) (S := S)
  cases d with
  | tup xs =>
    have h' : (Nat.ble xs.length 1000 && xs.all okE) = true := h
    rw [Bool.and_eq_true, List.all_eq_true] at h'
    have hz := Nat.le_of_ble_eq_true h'.1
    have lo : lenOk xs.length = true := lenOk_of (by omega)
    match xs, h' with
    | [], _ => simp [F_is_pair, fnK_go, G_is_pair, e, hT, isTupE, lo, pairB]
    | [a], _ => simp [F_is_pair, fnK_go, G_is_pair, e, hT, isTupE, lo, pairB]
    | [a, b], h' =>
      obtain ⟨fa, za⟩ := okE_ok (h'.2 a (by simp))
      obtain ⟨fb, zb⟩ := okE_ok (h'.2 b (by simp))
      have e1 := is_letter_all (S := S) fa za
      have e2 := are_looks_all (S := S) fb zb
      show _ = R.ok (W.d (.bl (letB a && looksB b))) S
      generalize letB a = x at *
      generalize looksB b = y at *
      cases x <;> simp [F_is_pair, fnK_go, G_is_pair, e, hT, isTupE, lo, e1, e2]
    | a :: b :: c :: xs, _ =>
      have n1 : ((xs.length : Int) + 1 + 1 + 1 == 2) = false := beq_eq_false_iff_ne.mpr (by omega)
      have lo' : lenOk (xs.length + 1 + 1 + 1) = true := lo
      simp [F_is_pair, fnK_go, G_is_pair, e, hT, isTupE, lo', pairB, n1]
  | _ => first | (simp [F_is_pair, fnK_go, G_is_pair, e, hT, isTupE, pairB]; done) | (have := okP_flat h; cases this)
theorem pair_iff {d : D} (h : pairB d = true) : ∃ c s, d = .tup [.str [c], .str s] ∧ c ∈ abc ∧ LooksOk s := by
  match d, h with
  | .tup [a, b], h =>
    have h' : (letB a && looksB b) = true := h
    rw [Bool.and_eq_true] at h'
    match a, b, h' with
    | .str [c], .str s, h' => exact ⟨c, s, rfl, of_decide_eq_true h'.1, looksN_iff.mp h'.2⟩
/-! repr -/
def shI (i : Int) : List Nat := ((toString i : String) : Str).cps.toList
theorem shI_ch (i : Int) : (shI i).all (fun c => decide (c < 1114112)) = true := by
  unfold shI
  rw [List.all_eq_true]
  intro c hc
  rw [PySem.Str.ofString_eq_toList] at hc
  simp only [List.mem_map] at hc
  obtain ⟨a, _, rfl⟩ := hc
  refine decide_eq_true ?_
  rcases a.valid with h | h
  · exact Nat.lt_trans h (by decide)
  · exact h.2
theorem repr_int {i : Int} {S : Store} (h : i.natAbs.log2 < 1920) : gRepr [.d (.int i)] S = .ok (.d (.str (shI i))) S := by
  have h1 : reprOk (.int i) = true := by
    unfold reprOk
    rw [shwLen, if_pos h]
    rfl
  have h2 : reprS (.int i) = some (shI i) := by
    unfold reprS
    rw [toPy, Option.map_some, PyData.shown_int]; rfl
  simp only [gRepr, val_d, h1, if_true, h2, shI_ch]
theorem repr_non {S : Store} : gRepr [.d .non] S = .ok (.d (.str [78, 111, 110, 101])) S := by
  have h2 : reprS .non = some [78, 111, 110, 101] := by
    unfold reprS
    rw [toPy, Option.map_some, PyData.shown_none]; rfl
  simp only [gRepr, val_d, h2]
  rfl
theorem nat_log {n : Nat} (h : n ≤ 1000000) : ((n : Int)).natAbs.log2 < 1920 := by
  rw [Int.natAbs_natCast]
  rcases Nat.eq_zero_or_pos n with rfl | hp
  · decide
  · exact (Nat.log2_lt (by omega)).mpr (Nat.lt_of_le_of_lt h (Nat.lt_of_lt_of_le (by decide : 1000000 < 2 ^ 20) (Nat.pow_le_pow_right (by decide) (by decide))))
end PP
end
section
namespace W03
open PySem PySem.Spec PyProof.Rows L2 DL PP PA
def N__law_are_figs : List Str := ["value", "figure"]
def P__law_are_figs : List Str := ["value"]
def T__law_are_figs_1 : FB := (toB (fBin (gIn0 false) (fVar 1) (fVar 0)))
def G__law_are_figs : FS := (fSeq (fIfS (fOrB (fNotB (toB (fCall (gIsi owns subs) (fCons (fVar 0) (fCons (fK (.ty "str")) fNil))))) (toB (fBin gEq (fVar 0) (fK (.d (.str [])))))) (fRet (fK (.d (.bl false)))) fNext) (fRet (fBin gEq (fCall gList (fCons (fVar 0) fNil)) (fLc (fItemsK (fK (.d (.str [48, 49, 50, 51, 52, 53, 54, 55])))) (.name 1) T__law_are_figs_1 (fVar 1) [1]))))
def F__law_are_figs : FF := fnK false 1 2 G__law_are_figs
def N__law_is_glyph : List Str := ["value"]
def P__law_is_glyph : List Str := ["value"]
def G__law_is_glyph : FS := (fRet (fAndV (fCall (gIsi owns subs) (fCons (fVar 0) (fCons (fK (.ty "str")) fNil))) (fAndV (fBin gEq (fCall gLen (fCons (fVar 0) fNil)) (fK (.d (.int 1)))) (fChain gLe gLe (fK (.d (.str [97]))) (fVar 0) (fK (.d (.str [122])))))))
def F__law_is_glyph : FF := fnK false 1 1 G__law_is_glyph
def N__law_sign_slip : List Str := ["value", "k", "pair", "each"]
def P__law_sign_slip : List Str := ["value"]
def E__law_sign_slip_1 : FE := (fBin gIx (fVar 3) (fK (.d (.int 0))))
def B__law_sign_slip_2 : FS := (fSeq (fAsg (fBin gIx (fVar 0) (fVar 1)) (gSet 2)) (fSeq (fIfS (fOrB (toB (fBin gEq (fVar 1) (fK (.d (.int 6))))) (fOrB (fNotB (toB (fCall (gIsi owns subs) (fCons (fVar 2) (fCons (fK (.ty "tuple")) fNil))))) (fOrB (toB (fBin gNe (fCall gLen (fCons (fVar 2) fNil)) (fK (.d (.int 2))))) (fNotB (toB (fCall F__law_are_figs (fCons (fBin gIx (fVar 2) (fK (.d (.int 1)))) fNil))))))) (fRet (fLst (fCons (fK (.d (.str [115, 105, 103, 110, 115]))) (fCons (fCall gRepr (fCons (fVar 1) fNil)) fNil)))) fNext) (fIfS (fOrB (fNotB (toB (fCall F__law_is_glyph (fCons (fBin gIx (fVar 2) (fK (.d (.int 0)))) fNil)))) (toB (fBin (gIn0 false) (fBin gIx (fVar 2) (fK (.d (.int 0)))) (fLc (fItemsK (fSl (fVar 0) fNoO (fSomeO (fVar 1)))) (.name 3) fYes E__law_sign_slip_1 [3])))) (fRet (fLst (fCons (fK (.d (.str [115, 105, 103, 110, 115]))) (fCons (fCall gRepr (fCons (fVar 1) fNil)) fNil)))) fNext)))
def G__law_sign_slip : FS := (fSeq (fIfS (fOrB (fNotB (toB (fCall (gIsi owns subs) (fCons (fVar 0) (fCons (fK (.ty "tuple")) fNil))))) (toB (fBin gEqE (fVar 0) (fTup fNil)))) (fRet (fLst (fCons (fK (.d (.str [115, 105, 103, 110, 115]))) (fCons (fK (.d (.str [78, 111, 110, 101]))) fNil)))) fNext) (fSeq (fFor (fRange1 (fCons (fCall gLen (fCons (fVar 0) fNil)) fNil)) (gSet 1) B__law_sign_slip_2) (fRet (fIf (toB (fBin gEq (fCall gLen (fCons (fVar 0) fNil)) (fK (.d (.int 1))))) (fLst (fCons (fK (.d (.str [115, 105, 103, 110, 115]))) (fCons (fK (.d (.str [49]))) fNil))) (fLst fNil)))))
def F__law_sign_slip : FF := fnK false 1 4 G__law_sign_slip
def N__law_bases : List Str := ["e", "found"]
def P__law_bases : List Str := ["e"]
def G__law_bases : FS := (fSeq (fAsg (fLstC (fCons (fAndV (fCall (gIsx errs isX isT subE subT) (fCons (fVar 0) (fCons (fK (.glo "WrongValue")) fNil))) (fCall (gIsx errs isX isT subE subT) (fCons (fVar 0) (fCons (fK (.ty "ValueError")) fNil)))) fNil)) (gSet 1)) (fSeq (fExpr (fBM "list" gAppend (fVar 1) (fCons (fAndV (fCall (gIsx errs isX isT subE subT) (fCons (fVar 0) (fCons (fK (.glo "WrongName")) fNil))) (fCall (gIsx errs isX isT subE subT) (fCons (fVar 0) (fCons (fK (.ty "LookupError")) fNil)))) fNil))) (fRet (fBin gAdd (fVar 1) (fLst (fCons (fAndV (fCall (gIsx errs isX isT subE subT) (fCons (fVar 0) (fCons (fK (.glo "NotPossible")) fNil))) (fCall (gIsx errs isX isT subE subT) (fCons (fVar 0) (fCons (fK (.ty "ArithmeticError")) fNil)))) fNil))))))
def F__law_bases : FF := fnK false 1 2 G__law_bases
def N__law_shown : List Str := ["e"]
def P__law_shown : List Str := ["e"]
def G__law_shown : FS := (fRet (fLst (fCons (fIf (fAndB (toB (fCall (gIsx errs isX isT subE subT) (fCons (fVar 0) (fCons (fK (.glo "InvalidSigns")) fNil)))) (toB (fBin gEq (fCall F__law_bases (fCons (fVar 0) fNil)) (fLst (fCons (fK (.d (.bl true))) (fCons (fK (.d (.bl false))) (fCons (fK (.d (.bl false))) fNil))))))) (fK (.d (.str [115, 105, 103, 110, 115]))) (fK (.d (.str [111, 100, 100])))) (fCons (fCall gRepr (fCons (fExA errs "index" (fVar 0)) fNil)) fNil))))
def F__law_shown : FF := fnK false 1 1 G__law_shown
def N__law_odd : List Str := ["jar", "menu"]
def P__law_odd : List Str := ["jar"]
def G__law_odd : FS := (fSeq (fAsg (fLst (fCons (fK (.d .non)) (fCons (fK (.d (.bl true))) (fCons (fK (.d (.bl false))) (fCons (fK (.d (.int 0))) (fCons (fK (.d (.int 1))) (fCons (fUn gNeg (fK (.d (.int 1)))) (fCons (fK (.d (.int 2))) (fCons (fBin gPow (fK (.d (.int 10))) (fK (.d (.int 30)))) (fCons (fK (.d (.str []))) fNil)))))))))) (gSet 1)) (fSeq (fAsg (fBin gAdd (fVar 1) (fLst (fCons (fK (.d (.str [48]))) (fCons (fK (.d (.str [97]))) (fCons (fK (.d (.str [48, 49]))) (fCons (fK (.d (.str [97, 32, 48]))) (fCons (fTup fNil) (fCons (fTup (fCons (fK (.d (.str [97]))) fNil)) (fCons (fTup (fCons (fK (.d (.str [97]))) (fCons (fK (.d (.str [48]))) fNil))) (fCons (fLst (fCons (fK (.d (.str [97]))) fNil)) (fCons (fLst fNil) fNil))))))))))) (gSet 1)) (fRet (fCall F__law_pick (fCons (fVar 0) (fCons (fBin gAdd (fVar 1) (fLst (fCons fDct0 (fCons (fDct1 [97] 1) (fCons (fTup (fCons (fK (.d .non)) (fCons (fK (.d (.int 0))) fNil))) (fCons (fK (.d (.str [97, 32, 48, 10, 98, 32, 49]))) (fCons (fTup (fCons (fTup (fCons (fK (.d (.str [97]))) (fCons (fK (.d (.str [48]))) fNil))) fNil)) (fCons (fTup (fCons (fK (.d (.str [48]))) (fCons (fK (.d (.str [48]))) fNil))) (fCons (fLst (fCons (fLst fNil) fNil)) (fCons (fTup (fCons (fTup fNil) fNil)) (fCons (fK (.d (.str [65]))) (fCons (fK (.d (.str [56]))) fNil)))))))))))) fNil))))))
def F__law_odd : FF := fnK false 1 2 G__law_odd
def N__law_bent : List Str := ["jar", "value", "at", "pair", "figures", "glyph", "menu"]
def P__law_bent : List Str := ["jar", "value"]
def G__law_bent : FS := (fSeq (fAsg (fCall F__law_dip (fCons (fVar 0) (fCons (fCall gLen (fCons (fVar 1) fNil)) fNil))) (gSet 2)) (fSeq (fAsg (fBin gIx (fVar 1) (fVar 2)) (gSet 3)) (fSeq (fAsg (fCall F__law_pick (fCons (fVar 0) (fCons (fLst (fCons (fK (.d (.str []))) (fCons (fK (.d (.str [49, 48]))) (fCons (fK (.d (.str [56]))) (fCons (fK (.d (.str [48, 48]))) (fCons (fK (.d (.str [48, 32]))) (fCons (fK (.d .non)) (fCons (fK (.d (.int 5))) (fCons (fTup (fCons (fK (.d (.str [48]))) fNil)) (fCons (fK (.d (.str [97]))) (fCons (fK (.d (.str [48, 49, 50, 51, 52, 53, 54, 55, 56]))) (fCons (fK (.d (.str [55]))) (fCons (fBin gIx (fVar 3) (fK (.d (.int 1)))) fNil))))))))))))) fNil))) (gSet 4)) (fSeq (fAsg (fCall F__law_pick (fCons (fVar 0) (fCons (fLst (fCons (fBin gIx (fBin gIx (fVar 1) (fK (.d (.int 0)))) (fK (.d (.int 0)))) (fCons (fBin gIx (fBin gIx (fVar 1) (fUn gNeg (fK (.d (.int 1))))) (fK (.d (.int 0)))) (fCons (fK (.d (.str [65]))) (fCons (fK (.d (.str []))) (fCons (fK (.d (.str [97, 98]))) (fCons (fK (.d (.str [49]))) (fCons (fK (.d .non)) (fCons (fTup (fCons (fK (.d (.str [97]))) fNil)) (fCons (fK (.d (.str [113]))) fNil)))))))))) fNil))) (gSet 5)) (fSeq (fAsg (fLst (fCons (fTup (fCons (fVar 5) (fCons (fBin gIx (fVar 3) (fK (.d (.int 1)))) fNil))) (fCons (fTup (fCons (fBin gIx (fVar 3) (fK (.d (.int 0)))) (fCons (fVar 4) fNil))) (fCons (fBin gAdd (fVar 3) (fTup (fCons (fK (.d (.str [48]))) fNil))) (fCons (fSl (fVar 3) fNoO (fSomeO (fK (.d (.int 1))))) fNil))))) (gSet 6)) (fSeq (fAsg (fBin gAdd (fVar 6) (fLst (fCons (fCall gList (fCons (fVar 3) fNil)) (fCons (fBin gAdd (fBin gAdd (fCall gStrD (fCons (fBin gIx (fVar 3) (fK (.d (.int 0)))) fNil)) (fK (.d (.str [32])))) (fCall gStrD (fCons (fBin gIx (fVar 3) (fK (.d (.int 1)))) fNil))) (fCons (fCall F__law_odd (fCons (fVar 0) fNil)) fNil))))) (gSet 6)) (fRet (fBin gAdd (fBin gAdd (fSl (fVar 1) fNoO (fSomeO (fVar 2))) (fTup (fCons (fCall F__law_pick (fCons (fVar 0) (fCons (fVar 6) fNil))) fNil))) (fSl (fVar 1) (fSomeO (fBin gAdd (fVar 2) (fK (.d (.int 1))))) fNoO)))))))))
def F__law_bent : FF := fnK false 2 7 G__law_bent
def N_check_signs : List Str := ["signs", "index", "known", "each"]
def P_check_signs : List Str := ["signs"]
def G_check_signs : FS := (fSeq (fIfS (fOrB (fNotB (toB (fCall (gIsi owns subs) (fCons (fVar 0) (fCons (fK (.ty "tuple")) fNil))))) (toB (fBin gEqE (fVar 0) (fTup fNil)))) (fRaise "InvalidSigns" "index" (fCons (fK (.d .non)) fNil)) fNext) (fSeq (fFor (fRange1 (fCons (fCall gLen (fCons (fVar 0) fNil)) fNil)) (gSet 1) (fSeq (fAsg (fLc (fItemsK (fSl (fVar 0) fNoO (fSomeO (fVar 1)))) (.name 3) fYes (fBin gIx (fVar 3) (fK (.d (.int 0)))) [3]) (gSet 2)) (fIfS (fOrB (toB (fBin gEq (fVar 1) (fK (.d (.int 6))))) (fOrB (fNotB (toB (fCall F_is_pair (fCons (fBin gIx (fVar 0) (fVar 1)) fNil)))) (toB (fBin (gIn0 false) (fBin gIx (fBin gIx (fVar 0) (fVar 1)) (fK (.d (.int 0)))) (fVar 2))))) (fRaise "InvalidSigns" "index" (fCons (fVar 1) fNil)) fNext))) (fIfS (toB (fBin gLt (fCall gLen (fCons (fVar 0) fNil)) (fK (.d (.int 2))))) (fRaise "InvalidSigns" "index" (fCons (fCall gLen (fCons (fVar 0) fNil)) fNil)) fNext)))
def F_check_signs : FF := fnK false 1 4 G_check_signs
def N_Line___init__ : List Str := ["self", "signs"]
def P_Line___init__ : List Str := ["self", "signs"]
def G_Line___init__ : FS := (fSeq (fExpr (fCall F_check_signs (fCons (fVar 1) fNil))) (fSetF "Line" "lot" (fVar 0) (fVar 1)))
def F_Line___init__ : FF := fnK false 2 2 G_Line___init__
def N_Line_signs : List Str := ["self"]
def P_Line_signs : List Str := ["self"]
def G_Line_signs : FS := (fRet (fFld "Line" "lot" (fVar 0)))
def F_Line_signs : FF := fnK false 1 1 G_Line_signs
def N__law_right : List Str := ["jar", "turn", "value", "again", "due", "told", "pair"]
def P__law_right : List Str := ["jar"]
def T__law_right_1 : FB := (fOrB (fNotB (toB (fCall (gIsi owns subs) (fCons (fVar 6) (fCons (fK (.ty "tuple")) fNil))))) (toB (fBin gNe (fCall gLen (fCons (fVar 6) fNil)) (fK (.d (.int 2))))))
def B__law_right_2 : FS := (fIfS (toB (fBin gEqE (fLc (fItemsK (fVar 2)) (.name 6) T__law_right_1 (fVar 6) [6]) (fLst fNil))) (fAsg (fCall F__law_bent (fCons (fVar 0) (fCons (fVar 2) fNil))) (gSet 2)) fNext)
def E__law_right_3 : FE := (fCallG (fMk "Line" fun l => F_Line___init__ (perm [0, 1] l)) 0 1 fNil (fCons (fVar 2) fNil))
def B__law_right_4 : FS := (fSeq (fAsg (fCall F__law_any_line (fCons (fVar 0) fNil)) (gSet 2)) (fSeq (fAsg (fCall F__law_pick (fCons (fVar 0) (fCons (fLst (fCons (fVar 2) (fCons (fSl (fVar 2) fNoO (fSomeO (fK (.d (.int 1))))) (fCons (fBin gAdd (fVar 2) (fTup (fCons (fTup (fCons (fK (.d (.str [116]))) (fCons (fK (.d (.str [48]))) fNil))) (fCons (fTup (fCons (fK (.d (.str [117]))) (fCons (fK (.d (.str [49]))) fNil))) (fCons (fTup (fCons (fK (.d (.str [118]))) (fCons (fK (.d (.str [50]))) fNil))) (fCons (fTup (fCons (fK (.d (.str [119]))) (fCons (fK (.d (.str [51]))) fNil))) fNil)))))) (fCons (fVar 2) fNil))))) fNil))) (gSet 2)) (fSeq (fFor (fRange1 (fCons (fCall F__law_pick (fCons (fVar 0) (fCons (fLst (fCons (fK (.d (.int 0))) (fCons (fK (.d (.int 1))) (fCons (fK (.d (.int 1))) (fCons (fK (.d (.int 2))) fNil))))) fNil))) fNil)) (gSet 3) B__law_right_2) (fSeq (fAsg (fCall F__law_pick (fCons (fVar 0) (fCons (fBin gAdd (fBin gMulL (fLst (fCons (fVar 2) fNil)) (fK (.d (.int 7)))) (fLst (fCons (fCall gList (fCons (fVar 2) fNil)) (fCons (fTup fNil) (fCons (fCall F__law_odd (fCons (fVar 0) fNil)) fNil))))) fNil))) (gSet 2)) (fSeq (fPar 4 5 (fCons (fCall F__law_sign_slip (fCons (fVar 2) fNil)) (fCons (fCaught 0 "_law_right" [116, 111, 108, 100] F__law_shown errs (fun _ => true) E__law_right_3) fNil))) (fIfS (fOrB (fAndB (toB (fBin gNe (fVar 4) (fLst fNil))) (toB (fBin gNe (fVar 5) (fVar 4)))) (fAndB (toB (fBin gEqE (fVar 4) (fLst fNil))) (fOrB (toB (fBin gNe (fBin gIx (fVar 5) (fK (.d (.int 0)))) (fK (.d (.str [116, 111, 108, 100]))))) (toB (fBin gNe (fProp "Line" F_Line_signs (fBin gIx (fVar 5) (fK (.d (.int 1))))) (fVar 2)))))) (fRet (fK (.d (.bl false)))) fNext))))))
def G__law_right : FS := (fSeq (fFor (fRange1 (fCons (fK (.d (.int 10))) fNil)) (gSet 1) B__law_right_4) (fRet (fK (.d (.bl true)))))
def F__law_right : FF := fnK false 1 7 G__law_right
def N_law : List Str := ["script", "k"]
def P_law : List Str := ["script"]
def B_law_1 : FS := (fIfS (fNotB (toB (fCall F__law_right (fCons (fCall F__law_jar (fCons (fVar 0) (fCons (fVar 1) fNil))) fNil)))) (fRet (fK (.d (.bl false)))) fNext)
def G_law : FS := (fSeq (fFor (fRange1 (fCons (fCall gMax2 (fCons (fK (.d (.int 2))) (fCons (fCall gMin2 (fCons (fCall gLen (fCons (fVar 0) fNil)) (fCons (fK (.d (.int 5))) fNil))) fNil))) fNil)) (gSet 1) B_law_1) (fRet (fK (.d (.bl true)))))
def F_law : FF := fnK false 1 2 G_law
abbrev C (K : Fg) (mg : Str → Option Value) (base : Heap) : Prop := CtZ fs fn tf K mg base
section
variable {P : Program} {w : World} {K : Fg} {mg : Str → Option Value} {base : Heap}
theorem sc__law_dip : FnScope N__law_dip P__law_dip X__law_dip.d.scope := ⟨rfl, rfl, rfl, by decide +kernel, rfl, by decide +kernel, by decide +kernel⟩
theorem d__law_dip (c : C K mg base) : Def P w K mg base 1 (X__law_dip.ad K) X__law_dip.d P__law_dip F__law_dip := by
  refine def_of c.toCt 0 X__law_dip false 4 0 rfl sc__law_dip rfl (fun _ _ _ _ _ _ us hl => match us, hl with | [_, _], _ => rfl) fun cdv A outer s H E hgu hr tk hp => ?_
  have hN := sc__law_dip.nd
  have hu := hu100 hr
  exact (dss_cons (ds_asg (de_add (de_ix hu (de_var 0) de_int) de_int) (dg_ix hu (de_var 0) de_int)) (dss_cons (ds_if (dt_cmp o_gt r_gt (de_ix hu (de_var 0) de_int) de_int (nomark _)) (dss_cons (ds_set hN (de_mod (de_ct call_int1 cal_int (c.free 0) (da_cons (de_ix hu (de_var 0) de_int) da_nil)) (de_var 1))) (dss_cons (ds_asg (de_div (de_ct call_int1 cal_int (c.free 0) (da_cons (de_ix hu (de_var 0) de_int) da_nil)) (de_var 1)) (dg_ix hu (de_var 0) de_int)) (dss_one (ds_ret (de_var 2))))) dss_nil) (dss_cons (ds_set hN (de_ct call_int1 cal_int (c.free 0) (da_cons (de_ix hu (de_var 0) de_int) da_nil))) (dss_cons (ds_asg (de_mod (de_ct call_int1 cal_int (c.free 0) (da_cons (de_add (de_add (de_mul (de_var 3) de_int) (de_mul (de_ix hu (de_var 0) de_int) de_int)) de_int) da_nil)) de_int) (dg_ix hu (de_var 0) de_int)) (dss_one (ds_ret (de_mod (de_ct call_int1 cal_int (c.free 0) (da_cons (de_div (de_ix hu (de_var 0) de_int) de_int) da_nil)) (de_var 1))))))))
theorem sc__law_pick : FnScope N__law_pick P__law_pick X__law_pick.d.scope := ⟨rfl, rfl, rfl, by decide +kernel, rfl, by decide +kernel, by decide +kernel⟩
theorem d__law_pick (c : C K mg base) : Def P w K mg base 2 (X__law_pick.ad K) X__law_pick.d P__law_pick F__law_pick := by
  refine def_of c.toCt 1 X__law_pick false 3 1 rfl sc__law_pick rfl (fun _ _ _ _ _ _ us hl => match us, hl with | [_, _], _ => rfl) fun cdv A outer s H E hgu hr tk hp => ?_
  have hN := sc__law_pick.nd
  have hu := hu100 hr
  exact (dss_cons (ds_set hN (de_call (d__law_dip (P := P) (w := w) c) tk hgu (hr.mono (by decide)) (c.glo 2) (da_cons (de_var 0) (da_cons (de_cb call_lenA cal_len (c.free 1) (da_cons (de_var 1) da_nil)) da_nil)))) (dss_one (ds_ret (de_ix hu (de_var 1) (de_var 2)))))
theorem sc__law_figs : FnScope N__law_figs P__law_figs X__law_figs.d.scope := ⟨rfl, rfl, rfl, by decide +kernel, rfl, by decide +kernel, by decide +kernel⟩
theorem d__law_figs (c : C K mg base) : Def P w K mg base 2 (X__law_figs.ad K) X__law_figs.d P__law_figs F__law_figs := by
  refine def_of c.toCt 1 X__law_figs false 4 2 rfl sc__law_figs rfl (fun _ _ _ _ _ _ us hl => match us, hl with | [_, _], _ => rfl) fun cdv A outer s H E hgu hr tk hp => ?_
  have hN := sc__law_figs.nd
  have hu := hu100 hr
  exact (dss_cons (ds_set hN (de_bm mt_join mt_joinR PySem.F.plainAttrs_str PySem.F.slot_str_join PySem.F.type_str_join (de_str []) (da_cons (de_lc hN (di_itemsK (de_var 1)) (own := [("figure", 3)]) (t := (.name 3)) (by rfl) (by decide) (fun _ _ _ _ _ => pgn hN) (fun _ _ _ _ _ => (dts_one (dt_cmp (o_eq hu) opr_eq.w (de_call (d__law_dip (P := P) (w := w) c) takes0 hgu (hr.mono (by decide)) (c.glo 2) (da_cons (de_var 0) (da_cons de_int da_nil))) de_int (nomark _)))) (fun _ _ _ _ _ => (de_var 3))) da_nil))) (dss_one (ds_ret (de_if (dt_cmp (o_ne hu) opr_ne.w (de_var 2) (de_str []) (nomark _)) (de_var 2) (de_ix hu (de_var 1) (de_call (d__law_dip (P := P) (w := w) c) tk hgu (hr.mono (by decide)) (c.glo 2) (da_cons (de_var 0) (da_cons (de_cb call_lenA cal_len (c.free 1) (da_cons (de_var 1) da_nil)) da_nil))))))))
theorem sc__law_glyphs : FnScope N__law_glyphs P__law_glyphs X__law_glyphs.d.scope := ⟨rfl, rfl, rfl, by decide +kernel, rfl, by decide +kernel, by decide +kernel⟩
theorem d__law_glyphs (c : C K mg base) : Def P w K mg base 2 (X__law_glyphs.ad K) X__law_glyphs.d P__law_glyphs F__law_glyphs := by
  refine def_of c.toCt 1 X__law_glyphs false 5 3 rfl sc__law_glyphs rfl (fun _ _ _ _ _ _ us hl => match us, hl with | [_, _], _ => rfl) fun cdv A outer s H E hgu hr tk hp => ?_
  have hN := sc__law_glyphs.nd
  have hu := hu100 hr
  exact (dss_cons (by first | exact ds_par hN (da_cons (de_ct (call_listA rfl) cal_listC (c.free 3) (da_cons (de_str [97, 98, 99, 100, 101, 102, 109, 110, 120, 121, 122]) da_nil)) (da_cons (de_str []) da_nil)) | exact ds_par2 (da_cons (de_ct (call_listA rfl) cal_listC (c.free 3) (da_cons (de_str [97, 98, 99, 100, 101, 102, 109, 110, 120, 121, 122]) da_nil)) (da_cons (de_str []) da_nil)) (dgs_cons (dg_name hN) (dgs_cons (dg_name hN) dgs_nil))) (dss_cons (ds_for hp (di_range1 (c.free 4) (da_cons (de_var 1) da_nil)) (dg_name hN) (dss_one (ds_set hN (de_add (de_var 3) (de_bm mt_popAt mt_popAtR PySem.F.plainAttrs_list PySem.F.slot_list_pop PySem.F.type_list_pop (de_var 2) (da_cons (de_call (d__law_dip (P := P) (w := w) c) tk hgu (hr.mono (by decide)) (c.glo 2) (da_cons (de_var 0) (da_cons (de_cb call_lenA cal_len (c.free 1) (da_cons (de_var 2) da_nil)) da_nil))) da_nil)))))) (dss_one (ds_ret (de_var 3)))))
theorem sc__law_plain_line : FnScope N__law_plain_line P__law_plain_line X__law_plain_line.d.scope := ⟨rfl, rfl, rfl, by decide +kernel, rfl, by decide +kernel, by decide +kernel⟩
theorem d__law_plain_line (c : C K mg base) : Def P w K mg base 3 (X__law_plain_line.ad K) X__law_plain_line.d P__law_plain_line F__law_plain_line := by
  refine def_of c.toCt 2 X__law_plain_line false 3 4 rfl sc__law_plain_line rfl (fun _ _ _ _ _ _ us hl => match us, hl with | [_], _ => rfl) fun cdv A outer s H E hgu hr tk hp => ?_
  have hN := sc__law_plain_line.nd
  have hu := hu100 hr
  exact (dss_cons (ds_set hN (de_call (d__law_pick (P := P) (w := w) c) tk hgu (hr.mono (by decide)) (c.glo 5) (da_cons (de_var 0) (da_cons (de_lst (da_cons (de_str [48, 49, 50]) (da_cons (de_str [48, 49, 50, 51]) (da_cons (de_str [48, 49, 50, 51, 52]) (da_cons (de_str [48, 49, 50, 51, 52, 53, 54, 55]) (da_cons (de_str [50, 52]) (da_cons (de_str [48, 51, 52, 53, 54, 55]) da_nil))))))) da_nil)))) (dss_one (ds_ret (de_ct call_tuple_of cal_tuple (c.free 8) (da_cons (de_lc hN (di_itemsK (de_call (d__law_glyphs (P := P) (w := w) c) tk hgu (hr.mono (by decide)) (c.glo 6) (da_cons (de_var 0) (da_cons (de_add de_int (de_call (d__law_dip (P := P) (w := w) c) tk hgu (hr.mono (by decide)) (c.glo 2) (da_cons (de_var 0) (da_cons de_int da_nil)))) da_nil)))) (own := [("glyph", 2)]) (t := (.name 2)) (by rfl) (by decide) (fun _ _ _ _ _ => pgn hN) (fun _ _ _ _ _ => dts_nil) (fun _ _ _ _ _ => (de_tup (da_cons (de_var 2) (da_cons (de_call (d__law_figs (P := P) (w := w) c) takes0 hgu (hr.mono (by decide)) (c.glo 7) (da_cons (de_var 0) (da_cons (de_var 1) da_nil))) da_nil))))) da_nil)))))
theorem sc__law_ring_line : FnScope N__law_ring_line P__law_ring_line X__law_ring_line.d.scope := ⟨rfl, rfl, rfl, by decide +kernel, rfl, by decide +kernel, by decide +kernel⟩
theorem d__law_ring_line (c : C K mg base) : Def P w K mg base 3 (X__law_ring_line.ad K) X__law_ring_line.d P__law_ring_line F__law_ring_line := by
  refine def_of c.toCt 2 X__law_ring_line false 11 5 rfl sc__law_ring_line rfl (fun _ _ _ _ _ _ us hl => match us, hl with | [_], _ => rfl) fun cdv A outer s H E hgu hr tk hp => ?_
  have hN := sc__law_ring_line.nd
  have hu := hu100 hr
  exact (dss_cons (ds_set hN (de_call (d__law_glyphs (P := P) (w := w) c) tk hgu (hr.mono (by decide)) (c.glo 6) (da_cons (de_var 0) (da_cons de_int da_nil)))) (dss_cons (by first | exact ds_par hN (da_cons (de_ct (call_listA rfl) cal_listC (c.free 3) (da_cons (de_str [48, 49, 50, 51, 52, 53, 54, 55]) da_nil)) (da_cons (de_lstC da_nil) da_nil)) | exact ds_par2 (da_cons (de_ct (call_listA rfl) cal_listC (c.free 3) (da_cons (de_str [48, 49, 50, 51, 52, 53, 54, 55]) da_nil)) (da_cons (de_lstC da_nil) da_nil)) (dgs_cons (dg_name hN) (dgs_cons (dg_name hN) dgs_nil))) (dss_cons (ds_for hp (di_range1 (c.free 4) (da_cons de_int da_nil)) (dg_name hN) (dss_one (ds_expr (de_bm mt_append mt_appendR PySem.F.plainAttrs_list PySem.F.slot_list_append PySem.F.type_list_append (de_var 3) (da_cons (de_bm mt_popAt mt_popAtR PySem.F.plainAttrs_list PySem.F.slot_list_pop PySem.F.type_list_pop (de_var 2) (da_cons (de_call (d__law_dip (P := P) (w := w) c) tk hgu (hr.mono (by decide)) (c.glo 2) (da_cons (de_var 0) (da_cons (de_cb call_lenA cal_len (c.free 1) (da_cons (de_var 2) da_nil)) da_nil))) da_nil)) da_nil))))) (dss_cons (ds_set hN (de_lstC da_nil)) (dss_cons (ds_for hp (di_range1 (c.free 4) (da_cons de_int da_nil)) (dg_name hN) (dss_cons (ds_set hN (de_add (de_lst (da_cons (de_ix hu (de_var 3) (de_var 6)) (da_cons (de_ix hu (de_var 3) (de_mod (de_ct call_int1 cal_int (c.free 0) (da_cons (de_add (de_var 6) de_int) da_nil)) de_int)) da_nil))) (de_if (DW.dt (dw_and (dt_cmp (o_eq hu) opr_eq.w (de_var 6) de_int (nomark _)) (dw_and1 (dt_cmp (o_eq hu) opr_eq.w (de_call (d__law_dip (P := P) (w := w) c) tk hgu (hr.mono (by decide)) (c.glo 2) (da_cons (de_var 0) (da_cons de_int da_nil))) de_int (nomark _))))) (de_lst (da_cons (de_ix hu (de_var 3) de_int) da_nil)) (de_lst da_nil)))) (dss_one (ds_expr (de_bm mt_append mt_appendR PySem.F.plainAttrs_list PySem.F.slot_list_append PySem.F.type_list_append (de_var 5) (da_cons (de_tup (da_cons (de_ix hu (de_var 1) (de_var 6)) (da_cons (de_bm mt_join mt_joinR PySem.F.plainAttrs_str PySem.F.slot_str_join PySem.F.type_str_join (de_str []) (da_cons (de_cb cr_sorted4 cal_sortS (c.free 9) (da_cons (de_var 7) da_nil)) da_nil)) da_nil))) da_nil)))))) (dss_cons (ds_set hN (de_lst (da_cons (de_lst da_nil) (da_cons (de_lst (da_cons (de_ix hu (de_var 3) de_int) da_nil)) (da_cons (de_lst (da_cons (de_ix hu (de_var 3) de_int) (da_cons (de_ix hu (de_var 3) de_int) da_nil))) da_nil))))) (dss_cons (ds_set hN (de_add (de_var 8) (de_lst (da_cons (de_lst (da_cons (de_ix hu (de_var 3) de_int) (da_cons (de_ix hu (de_var 3) de_int) (da_cons (de_ix hu (de_var 3) de_int) da_nil)))) (da_cons (de_lst (da_cons (de_ix hu (de_var 3) de_int) da_nil)) (da_cons (de_sl (de_var 3) do_none (do_some de_int)) da_nil)))))) (dss_cons (ds_set hN (de_call (d__law_pick (P := P) (w := w) c) tk hgu (hr.mono (by decide)) (c.glo 5) (da_cons (de_var 0) (da_cons (de_add (de_var 8) (de_lst (da_cons (de_lst (da_cons (de_ix hu (de_var 3) de_int) (da_cons (de_ix hu (de_var 3) de_int) da_nil))) (da_cons (de_lst da_nil) (da_cons (de_lst (da_cons (de_ix hu (de_var 3) de_int) da_nil)) da_nil))))) da_nil)))) (dss_cons (ds_if (dt_cmp (o_ne hu) opr_ne.w (de_var 9) (de_lst da_nil) (nomark _)) (dss_one (ds_expr (de_bm mt_append mt_appendR PySem.F.plainAttrs_list PySem.F.slot_list_append PySem.F.type_list_append (de_var 5) (da_cons (de_tup (da_cons (de_ix hu (de_var 1) de_int) (da_cons (de_bm mt_join mt_joinR PySem.F.plainAttrs_str PySem.F.slot_str_join PySem.F.type_str_join (de_str []) (da_cons (de_sortSet (c.free 9) (c.free 10) (da_cons (de_var 9) da_nil)) da_nil)) da_nil))) da_nil)))) dss_nil) (dss_cons (ds_set hN (de_lstC da_nil)) (dss_cons (ds_for hp (di_range1 (c.free 4) (da_cons (de_cb call_lenA cal_len (c.free 1) (da_cons (de_var 5) da_nil)) da_nil)) (dg_name hN) (dss_one (ds_expr (de_bm mt_append mt_appendR PySem.F.plainAttrs_list PySem.F.slot_list_append PySem.F.type_list_append (de_var 10) (da_cons (de_bm mt_popAt mt_popAtR PySem.F.plainAttrs_list PySem.F.slot_list_pop PySem.F.type_list_pop (de_var 5) (da_cons (de_call (d__law_dip (P := P) (w := w) c) tk hgu (hr.mono (by decide)) (c.glo 2) (da_cons (de_var 0) (da_cons (de_cb call_lenA cal_len (c.free 1) (da_cons (de_var 5) da_nil)) da_nil))) da_nil)) da_nil))))) (dss_one (ds_ret (de_ct call_tuple_of cal_tuple (c.free 8) (da_cons (de_var 10) da_nil)))))))))))))))
theorem sc__law_any_line : FnScope N__law_any_line P__law_any_line X__law_any_line.d.scope := ⟨rfl, rfl, rfl, by decide +kernel, rfl, by decide +kernel, by decide +kernel⟩
theorem d__law_any_line (c : C K mg base) : Def P w K mg base 4 (X__law_any_line.ad K) X__law_any_line.d P__law_any_line F__law_any_line := by
  refine def_of c.toCt 3 X__law_any_line false 1 6 rfl sc__law_any_line rfl (fun _ _ _ _ _ _ us hl => match us, hl with | [_], _ => rfl) fun cdv A outer s H E hgu hr tk hp => ?_
  have hN := sc__law_any_line.nd
  have hu := hu100 hr
  exact (dss_one (ds_ret (de_if (dt_cmp (o_eq hu) opr_eq.w (de_call (d__law_dip (P := P) (w := w) c) tk hgu (hr.mono (by decide)) (c.glo 2) (da_cons (de_var 0) (da_cons de_int da_nil))) de_int (nomark _)) (de_call (d__law_plain_line (P := P) (w := w) c) tk hgu (hr.mono (by decide)) (c.glo 11) (da_cons (de_var 0) da_nil)) (de_call (d__law_ring_line (P := P) (w := w) c) tk hgu (hr.mono (by decide)) (c.glo 12) (da_cons (de_var 0) da_nil)))))
theorem sc__law_are_figs : FnScope N__law_are_figs P__law_are_figs X__law_are_figs.d.scope := ⟨rfl, rfl, rfl, by decide +kernel, rfl, by decide +kernel, by decide +kernel⟩
theorem d__law_are_figs (c : C K mg base) : Def P w K mg base 1 (X__law_are_figs.ad K) X__law_are_figs.d P__law_are_figs F__law_are_figs := by
  refine def_of c.toCt 0 X__law_are_figs false 2 7 rfl sc__law_are_figs rfl (fun _ _ _ _ _ _ us hl => match us, hl with | [_], _ => rfl) fun cdv A outer s H E hgu hr tk hp => ?_
  have hN := sc__law_are_figs.nd
  have hu := hu100 hr
  exact (dss_cons (ds_if (DW.dt (dw_or (dt_not (dt_val (de_cb call_isi (cal_isi (c.isi 14)) (c.free 15) (da_cons (de_var 0) (da_cons (de_ty (c.free 13)) da_nil))))) (dw_or1 (dt_cmp (o_eq hu) opr_eq.w (de_var 0) (de_str []) (nomark _))))) (dss_one (ds_ret de_bl)) dss_nil) (dss_one (ds_ret (de_cmp (o_eq hu) opr_eq.w (de_ct (call_listA rfl) cal_list (c.free 3) (da_cons (de_var 0) da_nil)) (de_lc hN (di_itemsK (de_str [48, 49, 50, 51, 52, 53, 54, 55])) (own := [("figure", 1)]) (t := (.name 1)) (by rfl) (by decide) (fun _ _ _ _ _ => pgn hN) (fun _ _ _ _ _ => (dts_one (dt_cmp (o_in0 hu) opr_in0.w (de_var 1) (de_var 0) (by rfl)))) (fun _ _ _ _ _ => (de_var 1))) (nomark _)))))
theorem sc__law_is_glyph : FnScope N__law_is_glyph P__law_is_glyph X__law_is_glyph.d.scope := ⟨rfl, rfl, rfl, by decide +kernel, rfl, by decide +kernel, by decide +kernel⟩
theorem d__law_is_glyph (c : C K mg base) : Def P w K mg base 1 (X__law_is_glyph.ad K) X__law_is_glyph.d P__law_is_glyph F__law_is_glyph := by
  refine def_of c.toCt 0 X__law_is_glyph false 1 8 rfl sc__law_is_glyph rfl (fun _ _ _ _ _ _ us hl => match us, hl with | [_], _ => rfl) fun cdv A outer s H E hgu hr tk hp => ?_
  have hN := sc__law_is_glyph.nd
  have hu := hu100 hr
  exact (dss_one (ds_ret (de_and (de_cb call_isi (cal_isi (c.isi 14)) (c.free 15) (da_cons (de_var 0) (da_cons (de_ty (c.free 13)) da_nil))) (de_and (de_cmp (o_eq hu) opr_eq.w (de_cb call_lenA cal_len (c.free 1) (da_cons (de_var 0) da_nil)) de_int (nomark _)) (de_one (de_chain o_le o_le r_le r_le (de_str [97]) (de_var 0) (de_str [122])))))))
theorem sc__law_sign_slip : FnScope N__law_sign_slip P__law_sign_slip X__law_sign_slip.d.scope := ⟨rfl, rfl, rfl, by decide +kernel, rfl, by decide +kernel, by decide +kernel⟩
theorem d__law_sign_slip (c : C K mg base) : Def P w K mg base 2 (X__law_sign_slip.ad K) X__law_sign_slip.d P__law_sign_slip F__law_sign_slip := by
  refine def_of c.toCt 1 X__law_sign_slip false 4 9 rfl sc__law_sign_slip rfl (fun _ _ _ _ _ _ us hl => match us, hl with | [_], _ => rfl) fun cdv A outer s H E hgu hr tk hp => ?_
  have hN := sc__law_sign_slip.nd
  have hu := hu100 hr
  exact (dss_cons (ds_if (DW.dt (dw_or (dt_not (dt_val (de_cb call_isi (cal_isi (c.isi 14)) (c.free 15) (da_cons (de_var 0) (da_cons (de_ty (c.free 8)) da_nil))))) (dw_or1 (dt_cmp (o_eqE hu) opr_eqE.w (de_var 0) (de_tup da_nil) (nomark _))))) (dss_one (ds_ret (de_lst (da_cons (de_str [115, 105, 103, 110, 115]) (da_cons (de_str [78, 111, 110, 101]) da_nil))))) dss_nil) (dss_cons (ds_for hp (di_range1 (c.free 4) (da_cons (de_cb call_lenA cal_len (c.free 1) (da_cons (de_var 0) da_nil)) da_nil)) (dg_name hN) (dss_cons (ds_set hN (de_ix hu (de_var 0) (de_var 1))) (dss_cons (ds_if (DW.dt (dw_or (dt_cmp (o_eq hu) opr_eq.w (de_var 1) de_int (nomark _)) (dw_or (dt_not (dt_val (de_cb call_isi (cal_isi (c.isi 14)) (c.free 15) (da_cons (de_var 2) (da_cons (de_ty (c.free 8)) da_nil))))) (dw_or (dt_cmp (o_ne hu) opr_ne.w (de_cb call_lenA cal_len (c.free 1) (da_cons (de_var 2) da_nil)) de_int (nomark _)) (dw_or1 (dt_not (dt_val (de_call (d__law_are_figs (P := P) (w := w) c) tk hgu (hr.mono (by decide)) (c.glo 16) (da_cons (de_ix hu (de_var 2) de_int) da_nil))))))))) (dss_one (ds_ret (de_lst (da_cons (de_str [115, 105, 103, 110, 115]) (da_cons (de_cb (call_reprD hgu hu) cal_repr (c.free 17) (da_cons (de_var 1) da_nil)) da_nil))))) dss_nil) (dss_one (ds_if (DW.dt (dw_or (dt_not (dt_val (de_call (d__law_is_glyph (P := P) (w := w) c) tk hgu (hr.mono (by decide)) (c.glo 18) (da_cons (de_ix hu (de_var 2) de_int) da_nil)))) (dw_or1 (dt_cmp (o_in0 hu) opr_in0.w (de_ix hu (de_var 2) de_int) (de_lc hN (di_itemsK (de_sl (de_var 0) do_none (do_some (de_var 1)))) (own := [("each", 3)]) (t := (.name 3)) (by rfl) (by decide) (fun _ _ _ _ _ => pgn hN) (fun _ _ _ _ _ => dts_nil) (fun _ _ _ _ _ => (de_ix hu (de_var 3) de_int))) (by rfl))))) (dss_one (ds_ret (de_lst (da_cons (de_str [115, 105, 103, 110, 115]) (da_cons (de_cb (call_reprD hgu hu) cal_repr (c.free 17) (da_cons (de_var 1) da_nil)) da_nil))))) dss_nil))))) (dss_one (ds_ret (de_if (dt_cmp (o_eq hu) opr_eq.w (de_cb call_lenA cal_len (c.free 1) (da_cons (de_var 0) da_nil)) de_int (nomark _)) (de_lst (da_cons (de_str [115, 105, 103, 110, 115]) (da_cons (de_str [49]) da_nil))) (de_lst da_nil))))))
theorem sc__law_bases : FnScope N__law_bases P__law_bases X__law_bases.d.scope := ⟨rfl, rfl, rfl, by decide +kernel, rfl, by decide +kernel, by decide +kernel⟩
theorem d__law_bases (c : C K mg base) : DefH P w K mg base 1 (X__law_bases.ad K) X__law_bases.d P__law_bases F__law_bases := by
  refine def_ofH c.toCt 0 X__law_bases false 2 10 rfl sc__law_bases rfl (fun _ _ _ _ _ _ us hl => match us, hl with | [_], _ => rfl) fun cdv A outer s H E hgu hr tk => ?_
  have hN := sc__law_bases.nd
  have hu := hu100H hr
  exact (dss_cons (ds_set hN (de_lstC (da_cons (de_and (de_cb call_isx (cal_isx (c.isx 20)) (c.free 15) (da_cons (de_var 0) (da_cons (de_globR (c.glo 19)) da_nil))) (de_one (de_cb call_isx (cal_isx (c.isx 20)) (c.free 15) (da_cons (de_var 0) (da_cons (de_ty (c.free 21)) da_nil))))) da_nil))) (dss_cons (ds_expr (de_bm mt_append mt_appendR PySem.F.plainAttrs_list PySem.F.slot_list_append PySem.F.type_list_append (de_var 1) (da_cons (de_and (de_cb call_isx (cal_isx (c.isx 20)) (c.free 15) (da_cons (de_var 0) (da_cons (de_globR (c.glo 22)) da_nil))) (de_one (de_cb call_isx (cal_isx (c.isx 20)) (c.free 15) (da_cons (de_var 0) (da_cons (de_ty (c.free 23)) da_nil))))) da_nil))) (dss_one (ds_ret (de_add (de_var 1) (de_lst (da_cons (de_and (de_cb call_isx (cal_isx (c.isx 20)) (c.free 15) (da_cons (de_var 0) (da_cons (de_globR (c.glo 24)) da_nil))) (de_one (de_cb call_isx (cal_isx (c.isx 20)) (c.free 15) (da_cons (de_var 0) (da_cons (de_ty (c.free 25)) da_nil))))) da_nil)))))))
theorem sc__law_shown : FnScope N__law_shown P__law_shown X__law_shown.d.scope := ⟨rfl, rfl, rfl, by decide +kernel, rfl, by decide +kernel, by decide +kernel⟩
theorem d__law_shown (c : C K mg base) : DefH P w K mg base 2 (X__law_shown.ad K) X__law_shown.d P__law_shown F__law_shown := by
  refine def_ofH c.toCt 1 X__law_shown false 1 11 rfl sc__law_shown rfl (fun _ _ _ _ _ _ us hl => match us, hl with | [_], _ => rfl) fun cdv A outer s H E hgu hr tk => ?_
  have hN := sc__law_shown.nd
  have hu := hu100H hr
  exact (dss_one (ds_ret (de_lst (da_cons (de_if (DW.dt (dw_and (dt_val (de_cb call_isx (cal_isx (c.isx 20)) (c.free 15) (da_cons (de_var 0) (da_cons (de_globR (c.glo 26)) da_nil)))) (dw_and1 (dt_cmp (o_eq hu) opr_eq.w (de_callH (d__law_bases (P := P) (w := w) c) tk hgu (hr.mono (by decide)) (c.glo 27) (da_cons (de_var 0) da_nil)) (de_lst (da_cons de_bl (da_cons de_bl (da_cons de_bl da_nil)))) (nomark _))))) (de_str [115, 105, 103, 110, 115]) (de_str [111, 100, 100])) (da_cons (de_cb (call_reprD hgu hu) cal_repr (c.free 17) (da_cons (de_exA (fun x hx => xfC_of ((c.isx 20).e x hx)) (c.noats 28) (de_var 0)) da_nil)) da_nil)))))
theorem sc__law_caught : FnScope ["act", "told", "e"] ["act"] X__law_caught.d.scope := ⟨rfl, rfl, rfl, by decide +kernel, rfl, by decide +kernel, by decide +kernel⟩
def cd__law_caught : CaughtData := ⟨"told", "_law_shown", "act", "e", "WrongValue", "WrongName", "NotPossible", X__law_caught.d.scope, (caughtPos X__law_caught.d.body).2.1, "told", X__law_shown.d, P__law_shown, X__law_caught.d.params, (caughtPos X__law_caught.d.body).1, (caughtPos X__law_caught.d.body).2.2⟩
theorem d__law_caught (c : C K mg base) : CaughtD P w K mg base 2 "_law_caught" [116, 111, 108, 100] F__law_shown errs (fun _ => true) := by
  obtain ⟨fd, F⟩ := c.s.def_ 12 (d := X__law_caught) rfl
  exact ⟨cd__law_caught, fd, F, fun s us hl => FunD.bindsA (ps := ["act"]) F (fun _ _ _ _ _ _ us hl => match us, hl with | [_], _ => rfl) s us hl, sc__law_caught, rfl, rfl, rfl, by decide +kernel, rfl, rfl, rfl, rfl, ⟨by decide +kernel, by decide +kernel, by decide +kernel, by decide +kernel, by decide +kernel, by decide +kernel, by decide +kernel⟩, (c.glo 19), (c.glo 22), (c.glo 24), (c.glo 30), c.exm 29, d__law_shown (P := P) (w := w) c⟩
theorem sc__law_odd : FnScope N__law_odd P__law_odd X__law_odd.d.scope := ⟨rfl, rfl, rfl, by decide +kernel, rfl, by decide +kernel, by decide +kernel⟩
theorem d__law_odd (c : C K mg base) : Def P w K mg base 3 (X__law_odd.ad K) X__law_odd.d P__law_odd F__law_odd := by
  refine def_of c.toCt 2 X__law_odd false 2 13 rfl sc__law_odd rfl (fun _ _ _ _ _ _ us hl => match us, hl with | [_], _ => rfl) fun cdv A outer s H E hgu hr tk hp => ?_
  have hN := sc__law_odd.nd
  have hu := hu100 hr
  exact (dss_cons (ds_set hN (de_lst (da_cons de_non (da_cons de_bl (da_cons de_bl (da_cons de_int (da_cons de_int (da_cons (de_neg de_int) (da_cons de_int (da_cons (de_pow de_int de_int) (da_cons (de_str []) da_nil))))))))))) (dss_cons (ds_set hN (de_add (de_var 1) (de_lst (da_cons (de_str [48]) (da_cons (de_str [97]) (da_cons (de_str [48, 49]) (da_cons (de_str [97, 32, 48]) (da_cons (de_tup da_nil) (da_cons (de_tup (da_cons (de_str [97]) da_nil)) (da_cons (de_tup (da_cons (de_str [97]) (da_cons (de_str [48]) da_nil))) (da_cons (de_lst (da_cons (de_str [97]) da_nil)) (da_cons (de_lst da_nil) da_nil)))))))))))) (dss_one (ds_ret (de_call (d__law_pick (P := P) (w := w) c) tk hgu (hr.mono (by decide)) (c.glo 5) (da_cons (de_var 0) (da_cons (de_add (de_var 1) (de_lst (da_cons de_dct0 (da_cons (de_dct1 [97] 1) (da_cons (de_tup (da_cons de_non (da_cons de_int da_nil))) (da_cons (de_str [97, 32, 48, 10, 98, 32, 49]) (da_cons (de_tup (da_cons (de_tup (da_cons (de_str [97]) (da_cons (de_str [48]) da_nil))) da_nil)) (da_cons (de_tup (da_cons (de_str [48]) (da_cons (de_str [48]) da_nil))) (da_cons (de_lst (da_cons (de_lst da_nil) da_nil)) (da_cons (de_tup (da_cons (de_tup da_nil) da_nil)) (da_cons (de_str [65]) (da_cons (de_str [56]) da_nil)))))))))))) da_nil)))))))
theorem sc__law_bent : FnScope N__law_bent P__law_bent X__law_bent.d.scope := ⟨rfl, rfl, rfl, by decide +kernel, rfl, by decide +kernel, by decide +kernel⟩
theorem d__law_bent (c : C K mg base) : Def P w K mg base 4 (X__law_bent.ad K) X__law_bent.d P__law_bent F__law_bent := by
  refine def_of c.toCt 3 X__law_bent false 7 14 rfl sc__law_bent rfl (fun _ _ _ _ _ _ us hl => match us, hl with | [_, _], _ => rfl) fun cdv A outer s H E hgu hr tk hp => ?_
  have hN := sc__law_bent.nd
  have hu := hu100 hr
  exact (dss_cons (ds_set hN (de_call (d__law_dip (P := P) (w := w) c) tk hgu (hr.mono (by decide)) (c.glo 2) (da_cons (de_var 0) (da_cons (de_cb call_lenA cal_len (c.free 1) (da_cons (de_var 1) da_nil)) da_nil)))) (dss_cons (ds_set hN (de_ix hu (de_var 1) (de_var 2))) (dss_cons (ds_set hN (de_call (d__law_pick (P := P) (w := w) c) tk hgu (hr.mono (by decide)) (c.glo 5) (da_cons (de_var 0) (da_cons (de_lst (da_cons (de_str []) (da_cons (de_str [49, 48]) (da_cons (de_str [56]) (da_cons (de_str [48, 48]) (da_cons (de_str [48, 32]) (da_cons de_non (da_cons de_int (da_cons (de_tup (da_cons (de_str [48]) da_nil)) (da_cons (de_str [97]) (da_cons (de_str [48, 49, 50, 51, 52, 53, 54, 55, 56]) (da_cons (de_str [55]) (da_cons (de_ix hu (de_var 3) de_int) da_nil))))))))))))) da_nil)))) (dss_cons (ds_set hN (de_call (d__law_pick (P := P) (w := w) c) tk hgu (hr.mono (by decide)) (c.glo 5) (da_cons (de_var 0) (da_cons (de_lst (da_cons (de_ix hu (de_ix hu (de_var 1) de_int) de_int) (da_cons (de_ix hu (de_ix hu (de_var 1) (de_neg de_int)) de_int) (da_cons (de_str [65]) (da_cons (de_str []) (da_cons (de_str [97, 98]) (da_cons (de_str [49]) (da_cons de_non (da_cons (de_tup (da_cons (de_str [97]) da_nil)) (da_cons (de_str [113]) da_nil)))))))))) da_nil)))) (dss_cons (ds_set hN (de_lst (da_cons (de_tup (da_cons (de_var 5) (da_cons (de_ix hu (de_var 3) de_int) da_nil))) (da_cons (de_tup (da_cons (de_ix hu (de_var 3) de_int) (da_cons (de_var 4) da_nil))) (da_cons (de_add (de_var 3) (de_tup (da_cons (de_str [48]) da_nil))) (da_cons (de_sl (de_var 3) do_none (do_some de_int)) da_nil)))))) (dss_cons (ds_set hN (de_add (de_var 6) (de_lst (da_cons (de_ct (call_listA rfl) cal_list (c.free 3) (da_cons (de_var 3) da_nil)) (da_cons (de_add (de_add (de_ct (call_strD hgu hu) cal_strD (c.free 13) (da_cons (de_ix hu (de_var 3) de_int) da_nil)) (de_str [32])) (de_ct (call_strD hgu hu) cal_strD (c.free 13) (da_cons (de_ix hu (de_var 3) de_int) da_nil))) (da_cons (de_call (d__law_odd (P := P) (w := w) c) tk hgu (hr.mono (by decide)) (c.glo 31) (da_cons (de_var 0) da_nil)) da_nil)))))) (dss_one (ds_ret (de_add (de_add (de_sl (de_var 1) do_none (do_some (de_var 2))) (de_tup (da_cons (de_call (d__law_pick (P := P) (w := w) c) tk hgu (hr.mono (by decide)) (c.glo 5) (da_cons (de_var 0) (da_cons (de_var 6) da_nil))) da_nil))) (de_sl (de_var 1) (do_some (de_add (de_var 2) de_int)) do_none))))))))))
theorem sc_InvalidSigns___init__ : FnScope ["self", "index"] ["self", "index"] X_InvalidSigns___init__.d.scope := ⟨rfl, rfl, rfl, by decide +kernel, rfl, by decide +kernel, by decide +kernel⟩
theorem mkx_InvalidSigns (c : C K mg base) : MkXo P w K mg base 1 (He.ga K "InvalidSigns") "index" := mkx_of c.toCt tail_V 15 32 X_InvalidSigns___init__ rfl rfl rfl rfl sc_InvalidSigns___init__ (.inl rfl) (.inl rfl) (fun _ _ _ _ _ _ us hl => match us, hl with | [_, _], _ => rfl)
theorem sc_is_letter : FnScope N_is_letter P_is_letter X_is_letter.d.scope := ⟨rfl, rfl, rfl, by decide +kernel, rfl, by decide +kernel, by decide +kernel⟩
theorem d_is_letter (c : C K mg base) : Def P w K mg base 1 (X_is_letter.ad K) X_is_letter.d P_is_letter F_is_letter := by
  refine def_of c.toCt 0 X_is_letter false 1 16 rfl sc_is_letter rfl (fun _ _ _ _ _ _ us hl => match us, hl with | [_], _ => rfl) fun cdv A outer s H E hgu hr tk hp => ?_
  have hN := sc_is_letter.nd
  have hu := hu100 hr
  exact (dss_one (ds_ret (de_and (de_cb call_isi (cal_isi (c.isi 14)) (c.free 15) (da_cons (de_var 0) (da_cons (de_ty (c.free 13)) da_nil))) (de_and (de_cmp (o_eq hu) opr_eq.w (de_cb call_lenA cal_len (c.free 1) (da_cons (de_var 0) da_nil)) de_int (nomark _)) (de_one (de_cmp (o_in0 hu) opr_in0.w (de_var 0) (de_globS [97, 98, 99, 100, 101, 102, 103, 104, 105, 106, 107, 108, 109, 110, 111, 112, 113, 114, 115, 116, 117, 118, 119, 120, 121, 122] (c.str 33)) (by rfl)))))))
theorem sc_are_looks : FnScope N_are_looks P_are_looks X_are_looks.d.scope := ⟨rfl, rfl, rfl, by decide +kernel, rfl, by decide +kernel, by decide +kernel⟩
theorem d_are_looks (c : C K mg base) : Def P w K mg base 1 (X_are_looks.ad K) X_are_looks.d P_are_looks F_are_looks := by
  refine def_of c.toCt 0 X_are_looks false 3 17 rfl sc_are_looks rfl (fun _ _ _ _ _ _ us hl => match us, hl with | [_], _ => rfl) fun cdv A outer s H E hgu hr tk hp => ?_
  have hN := sc_are_looks.nd
  have hu := hu100 hr
  exact (dss_cons (ds_if (DW.dt (dw_or (dt_not (dt_val (de_cb call_isi (cal_isi (c.isi 14)) (c.free 15) (da_cons (de_var 0) (da_cons (de_ty (c.free 13)) da_nil))))) (dw_or (dt_cmp (o_eq hu) opr_eq.w (de_var 0) (de_str []) (nomark _)) (dw_or1 (dt_not (dt_val (de_cb (cr_all rfl) (cal_aa (f := fun bs => bs.all id)) (c.free 35) (da_cons (de_lc hN (di_itemsK (de_var 0)) (own := [("figure", 1)]) (t := (.name 1)) (by rfl) (by decide) (fun _ _ _ _ _ => pgn hN) (fun _ _ _ _ _ => dts_nil) (fun _ _ _ _ _ => (de_cmp (o_in0 hu) opr_in0.w (de_var 1) (de_globS [48, 49, 50, 51, 52, 53, 54, 55] (c.str 34)) (by rfl)))) da_nil)))))))) (dss_one (ds_ret de_bl)) dss_nil) (dss_one (ds_ret (de_cb (cr_all rfl) (cal_aa (f := fun bs => bs.all id)) (c.free 35) (da_cons (de_lc hN (di_range1 (c.free 4) (da_cons (de_sub (de_cb call_lenA cal_len (c.free 1) (da_cons (de_var 0) da_nil)) de_int) da_nil)) (own := [("k", 2)]) (t := (.name 2)) (by rfl) (by decide) (fun _ _ _ _ _ => pgn hN) (fun _ _ _ _ _ => dts_nil) (fun _ _ _ _ _ => (de_cmp o_lt r_lt (de_ix hu (de_var 0) (de_var 2)) (de_ix hu (de_var 0) (de_add (de_var 2) de_int)) (nomark _)))) da_nil)))))
theorem sc_is_pair : FnScope N_is_pair P_is_pair X_is_pair.d.scope := ⟨rfl, rfl, rfl, by decide +kernel, rfl, by decide +kernel, by decide +kernel⟩
theorem d_is_pair (c : C K mg base) : Def P w K mg base 2 (X_is_pair.ad K) X_is_pair.d P_is_pair F_is_pair := by
  refine def_of c.toCt 1 X_is_pair false 1 18 rfl sc_is_pair rfl (fun _ _ _ _ _ _ us hl => match us, hl with | [_], _ => rfl) fun cdv A outer s H E hgu hr tk hp => ?_
  have hN := sc_is_pair.nd
  have hu := hu100 hr
  exact (dss_one (ds_ret (de_and (de_cb call_isi (cal_isi (c.isi 14)) (c.free 15) (da_cons (de_var 0) (da_cons (de_ty (c.free 8)) da_nil))) (de_and (de_cmp (o_eq hu) opr_eq.w (de_cb call_lenA cal_len (c.free 1) (da_cons (de_var 0) da_nil)) de_int (nomark _)) (de_and (de_call (d_is_letter (P := P) (w := w) c) tk hgu (hr.mono (by decide)) (c.glo 36) (da_cons (de_ix hu (de_var 0) de_int) da_nil)) (de_one (de_call (d_are_looks (P := P) (w := w) c) tk hgu (hr.mono (by decide)) (c.glo 37) (da_cons (de_ix hu (de_var 0) de_int) da_nil))))))))
theorem sc_check_signs : FnScope N_check_signs P_check_signs X_check_signs.d.scope := ⟨rfl, rfl, rfl, by decide +kernel, rfl, by decide +kernel, by decide +kernel⟩
theorem d_check_signs (c : C K mg base) : Def P w K mg base 3 (X_check_signs.ad K) X_check_signs.d P_check_signs F_check_signs := by
  refine def_of c.toCt 2 X_check_signs false 4 19 rfl sc_check_signs rfl (fun _ _ _ _ _ _ us hl => match us, hl with | [_], _ => rfl) fun cdv A outer s H E hgu hr tk hp => ?_
  have hN := sc_check_signs.nd
  have hu := hu100 hr
  exact (dss_cons (ds_if (DW.dt (dw_or (dt_not (dt_val (de_cb call_isi (cal_isi (c.isi 14)) (c.free 15) (da_cons (de_var 0) (da_cons (de_ty (c.free 8)) da_nil))))) (dw_or1 (dt_cmp (o_eqE hu) opr_eqE.w (de_var 0) (de_tup da_nil) (nomark _))))) (dss_one (ds_raise' (mkx_InvalidSigns (P := P) (w := w) c) tk (hr.mono (by decide)) (c.glo 26) (da_cons de_non da_nil))) dss_nil) (dss_cons (ds_for hp (di_range1 (c.free 4) (da_cons (de_cb call_lenA cal_len (c.free 1) (da_cons (de_var 0) da_nil)) da_nil)) (dg_name hN) (dss_cons (by first | exact ds_set hN (de_lc hN (di_itemsK (de_sl (de_var 0) do_none (do_some (de_var 1)))) (own := [("each", 3)]) (t := (.name 3)) (by rfl) (by decide) (fun _ _ _ _ _ => pgn hN) (fun _ _ _ _ _ => dts_nil) (fun _ _ _ _ _ => (de_ix hu (de_var 3) de_int))) | exact ds_setLc hN (di_itemsK (de_sl (de_var 0) do_none (do_some (de_var 1)))) (own := [("each", 3)]) (t := (.name 3)) (by rfl) (by decide) (fun _ _ _ _ _ => pgn hN) (fun _ _ _ _ _ => dts_nil) (fun _ _ _ _ _ => (de_ix hu (de_var 3) de_int)) (hsw := by rfl)) (dss_one (ds_if (DW.dt (dw_or (dt_cmp (o_eq hu) opr_eq.w (de_var 1) (de_globI (c.int 38)) (nomark _)) (dw_or (dt_not (dt_val (de_call (d_is_pair (P := P) (w := w) c) tk hgu (hr.mono (by decide)) (c.glo 39) (da_cons (de_ix hu (de_var 0) (de_var 1)) da_nil)))) (dw_or1 (dt_cmp (o_in0 hu) opr_in0.w (de_ix hu (de_ix hu (de_var 0) (de_var 1)) de_int) (de_var 2) (by rfl)))))) (dss_one (ds_raise' (mkx_InvalidSigns (P := P) (w := w) c) tk (hr.mono (by decide)) (c.glo 26) (da_cons (de_var 1) da_nil))) dss_nil)))) (dss_one (ds_if (dt_cmp o_lt r_lt (de_cb call_lenA cal_len (c.free 1) (da_cons (de_var 0) da_nil)) (de_globI (c.int 40)) (nomark _)) (dss_one (ds_raise' (mkx_InvalidSigns (P := P) (w := w) c) tk (hr.mono (by decide)) (c.glo 26) (da_cons (de_cb call_lenA cal_len (c.free 1) (da_cons (de_var 0) da_nil)) da_nil))) dss_nil))))
theorem sc_Line___init__ : FnScope N_Line___init__ P_Line___init__ X_Line___init__.d.scope := ⟨rfl, rfl, rfl, by decide +kernel, rfl, by decide +kernel, by decide +kernel⟩
theorem d_Line___init__ (c : C K mg base) : Def P w K mg base 4 (X_Line___init__.ad K) X_Line___init__.d P_Line___init__ F_Line___init__ := by
  refine def_of c.toCt 3 X_Line___init__ false 2 20 rfl sc_Line___init__ rfl (fun _ _ _ _ _ _ us hl => match us, hl with | [_, _], _ => rfl) fun cdv A outer s H E hgu hr tk hp => ?_
  have hN := sc_Line___init__.nd
  have hu := hu100 hr
  exact (dss_cons (ds_expr (de_call (d_check_signs (P := P) (w := w) c) tk hgu (hr.mono (by decide)) (c.glo 41) (da_cons (de_var 1) da_nil))) (dss_one (ds_setF (c.cls 42) (c.noat 43) (de_var 0) (de_var 1))))
theorem sc_Line_signs : FnScope N_Line_signs P_Line_signs X_Line_signs.d.scope := ⟨rfl, rfl, rfl, by decide +kernel, rfl, by decide +kernel, by decide +kernel⟩
theorem d_Line_signs (c : C K mg base) : Def P w K mg base 1 (X_Line_signs.ad K) X_Line_signs.d P_Line_signs F_Line_signs := by
  refine def_of c.toCt 0 X_Line_signs false 1 21 rfl sc_Line_signs rfl (fun _ _ _ _ _ _ us hl => match us, hl with | [_], _ => rfl) fun cdv A outer s H E hgu hr tk hp => ?_
  have hN := sc_Line_signs.nd
  have hu := hu100 hr
  exact (dss_one (ds_ret (de_fld (de_var 0) (c.cls 42) (c.noat 43))))
theorem sc__law_right : FnScope N__law_right P__law_right X__law_right.d.scope := ⟨rfl, rfl, rfl, by decide +kernel, rfl, by decide +kernel, by decide +kernel⟩
theorem d__law_right (c : C K mg base) : Def P w K mg base 8 (X__law_right.ad K) X__law_right.d P__law_right F__law_right := by
  obtain ⟨ca, hca, htb⟩ := c.tb "_law_right" (by simp [tf])
  refine def_ofL c.toCt 7 X__law_right false 7 22 rfl sc__law_right rfl (fun _ _ _ _ _ _ us hl => match us, hl with | [_], _ => rfl) fun cdv hcd A outer s H E hgu hr tk hp => ?_
  have hN := sc__law_right.nd
  have hu := hu100 hr
  exact (dss_cons (ds_for hp (di_range1 (c.free 4) (da_cons de_int da_nil)) (dg_name hN) (dss_cons (ds_set hN (de_call (d__law_any_line (P := P) (w := w) c) tk hgu (hr.mono (by decide)) (c.glo 44) (da_cons (de_var 0) da_nil))) (dss_cons (ds_set hN (de_call (d__law_pick (P := P) (w := w) c) tk hgu (hr.mono (by decide)) (c.glo 5) (da_cons (de_var 0) (da_cons (de_lst (da_cons (de_var 2) (da_cons (de_sl (de_var 2) do_none (do_some de_int)) (da_cons (de_add (de_var 2) (de_tup (da_cons (de_tup (da_cons (de_str [116]) (da_cons (de_str [48]) da_nil))) (da_cons (de_tup (da_cons (de_str [117]) (da_cons (de_str [49]) da_nil))) (da_cons (de_tup (da_cons (de_str [118]) (da_cons (de_str [50]) da_nil))) (da_cons (de_tup (da_cons (de_str [119]) (da_cons (de_str [51]) da_nil))) da_nil)))))) (da_cons (de_var 2) da_nil))))) da_nil)))) (dss_cons (ds_for hp (di_range1 (c.free 4) (da_cons (de_call (d__law_pick (P := P) (w := w) c) tk hgu (hr.mono (by decide)) (c.glo 5) (da_cons (de_var 0) (da_cons (de_lst (da_cons de_int (da_cons de_int (da_cons de_int (da_cons de_int da_nil))))) da_nil))) da_nil)) (dg_name hN) (dss_one (ds_if (dt_cmp (o_eqE hu) opr_eqE.w (de_lc hN (di_itemsK (de_var 2)) (own := [("pair", 6)]) (t := (.name 6)) (by rfl) (by decide) (fun _ _ _ _ _ => pgn hN) (fun _ _ _ _ _ => (dts_one (DW.dt (dw_or (dt_not (dt_val (de_cb call_isi (cal_isi (c.isi 14)) (c.free 15) (da_cons (de_var 6) (da_cons (de_ty (c.free 8)) da_nil))))) (dw_or1 (dt_cmp (o_ne hu) opr_ne.w (de_cb call_lenA cal_len (c.free 1) (da_cons (de_var 6) da_nil)) de_int (nomark _))))))) (fun _ _ _ _ _ => (de_var 6))) (de_lst da_nil) (nomark _)) (dss_one (ds_set hN (de_call (d__law_bent (P := P) (w := w) c) tk hgu (hr.mono (by decide)) (c.glo 45) (da_cons (de_var 0) (da_cons (de_var 2) da_nil))))) dss_nil))) (dss_cons (ds_set hN (de_call (d__law_pick (P := P) (w := w) c) tk hgu (hr.mono (by decide)) (c.glo 5) (da_cons (de_var 0) (da_cons (de_add (de_bin op_rep opr_mulL (de_lst (da_cons (de_var 2) da_nil)) de_int) (de_lst (da_cons (de_ct (call_listA rfl) cal_list (c.free 3) (da_cons (de_var 2) da_nil)) (da_cons (de_tup da_nil) (da_cons (de_call (d__law_odd (P := P) (w := w) c) tk hgu (hr.mono (by decide)) (c.glo 31) (da_cons (de_var 0) da_nil)) da_nil))))) da_nil)))) (dss_cons (by first | exact ds_par hN (da_cons (de_call (d__law_sign_slip (P := P) (w := w) c) tk hgu (hr.mono (by decide)) (c.glo 46) (da_cons (de_var 2) da_nil)) (da_cons (de_caughtC (k := 5) ((d__law_caught (P := P) (w := w) c).mono (by decide)) hgu (hr.mono (by decide)) (c.glo 49) htb (hcd.symm.trans hca) (fun A outer s H E fa c1 hgu hr tk hu => (de_callN0 ((d_Line___init__ (P := P) (w := w) c).mkC (c.mkr 47) (ks := ["signs"]) (ix := [0, 1]) tk hgu (hr.mono (by decide)) (fun _ _ _ _ _ _ us ws h1 h2 => match us, ws, h1, h2 with | [_], [_], _, _ => ⟨rfl, rfl⟩)) (c.glo 48) (dk_cons (de_var 2) dk_nil)))) da_nil)) | exact ds_par2 (da_cons (de_call (d__law_sign_slip (P := P) (w := w) c) tk hgu (hr.mono (by decide)) (c.glo 46) (da_cons (de_var 2) da_nil)) (da_cons (de_caughtC (k := 5) ((d__law_caught (P := P) (w := w) c).mono (by decide)) hgu (hr.mono (by decide)) (c.glo 49) htb (hcd.symm.trans hca) (fun A outer s H E fa c1 hgu hr tk hu => (de_callN0 ((d_Line___init__ (P := P) (w := w) c).mkC (c.mkr 47) (ks := ["signs"]) (ix := [0, 1]) tk hgu (hr.mono (by decide)) (fun _ _ _ _ _ _ us ws h1 h2 => match us, ws, h1, h2 with | [_], [_], _, _ => ⟨rfl, rfl⟩)) (c.glo 48) (dk_cons (de_var 2) dk_nil)))) da_nil)) (dgs_cons (dg_name hN) (dgs_cons (dg_name hN) dgs_nil))) (dss_one (ds_if (DW.dt (dw_or (DW.dt (dw_and (dt_cmp (o_ne hu) opr_ne.w (de_var 4) (de_lst da_nil) (nomark _)) (dw_and1 (dt_cmp (o_ne hu) opr_ne.w (de_var 5) (de_var 4) (nomark _))))) (dw_or1 (DW.dt (dw_and (dt_cmp (o_eqE hu) opr_eqE.w (de_var 4) (de_lst da_nil) (nomark _)) (dw_and1 (DW.dt (dw_or (dt_cmp (o_ne hu) opr_ne.w (de_ix hu (de_var 5) de_int) (de_str [116, 111, 108, 100]) (nomark _)) (dw_or1 (dt_cmp (o_ne hu) opr_ne.w (de_prop (de_ix hu (de_var 5) de_int) (c.cls 42) (c.prop 50) (d_Line_signs (P := P) (w := w) c) hgu (hr.mono (by decide))) (de_var 2) (nomark _))))))))))) (dss_one (ds_ret de_bl)) dss_nil)))))))) (dss_one (ds_ret de_bl)))
theorem sc__law_jar : FnScope N__law_jar P__law_jar X__law_jar.d.scope := ⟨rfl, rfl, rfl, by decide +kernel, rfl, by decide +kernel, by decide +kernel⟩
theorem d__law_jar (c : C K mg base) : Def P w K mg base 1 (X__law_jar.ad K) X__law_jar.d P__law_jar F__law_jar := by
  refine def_of c.toCt 0 X__law_jar true 6 23 rfl sc__law_jar rfl (fun _ _ _ _ _ _ us hl => match us, hl with | [_, _], _ => rfl) fun cdv A outer s H E hgu hr tk hp => ?_
  have hN := sc__law_jar.nd
  have hu := hu100 hr
  exact (dss_cons (ds_set hN (de_add (de_mul (de_mul de_int (de_add (de_var 1) de_int)) (de_add (de_var 1) de_int)) (de_mul de_int (de_cb call_lenA cal_len (c.free 1) (da_cons (de_var 0) da_nil))))) (dss_cons (ds_for hp (di_itemsK (de_sl (de_var 0) do_none (do_some de_int))) (dg_name hN) (dss_one (ds_set hN (de_mod (de_ct call_int1 cal_int (c.free 0) (da_cons (de_add (de_mul (de_var 2) de_int) (de_var 3)) da_nil)) de_int)))) (dss_cons (ds_set hN (de_if (dt_cmp o_lt r_lt (de_var 1) (de_cb call_lenA cal_len (c.free 1) (da_cons (de_var 0) da_nil)) (nomark _)) (de_ix hu (de_var 0) (de_var 1)) de_int)) (dss_cons (ds_set hN (de_if (DW.dt (dw_or (dt_cmp o_lt r_lt (de_var 4) de_int (nomark _)) (dw_or1 (dt_cmp o_ge r_ge (de_var 4) (de_pow de_int de_int) (nomark _))))) (de_cb call_abs cal_abs (c.free 51) (da_cons (de_var 4) da_nil)) de_int)) (dss_one (ds_ret (de_lstC (da_cons (de_var 5) (da_cons (de_mod (de_ct call_int1 cal_int (c.free 0) (da_cons (de_add (de_add (de_mul (de_var 2) de_int) (de_mul (de_var 4) de_int)) (de_mul de_int (de_add (de_var 1) de_int))) da_nil)) de_int) (da_cons de_int da_nil))))))))))
theorem sc_law : FnScope N_law P_law X_law.d.scope := ⟨rfl, rfl, rfl, by decide +kernel, rfl, by decide +kernel, by decide +kernel⟩
theorem d_law (c : C K mg base) : Def P w K mg base 9 (X_law.ad K) X_law.d P_law F_law := by
  refine def_of c.toCt 8 X_law false 2 24 rfl sc_law rfl (fun _ _ _ _ _ _ us hl => match us, hl with | [_], _ => rfl) fun cdv A outer s H E hgu hr tk hp => ?_
  have hN := sc_law.nd
  have hu := hu100 hr
  exact (dss_cons (ds_for hp (di_range1 (c.free 4) (da_cons (de_cb (call_max2 rfl) cal_max2 (c.free 53) (da_cons de_int (da_cons (de_cb (call_min2 rfl) cal_min2 (c.free 52) (da_cons (de_cb call_lenA cal_len (c.free 1) (da_cons (de_var 0) da_nil)) (da_cons de_int da_nil))) da_nil))) da_nil)) (dg_name hN) (dss_one (ds_if (dt_not (dt_val (de_call (d__law_right (P := P) (w := w) c) tk hgu (hr.mono (by decide)) (c.glo 55) (da_cons (de_call (d__law_jar (P := P) (w := w) c) tk hgu (hr.mono (by decide)) (c.glo 54) (da_cons (de_var 0) (da_cons (de_var 1) da_nil))) da_nil)))) (dss_one (ds_ret de_bl)) dss_nil))) (dss_one (ds_ret de_bl)))
end
end W03
end
section
open PySem PySem.W PySem.Calls PyProof.Rows
theorem holds_W03 (law_true : ∀ ns : List Int, ns.length ≤ 63 → (∀ z ∈ ns, Builtin.Int.intBits z ≤ 1048576) → ∃ S, W03.F_law [.d (.scr ns)] (DL.tabS W03.tf) = .ok (.d (.bl true)) S) : PySem.Challenge.rw_nevermixed_k03_whole_signs_refused.Holds := by
  w_on; o_law
  refine HandSHeadRun.head_any (r := OpenLaw.row PySem.Challenge.rw_nevermixed_k03_whole_signs_refused) (q := view (OpenLaw.row PySem.Challenge.rw_nevermixed_k03_whole_signs_refused).prog [36]) (H := W03.hk) (ob := W03.ob) (M := 4000) (loose := W03.loose) (d := HandSHeadRun.topDef (OpenLaw.row PySem.Challenge.rw_nevermixed_k03_whole_signs_refused).prog 36) (kwd := []) W03.ob_eq
    (by kernel_rfl) (fun s => by kernel_rfl) W03.run (by kernel_rfl) (by kernel_rfl) (by kernel_rfl) (by rfl) (by first | assumption | decide +kernel) (by decide +kernel) ⟨rfl, rfl, rfl, rfl, rfl, by decide +kernel⟩ ?hw ?hc
  case hw => w_witness2
  case hc =>
    refine DL.walk_ofZ (tf := W03.tf) (l := PySem.Challenge.rw_nevermixed_k03_whole_signs_refused) (k := 9) (x := "script") rfl (by kernel_rfl) ⟨rfl, by decide, by decide⟩ ?F
    intro w mg fa h Y G hmg0
    obtain ⟨K, KX, c, TZ⟩ := Y
    have hmg : mg ("law" : PySem.Str) = some (.ref fa) := by
      have e : (HandSHeadRun.topDef (OpenLaw.row PySem.Challenge.rw_nevermixed_k03_whole_signs_refused).prog 36).name = ("law" : PySem.Str) := by kernel_rfl
      rw [← e]
      exact hmg0
    have e := hmg.symm.trans (He.glo_ok KX G (DL.SaysX.fact c 56 (f := fun K => (He.Fa.glo "law").ok K) rfl))
    cases e
    obtain ⟨fd, F⟩ := DL.SaysX.def_ c 24 (d := W03.X_law) rfl
    refine ⟨K, fd, W03.F_law, KX, TZ, fun s v => L2.FunD.bindsA (ps := ["script"]) F (fun _ _ _ _ _ _ us hl => match us, hl with | [_], _ => rfl) s [v] rfl, law_true, fun base hb hn ht => ?_⟩
    obtain ⟨fd', F', ok, _⟩ := (W03.d_law (P := (PySem.Challenge.rw_nevermixed_k03_whole_signs_refused).prog) (w := w) ⟨⟨c, hb, hn⟩, ht⟩).ok
    have ef : fd' = fd := DL.funD_inj F F'
    rw [← ef]
    exact ok
end
section
/-! k03: what both make of any value -/
namespace W03
open PySem PySem.Spec PyProof.Rows L2 DL PP PA
theorem eqE_tup {xs : List D} {S : Store} : gEqED (.tup xs) (.tup []) S = .ok (.d (.bl (decide (xs.length = 0)))) S := by
  unfold gEqED
  split
  · cases xs with
    | nil => rfl
    | cons x xs => simp [deq, deqs]
  · rfl
theorem eqE_lst {xs : List D} {S : Store} : gEqED (.lst xs) (.lst []) S = .ok (.d (.bl (decide (xs.length = 0)))) S := by
  unfold gEqED
  split
  · cases xs with
    | nil => rfl
    | cons x xs => simp [deq, deqs]
  · rfl
def chD : D → Nat
  | .tup (.str [c] :: _) => c
  | _ => 0
/-- the element k is not as it should be -/
def badK (es : List D) (k : Nat) : Bool := decide (k = 6) || (!pairB (es.getD k .non) || decide (chD (es.getD k .non) ∈ (es.take k).map chD))
theorem bad_pairs {es : List D} {i : Nat} (h : ∀ j, j < i → badK es j = false) (hi : i ≤ es.length) : ∀ d ∈ es.take i, pairB d = true := by
  intro d hd
  obtain ⟨j, hj, rfl⟩ := List.getElem_of_mem hd
  rw [List.length_take] at hj
  have := h j (by omega)
  unfold badK at this
  rw [Bool.or_eq_false_iff, Bool.or_eq_false_iff] at this
  have := this.2.1
  rw [List.getD_eq_getElem?_getD, List.getElem?_eq_getElem (by omega)] at this
  rw [List.getElem_take]
  simpa using this
theorem known {es : List D} {i : Nat} {f : FE} {ρ : DL.Env} {S : Store} {s : Nat} (h : ∀ d ∈ es.take i, pairB d = true) (hf : ∀ d, pairB d = true → compT (.name s) fYes f d ρ S = .ok (some (.str [chD d])) S) :
    compD (.name s) fYes f ρ (es.take i) S = .ok (((es.take i).map chD).map fun c => D.str [c]) S := by
  have := compD_map (t := .name s) (tt := fYes) (f := f) (ρ := ρ) (S := S) (mk := fun d => d) (r := fun d => D.str [chD d]) (es.take i) (fun d hd => hf d (h d hd))
  rw [List.map_id'] at this
  rw [this, List.map_map]; rfl
def exS (d : D) : Ex := ⟨"InvalidSigns", ["index"], [d]⟩
abbrev bodyC : FS := (fSeq (fAsg (fLc (fItemsK (fSl (fVar 0) fNoO (fSomeO (fVar 1)))) (.name 3) fYes (fBin gIx (fVar 3) (fK (.d (.int 0)))) [3]) (gSet 2)) (fIfS (fOrB (toB (fBin gEq (fVar 1) (fK (.d (.int 6))))) (fOrB (fNotB (toB (fCall F_is_pair (fCons (fBin gIx (fVar 0) (fVar 1)) fNil)))) (toB (fBin (gIn0 false) (fBin gIx (fBin gIx (fVar 0) (fVar 1)) (fK (.d (.int 0)))) (fVar 2))))) (fRaise "InvalidSigns" "index" (fCons (fVar 1) fNil)) fNext))
/-- the elements of a tuple that may be asked about -/
def vTup (es : List D) : Prop := es.length ≤ 1000 ∧ ∀ e ∈ es, okP e = true
theorem raise_d {cn f : Str} {fs : FL} {ρ : DL.Env} {S S1 : Store} {x : D} (h : fs ρ S = .ok [.d x] S1) : fRaise cn f fs ρ S = .ex ⟨cn, [f], [x]⟩ ρ S1 := by
  unfold fRaise
  rw [h]; rfl
theorem loopC {es : List D} {S : Store} (hv : vTup es) : (∃ k, k < es.length ∧ (∀ j, j < k → badK es j = false) ∧ badK es k = true ∧ ∃ ρ', forD (gSet 1) bodyC (rangeD 0 es.length) [some (.d (.tup es)), none, none, none] S = .ex (exS (.int (k : Int))) ρ' S) ∨
    ((∀ j, j < es.length → badK es j = false) ∧ ∃ x y, forD (gSet 1) bodyC (rangeD 0 es.length) [some (.d (.tup es)), none, none, none] S = .nx [some (.d (.tup es)), x, y, none] S) := by
  have lr : (rangeD 0 es.length).length = es.length := by rw [range0]; simp
  have key := forD_stop (g := gSet 1) (b := bodyC) (all := rangeD 0 es.length) (fun i ρ S' => S' = S ∧ ∃ x y, ρ = [some (.d (.tup es)), x, y, none]) (badK es) (fun k r => ∃ ρ', r = .ex (exS (.int (k : Int))) ρ' S) (by
    rintro i d ρ S' hd hq ⟨rfl, x, y, rfl⟩
    obtain ⟨hi, rfl⟩ := range_get hd
    have hz := hv.1
    have pr := bad_pairs hq (by omega)
    have hc : cutL es none (some (i : Int)) = es.take i := cut_to
    have c1 := known (i := i) (s := 3) (f := fBin gIx (fVar 3) (fK (.d (.int 0)))) (ρ := [some (.d (.tup es)), some (.d (.int i)), y, none]) (S := S') pr (fun d hd => by
      obtain ⟨c, s, rfl, _⟩ := pair_iff hd
      simp [chD])
    have lo : lenOk (es.take i).length = true := lenOk_of (by rw [List.length_take]; omega)
    have lo' : lenOk (min i es.length) = true := lenOk_of (by omega)
    have hx : ixA es (i : Int) = some es[i] := by rw [ixA_nat, List.getElem?_eq_getElem hi]
    have gd : es.getD i .non = es[i] := by rw [List.getD_eq_getElem?_getD, List.getElem?_eq_getElem hi]; rfl
    have hp := is_pair_all (S := S') (hv.2 es[i] (List.getElem_mem _))
    have hin := in_strs (S := S') (neg := false) (c := chD es[i]) (l := (es.take i).map chD)
    rw [Bool.false_xor] at hin
    have hb : badK es i = (decide (i = 6) || (!pairB es[i] || decide (chD es[i] ∈ (es.take i).map chD))) := by unfold badK; rw [gd]
    have h6 : ((i : Int) == 6) = decide (i = 6) := by rw [Bool.eq_iff_iff, beq_iff_eq, decide_eq_true_eq]; omega
    have ra : ∀ (K : D), fRaise "InvalidSigns" "index" (fCons (fVar 1) fNil) [some (.d (.tup es)), some (.d (.int i)), some (.d K), none] S' = .ex (exS (.int i)) [some (.d (.tup es)), some (.d (.int i)), some (.d K), none] S' := fun K => raise_d rfl
    rw [hb]
    generalize hP : decide (chD es[i] ∈ (es.take i).map chD) = m at *
    generalize hK : (((es.take i).map chD).map fun c => D.str [c]) = K1 at *
    refine ⟨_, _, rfl, fun hq => ?_, fun hq => ?_⟩
    · by_cases q6 : decide (i = 6) = true
      · rw [q6] at h6
        have : bodyC [some (.d (.tup es)), some (.d (.int i)), y, none] S' = .ex (exS (.int i)) [some (.d (.tup es)), some (.d (.int i)), some (.d (.lst K1)), none] S' := by
          simp [bodyC, hc, lo, lo', c1, h6, ra]
        exact ⟨⟨_, this⟩, congrArg stopsFl this⟩
      · have q6 := Bool.eq_false_iff.mpr q6
        rw [q6] at h6 hq
        rw [Bool.false_or] at hq
        cases hpb : pairB es[i] with
        | false =>
          rw [hpb] at hp
          have : bodyC [some (.d (.tup es)), some (.d (.int i)), y, none] S' = .ex (exS (.int i)) [some (.d (.tup es)), some (.d (.int i)), some (.d (.lst K1)), none] S' := by
            simp [bodyC, hc, lo, lo', c1, h6, hx, hp, ra]
          exact ⟨⟨_, this⟩, congrArg stopsFl this⟩
        | true =>
          rw [hpb] at hp hq
          have hm : m = true := by simpa using hq
          obtain ⟨c, s, ec, _⟩ := pair_iff hpb
          rw [ec] at hin hp hx
          have hin' : gIn0D false (.str [c]) (.lst K1) S' = .ok (.d (.bl m)) S' := hin
          rw [hm] at hin'
          have : bodyC [some (.d (.tup es)), some (.d (.int i)), y, none] S' = .ex (exS (.int i)) [some (.d (.tup es)), some (.d (.int i)), some (.d (.lst K1)), none] S' := by
            simp [bodyC, hc, lo, lo', c1, h6, hx, hp, hin', ra]
          exact ⟨⟨_, this⟩, congrArg stopsFl this⟩
    · rw [Bool.or_eq_false_iff, Bool.or_eq_false_iff] at hq
      obtain ⟨q6, q1, q2⟩ := hq
      rw [q6] at h6
      have hpb : pairB es[i] = true := by simpa using q1
      rw [hpb] at hp
      obtain ⟨c, s, ec, _⟩ := pair_iff hpb
      rw [ec] at hin hp hx
      have hin' : gIn0D false (.str [c]) (.lst K1) S' = .ok (.d (.bl m)) S' := hin
      rw [q2] at hin'
      refine ⟨[some (.d (.tup es)), some (.d (.int i)), some (.d (.lst K1)), none], S', ?_, rfl, _, _, rfl⟩
      simp [bodyC, hc, lo, lo', c1, h6, hx, hp, hin']) es.length 0 [some (.d (.tup es)), none, none, none] S (by omega) (fun j hj => absurd hj (by omega)) ⟨rfl, _, _, rfl⟩
  rw [List.drop_zero, lr] at key
  rcases key with ⟨k, h1, h2, h3, ρ', h4⟩ | ⟨h1, ρ', S', h2, rfl, x, y, rfl⟩
  · exact .inl ⟨k, h1, h2, h3, ρ', h4⟩
  · exact .inr ⟨h1, x, y, h2⟩
/-- what is told of a value: none, if it is right -/
inductive Told : D → Option D → Prop
  | no {v : D} (h : isTupE v = false) : Told v (some .non)
  | nil : Told (.tup []) (some .non)
  | at_ {es : List D} {k : Nat} (hk : k < es.length) (h : ∀ j, j < k → badK es j = false) (b : badK es k = true) : Told (.tup es) (some (.int k))
  | one {e : D} (h : badK [e] 0 = false) : Told (.tup [e]) (some (.int 1))
  | ok {es : List D} (h2 : 2 ≤ es.length) (h : ∀ j, j < es.length → badK es j = false) : Told (.tup es) none
def vOk (v : D) : Prop := flatE v = true ∧ ∀ es, v = .tup es → vTup es
theorem told_any {v : D} (hv : vOk v) : ∃ t, Told v t := by
  cases v with
  | tup es =>
    cases es with
    | nil => exact ⟨_, .nil⟩
    | cons e es =>
      rcases loopC (S := []) (hv.2 _ rfl) with ⟨k, h1, h2, h3, _⟩ | ⟨h1, _⟩
      · exact ⟨_, .at_ h1 h2 h3⟩
      · cases es with
        | nil => exact ⟨_, .one (h1 0 (by simp))⟩
        | cons e2 es => exact ⟨_, .ok (by simp) h1⟩
  | _ => first | exact ⟨_, .no rfl⟩ | cases hv.1
def ckR (t : Option D) (S : Store) : DL.R W := match t with
  | some d => .ex (exS d) S
  | none => .ok (.d .non) S
theorem bad_uniq {es : List D} {k j : Nat} (h1 : ∀ i, i < k → badK es i = false) (h2 : badK es k = true) (h3 : ∀ i, i < j → badK es i = false) (h4 : badK es j = true) : k = j := by
  rcases Nat.lt_trichotomy k j with h | h | h
  · rw [h3 k h] at h2; cases h2
  · exact h
  · rw [h1 j h] at h4; cases h4
theorem check_any {v : D} {t : Option D} {S : Store} (hv : vOk v) (ht : Told v t) : F_check_signs [.d v] S = ckR t S := by
  have hT : S.take S.length = S := List.take_length
  have e := isi_tupE hv.1 (S := S)
  have lo0 : lenOk 0 = true := lenOk_of (by omega)
  have raN : ∀ v : W, fRaise "InvalidSigns" "index" (fCons (fK (.d .non)) fNil) [some v, none, none, none] S = .ex (exS .non) [some v, none, none, none] S := fun v => raise_d rfl
  cases ht with
  | no h => rw [h] at e; simp [F_check_signs, fnK_go, G_check_signs, e, hT, raN, ckR]
  | nil => 
    simp [F_check_signs, fnK_go, G_check_signs, e, isTupE, eqE_tup, hT, lo0, raN, ckR]
  | @at_ es k hk h b =>
    have hv := hv.2 _ rfl
    have hz := hv.1
    have sm : small62 (es.length : Int) = true := small_nat (by omega)
    have lo : lenOk es.length = true := lenOk_of (by omega)
    have ne : ¬ es = [] := fun z => by subst z; simp at *
    rcases loopC (S := S) hv with ⟨k', h1, h2, h3, ρ', h4⟩ | ⟨h1, _⟩
    · have ek := bad_uniq h2 h3 h b
      subst ek
      have h4' := h4
      unfold bodyC at h4'
      simp [F_check_signs, fnK_go, G_check_signs, e, isTupE, eqE_tup, hT, lo0, ne, lo, sm, h4', ckR]
    · rw [h1 k hk] at b; cases b
  | @one e0 h =>
    have hv := hv.2 _ rfl
    rcases loopC (S := S) hv with ⟨k', h1, h2, h3, ρ', h4⟩ | ⟨h1, x, y, h4⟩
    · have : k' = 0 := by simp at h1; omega
      subst this
      rw [h] at h3; cases h3
    · have h4' := h4
      unfold bodyC at h4'
      have r1 : fRaise "InvalidSigns" "index" (fCons (fCall gLen (fCons (fVar 0) fNil)) fNil) [some (.d (.tup [e0])), x, y, none] S = .ex (exS (.int 1)) [some (.d (.tup [e0])), x, y, none] S := raise_d rfl
      have h4' : forD (gSet 1) _ (rangeD 0 1) _ S = _ := h4'
      have sm1 : small62 1 = true := rfl
      have lo1 : lenOk 1 = true := lenOk_of (by omega)
      simp [F_check_signs, fnK_go, G_check_signs, e, isTupE, eqE_tup, hT, lo0, lo1, sm1, h4', r1, ckR]
  | @ok es h2 h =>
    have hv := hv.2 _ rfl
    have hz := hv.1
    have sm : small62 (es.length : Int) = true := small_nat (by omega)
    have lo : lenOk es.length = true := lenOk_of (by omega)
    have ne : ¬ es = [] := fun z => by subst z; simp at *
    have l2 : ¬ ((es.length : Int) < 2) := by omega
    rcases loopC (S := S) hv with ⟨k', h1, _, h3, ρ', h4⟩ | ⟨h1, x, y, h4⟩
    · rw [h k' h1] at h3; cases h3
    · have h4' := h4
      unfold bodyC at h4'
      simp [F_check_signs, fnK_go, G_check_signs, e, isTupE, eqE_tup, hT, lo0, ne, lo, sm, h4', l2, ckR]
end W03
end
section
/-! k03: what the law makes of any value; what is shown of an error -/
namespace W03
open PySem PySem.Spec PyProof.Rows L2 DL PP PA
theorem are_figs_all {d : D} {S : Store} (h : flatE d = true) (hz : szE d = true) : F__law_are_figs [.d d] S = .ok (.d (.bl (looksB d))) S := by
  have hT : S.take S.length = S := List.take_length
  have e := isi_strE h (S := S)
  cases d with
  | str s =>
    have hz : s.length ≤ 1000 := Nat.le_of_ble_eq_true hz
    have lo : lenOk s.length = true := lenOk_of (by omega)
    by_cases p0 : s = []
    · subst p0
      simp [F__law_are_figs, fnK_go, G__law_are_figs, e, hT, isStrE, looksB, looksN]
    have pn : (s == []) = false := by cases s with | nil => exact absurd rfl p0 | cons => rfl
    have pe : s.isEmpty = false := by cases s with | nil => exact absurd rfl p0 | cons => rfl
    have c1 := compD_fil (t := .name 1) (tt := T__law_are_figs_1) (f := fVar 1) (ρ := [some (.d (.str s)), none]) (S := S) (mk := fun c => D.str [c]) (r := fun c => D.str [c]) (p := fun c => decide (c ∈ s)) digits (fun c hc => by
      have hin : gIn0D false (.str [c]) (.str s) S = .ok (.d (.bl (decide (c ∈ s)))) S := by rw [in_ch, Bool.false_xor]
      generalize decide (c ∈ s) = b at *
      cases b <;> simp [T__law_are_figs_1, -in_ch, hin])
    have hl : gList [.d (.str s)] S = .ok (.d (.lst (ones' s))) S := by simp [ones', lo]
    have hq : gEqD (.lst (ones' s)) (.lst (ones' (digits.filter fun c => decide (c ∈ s)))) S = .ok (.d (.bl (looksN s))) S := by
      rw [eq_D, if_pos eqOk_ones, looksN_fil, pe]
      have : deq (.lst (ones' s)) (.lst (ones' (digits.filter fun c => decide (c ∈ s)))) = decide (s = digits.filter fun c => decide (c ∈ s)) := by
        rw [deq, deq_ones2]
      rw [this]; rfl
    have c1' : compD (.name 1) T__law_are_figs_1 (fVar 1) [some (.d (.str s)), none] [.str [48], .str [49], .str [50], .str [51], .str [52], .str [53], .str [54], .str [55]] S = .ok (ones' (digits.filter fun c => decide (c ∈ s))) S := c1
    have g0 : gEqD (.str s) (.str []) S = .ok (.d (.bl false)) S := by rw [eq_D, if_pos (by rfl), deq_str, pn]
    show _ = R.ok (W.d (.bl (looksN s))) S
    generalize ones' (digits.filter fun c => decide (c ∈ s)) = L1 at *
    generalize looksN s = b at *
    simp [F__law_are_figs, fnK_go, G__law_are_figs, e, hT, isStrE, pn, -lst_w, -eq_D, g0, hl, c1', hq, lenOk_of]
  | _ => first | (simp [F__law_are_figs, fnK_go, G__law_are_figs, e, hT, isStrE, looksB]; done) | cases h
theorem mem_abc {c : Nat} : c ∈ abc ↔ 97 ≤ c ∧ c ≤ 122 := by
  have e : abc = (List.range 26).map (· + 97) := by decide
  rw [e, List.mem_map]
  refine ⟨fun ⟨a, h, e⟩ => ?_, fun h => ⟨c - 97, ?_, by omega⟩⟩
  · have := List.mem_range.mp h; omega
  · exact List.mem_range.mpr (by omega)
theorem is_glyph_all {d : D} {S : Store} (h : flatE d = true) (hz : szE d = true) : F__law_is_glyph [.d d] S = .ok (.d (.bl (letB d))) S := by
  have hT : S.take S.length = S := List.take_length
  have e := isi_strE h (S := S)
  cases d with
  | str s =>
    have hz : s.length ≤ 1000 := Nat.le_of_ble_eq_true hz
    have lo : lenOk s.length = true := lenOk_of (by omega)
    match s with
    | [] => simp [F__law_is_glyph, fnK_go, G__law_is_glyph, e, hT, isStrE, letB]
    | [c] =>
      have lo1 : lenOk 1 = true := lenOk_of (by omega)
      show _ = R.ok (W.d (.bl (decide (c ∈ abc)))) S
      have q1 : decide (([c] : List Nat) < [97]) = !decide (97 ≤ c) := by
        by_cases q : c < 97
        · rw [decide_eq_true (by simp [List.cons_lt_cons_iff, q]), decide_eq_false (by omega)]; rfl
        · rw [decide_eq_false (by simp [List.cons_lt_cons_iff, q]), decide_eq_true (by omega)]; rfl
      have q2 : decide (([122] : List Nat) < [c]) = !decide (c ≤ 122) := by
        by_cases q : 122 < c
        · rw [decide_eq_true (by simp [List.cons_lt_cons_iff, q]), decide_eq_false (by omega)]; rfl
        · rw [decide_eq_false (by simp [List.cons_lt_cons_iff, q]), decide_eq_true (by omega)]; rfl
      have q3 : decide (c ∈ abc) = (decide (97 ≤ c) && decide (c ≤ 122)) := by
        rw [Bool.eq_iff_iff, decide_eq_true_eq, Bool.and_eq_true, decide_eq_true_eq, decide_eq_true_eq]; exact mem_abc
      rw [q3]
      have g1 : gLe (.d (.str [97])) (.d (.str [c])) S = .ok (.d (.bl (decide (97 ≤ c)))) S := by rw [le_str', q1, Bool.not_not]
      have g2 : gLe (.d (.str [c])) (.d (.str [122])) S = .ok (.d (.bl (decide (c ≤ 122)))) S := by rw [le_str', q2, Bool.not_not]
      generalize decide (97 ≤ c) = b1 at *
      generalize decide (c ≤ 122) = b2 at *
      cases b1 <;> simp [F__law_is_glyph, fnK_go, G__law_is_glyph, e, hT, isStrE, lo1, -le_str', g1, g2]
    | a :: b :: s =>
      have n1 : ((s.length : Int) + 1 + 1 == 1) = false := beq_eq_false_iff_ne.mpr (by omega)
      have lo' : lenOk (s.length + 1 + 1) = true := lo
      simp [F__law_is_glyph, fnK_go, G__law_is_glyph, e, hT, isStrE, lo', letB, n1]
  | _ => first | (simp [F__law_is_glyph, fnK_go, G__law_is_glyph, e, hT, isStrE, letB]; done) | cases h
abbrev sgs : List Nat := [115, 105, 103, 110, 115]
def dueK (k : Nat) : D := .lst [.str sgs, .str (shI (k : Int))]
theorem slipBody {es : List D} {S : Store} {i : Nat} {y : Option W} (hv : vTup es) (hi : i < es.length) (hq : ∀ j, j < i → badK es j = false) :
    (badK es i = true → B__law_sign_slip_2 [some (.d (.tup es)), some (.d (.int i)), y, none] S = .rt (.d (dueK i)) S) ∧
    (badK es i = false → ∃ z, B__law_sign_slip_2 [some (.d (.tup es)), some (.d (.int i)), y, none] S = .nx [some (.d (.tup es)), some (.d (.int i)), z, none] S) := by
  have hz := hv.1
  have loT : lenOk 2 = true := lenOk_of (by omega)
  have pr := bad_pairs hq (by omega)
  have hc : cutL es none (some (i : Int)) = es.take i := cut_to
  have lo : lenOk (es.take i).length = true := lenOk_of (by rw [List.length_take]; omega)
  have lo' : lenOk (min i es.length) = true := lenOk_of (by omega)
  have hx : ixA es (i : Int) = some es[i] := by rw [ixA_nat, List.getElem?_eq_getElem hi]
  have gd : es.getD i .non = es[i] := by rw [List.getD_eq_getElem?_getD, List.getElem?_eq_getElem hi]; rfl
  have hb : badK es i = (decide (i = 6) || (!pairB es[i] || decide (chD es[i] ∈ (es.take i).map chD))) := by unfold badK; rw [gd]
  have h6 : ((i : Int) == 6) = decide (i = 6) := by rw [Bool.eq_iff_iff, beq_iff_eq, decide_eq_true_eq]; omega
  have ok := hv.2 es[i] (List.getElem_mem _)
  have rp : gRepr [.d (.int (i : Int))] S = .ok (.d (.str (shI i))) S := repr_int (nat_log (by omega))
  have hin := fun c => in_strs (S := S) (neg := false) (c := c) (l := (es.take i).map chD)
  have c1 := known (i := i) (s := 3) (f := E__law_sign_slip_1) (ρ := [some (.d (.tup es)), some (.d (.int i)), some (.d es[i]), none]) (S := S) pr (fun d hd => by
      obtain ⟨c, s, rfl, _⟩ := pair_iff hd
      simp [E__law_sign_slip_1, chD])
  rw [hb]
  clear hb gd
  generalize es[i] = x at *
  generalize hK : (((es.take i).map chD).map fun c => D.str [c]) = K1 at *
  have hin : ∀ c, gIn0D false (.str [c]) (.lst K1) S = .ok (.d (.bl (decide (c ∈ (es.take i).map chD)))) S := fun c => by
    have := hin c; rwa [Bool.false_xor] at this
  by_cases q6 : decide (i = 6) = true
  · rw [q6] at h6 ⊢
    refine ⟨fun _ => ?_, fun h => by simp at h⟩
    simp [B__law_sign_slip_2, hx, h6, loT, rp, dueK]
  have q6 := Bool.eq_false_iff.mpr q6
  rw [q6] at h6 ⊢
  rw [Bool.false_or]
  have it := isi_tupE (S := S) (okP_flat ok)
  by_cases hx2 : ∃ a b, x = .tup [a, b]
  · obtain ⟨a, b, rfl⟩ := hx2
    have h' : (Nat.ble [a, b].length 1000 && [a, b].all okE) = true := ok
    rw [Bool.and_eq_true, List.all_eq_true] at h'
    obtain ⟨fa, za⟩ := okE_ok (h'.2 a (by simp))
    obtain ⟨fb, zb⟩ := okE_ok (h'.2 b (by simp))
    have e1 := is_glyph_all (S := S) fa za
    have e2 := are_figs_all (S := S) fb zb
    have hp : pairB (.tup [a, b]) = (letB a && looksB b) := rfl
    have lo2 : lenOk 2 = true := lenOk_of (by omega)
    rw [hp]
    cases hb : looksB b with
    | false =>
      rw [hb] at e2
      refine ⟨fun _ => ?_, fun h => by simp at h⟩
      simp [B__law_sign_slip_2, hx, h6, it, isTupE, lo2, e2, loT, rp, dueK]
    | true =>
      rw [hb] at e2
      cases ha : letB a with
      | false =>
        rw [ha] at e1
        refine ⟨fun _ => ?_, fun h => by simp at h⟩
        simp [B__law_sign_slip_2, hx, h6, it, isTupE, lo2, e1, e2, loT, rp, dueK]
      | true =>
        rw [ha] at e1
        match a, ha with
        | .str [c], _ =>
          have hc2 : chD (.tup [.str [c], b]) = c := rfl
          rw [hc2]
          have hi2 := hin c
          generalize decide (c ∈ (es.take i).map chD) = m at *
          cases m
          · refine ⟨fun h => by simp at h, fun _ => ⟨some (.d (.tup [.str [c], b])), ?_⟩⟩
            simp [B__law_sign_slip_2, hx, h6, it, isTupE, lo2, e1, e2, hc, lo, lo', c1, hi2]
          · refine ⟨fun _ => ?_, fun h => by simp at h⟩
            simp [B__law_sign_slip_2, hx, h6, it, isTupE, lo2, e1, e2, hc, lo, lo', c1, hi2, loT, rp, dueK]
  · have hp : pairB x = false := by
      cases hp : pairB x with
      | false => rfl
      | true =>
        obtain ⟨c, s, e, _⟩ := pair_iff hp
        exact absurd ⟨_, _, e⟩ hx2
    rw [hp]
    refine ⟨fun _ => ?_, fun h => by simp at h⟩
    cases x with
    | tup xs =>
      have h' : (Nat.ble xs.length 1000 && xs.all okE) = true := ok
      rw [Bool.and_eq_true] at h'
      have hz2 := Nat.le_of_ble_eq_true h'.1
      have lo2 : lenOk xs.length = true := lenOk_of (by omega)
      have n2 : ((xs.length : Int) == 2) = false := beq_eq_false_iff_ne.mpr (fun z => by
        have : xs.length = 2 := by omega
        match xs, this with
        | [a, b], _ => exact hx2 ⟨a, b, rfl⟩)
      simp [B__law_sign_slip_2, hx, h6, it, isTupE, lo2, n2, loT, rp, dueK]
    | _ => simp [B__law_sign_slip_2, hx, h6, it, isTupE, loT, rp, dueK]
def rpD : D → List Nat
  | .int i => shI i
  | _ => [78, 111, 110, 101]
def dueR : Option D → D
  | some d => .lst [.str sgs, .str (rpD d)]
  | none => .lst []
theorem slip_any {v : D} {t : Option D} {S : Store} (hv : vOk v) (ht : Told v t) : F__law_sign_slip [.d v] S = .ok (.d (dueR t)) S := by
  have hT : S.take S.length = S := List.take_length
  have e := isi_tupE hv.1 (S := S)
  have lo0 : lenOk 0 = true := lenOk_of (by omega)
  have loT : lenOk 2 = true := lenOk_of (by omega)
  have loop : ∀ {es : List D}, vTup es → (∃ k, k < es.length ∧ (∀ j, j < k → badK es j = false) ∧ badK es k = true ∧ forD (gSet 1) B__law_sign_slip_2 (rangeD 0 es.length) [some (.d (.tup es)), none, none, none] S = .rt (.d (dueK k)) S) ∨
      ((∀ j, j < es.length → badK es j = false) ∧ ∃ x y, forD (gSet 1) B__law_sign_slip_2 (rangeD 0 es.length) [some (.d (.tup es)), none, none, none] S = .nx [some (.d (.tup es)), x, y, none] S) := fun {es} hv => by
    have lr : (rangeD 0 es.length).length = es.length := by rw [range0]; simp
    have key := forD_stop (g := gSet 1) (b := B__law_sign_slip_2) (all := rangeD 0 es.length) (fun i ρ S' => S' = S ∧ ∃ x y, ρ = [some (.d (.tup es)), x, y, none]) (badK es) (fun k r => r = .rt (.d (dueK k)) S) (by
      rintro i d ρ S' hd hq ⟨rfl, x, y, rfl⟩
      obtain ⟨hi, rfl⟩ := range_get hd
      obtain ⟨h1, h2⟩ := slipBody (S := S') (y := y) hv hi hq
      refine ⟨_, _, rfl, fun hb => ⟨h1 hb, congrArg stopsFl (h1 hb)⟩, fun hb => ?_⟩
      obtain ⟨z, h3⟩ := h2 hb
      exact ⟨_, _, h3, rfl, _, _, rfl⟩) es.length 0 [some (.d (.tup es)), none, none, none] S (by omega) (fun j hj => absurd hj (by omega)) ⟨rfl, _, _, rfl⟩
    rw [List.drop_zero, lr] at key
    rcases key with ⟨k, h1, h2, h3, h4⟩ | ⟨h1, ρ', S', h2, rfl, x, y, rfl⟩
    · exact .inl ⟨k, h1, h2, h3, h4⟩
    · exact .inr ⟨h1, x, y, h2⟩
  cases ht with
  | no h => rw [h] at e; simp [F__law_sign_slip, fnK_go, G__law_sign_slip, loT, e, hT, dueR, rpD]
  | nil => simp [F__law_sign_slip, fnK_go, G__law_sign_slip, loT, e, isTupE, eqE_tup, hT, lo0, dueR, rpD]
  | @at_ es k hk h b =>
    have hv := hv.2 _ rfl
    have hz := hv.1
    have sm : small62 (es.length : Int) = true := small_nat (by omega)
    have lo : lenOk es.length = true := lenOk_of (by omega)
    have ne : ¬ es = [] := fun z => by subst z; simp at *
    rcases loop hv with ⟨k', h1, h2, h3, h4⟩ | ⟨h1, _⟩
    · have ek := bad_uniq h2 h3 h b
      subst ek
      simp [F__law_sign_slip, fnK_go, G__law_sign_slip, loT, e, isTupE, eqE_tup, hT, lo0, ne, lo, sm, h4, dueR, dueK, rpD]
    · rw [h1 k hk] at b; cases b
  | @one e0 h =>
    have hv := hv.2 _ rfl
    have sm1 : small62 1 = true := rfl
    have lo1 : lenOk 1 = true := lenOk_of (by omega)
    rcases loop hv with ⟨k', h1, h2, h3, h4⟩ | ⟨h1, x, y, h4⟩
    · have : k' = 0 := by simp at h1; omega
      subst this
      rw [h] at h3; cases h3
    · have h4' : forD (gSet 1) _ (rangeD 0 1) _ S = _ := h4
      have s1 : shI 1 = [49] := by decide +kernel
      simp [F__law_sign_slip, fnK_go, G__law_sign_slip, loT, e, isTupE, eqE_tup, hT, lo0, lo1, sm1, h4', dueR, rpD, s1]
  | @ok es h2 h =>
    have hv := hv.2 _ rfl
    have hz := hv.1
    have sm : small62 (es.length : Int) = true := small_nat (by omega)
    have lo : lenOk es.length = true := lenOk_of (by omega)
    have ne : ¬ es = [] := fun z => by subst z; simp at *
    have n1 : ((es.length : Int) == 1) = false := beq_eq_false_iff_ne.mpr (by omega)
    rcases loop hv with ⟨k', h1, _, h3, h4⟩ | ⟨h1, x, y, h4⟩
    · rw [h k' h1] at h3; cases h3
    · simp [F__law_sign_slip, fnK_go, G__law_sign_slip, loT, e, isTupE, eqE_tup, hT, lo0, ne, lo, sm, h4, n1, dueR]
/-! what is shown -/
theorem bases {d : D} {S : Store} : F__law_bases [.d (.exn "InvalidSigns" ["index"] [d])] S = .ok (.d (.lst [.bl true, .bl false, .bl false])) S := by
  have i1 : ∀ S, gIsx errs isX isT subE subT [.d (.exn "InvalidSigns" ["index"] [d]), .glo "WrongValue"] S = .ok (.d (.bl true)) S := fun _ => rfl
  have i2 : ∀ S, gIsx errs isX isT subE subT [.d (.exn "InvalidSigns" ["index"] [d]), .ty "ValueError"] S = .ok (.d (.bl true)) S := fun _ => rfl
  have i3 : ∀ S, gIsx errs isX isT subE subT [.d (.exn "InvalidSigns" ["index"] [d]), .glo "WrongName"] S = .ok (.d (.bl false)) S := fun _ => rfl
  have i4 : ∀ S, gIsx errs isX isT subE subT [.d (.exn "InvalidSigns" ["index"] [d]), .glo "NotPossible"] S = .ok (.d (.bl false)) S := fun _ => rfl
  have at_ : (S ++ [Cell.lst [.bl true]])[S.length]? = some (.lst [.bl true]) := by simp
  have ht := tyW_cell at_
  have ap : gAppend [.loc S.length, .d (.bl false)] (S ++ [.lst [.bl true]]) = .ok (.d .non) (S ++ [.lst [.bl true, .bl false]]) := by
    rw [append_at at_ (by simp)]; simp
  simp [F__law_bases, fnK_go, G__law_bases, i1, i2, i3, i4, ht, ap, lenOk_of]
theorem shown {d : D} {S : Store} (hd : ∃ t, d = t ∧ gRepr [.d d] S = .ok (.d (.str (rpD d))) S) : F__law_shown [.d (.exn "InvalidSigns" ["index"] [d])] S = .ok (.d (.lst [.str sgs, .str (rpD d)])) S := by
  obtain ⟨_, _, hr⟩ := hd
  have hT : S.take S.length = S := List.take_length
  have i1 : gIsx errs isX isT subE subT [.d (.exn "InvalidSigns" ["index"] [d]), .glo "InvalidSigns"] S = .ok (.d (.bl true)) S := rfl
  have b := bases (d := d) (S := S)
  have x1 : fExA errs "index" (fVar 0) [some (.d (.exn "InvalidSigns" ["index"] [d]))] S = .ok (.d d) S := rfl
  have q : eqOk (.lst [.bl true, .bl false, .bl false]) (.lst [.bl true, .bl false, .bl false]) = true := rfl
  have q2 : deq (.lst [.bl true, .bl false, .bl false]) (.lst [.bl true, .bl false, .bl false]) = true := by simp [deq, deqs]
  simp [F__law_shown, fnK_go, G__law_shown, i1, b, x1, hr, hT, q, q2, lenOk_of]
end W03
end
section
/-! k03: the lambda; what is drawn; the law -/
namespace W03
open PySem PySem.Spec PyProof.Rows L2 DL PP PA
/-- the store: the table, nothing else that an error is in -/
structure PX (S : Store) : Prop where
  tb : S[0]? = some (.tab "_law_right")
  no : S.all noXC = true
theorem PX.oth {n : Nat} {S S' : Store} (h : PX S) (hn : 1 ≤ n) (j : Jar n S') (o : Oth n S S') : PX S' := by
  refine ⟨by rw [o.at_ 0 (by omega)]; exact h.tb, ?_⟩
  rw [List.all_eq_true]
  intro c hc
  obtain ⟨i, hi, rfl⟩ := List.getElem_of_mem hc
  by_cases q : i = n
  · subst q
    obtain ⟨a, b, c, _, e⟩ := j
    rw [List.getElem?_eq_getElem hi] at e
    rw [Option.some.inj e]; rfl
  · have e := o.at_ i q
    rw [List.getElem?_eq_getElem hi, List.getElem?_eq_getElem (by rw [← o.len]; exact hi)] at e
    rw [Option.some.inj e]
    exact List.all_eq_true.mp h.no _ (List.getElem_mem _)
def mkR (v : D) (t : Option D) (S : Store) : DL.R W := match t with
  | some d => .ex (exS d) S
  | none => .ok (.d (.ins "Line" ["lot"] [v])) S
theorem init_any {v : D} {t : Option D} {S : Store} (hv : vOk v) (ht : Told v t) : fMk "Line" (fun l => F_Line___init__ (perm [0, 1] l)) [.d v] S = mkR v t S := by
  have e := check_any (S := S ++ [.ins "Line" [] []]) hv ht
  have pe : perm [0, 1] [W.loc S.length, .d v] = [W.loc S.length, .d v] := rfl
  cases t with
  | some d =>
    have hT : (S ++ [Cell.ins "Line" [] []]).take (S.length + 1) = S ++ [.ins "Line" [] []] := List.take_of_length_le (by simp)
    have hi : F_Line___init__ [.loc S.length, .d v] (S ++ [.ins "Line" [] []]) = .ex (exS d) (S ++ [.ins "Line" [] []]) := by
      simp [F_Line___init__, fnK_go, G_Line___init__, e, ckR, hT]
    have hi' : (fun l => F_Line___init__ (perm [0, 1] l)) (.loc S.length :: [.d v]) (S ++ [.ins "Line" [] []]) = _ := hi
    unfold fMk
    rw [hi']
    simp [mkR]
  | none =>
    have g : (S ++ [Cell.ins "Line" [] []])[S.length]? = some (.ins "Line" [] []) := by simp
    have w : wrFld "Line" "lot" (.loc S.length) (.d v) (S ++ [.ins "Line" [] []]) = some (S ++ [.ins "Line" ["lot"] [v]]) := by
      simp [wrFld, putN, putNv]
    have s : fSetF "Line" "lot" (fVar 0) (fVar 1) [some (.loc S.length), some (.d v)] (S ++ [.ins "Line" [] []]) = .nx [some (.loc S.length), some (.d v)] (S ++ [.ins "Line" ["lot"] [v]]) := by
      unfold fSetF
      simp [w]
    have hi : F_Line___init__ [.loc S.length, .d v] (S ++ [.ins "Line" [] []]) = .ok (.d .non) (S ++ [.ins "Line" ["lot"] [v]]) := by
      have hT : (S ++ [Cell.ins "Line" ["lot"] [v]]).take (S.length + 1) = S ++ [.ins "Line" ["lot"] [v]] := List.take_of_length_le (by simp)
      simp [F_Line___init__, fnK_go, G_Line___init__, e, ckR, s, hT]
    have hi' : (fun l => F_Line___init__ (perm [0, 1] l)) (.loc S.length :: [.d v]) (S ++ [.ins "Line" [] []]) = _ := hi
    unfold fMk
    rw [hi']
    simp [mkR]
theorem lam_any {ρ : DL.Env} {v : D} {t : Option D} {S : Store} (h2 : ρ[2]? = some (some (.d v))) (hv : vOk v) (ht : Told v t) : E__law_right_3 ρ S = mkR v t S := by
  have e := init_any (S := S) hv ht
  have v2 : fVar 2 ρ S = .ok (.d v) S := ev_var h2
  simp [E__law_right_3, v2, e]
theorem told_repr {v d : D} {S : Store} (hv : vOk v) (ht : Told v (some d)) : gRepr [.d d] S = .ok (.d (.str (rpD d))) S := by
  cases ht with
  | no _ => exact repr_non
  | nil => exact repr_non
  | @at_ es k hk _ _ => exact repr_int (nat_log (by have := (hv.2 _ rfl).1; omega))
  | one _ => exact repr_int (by decide)
def toldR (v : D) : Option D → D
  | some d => dueR (some d)
  | none => .lst [.str [116, 111, 108, 100], .ins "Line" ["lot"] [v]]
theorem caught_any {ρ : DL.Env} {v : D} {t : Option D} {S : Store} (px : PX S) (h2 : ρ[2]? = some (some (.d v))) (hv : vOk v) (ht : Told v t) :
    fCaught 0 "_law_right" [116, 111, 108, 100] F__law_shown errs (fun _ => true) E__law_right_3 ρ S = .ok (.d (toldR v t)) S := by
  have e := lam_any (S := S) h2 hv ht
  unfold fCaught
  rw [px.tb]
  dsimp only
  rw [if_pos rfl, e]
  cases t with
  | none => rfl
  | some d =>
    have r := told_repr (S := S) hv ht
    have sh := shown (S := S) (d := d) ⟨d, rfl, r⟩
    have c : (errs.contains (exS d).cls && true) = true := rfl
    unfold mkR
    dsimp only
    rw [if_pos c]
    have sh' : F__law_shown [.d (.exn (exS d).cls (exS d).ns (exS d).vs)] S = _ := sh
    rw [sh']
    dsimp only
    rw [if_pos (by rw [px.no]; rfl)]
    rfl
/-! ### what is drawn -/
def smB : D → Bool
  | .str s => Nat.ble s.length 10
  | .non => true
  | .int i => decide (i = 0) || decide (i = 5)
  | .tup [.str [c]] => decide (c = 48) || decide (c = 97)
  | _ => false
def is2 : D → Bool
  | .tup [_, _] => true
  | _ => false
def prB : D → Bool
  | .tup [a, b] => smB a && smB b
  | _ => false
def elB (d : D) : Bool := prB d || (okP d && !is2 d)
theorem sm_ok {d : D} (h : smB d = true) : okE d = true := by
  cases d with
  | str s =>
    have : s.length ≤ 10 := Nat.le_of_ble_eq_true h
    show (true && Nat.ble s.length 1000) = true
    rw [Nat.ble_eq_true_of_le (by omega)]; rfl
  | _ => first | rfl | cases h
theorem pr_ok {d : D} (h : prB d = true) : okP d = true := by
  match d, h with
  | .tup [a, b], h =>
    have h' : (smB a && smB b) = true := h
    rw [Bool.and_eq_true] at h'
    show (Nat.ble 2 1000 && (okE a && (okE b && true))) = true
    rw [sm_ok h'.1, sm_ok h'.2]; rfl
theorem el_ok {d : D} (h : elB d = true) : okP d = true := by
  unfold elB at h
  rw [Bool.or_eq_true, Bool.and_eq_true] at h
  rcases h with h | h
  · exact pr_ok h
  · exact h.1
theorem pr_two {d : D} (h : prB d = true) : ∃ a b, d = .tup [a, b] ∧ smB a = true ∧ smB b = true := by
  match d, h with
  | .tup [a, b], h =>
    have h' : (smB a && smB b) = true := h
    rw [Bool.and_eq_true] at h'
    exact ⟨a, b, rfl, h'.1, h'.2⟩
theorem rp48 : reprS (.tup [.str [48]]) = some [40, 39, 48, 39, 44, 41] := by decide +kernel
theorem rp97 : reprS (.tup [.str [97]]) = some [40, 39, 97, 39, 44, 41] := by decide +kernel
theorem str_sm {a : D} {S : Store} (h : smB a = true) : ∃ t, gStrD [.d a] S = .ok (.d (.str t)) S ∧ t.length ≤ 100 := by
  match a, h with
  | .str s, h => exact ⟨s, rfl, by have : s.length ≤ 10 := Nat.le_of_ble_eq_true h; omega⟩
  | .non, _ =>
    refine ⟨[78, 111, 110, 101], ?_, by decide⟩
    show gRepr [.d .non] S = _
    exact repr_non
  | .int i, h =>
    have h' : (decide (i = 0) || decide (i = 5)) = true := h
    rw [Bool.or_eq_true, decide_eq_true_eq, decide_eq_true_eq] at h'
    have l : i.natAbs.log2 < 1920 := by rcases h' with rfl | rfl <;> decide
    refine ⟨shI i, ?_, ?_⟩
    · show gRepr [.d (.int i)] S = _
      exact repr_int l
    · rcases h' with rfl | rfl
      · have : shI 0 = [48] := by decide +kernel
        rw [this]; decide
      · have : shI 5 = [53] := by decide +kernel
        rw [this]; decide
  | .tup [.str [c]], h =>
    have h' : (decide (c = 48) || decide (c = 97)) = true := h
    rw [Bool.or_eq_true, decide_eq_true_eq, decide_eq_true_eq] at h'
    have o : reprOk (.tup [.str [c]]) = true := rfl
    rcases h' with rfl | rfl
    · refine ⟨[40, 39, 48, 39, 44, 41], ?_, by decide⟩
      show gRepr [.d (.tup [.str [48]])] S = _
      simp only [gRepr, val_d, o, if_true, rp48]
      rfl
    · refine ⟨[40, 39, 97, 39, 44, 41], ?_, by decide⟩
      show gRepr [.d (.tup [.str [97]])] S = _
      simp only [gRepr, val_d, o, if_true, rp97]
      rfl
abbrev oddL : List D := [.non, .bl true, .bl false, .int 0, .int 1, .int (-1), .int 2, .int 1000000000000000000000000000000, .str [], .str [48], .str [97], .str [48, 49], .str [97, 32, 48], .tup [], .tup [.str [97]], .tup [.str [97], .str [48]], .lst [.str [97]], .lst [], .dct [] [], .dct [.str [97]] [.int 1], .tup [.non, .int 0], .str [97, 32, 48, 10, 98, 32, 49], .tup [.tup [.str [97], .str [48]]], .tup [.str [48], .str [48]], .lst [.lst []], .tup [.tup []], .str [65], .str [56]]
theorem odd {n : Nat} {S : Store} (j : Jar n S) : ∃ d S', F__law_odd [.loc n] S = .ok (.d d) S' ∧ d ∈ oddL ∧ Jar n S' ∧ Oth n S S' := by
  obtain ⟨d, S', e, hd, j', o'⟩ := pick (menu := oddL) j (by simp) (by simp)
  have hT : S'.take S.length = S' := oth_take o'
  refine ⟨d, S', ?_, hd, j', o'⟩
  have d0 : ∀ ρ : DL.Env, ∀ S : Store, fDct0 ρ S = .ok (.d (.dct [] [])) S := fun _ _ => rfl
  have d1 : ∀ ρ : DL.Env, ∀ S : Store, fDct1 [97] 1 ρ S = .ok (.d (.dct [.str [97]] [.int 1])) S := fun _ _ => rfl
  simp [F__law_odd, fnK_go, G__law_odd, lenOk_of, d0, d1, e, hT]
theorem odd_el {d : D} (h : d ∈ oddL) : elB d = true := List.all_eq_true.mp (by decide : oddL.all elB = true) d h
def vB : D → Bool
  | .tup es => Nat.ble es.length 1000 && es.all okP
  | d => flatE d
theorem vB_ok {v : D} (h : vB v = true) : vOk v := by
  cases v with
  | tup es =>
    have h' : (Nat.ble es.length 1000 && es.all okP) = true := h
    rw [Bool.and_eq_true, List.all_eq_true] at h'
    refine ⟨rfl, fun ds e => ?_⟩
    cases e
    exact ⟨Nat.le_of_ble_eq_true h'.1, h'.2⟩
  | _ => exact ⟨h, fun ds e => by cases e⟩
theorem odd_v {d : D} (h : d ∈ oddL) : vOk d := vB_ok (List.all_eq_true.mp (by decide : oddL.all vB = true) d h)
end W03
end
section
/-! k03: the law -/
namespace W03
open PySem PySem.Spec PyProof.Rows L2 DL PP PA
structure VL (es : List D) : Prop where
  lo : 1 ≤ es.length
  hi : es.length ≤ 12
  el : ∀ d ∈ es, elB d = true
theorem ixA_m1 {α : Type} {xs : List α} (h : 1 ≤ xs.length) : ixA xs (-1) = xs[xs.length - 1]? := by
  unfold ixA atI ixN
  have e1 : ¬ ((0 : Int) ≤ -1) := by omega
  simp [e1]
  have : (0 : Int) ≤ -1 + (xs.length : Int) := by omega
  have e2 : (-1 + (xs.length : Int)).toNat = xs.length - 1 := by omega
  have h1 : (1 : Int) ≤ (xs.length : Int) := by omega
  simp [this, e2, h1]
theorem bent {n : Nat} {S : Store} {es : List D} (j : Jar n S) (lo : 1 ≤ es.length) (hi : es.length ≤ 12) (hp : ∀ d ∈ es, prB d = true) :
    ∃ es' S', F__law_bent [.loc n, .d (.tup es)] S = .ok (.d (.tup es')) S' ∧ VL es' ∧ Jar n S' ∧ Oth n S S' := by
  obtain ⟨at_, S1, e1, a0, a1, j1, o1⟩ := dip (wide := (es.length : Int)) j (by omega) (by omega)
  obtain ⟨k, rfl⟩ : ∃ k : Nat, at_ = (k : Int) := ⟨at_.toNat, by omega⟩
  have hk : k < es.length := by omega
  have lok : lenOk es.length = true := lenOk_of (by omega)
  have hx : ixA es (k : Int) = some es[k] := by rw [ixA_nat, List.getElem?_eq_getElem hk]
  obtain ⟨a, b, ek, sa, sb⟩ := pr_two (hp es[k] (List.getElem_mem _))
  have h0 : 0 < es.length := by omega
  have hx0 : es[0]? = some es[0] := List.getElem?_eq_getElem h0
  obtain ⟨a0', b0, e0, s0, _⟩ := pr_two (hp es[0] (List.getElem_mem _))
  have hl : es.length - 1 < es.length := by omega
  have hxl : ixA es (-1) = some es[es.length - 1] := by rw [ixA_m1 lo, List.getElem?_eq_getElem hl]
  obtain ⟨al, bl', el, sl, _⟩ := pr_two (hp (es[es.length - 1]) (List.getElem_mem _))
  obtain ⟨f, S2, e2, hf, j2, o2⟩ := pick (menu := [.str [], .str [49, 48], .str [56], .str [48, 48], .str [48, 32], .non, .int 5, .tup [.str [48]], .str [97], .str [48, 49, 50, 51, 52, 53, 54, 55, 56], .str [55], b]) j1 (by simp) (by simp)
  have sf : smB f = true := by
    simp only [List.mem_cons, List.not_mem_nil, or_false] at hf
    rcases hf with rfl | rfl | rfl | rfl | rfl | rfl | rfl | rfl | rfl | rfl | rfl | rfl
    all_goals first | exact sb | decide
  obtain ⟨g, S3, e3, hg, j3, o3⟩ := pick (menu := [a0', al, .str [65], .str [], .str [97, 98], .str [49], .non, .tup [.str [97]], .str [113]]) j2 (by simp) (by simp)
  have sg : smB g = true := by
    simp only [List.mem_cons, List.not_mem_nil, or_false] at hg
    rcases hg with rfl | rfl | rfl | rfl | rfl | rfl | rfl | rfl | rfl
    all_goals first | exact s0 | exact sl | decide
  obtain ⟨od, S4, e4, hod, j4, o4⟩ := odd j3
  obtain ⟨t1, q1, z1⟩ := str_sm (S := S3) sa
  obtain ⟨t2, q2, z2⟩ := str_sm (S := S3) sb
  obtain ⟨x, S5, e5, hx5, j5, o5⟩ := pick (menu := [.tup [g, b], .tup [a, f], .tup [a, b, .str [48]], .tup [a], .lst [a, b], .str (t1 ++ [32] ++ t2), od]) j4 (by simp) (by simp)
  have elx : elB x = true := by
    simp only [List.mem_cons, List.not_mem_nil, or_false] at hx5
    rcases hx5 with rfl | rfl | rfl | rfl | rfl | rfl | rfl
    · unfold elB; rw [show prB (.tup [g, b]) = (smB g && smB b) from rfl, sg, sb]; rfl
    · unfold elB; rw [show prB (.tup [a, f]) = (smB a && smB f) from rfl, sa, sf]; rfl
    · unfold elB
      rw [show okP (.tup [a, b, .str [48]]) = (Nat.ble 3 1000 && (okE a && (okE b && (okE (.str [48]) && true)))) from rfl, sm_ok sa, sm_ok sb]; rfl
    · unfold elB
      rw [show okP (.tup [a]) = (Nat.ble 1 1000 && (okE a && true)) from rfl, sm_ok sa]; rfl
    · rfl
    · unfold elB
      rw [show okP (.str (t1 ++ [32] ++ t2)) = (true && Nat.ble (t1 ++ [32] ++ t2).length 1000) from rfl, Nat.ble_eq_true_of_le (by simp <;> omega)]; rfl
    · exact odd_el hod
  have oT : Oth n S S5 := ((((o1.trans o2).trans o3).trans o4).trans o5)
  have hT : S5.take S.length = S5 := oth_take oT
  refine ⟨es.take k ++ [x] ++ es.drop (k + 1), S5, ?_, ⟨by simp <;> omega, by simp <;> omega, fun d hd => ?_⟩, j5, oT⟩
  · have c1 : cutL es none (some (k : Int)) = es.take k := cut_to
    have c2 : cutL es (some ((k : Int) + 1)) none = es.drop (k + 1) := by
      have : ((k : Int) + 1) = ((k + 1 : Nat) : Int) := by omega
      rw [this, cut_from]
    have c3 : cutL [a, b] none (some 1) = [a] := rfl
    have lt : lenOk (t1.length + 1) = true := lenOk_of (by omega)
    have lt2 : lenOk (t1.length + 1 + t2.length) = true := lenOk_of (by omega)
    have l3 : lenOk (min k es.length + 1) = true := lenOk_of (by omega)
    have l4 : lenOk (min k es.length + 1 + (es.length - (k + 1))) = true := lenOk_of (by omega)
    rw [ek] at hx
    rw [e0] at hx0
    rw [el] at hxl
    have e5' : F__law_pick [.loc n, .d (.lst [.tup [g, b], .tup [a, f], .tup [a, b, .str [48]], .tup [a], .lst [a, b], .str (t1 ++ 32 :: t2), od])] S4 = .ok (.d x) S5 := by
      have := e5
      rw [List.append_assoc] at this
      exact this
    simp [F__law_bent, fnK_go, G__law_bent, lok, e1, hx, e2, hx0, hxl, e3, c1, c2, c3, q1, q2, e4, lt, lt2, lenOk_of, e5', l3, l4, hT]
  · rcases List.mem_append.mp hd with h | h
    · rcases List.mem_append.mp h with h | h
      · unfold elB; rw [hp d (List.mem_of_mem_take h)]; rfl
      · rw [List.mem_singleton.mp h]; exact elx
    · unfold elB; rw [hp d (List.mem_of_mem_drop h)]; rfl
theorem pr_ln (l : Ln) (h : LOk l) : ∀ d ∈ lnD l, prB d = true := fun d hd => by
  obtain ⟨p, hp, rfl⟩ := List.mem_map.mp hd
  have := (h.lk p hp).2.length_le
  show (Nat.ble 1 10 && Nat.ble p.2.length 10) = true
  rw [Nat.ble_eq_true_of_le (show p.2.length ≤ 10 by simp at this; omega)]; rfl
theorem deqs_pairs : ∀ {es : List D}, (∀ d ∈ es, pairB d = true) → deqs es es = true ∧ plainDs 60 es = true
  | [], _ => ⟨rfl, rfl⟩
  | d :: es, h => by
    obtain ⟨h1, h2⟩ := deqs_pairs (es := es) fun x hx => h x (List.mem_cons_of_mem _ hx)
    obtain ⟨c, s, rfl, _⟩ := pair_iff (h d List.mem_cons_self)
    exact ⟨by simp [deqs, deq, h1], by rw [plainDs, h2]; rfl⟩
theorem deqs_59 : ∀ {es : List D}, (∀ d ∈ es, pairB d = true) → plainDs 59 es = true
  | [], _ => rfl
  | d :: es, h => by
    have h2 := deqs_59 (es := es) fun x hx => h x (List.mem_cons_of_mem _ hx)
    obtain ⟨c, s, rfl, _⟩ := pair_iff (h d List.mem_cons_self)
    rw [plainDs, h2]; rfl
/-- the last lines of a turn -/
theorem judge {n : Nat} {S : Store} {v : D} {t : Option D} {x1 x3 x4 x5 : Option W} (px : PX S) (hv : vOk v) (ht : Told v t) :
    seqS (fPar 4 5 (fCons (fCall F__law_sign_slip (fCons (fVar 2) fNil)) (fCons (fCaught 0 "_law_right" [116, 111, 108, 100] F__law_shown errs (fun _ => true) E__law_right_3) fNil)) [some (.loc n), x1, some (.d v), x3, x4, x5, none] S)
      (fIfS (fOrB (fAndB (toB (fBin gNe (fVar 4) (fLst fNil))) (toB (fBin gNe (fVar 5) (fVar 4)))) (fAndB (toB (fBin gEqE (fVar 4) (fLst fNil))) (fOrB (toB (fBin gNe (fBin gIx (fVar 5) (fK (.d (.int 0)))) (fK (.d (.str [116, 111, 108, 100]))))) (toB (fBin gNe (fProp "Line" F_Line_signs (fBin gIx (fVar 5) (fK (.d (.int 1))))) (fVar 2)))))) (fRet (fK (.d (.bl false)))) fNext)
      = .nx [some (.loc n), x1, some (.d v), x3, some (.d (dueR t)), some (.d (toldR v t)), none] S := by
  have e1 := slip_any (S := S) hv ht
  have e2 := caught_any (S := S) (ρ := [some (.loc n), x1, some (.d v), x3, x4, x5, none]) px rfl hv ht
  have lo0 : lenOk 0 = true := lenOk_of (by omega)
  cases t with
  | some d =>
    have n1 : gNeD (.lst [.str sgs, .str (rpD d)]) (.lst []) S = .ok (.d (.bl true)) S := by
      rw [ne_D, if_pos (by rfl)]; simp [deq, deqs]
    have n2 : gNeD (.lst [.str sgs, .str (rpD d)]) (.lst [.str sgs, .str (rpD d)]) S = .ok (.d (.bl false)) S := by
      rw [ne_D, if_pos (by rfl)]; simp [deq, deqs]
    have n3 : gEqED (.lst [.str sgs, .str (rpD d)]) (.lst []) S = .ok (.d (.bl false)) S := by rw [eqE_lst]; rfl
    simp [e1, e2, toldR, dueR, -ne_D, n1, n2, n3, lo0]
  | none =>
    cases ht with
    | @ok es h2 h =>
      have n1 : gNeD (.lst []) (.lst []) S = .ok (.d (.bl false)) S := by
        rw [ne_D, if_pos (by rfl)]; simp [deq, deqs]
      have n3 : gEqED (.lst []) (.lst []) S = .ok (.d (.bl true)) S := by rw [eqE_lst]; rfl
      have n4 : gNeD (.str [116, 111, 108, 100]) (.str [116, 111, 108, 100]) S = .ok (.d (.bl false)) S := by
        rw [ne_D, if_pos (by rfl)]; simp
      have pr : ∀ d ∈ es, pairB d = true := by
        have := bad_pairs (i := es.length) h (Nat.le_refl _)
        rwa [List.take_length] at this
      obtain ⟨d1, d2⟩ := deqs_pairs pr
      have n5 : gNeD (.tup es) (.tup es) S = .ok (.d (.bl false)) S := by
        rw [ne_D, if_pos (by unfold eqOk; rw [plainD, deqs_59 pr]; rfl), deq, d1]; rfl
      have io : insOf "Line" (.d (.ins "Line" ["lot"] [.tup es])) S = some ((["lot"] : List Str), ([.tup es] : List D)) := rfl
      have sg : F_Line_signs [.d (.ins "Line" ["lot"] [.tup es])] S = .ok (.d (.tup es)) S := by
        have hT : S.take S.length = S := List.take_length
        have lk : lookN "lot" ["lot"] [D.tup es] = some (.tup es) := rfl
        simp [F_Line_signs, fnK_go, G_Line_signs, io, lk, hT]
      simp [e1, e2, toldR, dueR, -ne_D, n1, n3, n4, n5, io, sg, lo0]
theorem filt {es : List D} {ρ : DL.Env} {S : Store} (h : ∀ d ∈ es, elB d = true) (h6 : 6 < ρ.length) : compD (.name 6) T__law_right_1 (fVar 6) ρ es S = .ok (es.filter fun d => !is2 d) S := by
  have := compD_fil (t := .name 6) (tt := T__law_right_1) (f := fVar 6) (ρ := ρ) (S := S) (mk := fun d => d) (r := fun d => d) (p := fun d => !is2 d) es (fun d hd => by
    have ok := el_ok (h d hd)
    have it := isi_tupE (S := S) (okP_flat ok)
    have g6 : (ρ.set 6 (some (.d d)))[6]? = some (some (.d d)) := List.getElem?_set_self h6
    have v6 : fVar 6 (ρ.set 6 (some (.d d))) S = .ok (.d d) S := ev_var g6
    have loT : lenOk 2 = true := lenOk_of (by omega)
    cases d with
    | tup xs =>
      have h' : (Nat.ble xs.length 1000 && xs.all okE) = true := ok
      rw [Bool.and_eq_true] at h'
      have hz := Nat.le_of_ble_eq_true h'.1
      match xs, hz with
      | [], _ => simp [T__law_right_1, v6, it, isTupE, is2, lenOk_of]
      | [a], _ => simp [T__law_right_1, v6, it, isTupE, is2, lenOk_of]
      | [a, b], _ => simp [T__law_right_1, v6, it, isTupE, is2, lenOk_of]
      | a :: b :: c :: xs, hz =>
        have n1 : ((xs.length : Int) + 1 + 1 + 1 == 2) = false := beq_eq_false_iff_ne.mpr (by omega)
        have lo' : lenOk (xs.length + 1 + 1 + 1) = true := lenOk_of (by simp at hz; omega)
        simp [T__law_right_1, v6, it, isTupE, is2, lo', n1]
    | _ => simp [T__law_right_1, v6, it, isTupE, is2])
  rw [List.map_id', List.map_id'] at this
  exact this
theorem all_two {es : List D} (h : ∀ d ∈ es, elB d = true) (hf : (es.filter fun d => !is2 d) = []) : ∀ d ∈ es, prB d = true := fun d hd => by
  have h2 : is2 d = true := by
    cases q : is2 d with
    | true => rfl
    | false =>
      have : d ∈ es.filter fun d => !is2 d := List.mem_filter.mpr ⟨hd, by rw [q]; rfl⟩
      rw [hf] at this; cases this
  have := h d hd
  unfold elB at this
  rw [h2, Bool.or_eq_true] at this
  rcases this with z | z
  · exact z
  · rw [Bool.and_eq_true] at z; exact Bool.noConfusion z.2
theorem again {n : Nat} {S : Store} {es : List D} {x1 x3 x4 x5 : Option W} (j : Jar n S) (hv : VL es) : ∃ es' S', B__law_right_2 [some (.loc n), x1, some (.d (.tup es)), x3, x4, x5, none] S = .nx [some (.loc n), x1, some (.d (.tup es')), x3, x4, x5, none] S' ∧ VL es' ∧ Jar n S' ∧ Oth n S S' := by
  have c := filt (S := S) (ρ := [some (.loc n), x1, some (.d (.tup es)), x3, x4, x5, none]) hv.el (by simp)
  have lok : lenOk es.length = true := lenOk_of (by have := hv.hi; omega)
  have lo0 : lenOk 0 = true := lenOk_of (by omega)
  by_cases hf : (es.filter fun d => !is2 d) = []
  · obtain ⟨es', S', e, h1, h2, h3⟩ := bent j hv.lo hv.hi (all_two hv.el hf)
    refine ⟨es', S', ?_, h1, h2, h3⟩
    rw [hf] at c
    simp [B__law_right_2, lok, lo0, c, eqE_lst, e]
  · refine ⟨es, S, ?_, hv, j, .refl⟩
    generalize (es.filter fun d => !is2 d) = L1 at *
    simp [B__law_right_2, lok, lo0, c, eqE_lst, hf]
theorem turn {n : Nat} {S : Store} {x1 x2 x3 x4 x5 : Option W} (px : PX S) (hn : 1 ≤ n) (j : Jar n S) : ∃ y2 y3 y4 y5 S', B__law_right_4 [some (.loc n), x1, x2, x3, x4, x5, none] S = .nx [some (.loc n), x1, y2, y3, y4, y5, none] S' ∧ Jar n S' ∧ Oth n S S' := by
  obtain ⟨l, S1, e1, hl, j1, o1⟩ := any_line j
  have ll : (lnD l).length = l.length := by simp [lnD]
  have l2 := hl.lo
  have l6 := hl.hi
  have prl := pr_ln l hl
  have elp : ∀ d, prB d = true → elB d = true := fun d h => by unfold elB; rw [h]; rfl
  have lo4 : lenOk (l.length + 4) = true := lenOk_of (by omega)
  have c1 : cutL (lnD l) none (some 1) = (lnD l).take 1 := cut_to (n := 1)
  obtain ⟨w, S2, e2, hw, j2, o2⟩ := pick (menu := [.tup (lnD l), .tup ((lnD l).take 1), .tup (lnD l ++ [.tup [.str [116], .str [48]], .tup [.str [117], .str [49]], .tup [.str [118], .str [50]], .tup [.str [119], .str [51]]]), .tup (lnD l)]) j1 (by simp) (by simp)
  obtain ⟨es, rfl, vl⟩ : ∃ es, w = .tup es ∧ VL es := by
    simp only [List.mem_cons, List.not_mem_nil, or_false] at hw
    have v0 : VL (lnD l) := ⟨by omega, by omega, fun d hd => elp d (prl d hd)⟩
    rcases hw with rfl | rfl | rfl | rfl
    · exact ⟨_, rfl, v0⟩
    · exact ⟨_, rfl, by simp <;> omega, by simp <;> omega, fun d hd => elp d (prl d (List.mem_of_mem_take hd))⟩
    · refine ⟨_, rfl, by simp <;> omega, by simp <;> omega, fun d hd => ?_⟩
      rcases List.mem_append.mp hd with h | h
      · exact elp d (prl d h)
      · exact elp d (List.all_eq_true.mp (by decide : ([.tup [.str [116], .str [48]], .tup [.str [117], .str [49]], .tup [.str [118], .str [50]], .tup [.str [119], .str [51]]] : List D).all prB = true) d h)
    · exact ⟨_, rfl, v0⟩
  obtain ⟨m0, S3, e3, hm, j3, o3⟩ := pick (menu := [.int 0, .int 1, .int 1, .int 2]) j2 (by simp) (by simp)
  obtain ⟨m, rfl, hm2⟩ : ∃ m : Nat, m0 = .int (m : Int) ∧ m ≤ 2 := by
    simp only [List.mem_cons, List.not_mem_nil, or_false] at hm
    rcases hm with rfl | rfl | rfl | rfl
    · exact ⟨0, rfl, by omega⟩
    · exact ⟨1, rfl, by omega⟩
    · exact ⟨1, rfl, by omega⟩
    · exact ⟨2, rfl, by omega⟩
  obtain ⟨ρ', S4, e4, es', x3', rfl, vl', j4, o4⟩ := forD_inv (g := gSet 3) (b := B__law_right_2) (all := rangeD 0 m) (ρ := [some (.loc n), x1, some (.d (.tup es)), x3, x4, x5, none]) (S := S3)
    (fun i ρ S' => ∃ es' x, ρ = [some (.loc n), x1, some (.d (.tup es')), x, x4, x5, none] ∧ VL es' ∧ Jar n S' ∧ Oth n S3 S') ⟨es, x3, rfl, vl, j3, .refl⟩ (by
      rintro i d ρ S' hd ⟨es', x, rfl, v', j', o'⟩
      obtain ⟨es2, S2', e, v2, j2', o2'⟩ := again (x1 := x1) (x3 := some (.d d)) (x4 := x4) (x5 := x5) j' v'
      exact ⟨_, _, _, _, rfl, .inl e, _, _, rfl, v2, j2', o'.trans o2'⟩)
  obtain ⟨od, S5, e5, hod, j5, o5⟩ := odd j4
  have sm : small62 (m : Int) = true := small_nat (by omega)
  have lok : lenOk es'.length = true := lenOk_of (by have := vl'.hi; omega)
  obtain ⟨v, S6, e6, hv, j6, o6⟩ := pick (menu := [.tup es', .tup es', .tup es', .tup es', .tup es', .tup es', .tup es', .lst es', .tup [], od]) j5 (by simp) (by simp)
  have vok : vOk v := by
    have v0 : vOk (.tup es') := ⟨rfl, fun ds e => by cases e; exact ⟨by have := vl'.hi; omega, fun d hd => el_ok (vl'.el d hd)⟩⟩
    simp only [List.mem_cons, List.not_mem_nil, or_false] at hv
    rcases hv with rfl | rfl | rfl | rfl | rfl | rfl | rfl | rfl | rfl | rfl
    · exact v0
    · exact v0
    · exact v0
    · exact v0
    · exact v0
    · exact v0
    · exact v0
    · exact ⟨rfl, fun ds e => by cases e⟩
    · exact ⟨rfl, fun ds e => by cases e; exact ⟨by simp, by simp⟩⟩
    · exact odd_v hod
  obtain ⟨t, ht⟩ := told_any vok
  have oT : Oth n S S6 := ((((o1.trans o2).trans o3).trans o4).trans o5).trans o6
  have px6 : PX S6 := px.oth hn j6 oT
  have jd := judge (n := n) (x1 := x1) (x3 := x3') (x4 := x4) (x5 := x5) px6 vok ht
  refine ⟨some (.d v), x3', some (.d (dueR t)), some (.d (toldR v t)), S6, ?_, j6, oT⟩
  · have s7 : small62 7 = true := rfl
    have r7 : (List.replicate (7 : Int).toNat [D.tup es']).flatten = [.tup es', .tup es', .tup es', .tup es', .tup es', .tup es', .tup es'] := rfl
    unfold B__law_right_4
    rw [ev_seq]
    have p1 : fAsg (fCall F__law_any_line (fCons (fVar 0) fNil)) (gSet 2) [some (.loc n), x1, x2, x3, x4, x5, none] S = .nx [some (.loc n), x1, some (.d (.tup (lnD l))), x3, x4, x5, none] S1 := by simp [e1]
    rw [p1, seq_nx, ev_seq]
    have p2 : fAsg (fCall F__law_pick (fCons (fVar 0) (fCons (fLst (fCons (fVar 2) (fCons (fSl (fVar 2) fNoO (fSomeO (fK (.d (.int 1))))) (fCons (fBin gAdd (fVar 2) (fTup (fCons (fTup (fCons (fK (.d (.str [116]))) (fCons (fK (.d (.str [48]))) fNil))) (fCons (fTup (fCons (fK (.d (.str [117]))) (fCons (fK (.d (.str [49]))) fNil))) (fCons (fTup (fCons (fK (.d (.str [118]))) (fCons (fK (.d (.str [50]))) fNil))) (fCons (fTup (fCons (fK (.d (.str [119]))) (fCons (fK (.d (.str [51]))) fNil))) fNil)))))) (fCons (fVar 2) fNil))))) fNil))) (gSet 2) [some (.loc n), x1, some (.d (.tup (lnD l))), x3, x4, x5, none] S1 = .nx [some (.loc n), x1, some (.d (.tup es)), x3, x4, x5, none] S2 := by
      have lo4' : lenOk ((lnD l).length + 4) = true := by rw [ll]; exact lo4
      simp [c1, lenOk_of, lo4', e2]
    rw [p2, seq_nx, ev_seq]
    have p3 : fFor (fRange1 (fCons (fCall F__law_pick (fCons (fVar 0) (fCons (fLst (fCons (fK (.d (.int 0))) (fCons (fK (.d (.int 1))) (fCons (fK (.d (.int 1))) (fCons (fK (.d (.int 2))) fNil))))) fNil))) fNil)) (gSet 3) B__law_right_2 [some (.loc n), x1, some (.d (.tup es)), x3, x4, x5, none] S2 = .nx [some (.loc n), x1, some (.d (.tup es')), x3', x4, x5, none] S4 := by
      simp [lenOk_of, e3, sm, e4]
    rw [p3, seq_nx, ev_seq]
    have p4 : fAsg (fCall F__law_pick (fCons (fVar 0) (fCons (fBin gAdd (fBin gMulL (fLst (fCons (fVar 2) fNil)) (fK (.d (.int 7)))) (fLst (fCons (fCall gList (fCons (fVar 2) fNil)) (fCons (fTup fNil) (fCons (fCall F__law_odd (fCons (fVar 0) fNil)) fNil))))) fNil))) (gSet 2) [some (.loc n), x1, some (.d (.tup es')), x3', x4, x5, none] S4 = .nx [some (.loc n), x1, some (.d v), x3', x4, x5, none] S6 := by
      simp [lenOk_of, lok, s7, e5, e6, List.replicate]
    rw [p4, seq_nx, ev_seq]
    exact jd
end W03
end
section
namespace W03
open PySem PySem.Spec PyProof.Rows L2 DL PP PA
theorem right {n : Nat} {S : Store} (px : PX S) (hn : 1 ≤ n) (j : Jar n S) : ∃ S', F__law_right [.loc n] S = .ok (.d (.bl true)) S' ∧ PX S' := by
  obtain ⟨ρ', S', e, x1, x2, x3, x4, x5, rfl, j', o'⟩ := forD_inv (g := gSet 1) (b := B__law_right_4) (all := rangeD 0 10) (ρ := [some (.loc n), none, none, none, none, none, none]) (S := S)
    (fun i ρ S' => ∃ x1 x2 x3 x4 x5, ρ = [some (.loc n), x1, x2, x3, x4, x5, none] ∧ Jar n S' ∧ Oth n S S') ⟨_, _, _, _, _, rfl, j, .refl⟩ (by
      rintro i d ρ S' hd ⟨x1, x2, x3, x4, x5, rfl, j', o'⟩
      obtain ⟨y2, y3, y4, y5, S2, e, j2, o2⟩ := turn (x1 := some (.d d)) (x2 := x2) (x3 := x3) (x4 := x4) (x5 := x5) (px.oth hn j' o') hn j'
      exact ⟨_, _, _, _, rfl, .inl e, _, _, _, _, _, rfl, j2, o'.trans o2⟩)
  have hT : S'.take S.length = S' := oth_take o'
  refine ⟨S', ?_, px.oth hn j' o'⟩
  have sm : small62 10 = true := rfl
  simp [F__law_right, fnK_go, G__law_right, sm, e, hT]
theorem law_goX {N : Int} {R : FF} {P : Store → Prop} (hP0 : ∀ {S : Store} {a b c : Int}, P S → P (S ++ [.lst [.int a, .int b, .int c]])) (hN : 2 ≤ N) (hN5 : N ≤ 5) (right : ∀ {n : Nat} {S : Store}, P S → n + 1 = S.length → Jar n S → ∃ S', R [.loc n] S = .ok (.d (.bl true)) S' ∧ P S') (ns : List Int) (hl : ns.length ≤ 63) {S0 : Store} (h0 : P S0) :
    ∃ S, fnK false 1 2 (fSeq (fFor (fRange1 (fCons (fCall gMax2 (fCons (fK (.d (.int 2))) (fCons (fCall gMin2 (fCons (fCall gLen (fCons (fVar 0) fNil)) (fCons (fK (.d (.int N))) fNil))) fNil))) fNil)) (gSet 1) (fIfS (fNotB (toB (fCall R (fCons (fCall F__law_jar (fCons (fVar 0) (fCons (fVar 1) fNil))) fNil)))) (fRet (fK (.d (.bl false)))) fNext)) (fRet (fK (.d (.bl true))))) [.d (.scr ns)] S0 = .ok (.d (.bl true)) S := by
  obtain ⟨m, hm, hm5⟩ : ∃ m : Nat, (if (2 : Int) < (if N < (ns.length : Int) then N else (ns.length : Int)) then (if N < (ns.length : Int) then N else (ns.length : Int)) else 2) = (m : Int) ∧ m ≤ 5 := by
    by_cases h1 : N < (ns.length : Int)
    · rw [if_pos h1]
      by_cases h2 : 2 < N
      · exact ⟨N.toNat, by rw [if_pos h2]; omega, by omega⟩
      · exact ⟨2, by rw [if_neg h2]; rfl, by omega⟩
    · by_cases h2 : (2 : Int) < (ns.length : Int)
      · exact ⟨ns.length, by rw [if_neg h1, if_pos h2], by omega⟩
      · exact ⟨2, by rw [if_neg h1, if_neg h2]; rfl, by omega⟩
  obtain ⟨ρ', S', e, ⟨x, rfl⟩, _⟩ := forD_inv (g := gSet 1) (b := fIfS (fNotB (toB (fCall R (fCons (fCall F__law_jar (fCons (fVar 0) (fCons (fVar 1) fNil))) fNil)))) (fRet (fK (.d (.bl false)))) fNext) (all := rangeD 0 m) (ρ := [some (.d (.scr ns)), none]) (S := S0)
    (fun i ρ S' => (∃ x, ρ = [some (.d (.scr ns)), x]) ∧ P S') ⟨⟨_, rfl⟩, h0⟩ (by
      rintro i d ρ S hd ⟨⟨x, rfl⟩, hS⟩
      obtain ⟨hi, rfl⟩ := range_get hd
      obtain ⟨a, b, a0, e1⟩ := jar (S := S) hl (k := i) (by omega)
      obtain ⟨S2, e2, h2⟩ := right (n := S.length) (S := S ++ [.lst [.int a, .int b, .int 0]]) (hP0 hS) (by simp) ⟨a, b, 0, a0, by simp⟩
      refine ⟨_, _, [some (.d (.scr ns)), some (.d (.int i))], S2, rfl, .inl ?_, ⟨_, rfl⟩, h2⟩
      simp [e1, e2])
  have sm : small62 (m : Int) = true := small_nat (by omega)
  refine ⟨S'.take S0.length, ?_⟩
  simp [fnK_go, hm, sm, e]
theorem law_true (ns : List Int) (hl : ns.length ≤ 63) (_ : ∀ z ∈ ns, Builtin.Int.intBits z ≤ 1048576) : ∃ S, F_law [.d (.scr ns)] (DL.tabS tf) = .ok (.d (.bl true)) S := by
  refine law_goX (P := PX) (N := 5) (R := F__law_right) (fun {S a b c} h => ⟨?_, ?_⟩) (by decide) (by decide) (fun {n S} h hn j => ?_) ns hl ⟨rfl, rfl⟩
  · rw [List.getElem?_append_left (List.getElem?_eq_some_iff.mp h.tb).1]; exact h.tb
  · rw [List.all_append, h.no]; rfl
  · refine right h ?_ j
    have h0 := (List.getElem?_eq_some_iff.mp h.tb).1
    rcases Nat.eq_zero_or_pos n with rfl | hp
    · obtain ⟨a, b, c, _, e⟩ := j
      rw [h.tb] at e; cases e
    · exact hp
end W03
end
theorem PySem.Challenge.cw_nevermixed_k03_whole_signs_refused_holds : PySem.Challenge.rw_nevermixed_k03_whole_signs_refused.Holds := by
  exact holds_W03 W03.law_true
